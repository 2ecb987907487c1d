/-
  No cell of these rows narrows 'for every input' (looked for: loops, veiled, ifaces, maps, wideKeys, modest, calm, conditions, laid).
  DERIVED. THE GIVEN ROWS OF THIS SEAT. 12 by the template 'for every input the law returns true; each argument reads behind the call as it read before'; 0 by the template 'total and deterministic' (their statements: YteodcegmkbcjjaaTotals.lean).
  GIVEN WITH THE SEED: the statements are not yours to turn. If you find one false, say at which input.
  Laid BY PROGRAM, IN A SANDBOX (cutbox-rows.mjs): the forced cells as the released guide's own fill.sh prints them over the translation 06633bc45f21d6ca… (all of the seat's roots in one cut). By AI agents, Wed Nov 11 2026. No macro, syntax, notation, axiom, sorry.
-/
import Derived.Test.YteodcegmkbcjjaaChecked
import GoSem.Claim
import GoSem.ClaimJoined
import GoSem.ClaimMapViews
import Derived.JoinedTies
import Derived.KernelRfl
namespace Go.Proofs.Yteodcegmkbcjjaa
/- THE CELL 'sum', in the pinned program and in every row, IS THE sha256 OF THE DUMP (.gsa) THAT YteodcegmkbcjjaaProg.lean LOADS. Nothing in Lean hashes anything: it is a label: what it is worth is what the hold of that sum in a sandbox is worth. -/
noncomputable def Try.pinned : Pinned := { name := "yteodcegmkbcjjaa", sum := "06633bc45f21d6caa964fc0bd9d8f4155116e6c4582fccf619391f64fbe54351", checked := Try.checked }
namespace Rows
def none {H : Type} : Left H := { results := [], args := [] }

/-- 'laws.FnExactIsBoard': WHATEVER THE INPUT: true; the input reads as it did. -/
def fnExactIsBoardSpec : ChangeSpec := { name := "fnExactIsBoard", fn := fun _ => fun
  | [d] => { results := [.lit (.bool true)], args := [d] }
  | _ => none }
def fnExactIsBoardRow : OpenClaim := { program := "yteodcegmkbcjjaa", sum := "06633bc45f21d6caa964fc0bd9d8f4155116e6c4582fccf619391f64fbe54351", func := "loop.example/g00942/laws.FnExactIsBoard", spec := "fnExactIsBoard", apart := false }
def FnExactIsBoardSaid : Prop := fnExactIsBoardRow.holds Try.pinned (OpenSpec.ofChange fnExactIsBoardSpec)

/-- ITS FALSE NEIGHBOUR: 'it returns false'. Refute it at one input. -/
def fnExactIsBoardWrong : ChangeSpec := { name := "fnExactIsBoard", fn := fun _ => fun
  | [d] => { results := [.lit (.bool false)], args := [d] }
  | _ => none }
def FnExactIsBoardWrongFalsely : Prop := fnExactIsBoardRow.holds Try.pinned (OpenSpec.ofChange fnExactIsBoardWrong)

/-- 'laws.FnExactCellAt': WHATEVER THE INPUT: true; the input reads as it did. -/
def fnExactCellAtSpec : ChangeSpec := { name := "fnExactCellAt", fn := fun _ => fun
  | [d1, d2, d3] => { results := [.lit (.bool true)], args := [d1, d2, d3] }
  | _ => none }
def fnExactCellAtRow : OpenClaim := { program := "yteodcegmkbcjjaa", sum := "06633bc45f21d6caa964fc0bd9d8f4155116e6c4582fccf619391f64fbe54351", func := "loop.example/g00942/laws.FnExactCellAt", spec := "fnExactCellAt", apart := false }
def FnExactCellAtSaid : Prop := fnExactCellAtRow.holds Try.pinned (OpenSpec.ofChange fnExactCellAtSpec)

/-- ITS FALSE NEIGHBOUR: 'it returns false'. Refute it at one input. -/
def fnExactCellAtWrong : ChangeSpec := { name := "fnExactCellAt", fn := fun _ => fun
  | [d1, d2, d3] => { results := [.lit (.bool false)], args := [d1, d2, d3] }
  | _ => none }
def FnExactCellAtWrongFalsely : Prop := fnExactCellAtRow.holds Try.pinned (OpenSpec.ofChange fnExactCellAtWrong)

/-- 'laws.FnExactCutRows': WHATEVER THE INPUT: true; the input reads as it did. -/
def fnExactCutRowsSpec : ChangeSpec := { name := "fnExactCutRows", fn := fun _ => fun
  | [d1, d2, d3] => { results := [.lit (.bool true)], args := [d1, d2, d3] }
  | _ => none }
def fnExactCutRowsRow : OpenClaim := { program := "yteodcegmkbcjjaa", sum := "06633bc45f21d6caa964fc0bd9d8f4155116e6c4582fccf619391f64fbe54351", func := "loop.example/g00942/laws.FnExactCutRows", spec := "fnExactCutRows", apart := false }
def FnExactCutRowsSaid : Prop := fnExactCutRowsRow.holds Try.pinned (OpenSpec.ofChange fnExactCutRowsSpec)

/-- ITS FALSE NEIGHBOUR: 'it returns false'. Refute it at one input. -/
def fnExactCutRowsWrong : ChangeSpec := { name := "fnExactCutRows", fn := fun _ => fun
  | [d1, d2, d3] => { results := [.lit (.bool false)], args := [d1, d2, d3] }
  | _ => none }
def FnExactCutRowsWrongFalsely : Prop := fnExactCutRowsRow.holds Try.pinned (OpenSpec.ofChange fnExactCutRowsWrong)

/-- 'laws.FnExactStackBoards': WHATEVER THE INPUT: true; the input reads as it did. -/
def fnExactStackBoardsSpec : ChangeSpec := { name := "fnExactStackBoards", fn := fun _ => fun
  | [d1, d2] => { results := [.lit (.bool true)], args := [d1, d2] }
  | _ => none }
def fnExactStackBoardsRow : OpenClaim := { program := "yteodcegmkbcjjaa", sum := "06633bc45f21d6caa964fc0bd9d8f4155116e6c4582fccf619391f64fbe54351", func := "loop.example/g00942/laws.FnExactStackBoards", spec := "fnExactStackBoards", apart := false }
def FnExactStackBoardsSaid : Prop := fnExactStackBoardsRow.holds Try.pinned (OpenSpec.ofChange fnExactStackBoardsSpec)

/-- ITS FALSE NEIGHBOUR: 'it returns false'. Refute it at one input. -/
def fnExactStackBoardsWrong : ChangeSpec := { name := "fnExactStackBoards", fn := fun _ => fun
  | [d1, d2] => { results := [.lit (.bool false)], args := [d1, d2] }
  | _ => none }
def FnExactStackBoardsWrongFalsely : Prop := fnExactStackBoardsRow.holds Try.pinned (OpenSpec.ofChange fnExactStackBoardsWrong)

/-- 'laws.FnExactBoardText': WHATEVER THE INPUT: true; the input reads as it did. -/
def fnExactBoardTextSpec : ChangeSpec := { name := "fnExactBoardText", fn := fun _ => fun
  | [d] => { results := [.lit (.bool true)], args := [d] }
  | _ => none }
def fnExactBoardTextRow : OpenClaim := { program := "yteodcegmkbcjjaa", sum := "06633bc45f21d6caa964fc0bd9d8f4155116e6c4582fccf619391f64fbe54351", func := "loop.example/g00942/laws.FnExactBoardText", spec := "fnExactBoardText", apart := false }
def FnExactBoardTextSaid : Prop := fnExactBoardTextRow.holds Try.pinned (OpenSpec.ofChange fnExactBoardTextSpec)

/-- ITS FALSE NEIGHBOUR: 'it returns false'. Refute it at one input. -/
def fnExactBoardTextWrong : ChangeSpec := { name := "fnExactBoardText", fn := fun _ => fun
  | [d] => { results := [.lit (.bool false)], args := [d] }
  | _ => none }
def FnExactBoardTextWrongFalsely : Prop := fnExactBoardTextRow.holds Try.pinned (OpenSpec.ofChange fnExactBoardTextWrong)

/-- 'laws.FnExactBesideBoards': WHATEVER THE INPUT: true; the input reads as it did. -/
def fnExactBesideBoardsSpec : ChangeSpec := { name := "fnExactBesideBoards", fn := fun _ => fun
  | [d1, d2] => { results := [.lit (.bool true)], args := [d1, d2] }
  | _ => none }
def fnExactBesideBoardsRow : OpenClaim := { program := "yteodcegmkbcjjaa", sum := "06633bc45f21d6caa964fc0bd9d8f4155116e6c4582fccf619391f64fbe54351", func := "loop.example/g00942/laws.FnExactBesideBoards", spec := "fnExactBesideBoards", apart := false }
def FnExactBesideBoardsSaid : Prop := fnExactBesideBoardsRow.holds Try.pinned (OpenSpec.ofChange fnExactBesideBoardsSpec)

/-- ITS FALSE NEIGHBOUR: 'it returns false'. Refute it at one input. -/
def fnExactBesideBoardsWrong : ChangeSpec := { name := "fnExactBesideBoards", fn := fun _ => fun
  | [d1, d2] => { results := [.lit (.bool false)], args := [d1, d2] }
  | _ => none }
def FnExactBesideBoardsWrongFalsely : Prop := fnExactBesideBoardsRow.holds Try.pinned (OpenSpec.ofChange fnExactBesideBoardsWrong)

/-- 'laws.FnExactPutCell': WHATEVER THE INPUT: true; the input reads as it did. -/
def fnExactPutCellSpec : ChangeSpec := { name := "fnExactPutCell", fn := fun _ => fun
  | [d1, d2, d3, d4] => { results := [.lit (.bool true)], args := [d1, d2, d3, d4] }
  | _ => none }
def fnExactPutCellRow : OpenClaim := { program := "yteodcegmkbcjjaa", sum := "06633bc45f21d6caa964fc0bd9d8f4155116e6c4582fccf619391f64fbe54351", func := "loop.example/g00942/laws.FnExactPutCell", spec := "fnExactPutCell", apart := false }
def FnExactPutCellSaid : Prop := fnExactPutCellRow.holds Try.pinned (OpenSpec.ofChange fnExactPutCellSpec)

/-- ITS FALSE NEIGHBOUR: 'it returns false'. Refute it at one input. -/
def fnExactPutCellWrong : ChangeSpec := { name := "fnExactPutCell", fn := fun _ => fun
  | [d1, d2, d3, d4] => { results := [.lit (.bool false)], args := [d1, d2, d3, d4] }
  | _ => none }
def FnExactPutCellWrongFalsely : Prop := fnExactPutCellRow.holds Try.pinned (OpenSpec.ofChange fnExactPutCellWrong)

/-- 'laws.FnExactCountParts': WHATEVER THE INPUT: true; the input reads as it did. -/
def fnExactCountPartsSpec : ChangeSpec := { name := "fnExactCountParts", fn := fun _ => fun
  | [d] => { results := [.lit (.bool true)], args := [d] }
  | _ => none }
def fnExactCountPartsRow : OpenClaim := { program := "yteodcegmkbcjjaa", sum := "06633bc45f21d6caa964fc0bd9d8f4155116e6c4582fccf619391f64fbe54351", func := "loop.example/g00942/laws.FnExactCountParts", spec := "fnExactCountParts", apart := false }
def FnExactCountPartsSaid : Prop := fnExactCountPartsRow.holds Try.pinned (OpenSpec.ofChange fnExactCountPartsSpec)

/-- ITS FALSE NEIGHBOUR: 'it returns false'. Refute it at one input. -/
def fnExactCountPartsWrong : ChangeSpec := { name := "fnExactCountParts", fn := fun _ => fun
  | [d] => { results := [.lit (.bool false)], args := [d] }
  | _ => none }
def FnExactCountPartsWrongFalsely : Prop := fnExactCountPartsRow.holds Try.pinned (OpenSpec.ofChange fnExactCountPartsWrong)

/-- 'laws.FnExactDifferentCells': WHATEVER THE INPUT: true; the input reads as it did. -/
def fnExactDifferentCellsSpec : ChangeSpec := { name := "fnExactDifferentCells", fn := fun _ => fun
  | [d1, d2] => { results := [.lit (.bool true)], args := [d1, d2] }
  | _ => none }
def fnExactDifferentCellsRow : OpenClaim := { program := "yteodcegmkbcjjaa", sum := "06633bc45f21d6caa964fc0bd9d8f4155116e6c4582fccf619391f64fbe54351", func := "loop.example/g00942/laws.FnExactDifferentCells", spec := "fnExactDifferentCells", apart := false }
def FnExactDifferentCellsSaid : Prop := fnExactDifferentCellsRow.holds Try.pinned (OpenSpec.ofChange fnExactDifferentCellsSpec)

/-- ITS FALSE NEIGHBOUR: 'it returns false'. Refute it at one input. -/
def fnExactDifferentCellsWrong : ChangeSpec := { name := "fnExactDifferentCells", fn := fun _ => fun
  | [d1, d2] => { results := [.lit (.bool false)], args := [d1, d2] }
  | _ => none }
def FnExactDifferentCellsWrongFalsely : Prop := fnExactDifferentCellsRow.holds Try.pinned (OpenSpec.ofChange fnExactDifferentCellsWrong)

/-- 'laws.FnExactTurningCells': WHATEVER THE INPUT: true; the input reads as it did. -/
def fnExactTurningCellsSpec : ChangeSpec := { name := "fnExactTurningCells", fn := fun _ => fun
  | [d] => { results := [.lit (.bool true)], args := [d] }
  | _ => none }
def fnExactTurningCellsRow : OpenClaim := { program := "yteodcegmkbcjjaa", sum := "06633bc45f21d6caa964fc0bd9d8f4155116e6c4582fccf619391f64fbe54351", func := "loop.example/g00942/laws.FnExactTurningCells", spec := "fnExactTurningCells", apart := false }
def FnExactTurningCellsSaid : Prop := fnExactTurningCellsRow.holds Try.pinned (OpenSpec.ofChange fnExactTurningCellsSpec)

/-- ITS FALSE NEIGHBOUR: 'it returns false'. Refute it at one input. -/
def fnExactTurningCellsWrong : ChangeSpec := { name := "fnExactTurningCells", fn := fun _ => fun
  | [d] => { results := [.lit (.bool false)], args := [d] }
  | _ => none }
def FnExactTurningCellsWrongFalsely : Prop := fnExactTurningCellsRow.holds Try.pinned (OpenSpec.ofChange fnExactTurningCellsWrong)

/-- 'laws.FnExactMirrorBoard': WHATEVER THE INPUT: true; the input reads as it did. -/
def fnExactMirrorBoardSpec : ChangeSpec := { name := "fnExactMirrorBoard", fn := fun _ => fun
  | [d] => { results := [.lit (.bool true)], args := [d] }
  | _ => none }
def fnExactMirrorBoardRow : OpenClaim := { program := "yteodcegmkbcjjaa", sum := "06633bc45f21d6caa964fc0bd9d8f4155116e6c4582fccf619391f64fbe54351", func := "loop.example/g00942/laws.FnExactMirrorBoard", spec := "fnExactMirrorBoard", apart := false }
def FnExactMirrorBoardSaid : Prop := fnExactMirrorBoardRow.holds Try.pinned (OpenSpec.ofChange fnExactMirrorBoardSpec)

/-- ITS FALSE NEIGHBOUR: 'it returns false'. Refute it at one input. -/
def fnExactMirrorBoardWrong : ChangeSpec := { name := "fnExactMirrorBoard", fn := fun _ => fun
  | [d] => { results := [.lit (.bool false)], args := [d] }
  | _ => none }
def FnExactMirrorBoardWrongFalsely : Prop := fnExactMirrorBoardRow.holds Try.pinned (OpenSpec.ofChange fnExactMirrorBoardWrong)

/-- 'laws.FnExactIsMachine': WHATEVER THE INPUT: true; the input reads as it did. -/
def fnExactIsMachineSpec : ChangeSpec := { name := "fnExactIsMachine", fn := fun _ => fun
  | [d] => { results := [.lit (.bool true)], args := [d] }
  | _ => none }
def fnExactIsMachineRow : OpenClaim := { program := "yteodcegmkbcjjaa", sum := "06633bc45f21d6caa964fc0bd9d8f4155116e6c4582fccf619391f64fbe54351", func := "loop.example/g00942/laws.FnExactIsMachine", spec := "fnExactIsMachine", apart := false }
def FnExactIsMachineSaid : Prop := fnExactIsMachineRow.holds Try.pinned (OpenSpec.ofChange fnExactIsMachineSpec)

/-- ITS FALSE NEIGHBOUR: 'it returns false'. Refute it at one input. -/
def fnExactIsMachineWrong : ChangeSpec := { name := "fnExactIsMachine", fn := fun _ => fun
  | [d] => { results := [.lit (.bool false)], args := [d] }
  | _ => none }
def FnExactIsMachineWrongFalsely : Prop := fnExactIsMachineRow.holds Try.pinned (OpenSpec.ofChange fnExactIsMachineWrong)

/- THE SECOND FORM. 'bulk': how many values and letters a reading holds, each counted each time it is reached (what is shared counts as often as it is met; a slice's spare places count too). A statement '..UptoSaid' is the law's where the arguments, and the package variables that the reading takes, are together of bulk at most 1048576: NARROWER than '..Said'. Prove '..Said' where nothing that the law and all that it calls make is longer than what came in: it says more and counts as full. Else prove '..UptoSaid'. A law counts once. -/
mutual
def uptoBulk {H : Type} : DataW H → Nat
  | .lit (.string bytes) => bytes.length + 1
  | .lit _ => 1
  | .nil => 1
  | .ptr d => uptoBulk d + 1
  | .slice elems spare => uptoBulkAll elems + uptoBulkAll spare + 1
  | .agg parts => uptoBulkAll parts + 1
  | .iface _ d => uptoBulk d + 1
  | .map entries => uptoBulkEntries entries + 1
  | .held _ => 1
def uptoBulkAll {H : Type} : List (DataW H) → Nat
  | [] => 0
  | d :: r => uptoBulk d + uptoBulkAll r
def uptoBulkEntries {H : Type} : List (Lit × DataW H) → Nat
  | [] => 0
  | x :: r => uptoBulkEntry x + uptoBulkEntries r
def uptoBulkEntry {H : Type} : Lit × DataW H → Nat
  | (.string bytes, d) => bytes.length + uptoBulk d + 1
  | (_, d) => uptoBulk d + 1
 end
def uptoSmall : (H : Type) → List (DataW H) → Bool := fun _ ds => decide (uptoBulkAll ds ≤ 1048576)
def OpenSpec.upto (s : _root_.Go.ChangeSpec) : _root_.Go.OpenSpec := { _root_.Go.OpenSpec.ofChange s with cond := some uptoSmall }

/-- 'laws.FnExactIsBoard', WHERE WHAT IT READS IS OF BULK AT MOST 1048576: true; the input reads as it did. -/
def fnExactIsBoardUptoRow : OpenClaim := { program := "yteodcegmkbcjjaa", sum := "06633bc45f21d6caa964fc0bd9d8f4155116e6c4582fccf619391f64fbe54351", func := "loop.example/g00942/laws.FnExactIsBoard", spec := "fnExactIsBoard", apart := false, narrowed := true }
def FnExactIsBoardUptoSaid : Prop := fnExactIsBoardUptoRow.holds Try.pinned (OpenSpec.upto fnExactIsBoardSpec)

/-- 'laws.FnExactCellAt', WHERE WHAT IT READS IS OF BULK AT MOST 1048576: true; the input reads as it did. -/
def fnExactCellAtUptoRow : OpenClaim := { program := "yteodcegmkbcjjaa", sum := "06633bc45f21d6caa964fc0bd9d8f4155116e6c4582fccf619391f64fbe54351", func := "loop.example/g00942/laws.FnExactCellAt", spec := "fnExactCellAt", apart := false, narrowed := true }
def FnExactCellAtUptoSaid : Prop := fnExactCellAtUptoRow.holds Try.pinned (OpenSpec.upto fnExactCellAtSpec)

/-- 'laws.FnExactCutRows', WHERE WHAT IT READS IS OF BULK AT MOST 1048576: true; the input reads as it did. -/
def fnExactCutRowsUptoRow : OpenClaim := { program := "yteodcegmkbcjjaa", sum := "06633bc45f21d6caa964fc0bd9d8f4155116e6c4582fccf619391f64fbe54351", func := "loop.example/g00942/laws.FnExactCutRows", spec := "fnExactCutRows", apart := false, narrowed := true }
def FnExactCutRowsUptoSaid : Prop := fnExactCutRowsUptoRow.holds Try.pinned (OpenSpec.upto fnExactCutRowsSpec)

/-- 'laws.FnExactStackBoards', WHERE WHAT IT READS IS OF BULK AT MOST 1048576: true; the input reads as it did. -/
def fnExactStackBoardsUptoRow : OpenClaim := { program := "yteodcegmkbcjjaa", sum := "06633bc45f21d6caa964fc0bd9d8f4155116e6c4582fccf619391f64fbe54351", func := "loop.example/g00942/laws.FnExactStackBoards", spec := "fnExactStackBoards", apart := false, narrowed := true }
def FnExactStackBoardsUptoSaid : Prop := fnExactStackBoardsUptoRow.holds Try.pinned (OpenSpec.upto fnExactStackBoardsSpec)

/-- 'laws.FnExactBoardText', WHERE WHAT IT READS IS OF BULK AT MOST 1048576: true; the input reads as it did. -/
def fnExactBoardTextUptoRow : OpenClaim := { program := "yteodcegmkbcjjaa", sum := "06633bc45f21d6caa964fc0bd9d8f4155116e6c4582fccf619391f64fbe54351", func := "loop.example/g00942/laws.FnExactBoardText", spec := "fnExactBoardText", apart := false, narrowed := true }
def FnExactBoardTextUptoSaid : Prop := fnExactBoardTextUptoRow.holds Try.pinned (OpenSpec.upto fnExactBoardTextSpec)

/-- 'laws.FnExactBesideBoards', WHERE WHAT IT READS IS OF BULK AT MOST 1048576: true; the input reads as it did. -/
def fnExactBesideBoardsUptoRow : OpenClaim := { program := "yteodcegmkbcjjaa", sum := "06633bc45f21d6caa964fc0bd9d8f4155116e6c4582fccf619391f64fbe54351", func := "loop.example/g00942/laws.FnExactBesideBoards", spec := "fnExactBesideBoards", apart := false, narrowed := true }
def FnExactBesideBoardsUptoSaid : Prop := fnExactBesideBoardsUptoRow.holds Try.pinned (OpenSpec.upto fnExactBesideBoardsSpec)

/-- 'laws.FnExactPutCell', WHERE WHAT IT READS IS OF BULK AT MOST 1048576: true; the input reads as it did. -/
def fnExactPutCellUptoRow : OpenClaim := { program := "yteodcegmkbcjjaa", sum := "06633bc45f21d6caa964fc0bd9d8f4155116e6c4582fccf619391f64fbe54351", func := "loop.example/g00942/laws.FnExactPutCell", spec := "fnExactPutCell", apart := false, narrowed := true }
def FnExactPutCellUptoSaid : Prop := fnExactPutCellUptoRow.holds Try.pinned (OpenSpec.upto fnExactPutCellSpec)

/-- 'laws.FnExactCountParts', WHERE WHAT IT READS IS OF BULK AT MOST 1048576: true; the input reads as it did. -/
def fnExactCountPartsUptoRow : OpenClaim := { program := "yteodcegmkbcjjaa", sum := "06633bc45f21d6caa964fc0bd9d8f4155116e6c4582fccf619391f64fbe54351", func := "loop.example/g00942/laws.FnExactCountParts", spec := "fnExactCountParts", apart := false, narrowed := true }
def FnExactCountPartsUptoSaid : Prop := fnExactCountPartsUptoRow.holds Try.pinned (OpenSpec.upto fnExactCountPartsSpec)

/-- 'laws.FnExactDifferentCells', WHERE WHAT IT READS IS OF BULK AT MOST 1048576: true; the input reads as it did. -/
def fnExactDifferentCellsUptoRow : OpenClaim := { program := "yteodcegmkbcjjaa", sum := "06633bc45f21d6caa964fc0bd9d8f4155116e6c4582fccf619391f64fbe54351", func := "loop.example/g00942/laws.FnExactDifferentCells", spec := "fnExactDifferentCells", apart := false, narrowed := true }
def FnExactDifferentCellsUptoSaid : Prop := fnExactDifferentCellsUptoRow.holds Try.pinned (OpenSpec.upto fnExactDifferentCellsSpec)

/-- 'laws.FnExactTurningCells', WHERE WHAT IT READS IS OF BULK AT MOST 1048576: true; the input reads as it did. -/
def fnExactTurningCellsUptoRow : OpenClaim := { program := "yteodcegmkbcjjaa", sum := "06633bc45f21d6caa964fc0bd9d8f4155116e6c4582fccf619391f64fbe54351", func := "loop.example/g00942/laws.FnExactTurningCells", spec := "fnExactTurningCells", apart := false, narrowed := true }
def FnExactTurningCellsUptoSaid : Prop := fnExactTurningCellsUptoRow.holds Try.pinned (OpenSpec.upto fnExactTurningCellsSpec)

/-- 'laws.FnExactMirrorBoard', WHERE WHAT IT READS IS OF BULK AT MOST 1048576: true; the input reads as it did. -/
def fnExactMirrorBoardUptoRow : OpenClaim := { program := "yteodcegmkbcjjaa", sum := "06633bc45f21d6caa964fc0bd9d8f4155116e6c4582fccf619391f64fbe54351", func := "loop.example/g00942/laws.FnExactMirrorBoard", spec := "fnExactMirrorBoard", apart := false, narrowed := true }
def FnExactMirrorBoardUptoSaid : Prop := fnExactMirrorBoardUptoRow.holds Try.pinned (OpenSpec.upto fnExactMirrorBoardSpec)

/-- 'laws.FnExactIsMachine', WHERE WHAT IT READS IS OF BULK AT MOST 1048576: true; the input reads as it did. -/
def fnExactIsMachineUptoRow : OpenClaim := { program := "yteodcegmkbcjjaa", sum := "06633bc45f21d6caa964fc0bd9d8f4155116e6c4582fccf619391f64fbe54351", func := "loop.example/g00942/laws.FnExactIsMachine", spec := "fnExactIsMachine", apart := false, narrowed := true }
def FnExactIsMachineUptoSaid : Prop := fnExactIsMachineUptoRow.holds Try.pinned (OpenSpec.upto fnExactIsMachineSpec)

end Rows
end Go.Proofs.Yteodcegmkbcjjaa
