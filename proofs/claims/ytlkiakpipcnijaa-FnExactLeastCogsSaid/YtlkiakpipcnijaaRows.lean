/-
  No cell of these rows narrows 'for every input' (looked for: loops, veiled, ifaces, maps, wideKeys, modest, calm, conditions, laid).
  DERIVED. THE GIVEN ROWS OF THIS SEAT. 12 by the template 'for every input the law returns true; each argument reads behind the call as it read before'; 0 by the template 'total and deterministic' (their statements: YtlkiakpipcnijaaTotals.lean).
  GIVEN WITH THE SEED: the statements are not yours to turn. If you find one false, say at which input.
  Laid BY PROGRAM, IN A SANDBOX (cutbox-rows.mjs): the forced cells as the released guide's own fill.sh prints them over the translation 237bf5a5307f0380… (all of the seat's roots in one cut). By AI agents, Wed Nov 11 2026. No macro, syntax, notation, axiom, sorry.
-/
import Derived.Test.YtlkiakpipcnijaaChecked
import GoSem.Claim
import GoSem.ClaimJoined
import GoSem.ClaimMapViews
import Derived.JoinedTies
import Derived.KernelRfl
namespace Go.Proofs.Ytlkiakpipcnijaa
/- THE CELL 'sum', in the pinned program and in every row, IS THE sha256 OF THE DUMP (.gsa) THAT YtlkiakpipcnijaaProg.lean LOADS. Nothing in Lean hashes anything: it is a label: what it is worth is what the hold of that sum in a sandbox is worth. -/
noncomputable def Try.pinned : Pinned := { name := "ytlkiakpipcnijaa", sum := "237bf5a5307f03804c24535268425af8dc67536c6a0b1e7d8aedca97fe85f712", checked := Try.checked }
namespace Rows
def none {H : Type} : Left H := { results := [], args := [] }

/-- 'laws.FnExactAreJoined': WHATEVER THE INPUT: true; the input reads as it did. -/
def fnExactAreJoinedSpec : ChangeSpec := { name := "fnExactAreJoined", fn := fun _ => fun
  | [d1, d2, d3, d4, d5] => { results := [.lit (.bool true)], args := [d1, d2, d3, d4, d5] }
  | _ => none }
def fnExactAreJoinedRow : OpenClaim := { program := "ytlkiakpipcnijaa", sum := "237bf5a5307f03804c24535268425af8dc67536c6a0b1e7d8aedca97fe85f712", func := "loop.example/g00942/laws.FnExactAreJoined", spec := "fnExactAreJoined", apart := false }
def FnExactAreJoinedSaid : Prop := fnExactAreJoinedRow.holds Try.pinned (OpenSpec.ofChange fnExactAreJoinedSpec)

/-- ITS FALSE NEIGHBOUR: 'it returns false'. Refute it at one input. -/
def fnExactAreJoinedWrong : ChangeSpec := { name := "fnExactAreJoined", fn := fun _ => fun
  | [d1, d2, d3, d4, d5] => { results := [.lit (.bool false)], args := [d1, d2, d3, d4, d5] }
  | _ => none }
def FnExactAreJoinedWrongFalsely : Prop := fnExactAreJoinedRow.holds Try.pinned (OpenSpec.ofChange fnExactAreJoinedWrong)

/-- 'laws.FnExactCountGroups': WHATEVER THE INPUT: true; the input reads as it did. -/
def fnExactCountGroupsSpec : ChangeSpec := { name := "fnExactCountGroups", fn := fun _ => fun
  | [d] => { results := [.lit (.bool true)], args := [d] }
  | _ => none }
def fnExactCountGroupsRow : OpenClaim := { program := "ytlkiakpipcnijaa", sum := "237bf5a5307f03804c24535268425af8dc67536c6a0b1e7d8aedca97fe85f712", func := "loop.example/g00942/laws.FnExactCountGroups", spec := "fnExactCountGroups", apart := false }
def FnExactCountGroupsSaid : Prop := fnExactCountGroupsRow.holds Try.pinned (OpenSpec.ofChange fnExactCountGroupsSpec)

/-- ITS FALSE NEIGHBOUR: 'it returns false'. Refute it at one input. -/
def fnExactCountGroupsWrong : ChangeSpec := { name := "fnExactCountGroups", fn := fun _ => fun
  | [d] => { results := [.lit (.bool false)], args := [d] }
  | _ => none }
def FnExactCountGroupsWrongFalsely : Prop := fnExactCountGroupsRow.holds Try.pinned (OpenSpec.ofChange fnExactCountGroupsWrong)

/-- 'laws.FnExactLeastCogs': WHATEVER THE INPUT: true; the input reads as it did. -/
def fnExactLeastCogsSpec : ChangeSpec := { name := "fnExactLeastCogs", fn := fun _ => fun
  | [d1, d2, d3, d4, d5] => { results := [.lit (.bool true)], args := [d1, d2, d3, d4, d5] }
  | _ => none }
def fnExactLeastCogsRow : OpenClaim := { program := "ytlkiakpipcnijaa", sum := "237bf5a5307f03804c24535268425af8dc67536c6a0b1e7d8aedca97fe85f712", func := "loop.example/g00942/laws.FnExactLeastCogs", spec := "fnExactLeastCogs", apart := false }
def FnExactLeastCogsSaid : Prop := fnExactLeastCogsRow.holds Try.pinned (OpenSpec.ofChange fnExactLeastCogsSpec)

/-- ITS FALSE NEIGHBOUR: 'it returns false'. Refute it at one input. -/
def fnExactLeastCogsWrong : ChangeSpec := { name := "fnExactLeastCogs", fn := fun _ => fun
  | [d1, d2, d3, d4, d5] => { results := [.lit (.bool false)], args := [d1, d2, d3, d4, d5] }
  | _ => none }
def FnExactLeastCogsWrongFalsely : Prop := fnExactLeastCogsRow.holds Try.pinned (OpenSpec.ofChange fnExactLeastCogsWrong)

/-- 'laws.FnExactGearGroups': WHATEVER THE INPUT: true; the input reads as it did. -/
def fnExactGearGroupsSpec : ChangeSpec := { name := "fnExactGearGroups", fn := fun _ => fun
  | [d] => { results := [.lit (.bool true)], args := [d] }
  | _ => none }
def fnExactGearGroupsRow : OpenClaim := { program := "ytlkiakpipcnijaa", sum := "237bf5a5307f03804c24535268425af8dc67536c6a0b1e7d8aedca97fe85f712", func := "loop.example/g00942/laws.FnExactGearGroups", spec := "fnExactGearGroups", apart := false }
def FnExactGearGroupsSaid : Prop := fnExactGearGroupsRow.holds Try.pinned (OpenSpec.ofChange fnExactGearGroupsSpec)

/-- ITS FALSE NEIGHBOUR: 'it returns false'. Refute it at one input. -/
def fnExactGearGroupsWrong : ChangeSpec := { name := "fnExactGearGroups", fn := fun _ => fun
  | [d] => { results := [.lit (.bool false)], args := [d] }
  | _ => none }
def FnExactGearGroupsWrongFalsely : Prop := fnExactGearGroupsRow.holds Try.pinned (OpenSpec.ofChange fnExactGearGroupsWrong)

/-- 'laws.FnExactLargestGroup': WHATEVER THE INPUT: true; the input reads as it did. -/
def fnExactLargestGroupSpec : ChangeSpec := { name := "fnExactLargestGroup", fn := fun _ => fun
  | [d] => { results := [.lit (.bool true)], args := [d] }
  | _ => none }
def fnExactLargestGroupRow : OpenClaim := { program := "ytlkiakpipcnijaa", sum := "237bf5a5307f03804c24535268425af8dc67536c6a0b1e7d8aedca97fe85f712", func := "loop.example/g00942/laws.FnExactLargestGroup", spec := "fnExactLargestGroup", apart := false }
def FnExactLargestGroupSaid : Prop := fnExactLargestGroupRow.holds Try.pinned (OpenSpec.ofChange fnExactLargestGroupSpec)

/-- ITS FALSE NEIGHBOUR: 'it returns false'. Refute it at one input. -/
def fnExactLargestGroupWrong : ChangeSpec := { name := "fnExactLargestGroup", fn := fun _ => fun
  | [d] => { results := [.lit (.bool false)], args := [d] }
  | _ => none }
def FnExactLargestGroupWrongFalsely : Prop := fnExactLargestGroupRow.holds Try.pinned (OpenSpec.ofChange fnExactLargestGroupWrong)

/-- 'laws.FnExactTurnGear': WHATEVER THE INPUT: true; the input reads as it did. -/
def fnExactTurnGearSpec : ChangeSpec := { name := "fnExactTurnGear", fn := fun _ => fun
  | [d1, d2, d3] => { results := [.lit (.bool true)], args := [d1, d2, d3] }
  | _ => none }
def fnExactTurnGearRow : OpenClaim := { program := "ytlkiakpipcnijaa", sum := "237bf5a5307f03804c24535268425af8dc67536c6a0b1e7d8aedca97fe85f712", func := "loop.example/g00942/laws.FnExactTurnGear", spec := "fnExactTurnGear", apart := false }
def FnExactTurnGearSaid : Prop := fnExactTurnGearRow.holds Try.pinned (OpenSpec.ofChange fnExactTurnGearSpec)

/-- ITS FALSE NEIGHBOUR: 'it returns false'. Refute it at one input. -/
def fnExactTurnGearWrong : ChangeSpec := { name := "fnExactTurnGear", fn := fun _ => fun
  | [d1, d2, d3] => { results := [.lit (.bool false)], args := [d1, d2, d3] }
  | _ => none }
def FnExactTurnGearWrongFalsely : Prop := fnExactTurnGearRow.holds Try.pinned (OpenSpec.ofChange fnExactTurnGearWrong)

/-- 'laws.FnExactGroupOf': WHATEVER THE INPUT: true; the input reads as it did. -/
def fnExactGroupOfSpec : ChangeSpec := { name := "fnExactGroupOf", fn := fun _ => fun
  | [d1, d2, d3] => { results := [.lit (.bool true)], args := [d1, d2, d3] }
  | _ => none }
def fnExactGroupOfRow : OpenClaim := { program := "ytlkiakpipcnijaa", sum := "237bf5a5307f03804c24535268425af8dc67536c6a0b1e7d8aedca97fe85f712", func := "loop.example/g00942/laws.FnExactGroupOf", spec := "fnExactGroupOf", apart := false }
def FnExactGroupOfSaid : Prop := fnExactGroupOfRow.holds Try.pinned (OpenSpec.ofChange fnExactGroupOfSpec)

/-- ITS FALSE NEIGHBOUR: 'it returns false'. Refute it at one input. -/
def fnExactGroupOfWrong : ChangeSpec := { name := "fnExactGroupOf", fn := fun _ => fun
  | [d1, d2, d3] => { results := [.lit (.bool false)], args := [d1, d2, d3] }
  | _ => none }
def FnExactGroupOfWrongFalsely : Prop := fnExactGroupOfRow.holds Try.pinned (OpenSpec.ofChange fnExactGroupOfWrong)

/-- 'laws.FnExactWithoutCogs': WHATEVER THE INPUT: true; the input reads as it did. -/
def fnExactWithoutCogsSpec : ChangeSpec := { name := "fnExactWithoutCogs", fn := fun _ => fun
  | [d] => { results := [.lit (.bool true)], args := [d] }
  | _ => none }
def fnExactWithoutCogsRow : OpenClaim := { program := "ytlkiakpipcnijaa", sum := "237bf5a5307f03804c24535268425af8dc67536c6a0b1e7d8aedca97fe85f712", func := "loop.example/g00942/laws.FnExactWithoutCogs", spec := "fnExactWithoutCogs", apart := false }
def FnExactWithoutCogsSaid : Prop := fnExactWithoutCogsRow.holds Try.pinned (OpenSpec.ofChange fnExactWithoutCogsSpec)

/-- ITS FALSE NEIGHBOUR: 'it returns false'. Refute it at one input. -/
def fnExactWithoutCogsWrong : ChangeSpec := { name := "fnExactWithoutCogs", fn := fun _ => fun
  | [d] => { results := [.lit (.bool false)], args := [d] }
  | _ => none }
def FnExactWithoutCogsWrongFalsely : Prop := fnExactWithoutCogsRow.holds Try.pinned (OpenSpec.ofChange fnExactWithoutCogsWrong)

/-- 'laws.FnExactLoneGears': WHATEVER THE INPUT: true; the input reads as it did. -/
def fnExactLoneGearsSpec : ChangeSpec := { name := "fnExactLoneGears", fn := fun _ => fun
  | [d] => { results := [.lit (.bool true)], args := [d] }
  | _ => none }
def fnExactLoneGearsRow : OpenClaim := { program := "ytlkiakpipcnijaa", sum := "237bf5a5307f03804c24535268425af8dc67536c6a0b1e7d8aedca97fe85f712", func := "loop.example/g00942/laws.FnExactLoneGears", spec := "fnExactLoneGears", apart := false }
def FnExactLoneGearsSaid : Prop := fnExactLoneGearsRow.holds Try.pinned (OpenSpec.ofChange fnExactLoneGearsSpec)

/-- ITS FALSE NEIGHBOUR: 'it returns false'. Refute it at one input. -/
def fnExactLoneGearsWrong : ChangeSpec := { name := "fnExactLoneGears", fn := fun _ => fun
  | [d] => { results := [.lit (.bool false)], args := [d] }
  | _ => none }
def FnExactLoneGearsWrongFalsely : Prop := fnExactLoneGearsRow.holds Try.pinned (OpenSpec.ofChange fnExactLoneGearsWrong)

/-- 'laws.FnExactAlignGears': WHATEVER THE INPUT: true; the input reads as it did. -/
def fnExactAlignGearsSpec : ChangeSpec := { name := "fnExactAlignGears", fn := fun _ => fun
  | [d] => { results := [.lit (.bool true)], args := [d] }
  | _ => none }
def fnExactAlignGearsRow : OpenClaim := { program := "ytlkiakpipcnijaa", sum := "237bf5a5307f03804c24535268425af8dc67536c6a0b1e7d8aedca97fe85f712", func := "loop.example/g00942/laws.FnExactAlignGears", spec := "fnExactAlignGears", apart := false }
def FnExactAlignGearsSaid : Prop := fnExactAlignGearsRow.holds Try.pinned (OpenSpec.ofChange fnExactAlignGearsSpec)

/-- ITS FALSE NEIGHBOUR: 'it returns false'. Refute it at one input. -/
def fnExactAlignGearsWrong : ChangeSpec := { name := "fnExactAlignGears", fn := fun _ => fun
  | [d] => { results := [.lit (.bool false)], args := [d] }
  | _ => none }
def FnExactAlignGearsWrongFalsely : Prop := fnExactAlignGearsRow.holds Try.pinned (OpenSpec.ofChange fnExactAlignGearsWrong)

/-- 'laws.FnExactMixedGroups': WHATEVER THE INPUT: true; the input reads as it did. -/
def fnExactMixedGroupsSpec : ChangeSpec := { name := "fnExactMixedGroups", fn := fun _ => fun
  | [d] => { results := [.lit (.bool true)], args := [d] }
  | _ => none }
def fnExactMixedGroupsRow : OpenClaim := { program := "ytlkiakpipcnijaa", sum := "237bf5a5307f03804c24535268425af8dc67536c6a0b1e7d8aedca97fe85f712", func := "loop.example/g00942/laws.FnExactMixedGroups", spec := "fnExactMixedGroups", apart := false }
def FnExactMixedGroupsSaid : Prop := fnExactMixedGroupsRow.holds Try.pinned (OpenSpec.ofChange fnExactMixedGroupsSpec)

/-- ITS FALSE NEIGHBOUR: 'it returns false'. Refute it at one input. -/
def fnExactMixedGroupsWrong : ChangeSpec := { name := "fnExactMixedGroups", fn := fun _ => fun
  | [d] => { results := [.lit (.bool false)], args := [d] }
  | _ => none }
def FnExactMixedGroupsWrongFalsely : Prop := fnExactMixedGroupsRow.holds Try.pinned (OpenSpec.ofChange fnExactMixedGroupsWrong)

/-- 'laws.FnExactRefillMachine': WHATEVER THE INPUT: true; the input reads as it did. -/
def fnExactRefillMachineSpec : ChangeSpec := { name := "fnExactRefillMachine", fn := fun _ => fun
  | [d1, d2, d3] => { results := [.lit (.bool true)], args := [d1, d2, d3] }
  | _ => none }
def fnExactRefillMachineRow : OpenClaim := { program := "ytlkiakpipcnijaa", sum := "237bf5a5307f03804c24535268425af8dc67536c6a0b1e7d8aedca97fe85f712", func := "loop.example/g00942/laws.FnExactRefillMachine", spec := "fnExactRefillMachine", apart := false }
def FnExactRefillMachineSaid : Prop := fnExactRefillMachineRow.holds Try.pinned (OpenSpec.ofChange fnExactRefillMachineSpec)

/-- ITS FALSE NEIGHBOUR: 'it returns false'. Refute it at one input. -/
def fnExactRefillMachineWrong : ChangeSpec := { name := "fnExactRefillMachine", fn := fun _ => fun
  | [d1, d2, d3] => { results := [.lit (.bool false)], args := [d1, d2, d3] }
  | _ => none }
def FnExactRefillMachineWrongFalsely : Prop := fnExactRefillMachineRow.holds Try.pinned (OpenSpec.ofChange fnExactRefillMachineWrong)

/- THE SECOND FORM. 'bulk': how many values and letters a reading holds, each counted each time it is reached (what is shared counts as often as it is met; a slice's spare places count too). A statement '..UptoSaid' is the law's where the arguments, and the package variables that the reading takes, are together of bulk at most 1048576: NARROWER than '..Said'. Prove '..Said' where nothing that the law and all that it calls make is longer than what came in: it says more and counts as full. Else prove '..UptoSaid'. A law counts once. -/
mutual
def uptoBulk {H : Type} : DataW H → Nat
  | .lit (.string bytes) => bytes.length + 1
  | .lit _ => 1
  | .nil => 1
  | .ptr d => uptoBulk d + 1
  | .slice elems spare => uptoBulkAll elems + uptoBulkAll spare + 1
  | .agg parts => uptoBulkAll parts + 1
  | .iface _ d => uptoBulk d + 1
  | .map entries => uptoBulkEntries entries + 1
  | .held _ => 1
def uptoBulkAll {H : Type} : List (DataW H) → Nat
  | [] => 0
  | d :: r => uptoBulk d + uptoBulkAll r
def uptoBulkEntries {H : Type} : List (Lit × DataW H) → Nat
  | [] => 0
  | x :: r => uptoBulkEntry x + uptoBulkEntries r
def uptoBulkEntry {H : Type} : Lit × DataW H → Nat
  | (.string bytes, d) => bytes.length + uptoBulk d + 1
  | (_, d) => uptoBulk d + 1
 end
def uptoSmall : (H : Type) → List (DataW H) → Bool := fun _ ds => decide (uptoBulkAll ds ≤ 1048576)
def OpenSpec.upto (s : _root_.Go.ChangeSpec) : _root_.Go.OpenSpec := { _root_.Go.OpenSpec.ofChange s with cond := some uptoSmall }

/-- 'laws.FnExactAreJoined', WHERE WHAT IT READS IS OF BULK AT MOST 1048576: true; the input reads as it did. -/
def fnExactAreJoinedUptoRow : OpenClaim := { program := "ytlkiakpipcnijaa", sum := "237bf5a5307f03804c24535268425af8dc67536c6a0b1e7d8aedca97fe85f712", func := "loop.example/g00942/laws.FnExactAreJoined", spec := "fnExactAreJoined", apart := false, narrowed := true }
def FnExactAreJoinedUptoSaid : Prop := fnExactAreJoinedUptoRow.holds Try.pinned (OpenSpec.upto fnExactAreJoinedSpec)

/-- 'laws.FnExactCountGroups', WHERE WHAT IT READS IS OF BULK AT MOST 1048576: true; the input reads as it did. -/
def fnExactCountGroupsUptoRow : OpenClaim := { program := "ytlkiakpipcnijaa", sum := "237bf5a5307f03804c24535268425af8dc67536c6a0b1e7d8aedca97fe85f712", func := "loop.example/g00942/laws.FnExactCountGroups", spec := "fnExactCountGroups", apart := false, narrowed := true }
def FnExactCountGroupsUptoSaid : Prop := fnExactCountGroupsUptoRow.holds Try.pinned (OpenSpec.upto fnExactCountGroupsSpec)

/-- 'laws.FnExactLeastCogs', WHERE WHAT IT READS IS OF BULK AT MOST 1048576: true; the input reads as it did. -/
def fnExactLeastCogsUptoRow : OpenClaim := { program := "ytlkiakpipcnijaa", sum := "237bf5a5307f03804c24535268425af8dc67536c6a0b1e7d8aedca97fe85f712", func := "loop.example/g00942/laws.FnExactLeastCogs", spec := "fnExactLeastCogs", apart := false, narrowed := true }
def FnExactLeastCogsUptoSaid : Prop := fnExactLeastCogsUptoRow.holds Try.pinned (OpenSpec.upto fnExactLeastCogsSpec)

/-- 'laws.FnExactGearGroups', WHERE WHAT IT READS IS OF BULK AT MOST 1048576: true; the input reads as it did. -/
def fnExactGearGroupsUptoRow : OpenClaim := { program := "ytlkiakpipcnijaa", sum := "237bf5a5307f03804c24535268425af8dc67536c6a0b1e7d8aedca97fe85f712", func := "loop.example/g00942/laws.FnExactGearGroups", spec := "fnExactGearGroups", apart := false, narrowed := true }
def FnExactGearGroupsUptoSaid : Prop := fnExactGearGroupsUptoRow.holds Try.pinned (OpenSpec.upto fnExactGearGroupsSpec)

/-- 'laws.FnExactLargestGroup', WHERE WHAT IT READS IS OF BULK AT MOST 1048576: true; the input reads as it did. -/
def fnExactLargestGroupUptoRow : OpenClaim := { program := "ytlkiakpipcnijaa", sum := "237bf5a5307f03804c24535268425af8dc67536c6a0b1e7d8aedca97fe85f712", func := "loop.example/g00942/laws.FnExactLargestGroup", spec := "fnExactLargestGroup", apart := false, narrowed := true }
def FnExactLargestGroupUptoSaid : Prop := fnExactLargestGroupUptoRow.holds Try.pinned (OpenSpec.upto fnExactLargestGroupSpec)

/-- 'laws.FnExactTurnGear', WHERE WHAT IT READS IS OF BULK AT MOST 1048576: true; the input reads as it did. -/
def fnExactTurnGearUptoRow : OpenClaim := { program := "ytlkiakpipcnijaa", sum := "237bf5a5307f03804c24535268425af8dc67536c6a0b1e7d8aedca97fe85f712", func := "loop.example/g00942/laws.FnExactTurnGear", spec := "fnExactTurnGear", apart := false, narrowed := true }
def FnExactTurnGearUptoSaid : Prop := fnExactTurnGearUptoRow.holds Try.pinned (OpenSpec.upto fnExactTurnGearSpec)

/-- 'laws.FnExactGroupOf', WHERE WHAT IT READS IS OF BULK AT MOST 1048576: true; the input reads as it did. -/
def fnExactGroupOfUptoRow : OpenClaim := { program := "ytlkiakpipcnijaa", sum := "237bf5a5307f03804c24535268425af8dc67536c6a0b1e7d8aedca97fe85f712", func := "loop.example/g00942/laws.FnExactGroupOf", spec := "fnExactGroupOf", apart := false, narrowed := true }
def FnExactGroupOfUptoSaid : Prop := fnExactGroupOfUptoRow.holds Try.pinned (OpenSpec.upto fnExactGroupOfSpec)

/-- 'laws.FnExactWithoutCogs', WHERE WHAT IT READS IS OF BULK AT MOST 1048576: true; the input reads as it did. -/
def fnExactWithoutCogsUptoRow : OpenClaim := { program := "ytlkiakpipcnijaa", sum := "237bf5a5307f03804c24535268425af8dc67536c6a0b1e7d8aedca97fe85f712", func := "loop.example/g00942/laws.FnExactWithoutCogs", spec := "fnExactWithoutCogs", apart := false, narrowed := true }
def FnExactWithoutCogsUptoSaid : Prop := fnExactWithoutCogsUptoRow.holds Try.pinned (OpenSpec.upto fnExactWithoutCogsSpec)

/-- 'laws.FnExactLoneGears', WHERE WHAT IT READS IS OF BULK AT MOST 1048576: true; the input reads as it did. -/
def fnExactLoneGearsUptoRow : OpenClaim := { program := "ytlkiakpipcnijaa", sum := "237bf5a5307f03804c24535268425af8dc67536c6a0b1e7d8aedca97fe85f712", func := "loop.example/g00942/laws.FnExactLoneGears", spec := "fnExactLoneGears", apart := false, narrowed := true }
def FnExactLoneGearsUptoSaid : Prop := fnExactLoneGearsUptoRow.holds Try.pinned (OpenSpec.upto fnExactLoneGearsSpec)

/-- 'laws.FnExactAlignGears', WHERE WHAT IT READS IS OF BULK AT MOST 1048576: true; the input reads as it did. -/
def fnExactAlignGearsUptoRow : OpenClaim := { program := "ytlkiakpipcnijaa", sum := "237bf5a5307f03804c24535268425af8dc67536c6a0b1e7d8aedca97fe85f712", func := "loop.example/g00942/laws.FnExactAlignGears", spec := "fnExactAlignGears", apart := false, narrowed := true }
def FnExactAlignGearsUptoSaid : Prop := fnExactAlignGearsUptoRow.holds Try.pinned (OpenSpec.upto fnExactAlignGearsSpec)

/-- 'laws.FnExactMixedGroups', WHERE WHAT IT READS IS OF BULK AT MOST 1048576: true; the input reads as it did. -/
def fnExactMixedGroupsUptoRow : OpenClaim := { program := "ytlkiakpipcnijaa", sum := "237bf5a5307f03804c24535268425af8dc67536c6a0b1e7d8aedca97fe85f712", func := "loop.example/g00942/laws.FnExactMixedGroups", spec := "fnExactMixedGroups", apart := false, narrowed := true }
def FnExactMixedGroupsUptoSaid : Prop := fnExactMixedGroupsUptoRow.holds Try.pinned (OpenSpec.upto fnExactMixedGroupsSpec)

/-- 'laws.FnExactRefillMachine', WHERE WHAT IT READS IS OF BULK AT MOST 1048576: true; the input reads as it did. -/
def fnExactRefillMachineUptoRow : OpenClaim := { program := "ytlkiakpipcnijaa", sum := "237bf5a5307f03804c24535268425af8dc67536c6a0b1e7d8aedca97fe85f712", func := "loop.example/g00942/laws.FnExactRefillMachine", spec := "fnExactRefillMachine", apart := false, narrowed := true }
def FnExactRefillMachineUptoSaid : Prop := fnExactRefillMachineUptoRow.holds Try.pinned (OpenSpec.upto fnExactRefillMachineSpec)

end Rows
end Go.Proofs.Ytlkiakpipcnijaa
