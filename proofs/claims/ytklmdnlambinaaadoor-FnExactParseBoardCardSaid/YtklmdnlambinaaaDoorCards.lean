/-
  DERIVED. GIVEN WITH THE SEED: THE CARDS: each row of YtklmdnlambinaaaDoorRows.lean that lists a variable, with what it lists TIED to the program's text (the seventh form; the later family's looks); each row that meets fmt, with fmt's text TOLD by the authors' own Lean function (tested against real Go, not proved from fmt's source: count such statements apart). THE CARD IS WHAT COUNTS. Prove the row's statement (the work); the ties are given (YtklmdnlambinaaaDoorTie.lean); close each card by the builder's one call (the guide's Derived/Test/ToyasCard.lean, 'card_holds'). Laid BY PROGRAM, IN A SANDBOX (cutbox-door.mjs). By AI agents, Wed Nov 11 2026. No macro, syntax, notation, axiom, sorry.
-/
import Derived.Test.YtklmdnlambinaaaDoorRows
import GoSem.ClaimSeven
namespace Go.Proofs.YtklmdnlambinaaaDoor
namespace Rows

/-- THE TIED CARD OF 'laws.FnExactParseBoard'. -/
def fnExactParseBoardCard : Claim7 := { stood := { row := fnExactParseBoardRow, standIns := [], harness := (true, "e6bcb451ea2b02a31ddd51e902fb4d08e3b4c3794d88b72f2b0c0b6f24fad4a4"), looks := false }, kinds := [], alts := [], laidByText := true, laidKinds := [.data, .pinned], laidTests := true, laidLooks := .later }
def FnExactParseBoardCardSaid : Prop := Claim7.holds Tryd.pinned (.plain (OpenSpec.ofChange fnExactParseBoardSpec)) fnExactParseBoardCard

/-- THE TIED CARD OF 'laws.FnExactMachineText'. -/
def fnExactMachineTextCard : Claim7 := { stood := { row := fnExactMachineTextRow, standIns := [], harness := (true, "e6bcb451ea2b02a31ddd51e902fb4d08e3b4c3794d88b72f2b0c0b6f24fad4a4"), looks := false }, kinds := [], alts := [], laidByText := true, laidKinds := [.data, .data, .data], laidTests := true, laidLooks := .later }
def FnExactMachineTextCardSaid : Prop := Claim7.holds Tryd.pinned (.plain (OpenSpec.ofChange fnExactMachineTextSpec)) fnExactMachineTextCard

/-- THE SECOND FORM's CARD OF 'laws.FnExactParseBoard'. -/
def fnExactParseBoardUptoCard : Claim7 := { stood := { row := fnExactParseBoardUptoRow, standIns := [], harness := (true, "e6bcb451ea2b02a31ddd51e902fb4d08e3b4c3794d88b72f2b0c0b6f24fad4a4"), looks := false }, kinds := [], alts := [], laidByText := true, laidKinds := [.data, .pinned], laidTests := true, laidLooks := .later }
def FnExactParseBoardUptoCardSaid : Prop := Claim7.holds Tryd.pinned (.plain (OpenSpec.upto fnExactParseBoardSpec)) fnExactParseBoardUptoCard

/-- THE SECOND FORM's CARD OF 'laws.FnExactMachineText'. -/
def fnExactMachineTextUptoCard : Claim7 := { stood := { row := fnExactMachineTextUptoRow, standIns := [], harness := (true, "e6bcb451ea2b02a31ddd51e902fb4d08e3b4c3794d88b72f2b0c0b6f24fad4a4"), looks := false }, kinds := [], alts := [], laidByText := true, laidKinds := [.data, .data, .data], laidTests := true, laidLooks := .later }
def FnExactMachineTextUptoCardSaid : Prop := Claim7.holds Tryd.pinned (.plain (OpenSpec.upto fnExactMachineTextSpec)) fnExactMachineTextUptoCard
end Rows
end Go.Proofs.YtklmdnlambinaaaDoor
