/-
  DERIVED. GIVEN WITH THE SEED: THE CARDS: each row of YtaphdnpjpmnaeadGreatDoorRows.lean that lists a variable, with what it lists TIED to the program's text (the seventh form; the later family's looks); each row that meets fmt, with fmt's text TOLD by the authors' own Lean function (tested against real Go, not proved from fmt's source: count such statements apart). THE CARD IS WHAT COUNTS. Prove the row's statement (the work); the ties are given (YtaphdnpjpmnaeadGreatDoorTie.lean); close each card by the builder's one call (the guide's Derived/Test/ToyasCard.lean, 'card_holds'). Laid BY PROGRAM, IN A SANDBOX (cutbox-door.mjs). By AI agents, Wed Nov 11 2026. No macro, syntax, notation, axiom, sorry.
-/
import Derived.Test.YtaphdnpjpmnaeadGreatDoorRows
import GoSem.ClaimSeven
namespace Go.Proofs.YtaphdnpjpmnaeadGreatDoor
namespace Rows

/-- THE TIED CARD OF 'castlaw.DeskSays'. -/
def deskSaysCard : Claim7 := { stood := { row := deskSaysRow, standIns := [], harness := (true, "ef010772af9ffbde7acbd6f88235591d8592d701b5a9dea63f5fae1913474b72"), looks := true }, kinds := [], alts := [], laidByText := true, laidKinds := [.data, .data, .data, .data, .sentinel, .sentinel, .pinned], laidTests := true, laidLooks := .later }
def DeskSaysCardSaid : Prop := Claim7.holds Tryz.pinned (.plain (OpenSpec.ofChange deskSaysSpec)) deskSaysCard

/-- THE SECOND FORM's CARD OF 'castlaw.DeskSays'. -/
def deskSaysUptoCard : Claim7 := { stood := { row := deskSaysUptoRow, standIns := [], harness := (true, "ef010772af9ffbde7acbd6f88235591d8592d701b5a9dea63f5fae1913474b72"), looks := true }, kinds := [], alts := [], laidByText := true, laidKinds := [.data, .data, .data, .data, .sentinel, .sentinel, .pinned], laidTests := true, laidLooks := .later }
def DeskSaysUptoCardSaid : Prop := Claim7.holds Tryz.pinned (.plain (OpenSpec.upto deskSaysSpec)) deskSaysUptoCard
end Rows
end Go.Proofs.YtaphdnpjpmnaeadGreatDoor
