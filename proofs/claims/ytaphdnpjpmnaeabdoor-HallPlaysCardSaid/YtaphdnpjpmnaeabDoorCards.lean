/-
  DERIVED. GIVEN WITH THE SEED: THE CARDS: each row of YtaphdnpjpmnaeabDoorRows.lean that lists a variable, with what it lists TIED to the program's text (the seventh form; the later family's looks); each row that meets fmt, with fmt's text TOLD by the authors' own Lean function (tested against real Go, not proved from fmt's source: count such statements apart). THE CARD IS WHAT COUNTS. Prove the row's statement (the work); the ties are given (YtaphdnpjpmnaeabDoorTie.lean); close each card by the builder's one call (the guide's Derived/Test/ToyasCard.lean, 'card_holds'). Laid BY PROGRAM, IN A SANDBOX (cutbox-door.mjs). By AI agents, Wed Nov 11 2026. No macro, syntax, notation, axiom, sorry.
-/
import Derived.Test.YtaphdnpjpmnaeabDoorRows
import GoSem.ClaimSeven
namespace Go.Proofs.YtaphdnpjpmnaeabDoor
namespace Rows

/-- THE TIED CARD OF 'castlaw.HallPlays'. -/
def hallPlaysCard : Claim7 := { stood := { row := hallPlaysRow, standIns := [], harness := (true, "9bf7e9793a26086da4ea9fa4858a49f7f415b318699452fa5b4cf88dc4df5b63"), looks := false }, kinds := [], alts := [], laidByText := true, laidKinds := [.data, .pinned], laidTests := true, laidLooks := .later }
def HallPlaysCardSaid : Prop := Claim7.holds Tryd.pinned (.plain (OpenSpec.ofChange hallPlaysSpec)) hallPlaysCard

/-- THE SECOND FORM's CARD OF 'castlaw.HallPlays'. -/
def hallPlaysUptoCard : Claim7 := { stood := { row := hallPlaysUptoRow, standIns := [], harness := (true, "9bf7e9793a26086da4ea9fa4858a49f7f415b318699452fa5b4cf88dc4df5b63"), looks := false }, kinds := [], alts := [], laidByText := true, laidKinds := [.data, .pinned], laidTests := true, laidLooks := .later }
def HallPlaysUptoCardSaid : Prop := Claim7.holds Tryd.pinned (.plain (OpenSpec.upto hallPlaysSpec)) hallPlaysUptoCard
end Rows
end Go.Proofs.YtaphdnpjpmnaeabDoor
