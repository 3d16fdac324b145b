/-
  DERIVED. GIVEN WITH THE SEED: THE CARDS: each row of YtkhokgkgloligaaDoorRows.lean that lists a variable, with what it lists TIED to the program's text (the seventh form; the later family's looks); each row that meets fmt, with fmt's text TOLD by the authors' own Lean function (tested against real Go, not proved from fmt's source: count such statements apart). THE CARD IS WHAT COUNTS. Prove the row's statement (the work); the ties are given (YtkhokgkgloligaaDoorTie.lean); close each card by the builder's one call (the guide's Derived/Test/ToyasCard.lean, 'card_holds'). Laid BY PROGRAM, IN A SANDBOX (cutbox-door.mjs). By AI agents, Wed Nov 11 2026. No macro, syntax, notation, axiom, sorry.
-/
import Derived.Test.YtkhokgkgloligaaDoorRows
import GoSem.ClaimSeven
namespace Go.Proofs.YtkhokgkgloligaaDoor
namespace Rows

/-- THE TIED CARD OF 'castlaw.ManyRuns'. -/
def manyRunsCard : Claim7 := { stood := { row := manyRunsRow, standIns := [], harness := (true, "19e9523d61455b03dad0f4a536bbc32ec4d9c73891fbce4cb35c7b9db839508d"), looks := false }, kinds := [], alts := [], goes := true, laidByText := true, laidKinds := [.data, .pinned], laidTests := true, laidLooks := .later }
def ManyRunsCardSaid : Prop := Claim7.holds Tryd.pinned (.plain (OpenSpec.ofChange manyRunsSpec)) manyRunsCard

/-- THE SECOND FORM's CARD OF 'castlaw.ManyRuns'. -/
def manyRunsUptoCard : Claim7 := { stood := { row := manyRunsUptoRow, standIns := [], harness := (true, "19e9523d61455b03dad0f4a536bbc32ec4d9c73891fbce4cb35c7b9db839508d"), looks := false }, kinds := [], alts := [], goes := true, laidByText := true, laidKinds := [.data, .pinned], laidTests := true, laidLooks := .later }
def ManyRunsUptoCardSaid : Prop := Claim7.holds Tryd.pinned (.plain (OpenSpec.upto manyRunsSpec)) manyRunsUptoCard
end Rows
end Go.Proofs.YtkhokgkgloligaaDoor
