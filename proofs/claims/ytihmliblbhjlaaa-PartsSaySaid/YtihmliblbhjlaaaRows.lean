/-
  No cell of these rows narrows 'for every input' (looked for: loops, veiled, ifaces, maps, wideKeys, modest, calm, conditions, laid).
  DERIVED. THE GIVEN ROWS OF THIS SEAT. 9 by the template 'for every input the law returns true; each argument reads behind the call as it read before'; 0 by the template 'total and deterministic' (their statements: YtihmliblbhjlaaaTotals.lean).
  GIVEN WITH THE SEED: the statements are not yours to turn. If you find one false, say at which input.
  Laid BY PROGRAM, IN A SANDBOX (cutbox-rows.mjs): the forced cells as the released guide's own fill.sh prints them over the translation b48dd251a8c2f021… (all of the seat's roots in one cut). By AI agents, Wed Nov 11 2026. No macro, syntax, notation, axiom, sorry.
-/
import Derived.Test.YtihmliblbhjlaaaChecked
import GoSem.Claim
import GoSem.ClaimJoined
import GoSem.ClaimMapViews
import Derived.JoinedTies
import Derived.KernelRfl
namespace Go.Proofs.Ytihmliblbhjlaaa
/- THE CELL 'sum', in the pinned program and in every row, IS THE sha256 OF THE DUMP (.gsa) THAT YtihmliblbhjlaaaProg.lean LOADS. Nothing in Lean hashes anything: it is a label: what it is worth is what the hold of that sum in a sandbox is worth. -/
noncomputable def Try.pinned : Pinned := { name := "ytihmliblbhjlaaa", sum := "b48dd251a8c2f021359e73b1ffe6b84a92b7fc9671dd494dee3df95618968ebb", checked := Try.checked }
namespace Rows
def none {H : Type} : Left H := { results := [], args := [] }

/-- 'castlaw.OddsSay': WHATEVER THE INPUT: true; the input reads as it did. -/
def oddsSaySpec : ChangeSpec := { name := "oddsSay", fn := fun _ => fun
  | [d1, d2, d3] => { results := [.lit (.bool true)], args := [d1, d2, d3] }
  | _ => none }
def oddsSayRow : OpenClaim := { program := "ytihmliblbhjlaaa", sum := "b48dd251a8c2f021359e73b1ffe6b84a92b7fc9671dd494dee3df95618968ebb", func := "lotcaster/castlaw.OddsSay", spec := "oddsSay", unfollowed := true, recurses := true, plainKeys := false, apart := false }
def OddsSaySaid : Prop := oddsSayRow.holds Try.pinned (OpenSpec.ofChange oddsSaySpec)

/-- ITS FALSE NEIGHBOUR: 'it returns false'. Refute it at one input. -/
def oddsSayWrong : ChangeSpec := { name := "oddsSay", fn := fun _ => fun
  | [d1, d2, d3] => { results := [.lit (.bool false)], args := [d1, d2, d3] }
  | _ => none }
def OddsSayWrongFalsely : Prop := oddsSayRow.holds Try.pinned (OpenSpec.ofChange oddsSayWrong)

/-- 'castlaw.WarpSays': WHATEVER THE INPUT: true; the input reads as it did. -/
def warpSaysSpec : ChangeSpec := { name := "warpSays", fn := fun _ => fun
  | [d1, d2, d3] => { results := [.lit (.bool true)], args := [d1, d2, d3] }
  | _ => none }
def warpSaysRow : OpenClaim := { program := "ytihmliblbhjlaaa", sum := "b48dd251a8c2f021359e73b1ffe6b84a92b7fc9671dd494dee3df95618968ebb", func := "lotcaster/castlaw.WarpSays", spec := "warpSays", unfollowed := true, recurses := true, plainKeys := false, apart := false }
def WarpSaysSaid : Prop := warpSaysRow.holds Try.pinned (OpenSpec.ofChange warpSaysSpec)

/-- ITS FALSE NEIGHBOUR: 'it returns false'. Refute it at one input. -/
def warpSaysWrong : ChangeSpec := { name := "warpSays", fn := fun _ => fun
  | [d1, d2, d3] => { results := [.lit (.bool false)], args := [d1, d2, d3] }
  | _ => none }
def WarpSaysWrongFalsely : Prop := warpSaysRow.holds Try.pinned (OpenSpec.ofChange warpSaysWrong)

/-- 'castlaw.TableauSays': WHATEVER THE INPUT: true; the input reads as it did. -/
def tableauSaysSpec : ChangeSpec := { name := "tableauSays", fn := fun _ => fun
  | [d1, d2] => { results := [.lit (.bool true)], args := [d1, d2] }
  | _ => none }
def tableauSaysRow : OpenClaim := { program := "ytihmliblbhjlaaa", sum := "b48dd251a8c2f021359e73b1ffe6b84a92b7fc9671dd494dee3df95618968ebb", func := "lotcaster/castlaw.TableauSays", spec := "tableauSays", unfollowed := true, recurses := true, plainKeys := false, apart := false }
def TableauSaysSaid : Prop := tableauSaysRow.holds Try.pinned (OpenSpec.ofChange tableauSaysSpec)

/-- ITS FALSE NEIGHBOUR: 'it returns false'. Refute it at one input. -/
def tableauSaysWrong : ChangeSpec := { name := "tableauSays", fn := fun _ => fun
  | [d1, d2] => { results := [.lit (.bool false)], args := [d1, d2] }
  | _ => none }
def TableauSaysWrongFalsely : Prop := tableauSaysRow.holds Try.pinned (OpenSpec.ofChange tableauSaysWrong)

/-- 'castlaw.PartsSay': WHATEVER THE INPUT: true; the input reads as it did. -/
def partsSaySpec : ChangeSpec := { name := "partsSay", fn := fun _ => fun
  | [d1, d2, d3] => { results := [.lit (.bool true)], args := [d1, d2, d3] }
  | _ => none }
def partsSayRow : OpenClaim := { program := "ytihmliblbhjlaaa", sum := "b48dd251a8c2f021359e73b1ffe6b84a92b7fc9671dd494dee3df95618968ebb", func := "lotcaster/castlaw.PartsSay", spec := "partsSay", unfollowed := true, recurses := true, plainKeys := false, apart := false }
def PartsSaySaid : Prop := partsSayRow.holds Try.pinned (OpenSpec.ofChange partsSaySpec)

/-- ITS FALSE NEIGHBOUR: 'it returns false'. Refute it at one input. -/
def partsSayWrong : ChangeSpec := { name := "partsSay", fn := fun _ => fun
  | [d1, d2, d3] => { results := [.lit (.bool false)], args := [d1, d2, d3] }
  | _ => none }
def PartsSayWrongFalsely : Prop := partsSayRow.holds Try.pinned (OpenSpec.ofChange partsSayWrong)

/-- 'castlaw.OrbitsSay': WHATEVER THE INPUT: true; the input reads as it did. -/
def orbitsSaySpec : ChangeSpec := { name := "orbitsSay", fn := fun _ => fun
  | [d1, d2, d3, d4] => { results := [.lit (.bool true)], args := [d1, d2, d3, d4] }
  | _ => none }
def orbitsSayRow : OpenClaim := { program := "ytihmliblbhjlaaa", sum := "b48dd251a8c2f021359e73b1ffe6b84a92b7fc9671dd494dee3df95618968ebb", func := "lotcaster/castlaw.OrbitsSay", spec := "orbitsSay", unfollowed := true, recurses := true, plainKeys := false, apart := false }
def OrbitsSaySaid : Prop := orbitsSayRow.holds Try.pinned (OpenSpec.ofChange orbitsSaySpec)

/-- ITS FALSE NEIGHBOUR: 'it returns false'. Refute it at one input. -/
def orbitsSayWrong : ChangeSpec := { name := "orbitsSay", fn := fun _ => fun
  | [d1, d2, d3, d4] => { results := [.lit (.bool false)], args := [d1, d2, d3, d4] }
  | _ => none }
def OrbitsSayWrongFalsely : Prop := orbitsSayRow.holds Try.pinned (OpenSpec.ofChange orbitsSayWrong)

/-- 'castlaw.BottomSays': WHATEVER THE INPUT: true; the input reads as it did. -/
def bottomSaysSpec : ChangeSpec := { name := "bottomSays", fn := fun _ => fun
  | [d1, d2, d3, d4] => { results := [.lit (.bool true)], args := [d1, d2, d3, d4] }
  | _ => none }
def bottomSaysRow : OpenClaim := { program := "ytihmliblbhjlaaa", sum := "b48dd251a8c2f021359e73b1ffe6b84a92b7fc9671dd494dee3df95618968ebb", func := "lotcaster/castlaw.BottomSays", spec := "bottomSays", unfollowed := true, recurses := true, plainKeys := false, apart := false }
def BottomSaysSaid : Prop := bottomSaysRow.holds Try.pinned (OpenSpec.ofChange bottomSaysSpec)

/-- ITS FALSE NEIGHBOUR: 'it returns false'. Refute it at one input. -/
def bottomSaysWrong : ChangeSpec := { name := "bottomSays", fn := fun _ => fun
  | [d1, d2, d3, d4] => { results := [.lit (.bool false)], args := [d1, d2, d3, d4] }
  | _ => none }
def BottomSaysWrongFalsely : Prop := bottomSaysRow.holds Try.pinned (OpenSpec.ofChange bottomSaysWrong)

/-- 'casttop.TopCounts': WHATEVER THE INPUT: true; the input reads as it did. -/
def topCountsSpec : ChangeSpec := { name := "topCounts", fn := fun _ => fun
  | [d] => { results := [.lit (.bool true)], args := [d] }
  | _ => none }
def topCountsRow : OpenClaim := { program := "ytihmliblbhjlaaa", sum := "b48dd251a8c2f021359e73b1ffe6b84a92b7fc9671dd494dee3df95618968ebb", func := "lotcaster/casttop.TopCounts", spec := "topCounts", unfollowed := true, recurses := true, plainKeys := false, apart := false }
def TopCountsSaid : Prop := topCountsRow.holds Try.pinned (OpenSpec.ofChange topCountsSpec)

/-- ITS FALSE NEIGHBOUR: 'it returns false'. Refute it at one input. -/
def topCountsWrong : ChangeSpec := { name := "topCounts", fn := fun _ => fun
  | [d] => { results := [.lit (.bool false)], args := [d] }
  | _ => none }
def TopCountsWrongFalsely : Prop := topCountsRow.holds Try.pinned (OpenSpec.ofChange topCountsWrong)

/-- 'casttop.TopFew': WHATEVER THE INPUT: true; the input reads as it did. -/
def topFewSpec : ChangeSpec := { name := "topFew", fn := fun _ => fun
  | [d] => { results := [.lit (.bool true)], args := [d] }
  | _ => none }
def topFewRow : OpenClaim := { program := "ytihmliblbhjlaaa", sum := "b48dd251a8c2f021359e73b1ffe6b84a92b7fc9671dd494dee3df95618968ebb", func := "lotcaster/casttop.TopFew", spec := "topFew", unfollowed := true, recurses := true, plainKeys := false, apart := false }
def TopFewSaid : Prop := topFewRow.holds Try.pinned (OpenSpec.ofChange topFewSpec)

/-- ITS FALSE NEIGHBOUR: 'it returns false'. Refute it at one input. -/
def topFewWrong : ChangeSpec := { name := "topFew", fn := fun _ => fun
  | [d] => { results := [.lit (.bool false)], args := [d] }
  | _ => none }
def TopFewWrongFalsely : Prop := topFewRow.holds Try.pinned (OpenSpec.ofChange topFewWrong)

/-- 'casttop.TopDraw': WHATEVER THE INPUT: true; the input reads as it did. -/
def topDrawSpec : ChangeSpec := { name := "topDraw", fn := fun _ => fun
  | [d1, d2, d3] => { results := [.lit (.bool true)], args := [d1, d2, d3] }
  | _ => none }
def topDrawRow : OpenClaim := { program := "ytihmliblbhjlaaa", sum := "b48dd251a8c2f021359e73b1ffe6b84a92b7fc9671dd494dee3df95618968ebb", func := "lotcaster/casttop.TopDraw", spec := "topDraw", unfollowed := true, recurses := true, plainKeys := false, apart := false }
def TopDrawSaid : Prop := topDrawRow.holds Try.pinned (OpenSpec.ofChange topDrawSpec)

/-- ITS FALSE NEIGHBOUR: 'it returns false'. Refute it at one input. -/
def topDrawWrong : ChangeSpec := { name := "topDraw", fn := fun _ => fun
  | [d1, d2, d3] => { results := [.lit (.bool false)], args := [d1, d2, d3] }
  | _ => none }
def TopDrawWrongFalsely : Prop := topDrawRow.holds Try.pinned (OpenSpec.ofChange topDrawWrong)

/- THE SECOND FORM. 'bulk': how many values and letters a reading holds, each counted each time it is reached (what is shared counts as often as it is met; a slice's spare places count too). A statement '..UptoSaid' is the law's where the arguments, and the package variables that the reading takes, are together of bulk at most 1048576: NARROWER than '..Said'. Prove '..Said' where nothing that the law and all that it calls make is longer than what came in: it says more and counts as full. Else prove '..UptoSaid'. A law counts once. -/
mutual
def uptoBulk {H : Type} : DataW H → Nat
  | .lit (.string bytes) => bytes.length + 1
  | .lit _ => 1
  | .nil => 1
  | .ptr d => uptoBulk d + 1
  | .slice elems spare => uptoBulkAll elems + uptoBulkAll spare + 1
  | .agg parts => uptoBulkAll parts + 1
  | .iface _ d => uptoBulk d + 1
  | .map entries => uptoBulkEntries entries + 1
  | .held _ => 1
def uptoBulkAll {H : Type} : List (DataW H) → Nat
  | [] => 0
  | d :: r => uptoBulk d + uptoBulkAll r
def uptoBulkEntries {H : Type} : List (Lit × DataW H) → Nat
  | [] => 0
  | x :: r => uptoBulkEntry x + uptoBulkEntries r
def uptoBulkEntry {H : Type} : Lit × DataW H → Nat
  | (.string bytes, d) => bytes.length + uptoBulk d + 1
  | (_, d) => uptoBulk d + 1
 end
def uptoSmall : (H : Type) → List (DataW H) → Bool := fun _ ds => decide (uptoBulkAll ds ≤ 1048576)
def OpenSpec.upto (s : _root_.Go.ChangeSpec) : _root_.Go.OpenSpec := { _root_.Go.OpenSpec.ofChange s with cond := some uptoSmall }

/-- 'castlaw.OddsSay', WHERE WHAT IT READS IS OF BULK AT MOST 1048576: true; the input reads as it did. -/
def oddsSayUptoRow : OpenClaim := { program := "ytihmliblbhjlaaa", sum := "b48dd251a8c2f021359e73b1ffe6b84a92b7fc9671dd494dee3df95618968ebb", func := "lotcaster/castlaw.OddsSay", spec := "oddsSay", unfollowed := true, recurses := true, plainKeys := false, apart := false, narrowed := true }
def OddsSayUptoSaid : Prop := oddsSayUptoRow.holds Try.pinned (OpenSpec.upto oddsSaySpec)

/-- 'castlaw.WarpSays', WHERE WHAT IT READS IS OF BULK AT MOST 1048576: true; the input reads as it did. -/
def warpSaysUptoRow : OpenClaim := { program := "ytihmliblbhjlaaa", sum := "b48dd251a8c2f021359e73b1ffe6b84a92b7fc9671dd494dee3df95618968ebb", func := "lotcaster/castlaw.WarpSays", spec := "warpSays", unfollowed := true, recurses := true, plainKeys := false, apart := false, narrowed := true }
def WarpSaysUptoSaid : Prop := warpSaysUptoRow.holds Try.pinned (OpenSpec.upto warpSaysSpec)

/-- 'castlaw.TableauSays', WHERE WHAT IT READS IS OF BULK AT MOST 1048576: true; the input reads as it did. -/
def tableauSaysUptoRow : OpenClaim := { program := "ytihmliblbhjlaaa", sum := "b48dd251a8c2f021359e73b1ffe6b84a92b7fc9671dd494dee3df95618968ebb", func := "lotcaster/castlaw.TableauSays", spec := "tableauSays", unfollowed := true, recurses := true, plainKeys := false, apart := false, narrowed := true }
def TableauSaysUptoSaid : Prop := tableauSaysUptoRow.holds Try.pinned (OpenSpec.upto tableauSaysSpec)

/-- 'castlaw.PartsSay', WHERE WHAT IT READS IS OF BULK AT MOST 1048576: true; the input reads as it did. -/
def partsSayUptoRow : OpenClaim := { program := "ytihmliblbhjlaaa", sum := "b48dd251a8c2f021359e73b1ffe6b84a92b7fc9671dd494dee3df95618968ebb", func := "lotcaster/castlaw.PartsSay", spec := "partsSay", unfollowed := true, recurses := true, plainKeys := false, apart := false, narrowed := true }
def PartsSayUptoSaid : Prop := partsSayUptoRow.holds Try.pinned (OpenSpec.upto partsSaySpec)

/-- 'castlaw.OrbitsSay', WHERE WHAT IT READS IS OF BULK AT MOST 1048576: true; the input reads as it did. -/
def orbitsSayUptoRow : OpenClaim := { program := "ytihmliblbhjlaaa", sum := "b48dd251a8c2f021359e73b1ffe6b84a92b7fc9671dd494dee3df95618968ebb", func := "lotcaster/castlaw.OrbitsSay", spec := "orbitsSay", unfollowed := true, recurses := true, plainKeys := false, apart := false, narrowed := true }
def OrbitsSayUptoSaid : Prop := orbitsSayUptoRow.holds Try.pinned (OpenSpec.upto orbitsSaySpec)

/-- 'castlaw.BottomSays', WHERE WHAT IT READS IS OF BULK AT MOST 1048576: true; the input reads as it did. -/
def bottomSaysUptoRow : OpenClaim := { program := "ytihmliblbhjlaaa", sum := "b48dd251a8c2f021359e73b1ffe6b84a92b7fc9671dd494dee3df95618968ebb", func := "lotcaster/castlaw.BottomSays", spec := "bottomSays", unfollowed := true, recurses := true, plainKeys := false, apart := false, narrowed := true }
def BottomSaysUptoSaid : Prop := bottomSaysUptoRow.holds Try.pinned (OpenSpec.upto bottomSaysSpec)

/-- 'casttop.TopCounts', WHERE WHAT IT READS IS OF BULK AT MOST 1048576: true; the input reads as it did. -/
def topCountsUptoRow : OpenClaim := { program := "ytihmliblbhjlaaa", sum := "b48dd251a8c2f021359e73b1ffe6b84a92b7fc9671dd494dee3df95618968ebb", func := "lotcaster/casttop.TopCounts", spec := "topCounts", unfollowed := true, recurses := true, plainKeys := false, apart := false, narrowed := true }
def TopCountsUptoSaid : Prop := topCountsUptoRow.holds Try.pinned (OpenSpec.upto topCountsSpec)

/-- 'casttop.TopFew', WHERE WHAT IT READS IS OF BULK AT MOST 1048576: true; the input reads as it did. -/
def topFewUptoRow : OpenClaim := { program := "ytihmliblbhjlaaa", sum := "b48dd251a8c2f021359e73b1ffe6b84a92b7fc9671dd494dee3df95618968ebb", func := "lotcaster/casttop.TopFew", spec := "topFew", unfollowed := true, recurses := true, plainKeys := false, apart := false, narrowed := true }
def TopFewUptoSaid : Prop := topFewUptoRow.holds Try.pinned (OpenSpec.upto topFewSpec)

/-- 'casttop.TopDraw', WHERE WHAT IT READS IS OF BULK AT MOST 1048576: true; the input reads as it did. -/
def topDrawUptoRow : OpenClaim := { program := "ytihmliblbhjlaaa", sum := "b48dd251a8c2f021359e73b1ffe6b84a92b7fc9671dd494dee3df95618968ebb", func := "lotcaster/casttop.TopDraw", spec := "topDraw", unfollowed := true, recurses := true, plainKeys := false, apart := false, narrowed := true }
def TopDrawUptoSaid : Prop := topDrawUptoRow.holds Try.pinned (OpenSpec.upto topDrawSpec)

end Rows
end Go.Proofs.Ytihmliblbhjlaaa
