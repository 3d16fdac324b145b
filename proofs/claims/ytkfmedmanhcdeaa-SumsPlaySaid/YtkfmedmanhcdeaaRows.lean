/-
  No cell of these rows narrows 'for every input' (looked for: loops, veiled, ifaces, maps, wideKeys, modest, calm, conditions, laid).
  DERIVED. THE GIVEN ROWS OF THIS SEAT. 12 by the template 'for every input the law returns true; each argument reads behind the call as it read before'; 0 by the template 'total and deterministic' (their statements: YtkfmedmanhcdeaaTotals.lean).
  GIVEN WITH THE SEED: the statements are not yours to turn. If you find one false, say at which input.
  Laid BY PROGRAM, IN A SANDBOX (cutbox-rows.mjs): the forced cells as the released guide's own fill.sh prints them over the translation 3adf51e61df53c0d… (all of the seat's roots in one cut). By AI agents, Wed Nov 11 2026. No macro, syntax, notation, axiom, sorry.
-/
import Derived.Test.YtkfmedmanhcdeaaChecked
import GoSem.Claim
import GoSem.ClaimJoined
import GoSem.ClaimMapViews
import Derived.JoinedTies
import Derived.KernelRfl
namespace Go.Proofs.Ytkfmedmanhcdeaa
/- THE CELL 'sum', in the pinned program and in every row, IS THE sha256 OF THE DUMP (.gsa) THAT YtkfmedmanhcdeaaProg.lean LOADS. Nothing in Lean hashes anything: it is a label: what it is worth is what the hold of that sum in a sandbox is worth. -/
noncomputable def Try.pinned : Pinned := { name := "ytkfmedmanhcdeaa", sum := "3adf51e61df53c0d6949cb1957e050b6d09c300b340ff9450a9997e7e4255016", checked := Try.checked }
namespace Rows
def none {H : Type} : Left H := { results := [], args := [] }

/-- 'castlaw.GraySays': WHATEVER THE INPUT: true; the input reads as it did. -/
def graySaysSpec : ChangeSpec := { name := "graySays", fn := fun _ => fun
  | [d1, d2] => { results := [.lit (.bool true)], args := [d1, d2] }
  | _ => none }
def graySaysRow : OpenClaim := { program := "ytkfmedmanhcdeaa", sum := "3adf51e61df53c0d6949cb1957e050b6d09c300b340ff9450a9997e7e4255016", func := "lotcaster/castlaw.GraySays", spec := "graySays", apart := false }
def GraySaysSaid : Prop := graySaysRow.holds Try.pinned (OpenSpec.ofChange graySaysSpec)

/-- ITS FALSE NEIGHBOUR: 'it returns false'. Refute it at one input. -/
def graySaysWrong : ChangeSpec := { name := "graySays", fn := fun _ => fun
  | [d1, d2] => { results := [.lit (.bool false)], args := [d1, d2] }
  | _ => none }
def GraySaysWrongFalsely : Prop := graySaysRow.holds Try.pinned (OpenSpec.ofChange graySaysWrong)

/-- 'castlaw.TableauCounts': WHATEVER THE INPUT: true; the input reads as it did. -/
def tableauCountsSpec : ChangeSpec := { name := "tableauCounts", fn := fun _ => fun
  | [d] => { results := [.lit (.bool true)], args := [d] }
  | _ => none }
def tableauCountsRow : OpenClaim := { program := "ytkfmedmanhcdeaa", sum := "3adf51e61df53c0d6949cb1957e050b6d09c300b340ff9450a9997e7e4255016", func := "lotcaster/castlaw.TableauCounts", spec := "tableauCounts", recurses := true, apart := false }
def TableauCountsSaid : Prop := tableauCountsRow.holds Try.pinned (OpenSpec.ofChange tableauCountsSpec)

/-- ITS FALSE NEIGHBOUR: 'it returns false'. Refute it at one input. -/
def tableauCountsWrong : ChangeSpec := { name := "tableauCounts", fn := fun _ => fun
  | [d] => { results := [.lit (.bool false)], args := [d] }
  | _ => none }
def TableauCountsWrongFalsely : Prop := tableauCountsRow.holds Try.pinned (OpenSpec.ofChange tableauCountsWrong)

/-- 'castlaw.SumsPlay': WHATEVER THE INPUT: true; the input reads as it did. -/
def sumsPlaySpec : ChangeSpec := { name := "sumsPlay", fn := fun _ => fun
  | [d1, d2] => { results := [.lit (.bool true)], args := [d1, d2] }
  | _ => none }
def sumsPlayRow : OpenClaim := { program := "ytkfmedmanhcdeaa", sum := "3adf51e61df53c0d6949cb1957e050b6d09c300b340ff9450a9997e7e4255016", func := "lotcaster/castlaw.SumsPlay", spec := "sumsPlay", apart := false }
def SumsPlaySaid : Prop := sumsPlayRow.holds Try.pinned (OpenSpec.ofChange sumsPlaySpec)

/-- ITS FALSE NEIGHBOUR: 'it returns false'. Refute it at one input. -/
def sumsPlayWrong : ChangeSpec := { name := "sumsPlay", fn := fun _ => fun
  | [d1, d2] => { results := [.lit (.bool false)], args := [d1, d2] }
  | _ => none }
def SumsPlayWrongFalsely : Prop := sumsPlayRow.holds Try.pinned (OpenSpec.ofChange sumsPlayWrong)

/-- 'castlaw.SubsetSays': WHATEVER THE INPUT: true; the input reads as it did. -/
def subsetSaysSpec : ChangeSpec := { name := "subsetSays", fn := fun _ => fun
  | [d1, d2, d3, d4] => { results := [.lit (.bool true)], args := [d1, d2, d3, d4] }
  | _ => none }
def subsetSaysRow : OpenClaim := { program := "ytkfmedmanhcdeaa", sum := "3adf51e61df53c0d6949cb1957e050b6d09c300b340ff9450a9997e7e4255016", func := "lotcaster/castlaw.SubsetSays", spec := "subsetSays", apart := false }
def SubsetSaysSaid : Prop := subsetSaysRow.holds Try.pinned (OpenSpec.ofChange subsetSaysSpec)

/-- ITS FALSE NEIGHBOUR: 'it returns false'. Refute it at one input. -/
def subsetSaysWrong : ChangeSpec := { name := "subsetSays", fn := fun _ => fun
  | [d1, d2, d3, d4] => { results := [.lit (.bool false)], args := [d1, d2, d3, d4] }
  | _ => none }
def SubsetSaysWrongFalsely : Prop := subsetSaysRow.holds Try.pinned (OpenSpec.ofChange subsetSaysWrong)

/-- 'castlaw.DerangeSays': WHATEVER THE INPUT: true; the input reads as it did. -/
def derangeSaysSpec : ChangeSpec := { name := "derangeSays", fn := fun _ => fun
  | [d1, d2, d3] => { results := [.lit (.bool true)], args := [d1, d2, d3] }
  | _ => none }
def derangeSaysRow : OpenClaim := { program := "ytkfmedmanhcdeaa", sum := "3adf51e61df53c0d6949cb1957e050b6d09c300b340ff9450a9997e7e4255016", func := "lotcaster/castlaw.DerangeSays", spec := "derangeSays", recurses := true, apart := false }
def DerangeSaysSaid : Prop := derangeSaysRow.holds Try.pinned (OpenSpec.ofChange derangeSaysSpec)

/-- ITS FALSE NEIGHBOUR: 'it returns false'. Refute it at one input. -/
def derangeSaysWrong : ChangeSpec := { name := "derangeSays", fn := fun _ => fun
  | [d1, d2, d3] => { results := [.lit (.bool false)], args := [d1, d2, d3] }
  | _ => none }
def DerangeSaysWrongFalsely : Prop := derangeSaysRow.holds Try.pinned (OpenSpec.ofChange derangeSaysWrong)

/-- 'castlaw.RatioSays': WHATEVER THE INPUT: true; the input reads as it did. -/
def ratioSaysSpec : ChangeSpec := { name := "ratioSays", fn := fun _ => fun
  | [d1, d2, d3, d4] => { results := [.lit (.bool true)], args := [d1, d2, d3, d4] }
  | _ => none }
def ratioSaysRow : OpenClaim := { program := "ytkfmedmanhcdeaa", sum := "3adf51e61df53c0d6949cb1957e050b6d09c300b340ff9450a9997e7e4255016", func := "lotcaster/castlaw.RatioSays", spec := "ratioSays", recurses := true, apart := false }
def RatioSaysSaid : Prop := ratioSaysRow.holds Try.pinned (OpenSpec.ofChange ratioSaysSpec)

/-- ITS FALSE NEIGHBOUR: 'it returns false'. Refute it at one input. -/
def ratioSaysWrong : ChangeSpec := { name := "ratioSays", fn := fun _ => fun
  | [d1, d2, d3, d4] => { results := [.lit (.bool false)], args := [d1, d2, d3, d4] }
  | _ => none }
def RatioSaysWrongFalsely : Prop := ratioSaysRow.holds Try.pinned (OpenSpec.ofChange ratioSaysWrong)

/-- 'castlaw.RisesSay': WHATEVER THE INPUT: true; the input reads as it did. -/
def risesSaySpec : ChangeSpec := { name := "risesSay", fn := fun _ => fun
  | [d1, d2, d3] => { results := [.lit (.bool true)], args := [d1, d2, d3] }
  | _ => none }
def risesSayRow : OpenClaim := { program := "ytkfmedmanhcdeaa", sum := "3adf51e61df53c0d6949cb1957e050b6d09c300b340ff9450a9997e7e4255016", func := "lotcaster/castlaw.RisesSay", spec := "risesSay", apart := false }
def RisesSaySaid : Prop := risesSayRow.holds Try.pinned (OpenSpec.ofChange risesSaySpec)

/-- ITS FALSE NEIGHBOUR: 'it returns false'. Refute it at one input. -/
def risesSayWrong : ChangeSpec := { name := "risesSay", fn := fun _ => fun
  | [d1, d2, d3] => { results := [.lit (.bool false)], args := [d1, d2, d3] }
  | _ => none }
def RisesSayWrongFalsely : Prop := risesSayRow.holds Try.pinned (OpenSpec.ofChange risesSayWrong)

/-- 'castlaw.LinesSay': WHATEVER THE INPUT: true; the input reads as it did. -/
def linesSaySpec : ChangeSpec := { name := "linesSay", fn := fun _ => fun
  | [d] => { results := [.lit (.bool true)], args := [d] }
  | _ => none }
def linesSayRow : OpenClaim := { program := "ytkfmedmanhcdeaa", sum := "3adf51e61df53c0d6949cb1957e050b6d09c300b340ff9450a9997e7e4255016", func := "lotcaster/castlaw.LinesSay", spec := "linesSay", unfollowed := true, recurses := true, apart := false }
def LinesSaySaid : Prop := linesSayRow.holds Try.pinned (OpenSpec.ofChange linesSaySpec)

/-- ITS FALSE NEIGHBOUR: 'it returns false'. Refute it at one input. -/
def linesSayWrong : ChangeSpec := { name := "linesSay", fn := fun _ => fun
  | [d] => { results := [.lit (.bool false)], args := [d] }
  | _ => none }
def LinesSayWrongFalsely : Prop := linesSayRow.holds Try.pinned (OpenSpec.ofChange linesSayWrong)

/-- 'castlaw.StrideSays': WHATEVER THE INPUT: true; the input reads as it did. -/
def strideSaysSpec : ChangeSpec := { name := "strideSays", fn := fun _ => fun
  | [d1, d2, d3] => { results := [.lit (.bool true)], args := [d1, d2, d3] }
  | _ => none }
def strideSaysRow : OpenClaim := { program := "ytkfmedmanhcdeaa", sum := "3adf51e61df53c0d6949cb1957e050b6d09c300b340ff9450a9997e7e4255016", func := "lotcaster/castlaw.StrideSays", spec := "strideSays", unfollowed := true, recurses := true, apart := false }
def StrideSaysSaid : Prop := strideSaysRow.holds Try.pinned (OpenSpec.ofChange strideSaysSpec)

/-- ITS FALSE NEIGHBOUR: 'it returns false'. Refute it at one input. -/
def strideSaysWrong : ChangeSpec := { name := "strideSays", fn := fun _ => fun
  | [d1, d2, d3] => { results := [.lit (.bool false)], args := [d1, d2, d3] }
  | _ => none }
def StrideSaysWrongFalsely : Prop := strideSaysRow.holds Try.pinned (OpenSpec.ofChange strideSaysWrong)

/-- 'castlaw.TapeSays': WHATEVER THE INPUT: true; the input reads as it did. -/
def tapeSaysSpec : ChangeSpec := { name := "tapeSays", fn := fun _ => fun
  | [d1, d2, d3] => { results := [.lit (.bool true)], args := [d1, d2, d3] }
  | _ => none }
def tapeSaysRow : OpenClaim := { program := "ytkfmedmanhcdeaa", sum := "3adf51e61df53c0d6949cb1957e050b6d09c300b340ff9450a9997e7e4255016", func := "lotcaster/castlaw.TapeSays", spec := "tapeSays", unfollowed := true, recurses := true, apart := false }
def TapeSaysSaid : Prop := tapeSaysRow.holds Try.pinned (OpenSpec.ofChange tapeSaysSpec)

/-- ITS FALSE NEIGHBOUR: 'it returns false'. Refute it at one input. -/
def tapeSaysWrong : ChangeSpec := { name := "tapeSays", fn := fun _ => fun
  | [d1, d2, d3] => { results := [.lit (.bool false)], args := [d1, d2, d3] }
  | _ => none }
def TapeSaysWrongFalsely : Prop := tapeSaysRow.holds Try.pinned (OpenSpec.ofChange tapeSaysWrong)

/-- 'castlaw.AliasSays': WHATEVER THE INPUT: true; the input reads as it did. -/
def aliasSaysSpec : ChangeSpec := { name := "aliasSays", fn := fun _ => fun
  | [d1, d2, d3, d4] => { results := [.lit (.bool true)], args := [d1, d2, d3, d4] }
  | _ => none }
def aliasSaysRow : OpenClaim := { program := "ytkfmedmanhcdeaa", sum := "3adf51e61df53c0d6949cb1957e050b6d09c300b340ff9450a9997e7e4255016", func := "lotcaster/castlaw.AliasSays", spec := "aliasSays", apart := false }
def AliasSaysSaid : Prop := aliasSaysRow.holds Try.pinned (OpenSpec.ofChange aliasSaysSpec)

/-- ITS FALSE NEIGHBOUR: 'it returns false'. Refute it at one input. -/
def aliasSaysWrong : ChangeSpec := { name := "aliasSays", fn := fun _ => fun
  | [d1, d2, d3, d4] => { results := [.lit (.bool false)], args := [d1, d2, d3, d4] }
  | _ => none }
def AliasSaysWrongFalsely : Prop := aliasSaysRow.holds Try.pinned (OpenSpec.ofChange aliasSaysWrong)

/-- 'castlaw.NestsSay': WHATEVER THE INPUT: true; the input reads as it did. -/
def nestsSaySpec : ChangeSpec := { name := "nestsSay", fn := fun _ => fun
  | [d1, d2, d3, d4, d5] => { results := [.lit (.bool true)], args := [d1, d2, d3, d4, d5] }
  | _ => none }
def nestsSayRow : OpenClaim := { program := "ytkfmedmanhcdeaa", sum := "3adf51e61df53c0d6949cb1957e050b6d09c300b340ff9450a9997e7e4255016", func := "lotcaster/castlaw.NestsSay", spec := "nestsSay", apart := false }
def NestsSaySaid : Prop := nestsSayRow.holds Try.pinned (OpenSpec.ofChange nestsSaySpec)

/-- ITS FALSE NEIGHBOUR: 'it returns false'. Refute it at one input. -/
def nestsSayWrong : ChangeSpec := { name := "nestsSay", fn := fun _ => fun
  | [d1, d2, d3, d4, d5] => { results := [.lit (.bool false)], args := [d1, d2, d3, d4, d5] }
  | _ => none }
def NestsSayWrongFalsely : Prop := nestsSayRow.holds Try.pinned (OpenSpec.ofChange nestsSayWrong)

/- THE SECOND FORM. 'bulk': how many values and letters a reading holds, each counted each time it is reached (what is shared counts as often as it is met; a slice's spare places count too). A statement '..UptoSaid' is the law's where the arguments, and the package variables that the reading takes, are together of bulk at most 1048576: NARROWER than '..Said'. Prove '..Said' where nothing that the law and all that it calls make is longer than what came in: it says more and counts as full. Else prove '..UptoSaid'. A law counts once. -/
mutual
def uptoBulk {H : Type} : DataW H → Nat
  | .lit (.string bytes) => bytes.length + 1
  | .lit _ => 1
  | .nil => 1
  | .ptr d => uptoBulk d + 1
  | .slice elems spare => uptoBulkAll elems + uptoBulkAll spare + 1
  | .agg parts => uptoBulkAll parts + 1
  | .iface _ d => uptoBulk d + 1
  | .map entries => uptoBulkEntries entries + 1
  | .held _ => 1
def uptoBulkAll {H : Type} : List (DataW H) → Nat
  | [] => 0
  | d :: r => uptoBulk d + uptoBulkAll r
def uptoBulkEntries {H : Type} : List (Lit × DataW H) → Nat
  | [] => 0
  | x :: r => uptoBulkEntry x + uptoBulkEntries r
def uptoBulkEntry {H : Type} : Lit × DataW H → Nat
  | (.string bytes, d) => bytes.length + uptoBulk d + 1
  | (_, d) => uptoBulk d + 1
 end
def uptoSmall : (H : Type) → List (DataW H) → Bool := fun _ ds => decide (uptoBulkAll ds ≤ 1048576)
def OpenSpec.upto (s : _root_.Go.ChangeSpec) : _root_.Go.OpenSpec := { _root_.Go.OpenSpec.ofChange s with cond := some uptoSmall }

/-- 'castlaw.GraySays', WHERE WHAT IT READS IS OF BULK AT MOST 1048576: true; the input reads as it did. -/
def graySaysUptoRow : OpenClaim := { program := "ytkfmedmanhcdeaa", sum := "3adf51e61df53c0d6949cb1957e050b6d09c300b340ff9450a9997e7e4255016", func := "lotcaster/castlaw.GraySays", spec := "graySays", apart := false, narrowed := true }
def GraySaysUptoSaid : Prop := graySaysUptoRow.holds Try.pinned (OpenSpec.upto graySaysSpec)

/-- 'castlaw.TableauCounts', WHERE WHAT IT READS IS OF BULK AT MOST 1048576: true; the input reads as it did. -/
def tableauCountsUptoRow : OpenClaim := { program := "ytkfmedmanhcdeaa", sum := "3adf51e61df53c0d6949cb1957e050b6d09c300b340ff9450a9997e7e4255016", func := "lotcaster/castlaw.TableauCounts", spec := "tableauCounts", recurses := true, apart := false, narrowed := true }
def TableauCountsUptoSaid : Prop := tableauCountsUptoRow.holds Try.pinned (OpenSpec.upto tableauCountsSpec)

/-- 'castlaw.SumsPlay', WHERE WHAT IT READS IS OF BULK AT MOST 1048576: true; the input reads as it did. -/
def sumsPlayUptoRow : OpenClaim := { program := "ytkfmedmanhcdeaa", sum := "3adf51e61df53c0d6949cb1957e050b6d09c300b340ff9450a9997e7e4255016", func := "lotcaster/castlaw.SumsPlay", spec := "sumsPlay", apart := false, narrowed := true }
def SumsPlayUptoSaid : Prop := sumsPlayUptoRow.holds Try.pinned (OpenSpec.upto sumsPlaySpec)

/-- 'castlaw.SubsetSays', WHERE WHAT IT READS IS OF BULK AT MOST 1048576: true; the input reads as it did. -/
def subsetSaysUptoRow : OpenClaim := { program := "ytkfmedmanhcdeaa", sum := "3adf51e61df53c0d6949cb1957e050b6d09c300b340ff9450a9997e7e4255016", func := "lotcaster/castlaw.SubsetSays", spec := "subsetSays", apart := false, narrowed := true }
def SubsetSaysUptoSaid : Prop := subsetSaysUptoRow.holds Try.pinned (OpenSpec.upto subsetSaysSpec)

/-- 'castlaw.DerangeSays', WHERE WHAT IT READS IS OF BULK AT MOST 1048576: true; the input reads as it did. -/
def derangeSaysUptoRow : OpenClaim := { program := "ytkfmedmanhcdeaa", sum := "3adf51e61df53c0d6949cb1957e050b6d09c300b340ff9450a9997e7e4255016", func := "lotcaster/castlaw.DerangeSays", spec := "derangeSays", recurses := true, apart := false, narrowed := true }
def DerangeSaysUptoSaid : Prop := derangeSaysUptoRow.holds Try.pinned (OpenSpec.upto derangeSaysSpec)

/-- 'castlaw.RatioSays', WHERE WHAT IT READS IS OF BULK AT MOST 1048576: true; the input reads as it did. -/
def ratioSaysUptoRow : OpenClaim := { program := "ytkfmedmanhcdeaa", sum := "3adf51e61df53c0d6949cb1957e050b6d09c300b340ff9450a9997e7e4255016", func := "lotcaster/castlaw.RatioSays", spec := "ratioSays", recurses := true, apart := false, narrowed := true }
def RatioSaysUptoSaid : Prop := ratioSaysUptoRow.holds Try.pinned (OpenSpec.upto ratioSaysSpec)

/-- 'castlaw.RisesSay', WHERE WHAT IT READS IS OF BULK AT MOST 1048576: true; the input reads as it did. -/
def risesSayUptoRow : OpenClaim := { program := "ytkfmedmanhcdeaa", sum := "3adf51e61df53c0d6949cb1957e050b6d09c300b340ff9450a9997e7e4255016", func := "lotcaster/castlaw.RisesSay", spec := "risesSay", apart := false, narrowed := true }
def RisesSayUptoSaid : Prop := risesSayUptoRow.holds Try.pinned (OpenSpec.upto risesSaySpec)

/-- 'castlaw.LinesSay', WHERE WHAT IT READS IS OF BULK AT MOST 1048576: true; the input reads as it did. -/
def linesSayUptoRow : OpenClaim := { program := "ytkfmedmanhcdeaa", sum := "3adf51e61df53c0d6949cb1957e050b6d09c300b340ff9450a9997e7e4255016", func := "lotcaster/castlaw.LinesSay", spec := "linesSay", unfollowed := true, recurses := true, apart := false, narrowed := true }
def LinesSayUptoSaid : Prop := linesSayUptoRow.holds Try.pinned (OpenSpec.upto linesSaySpec)

/-- 'castlaw.StrideSays', WHERE WHAT IT READS IS OF BULK AT MOST 1048576: true; the input reads as it did. -/
def strideSaysUptoRow : OpenClaim := { program := "ytkfmedmanhcdeaa", sum := "3adf51e61df53c0d6949cb1957e050b6d09c300b340ff9450a9997e7e4255016", func := "lotcaster/castlaw.StrideSays", spec := "strideSays", unfollowed := true, recurses := true, apart := false, narrowed := true }
def StrideSaysUptoSaid : Prop := strideSaysUptoRow.holds Try.pinned (OpenSpec.upto strideSaysSpec)

/-- 'castlaw.TapeSays', WHERE WHAT IT READS IS OF BULK AT MOST 1048576: true; the input reads as it did. -/
def tapeSaysUptoRow : OpenClaim := { program := "ytkfmedmanhcdeaa", sum := "3adf51e61df53c0d6949cb1957e050b6d09c300b340ff9450a9997e7e4255016", func := "lotcaster/castlaw.TapeSays", spec := "tapeSays", unfollowed := true, recurses := true, apart := false, narrowed := true }
def TapeSaysUptoSaid : Prop := tapeSaysUptoRow.holds Try.pinned (OpenSpec.upto tapeSaysSpec)

/-- 'castlaw.AliasSays', WHERE WHAT IT READS IS OF BULK AT MOST 1048576: true; the input reads as it did. -/
def aliasSaysUptoRow : OpenClaim := { program := "ytkfmedmanhcdeaa", sum := "3adf51e61df53c0d6949cb1957e050b6d09c300b340ff9450a9997e7e4255016", func := "lotcaster/castlaw.AliasSays", spec := "aliasSays", apart := false, narrowed := true }
def AliasSaysUptoSaid : Prop := aliasSaysUptoRow.holds Try.pinned (OpenSpec.upto aliasSaysSpec)

/-- 'castlaw.NestsSay', WHERE WHAT IT READS IS OF BULK AT MOST 1048576: true; the input reads as it did. -/
def nestsSayUptoRow : OpenClaim := { program := "ytkfmedmanhcdeaa", sum := "3adf51e61df53c0d6949cb1957e050b6d09c300b340ff9450a9997e7e4255016", func := "lotcaster/castlaw.NestsSay", spec := "nestsSay", apart := false, narrowed := true }
def NestsSayUptoSaid : Prop := nestsSayUptoRow.holds Try.pinned (OpenSpec.upto nestsSaySpec)

end Rows
end Go.Proofs.Ytkfmedmanhcdeaa
