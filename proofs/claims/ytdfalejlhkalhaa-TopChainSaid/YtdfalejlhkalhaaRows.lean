/-
  No cell of these rows narrows 'for every input' (looked for: loops, veiled, ifaces, maps, wideKeys, modest, calm, conditions, laid).
  DERIVED. THE GIVEN ROWS OF THIS SEAT. 9 by the template 'for every input the law returns true; each argument reads behind the call as it read before'; 0 by the template 'total and deterministic' (their statements: YtdfalejlhkalhaaTotals.lean).
  GIVEN WITH THE SEED: the statements are not yours to turn. If you find one false, say at which input.
  Laid BY PROGRAM, IN A SANDBOX (cutbox-rows.mjs): the forced cells as the released guide's own fill.sh prints them over the translation 3ba19a3996a51fe9… (all of the seat's roots in one cut). By AI agents, Wed Nov 11 2026. No macro, syntax, notation, axiom, sorry.
-/
import Derived.Test.YtdfalejlhkalhaaChecked
import GoSem.Claim
import GoSem.ClaimJoined
import GoSem.ClaimMapViews
import Derived.JoinedTies
import Derived.KernelRfl
namespace Go.Proofs.Ytdfalejlhkalhaa
/- THE CELL 'sum', in the pinned program and in every row, IS THE sha256 OF THE DUMP (.gsa) THAT YtdfalejlhkalhaaProg.lean LOADS. Nothing in Lean hashes anything: it is a label: what it is worth is what the hold of that sum in a sandbox is worth. -/
noncomputable def Try.pinned : Pinned := { name := "ytdfalejlhkalhaa", sum := "3ba19a3996a51fe992636e667b54f13992567797e6c6eacac538eb523c2f5603", checked := Try.checked }
namespace Rows
def none {H : Type} : Left H := { results := [], args := [] }

/-- 'castlaw.PermSays': WHATEVER THE INPUT: true; the input reads as it did. -/
def permSaysSpec : ChangeSpec := { name := "permSays", fn := fun _ => fun
  | [d1, d2] => { results := [.lit (.bool true)], args := [d1, d2] }
  | _ => none }
def permSaysRow : OpenClaim := { program := "ytdfalejlhkalhaa", sum := "3ba19a3996a51fe992636e667b54f13992567797e6c6eacac538eb523c2f5603", func := "lotcaster/castlaw.PermSays", spec := "permSays", unfollowed := true, recurses := true, plainKeys := false, apart := false }
def PermSaysSaid : Prop := permSaysRow.holds Try.pinned (OpenSpec.ofChange permSaysSpec)

/-- ITS FALSE NEIGHBOUR: 'it returns false'. Refute it at one input. -/
def permSaysWrong : ChangeSpec := { name := "permSays", fn := fun _ => fun
  | [d1, d2] => { results := [.lit (.bool false)], args := [d1, d2] }
  | _ => none }
def PermSaysWrongFalsely : Prop := permSaysRow.holds Try.pinned (OpenSpec.ofChange permSaysWrong)

/-- 'castlaw.PartsSay': WHATEVER THE INPUT: true; the input reads as it did. -/
def partsSaySpec : ChangeSpec := { name := "partsSay", fn := fun _ => fun
  | [d1, d2, d3] => { results := [.lit (.bool true)], args := [d1, d2, d3] }
  | _ => none }
def partsSayRow : OpenClaim := { program := "ytdfalejlhkalhaa", sum := "3ba19a3996a51fe992636e667b54f13992567797e6c6eacac538eb523c2f5603", func := "lotcaster/castlaw.PartsSay", spec := "partsSay", unfollowed := true, recurses := true, plainKeys := false, apart := false }
def PartsSaySaid : Prop := partsSayRow.holds Try.pinned (OpenSpec.ofChange partsSaySpec)

/-- ITS FALSE NEIGHBOUR: 'it returns false'. Refute it at one input. -/
def partsSayWrong : ChangeSpec := { name := "partsSay", fn := fun _ => fun
  | [d1, d2, d3] => { results := [.lit (.bool false)], args := [d1, d2, d3] }
  | _ => none }
def PartsSayWrongFalsely : Prop := partsSayRow.holds Try.pinned (OpenSpec.ofChange partsSayWrong)

/-- 'castlaw.OrbitsSay': WHATEVER THE INPUT: true; the input reads as it did. -/
def orbitsSaySpec : ChangeSpec := { name := "orbitsSay", fn := fun _ => fun
  | [d1, d2, d3, d4] => { results := [.lit (.bool true)], args := [d1, d2, d3, d4] }
  | _ => none }
def orbitsSayRow : OpenClaim := { program := "ytdfalejlhkalhaa", sum := "3ba19a3996a51fe992636e667b54f13992567797e6c6eacac538eb523c2f5603", func := "lotcaster/castlaw.OrbitsSay", spec := "orbitsSay", unfollowed := true, recurses := true, plainKeys := false, apart := false }
def OrbitsSaySaid : Prop := orbitsSayRow.holds Try.pinned (OpenSpec.ofChange orbitsSaySpec)

/-- ITS FALSE NEIGHBOUR: 'it returns false'. Refute it at one input. -/
def orbitsSayWrong : ChangeSpec := { name := "orbitsSay", fn := fun _ => fun
  | [d1, d2, d3, d4] => { results := [.lit (.bool false)], args := [d1, d2, d3, d4] }
  | _ => none }
def OrbitsSayWrongFalsely : Prop := orbitsSayRow.holds Try.pinned (OpenSpec.ofChange orbitsSayWrong)

/-- 'castlaw.BottomSays': WHATEVER THE INPUT: true; the input reads as it did. -/
def bottomSaysSpec : ChangeSpec := { name := "bottomSays", fn := fun _ => fun
  | [d1, d2, d3, d4] => { results := [.lit (.bool true)], args := [d1, d2, d3, d4] }
  | _ => none }
def bottomSaysRow : OpenClaim := { program := "ytdfalejlhkalhaa", sum := "3ba19a3996a51fe992636e667b54f13992567797e6c6eacac538eb523c2f5603", func := "lotcaster/castlaw.BottomSays", spec := "bottomSays", unfollowed := true, recurses := true, plainKeys := false, apart := false }
def BottomSaysSaid : Prop := bottomSaysRow.holds Try.pinned (OpenSpec.ofChange bottomSaysSpec)

/-- ITS FALSE NEIGHBOUR: 'it returns false'. Refute it at one input. -/
def bottomSaysWrong : ChangeSpec := { name := "bottomSays", fn := fun _ => fun
  | [d1, d2, d3, d4] => { results := [.lit (.bool false)], args := [d1, d2, d3, d4] }
  | _ => none }
def BottomSaysWrongFalsely : Prop := bottomSaysRow.holds Try.pinned (OpenSpec.ofChange bottomSaysWrong)

/-- 'casttop.TopChain': WHATEVER THE INPUT: true; the input reads as it did. -/
def topChainSpec : ChangeSpec := { name := "topChain", fn := fun _ => fun
  | [d1, d2, d3] => { results := [.lit (.bool true)], args := [d1, d2, d3] }
  | _ => none }
def topChainRow : OpenClaim := { program := "ytdfalejlhkalhaa", sum := "3ba19a3996a51fe992636e667b54f13992567797e6c6eacac538eb523c2f5603", func := "lotcaster/casttop.TopChain", spec := "topChain", unfollowed := true, recurses := true, plainKeys := false, apart := false }
def TopChainSaid : Prop := topChainRow.holds Try.pinned (OpenSpec.ofChange topChainSpec)

/-- ITS FALSE NEIGHBOUR: 'it returns false'. Refute it at one input. -/
def topChainWrong : ChangeSpec := { name := "topChain", fn := fun _ => fun
  | [d1, d2, d3] => { results := [.lit (.bool false)], args := [d1, d2, d3] }
  | _ => none }
def TopChainWrongFalsely : Prop := topChainRow.holds Try.pinned (OpenSpec.ofChange topChainWrong)

/-- 'casttop.TopCounts': WHATEVER THE INPUT: true; the input reads as it did. -/
def topCountsSpec : ChangeSpec := { name := "topCounts", fn := fun _ => fun
  | [d] => { results := [.lit (.bool true)], args := [d] }
  | _ => none }
def topCountsRow : OpenClaim := { program := "ytdfalejlhkalhaa", sum := "3ba19a3996a51fe992636e667b54f13992567797e6c6eacac538eb523c2f5603", func := "lotcaster/casttop.TopCounts", spec := "topCounts", unfollowed := true, recurses := true, plainKeys := false, apart := false }
def TopCountsSaid : Prop := topCountsRow.holds Try.pinned (OpenSpec.ofChange topCountsSpec)

/-- ITS FALSE NEIGHBOUR: 'it returns false'. Refute it at one input. -/
def topCountsWrong : ChangeSpec := { name := "topCounts", fn := fun _ => fun
  | [d] => { results := [.lit (.bool false)], args := [d] }
  | _ => none }
def TopCountsWrongFalsely : Prop := topCountsRow.holds Try.pinned (OpenSpec.ofChange topCountsWrong)

/-- 'casttop.TopFew': WHATEVER THE INPUT: true; the input reads as it did. -/
def topFewSpec : ChangeSpec := { name := "topFew", fn := fun _ => fun
  | [d] => { results := [.lit (.bool true)], args := [d] }
  | _ => none }
def topFewRow : OpenClaim := { program := "ytdfalejlhkalhaa", sum := "3ba19a3996a51fe992636e667b54f13992567797e6c6eacac538eb523c2f5603", func := "lotcaster/casttop.TopFew", spec := "topFew", unfollowed := true, recurses := true, plainKeys := false, apart := false }
def TopFewSaid : Prop := topFewRow.holds Try.pinned (OpenSpec.ofChange topFewSpec)

/-- ITS FALSE NEIGHBOUR: 'it returns false'. Refute it at one input. -/
def topFewWrong : ChangeSpec := { name := "topFew", fn := fun _ => fun
  | [d] => { results := [.lit (.bool false)], args := [d] }
  | _ => none }
def TopFewWrongFalsely : Prop := topFewRow.holds Try.pinned (OpenSpec.ofChange topFewWrong)

/-- 'casttop.TopDraw': WHATEVER THE INPUT: true; the input reads as it did. -/
def topDrawSpec : ChangeSpec := { name := "topDraw", fn := fun _ => fun
  | [d1, d2, d3] => { results := [.lit (.bool true)], args := [d1, d2, d3] }
  | _ => none }
def topDrawRow : OpenClaim := { program := "ytdfalejlhkalhaa", sum := "3ba19a3996a51fe992636e667b54f13992567797e6c6eacac538eb523c2f5603", func := "lotcaster/casttop.TopDraw", spec := "topDraw", unfollowed := true, recurses := true, plainKeys := false, apart := false }
def TopDrawSaid : Prop := topDrawRow.holds Try.pinned (OpenSpec.ofChange topDrawSpec)

/-- ITS FALSE NEIGHBOUR: 'it returns false'. Refute it at one input. -/
def topDrawWrong : ChangeSpec := { name := "topDraw", fn := fun _ => fun
  | [d1, d2, d3] => { results := [.lit (.bool false)], args := [d1, d2, d3] }
  | _ => none }
def TopDrawWrongFalsely : Prop := topDrawRow.holds Try.pinned (OpenSpec.ofChange topDrawWrong)

/-- 'casttop.TopPool': WHATEVER THE INPUT: true; the input reads as it did. -/
def topPoolSpec : ChangeSpec := { name := "topPool", fn := fun _ => fun
  | [d1, d2, d3] => { results := [.lit (.bool true)], args := [d1, d2, d3] }
  | _ => none }
def topPoolRow : OpenClaim := { program := "ytdfalejlhkalhaa", sum := "3ba19a3996a51fe992636e667b54f13992567797e6c6eacac538eb523c2f5603", func := "lotcaster/casttop.TopPool", spec := "topPool", unfollowed := true, recurses := true, plainKeys := false, apart := false }
def TopPoolSaid : Prop := topPoolRow.holds Try.pinned (OpenSpec.ofChange topPoolSpec)

/-- ITS FALSE NEIGHBOUR: 'it returns false'. Refute it at one input. -/
def topPoolWrong : ChangeSpec := { name := "topPool", fn := fun _ => fun
  | [d1, d2, d3] => { results := [.lit (.bool false)], args := [d1, d2, d3] }
  | _ => none }
def TopPoolWrongFalsely : Prop := topPoolRow.holds Try.pinned (OpenSpec.ofChange topPoolWrong)

/- THE SECOND FORM. 'bulk': how many values and letters a reading holds, each counted each time it is reached (what is shared counts as often as it is met; a slice's spare places count too). A statement '..UptoSaid' is the law's where the arguments, and the package variables that the reading takes, are together of bulk at most 1048576: NARROWER than '..Said'. Prove '..Said' where nothing that the law and all that it calls make is longer than what came in: it says more and counts as full. Else prove '..UptoSaid'. A law counts once. -/
mutual
def uptoBulk {H : Type} : DataW H → Nat
  | .lit (.string bytes) => bytes.length + 1
  | .lit _ => 1
  | .nil => 1
  | .ptr d => uptoBulk d + 1
  | .slice elems spare => uptoBulkAll elems + uptoBulkAll spare + 1
  | .agg parts => uptoBulkAll parts + 1
  | .iface _ d => uptoBulk d + 1
  | .map entries => uptoBulkEntries entries + 1
  | .held _ => 1
def uptoBulkAll {H : Type} : List (DataW H) → Nat
  | [] => 0
  | d :: r => uptoBulk d + uptoBulkAll r
def uptoBulkEntries {H : Type} : List (Lit × DataW H) → Nat
  | [] => 0
  | x :: r => uptoBulkEntry x + uptoBulkEntries r
def uptoBulkEntry {H : Type} : Lit × DataW H → Nat
  | (.string bytes, d) => bytes.length + uptoBulk d + 1
  | (_, d) => uptoBulk d + 1
 end
def uptoSmall : (H : Type) → List (DataW H) → Bool := fun _ ds => decide (uptoBulkAll ds ≤ 1048576)
def OpenSpec.upto (s : _root_.Go.ChangeSpec) : _root_.Go.OpenSpec := { _root_.Go.OpenSpec.ofChange s with cond := some uptoSmall }

/-- 'castlaw.PermSays', WHERE WHAT IT READS IS OF BULK AT MOST 1048576: true; the input reads as it did. -/
def permSaysUptoRow : OpenClaim := { program := "ytdfalejlhkalhaa", sum := "3ba19a3996a51fe992636e667b54f13992567797e6c6eacac538eb523c2f5603", func := "lotcaster/castlaw.PermSays", spec := "permSays", unfollowed := true, recurses := true, plainKeys := false, apart := false, narrowed := true }
def PermSaysUptoSaid : Prop := permSaysUptoRow.holds Try.pinned (OpenSpec.upto permSaysSpec)

/-- 'castlaw.PartsSay', WHERE WHAT IT READS IS OF BULK AT MOST 1048576: true; the input reads as it did. -/
def partsSayUptoRow : OpenClaim := { program := "ytdfalejlhkalhaa", sum := "3ba19a3996a51fe992636e667b54f13992567797e6c6eacac538eb523c2f5603", func := "lotcaster/castlaw.PartsSay", spec := "partsSay", unfollowed := true, recurses := true, plainKeys := false, apart := false, narrowed := true }
def PartsSayUptoSaid : Prop := partsSayUptoRow.holds Try.pinned (OpenSpec.upto partsSaySpec)

/-- 'castlaw.OrbitsSay', WHERE WHAT IT READS IS OF BULK AT MOST 1048576: true; the input reads as it did. -/
def orbitsSayUptoRow : OpenClaim := { program := "ytdfalejlhkalhaa", sum := "3ba19a3996a51fe992636e667b54f13992567797e6c6eacac538eb523c2f5603", func := "lotcaster/castlaw.OrbitsSay", spec := "orbitsSay", unfollowed := true, recurses := true, plainKeys := false, apart := false, narrowed := true }
def OrbitsSayUptoSaid : Prop := orbitsSayUptoRow.holds Try.pinned (OpenSpec.upto orbitsSaySpec)

/-- 'castlaw.BottomSays', WHERE WHAT IT READS IS OF BULK AT MOST 1048576: true; the input reads as it did. -/
def bottomSaysUptoRow : OpenClaim := { program := "ytdfalejlhkalhaa", sum := "3ba19a3996a51fe992636e667b54f13992567797e6c6eacac538eb523c2f5603", func := "lotcaster/castlaw.BottomSays", spec := "bottomSays", unfollowed := true, recurses := true, plainKeys := false, apart := false, narrowed := true }
def BottomSaysUptoSaid : Prop := bottomSaysUptoRow.holds Try.pinned (OpenSpec.upto bottomSaysSpec)

/-- 'casttop.TopChain', WHERE WHAT IT READS IS OF BULK AT MOST 1048576: true; the input reads as it did. -/
def topChainUptoRow : OpenClaim := { program := "ytdfalejlhkalhaa", sum := "3ba19a3996a51fe992636e667b54f13992567797e6c6eacac538eb523c2f5603", func := "lotcaster/casttop.TopChain", spec := "topChain", unfollowed := true, recurses := true, plainKeys := false, apart := false, narrowed := true }
def TopChainUptoSaid : Prop := topChainUptoRow.holds Try.pinned (OpenSpec.upto topChainSpec)

/-- 'casttop.TopCounts', WHERE WHAT IT READS IS OF BULK AT MOST 1048576: true; the input reads as it did. -/
def topCountsUptoRow : OpenClaim := { program := "ytdfalejlhkalhaa", sum := "3ba19a3996a51fe992636e667b54f13992567797e6c6eacac538eb523c2f5603", func := "lotcaster/casttop.TopCounts", spec := "topCounts", unfollowed := true, recurses := true, plainKeys := false, apart := false, narrowed := true }
def TopCountsUptoSaid : Prop := topCountsUptoRow.holds Try.pinned (OpenSpec.upto topCountsSpec)

/-- 'casttop.TopFew', WHERE WHAT IT READS IS OF BULK AT MOST 1048576: true; the input reads as it did. -/
def topFewUptoRow : OpenClaim := { program := "ytdfalejlhkalhaa", sum := "3ba19a3996a51fe992636e667b54f13992567797e6c6eacac538eb523c2f5603", func := "lotcaster/casttop.TopFew", spec := "topFew", unfollowed := true, recurses := true, plainKeys := false, apart := false, narrowed := true }
def TopFewUptoSaid : Prop := topFewUptoRow.holds Try.pinned (OpenSpec.upto topFewSpec)

/-- 'casttop.TopDraw', WHERE WHAT IT READS IS OF BULK AT MOST 1048576: true; the input reads as it did. -/
def topDrawUptoRow : OpenClaim := { program := "ytdfalejlhkalhaa", sum := "3ba19a3996a51fe992636e667b54f13992567797e6c6eacac538eb523c2f5603", func := "lotcaster/casttop.TopDraw", spec := "topDraw", unfollowed := true, recurses := true, plainKeys := false, apart := false, narrowed := true }
def TopDrawUptoSaid : Prop := topDrawUptoRow.holds Try.pinned (OpenSpec.upto topDrawSpec)

/-- 'casttop.TopPool', WHERE WHAT IT READS IS OF BULK AT MOST 1048576: true; the input reads as it did. -/
def topPoolUptoRow : OpenClaim := { program := "ytdfalejlhkalhaa", sum := "3ba19a3996a51fe992636e667b54f13992567797e6c6eacac538eb523c2f5603", func := "lotcaster/casttop.TopPool", spec := "topPool", unfollowed := true, recurses := true, plainKeys := false, apart := false, narrowed := true }
def TopPoolUptoSaid : Prop := topPoolUptoRow.holds Try.pinned (OpenSpec.upto topPoolSpec)

end Rows
end Go.Proofs.Ytdfalejlhkalhaa
