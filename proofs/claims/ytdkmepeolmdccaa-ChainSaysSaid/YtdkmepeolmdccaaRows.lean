/-
  No cell of these rows narrows 'for every input' (looked for: loops, veiled, ifaces, maps, wideKeys, modest, calm, conditions, laid).
  DERIVED. THE GIVEN ROWS OF THIS SEAT. 12 by the template 'for every input the law returns true; each argument reads behind the call as it read before'; 0 by the template 'total and deterministic' (their statements: YtdkmepeolmdccaaTotals.lean).
  GIVEN WITH THE SEED: the statements are not yours to turn. If you find one false, say at which input.
  Laid BY PROGRAM, IN A SANDBOX (cutbox-rows.mjs): the forced cells as the released guide's own fill.sh prints them over the translation e1c9eab2580f6a37… (all of the seat's roots in one cut). By AI agents, Wed Nov 11 2026. No macro, syntax, notation, axiom, sorry.
-/
import Derived.Test.YtdkmepeolmdccaaChecked
import GoSem.Claim
import GoSem.ClaimJoined
import GoSem.ClaimMapViews
import Derived.JoinedTies
import Derived.KernelRfl
namespace Go.Proofs.Ytdkmepeolmdccaa
/- THE CELL 'sum', in the pinned program and in every row, IS THE sha256 OF THE DUMP (.gsa) THAT YtdkmepeolmdccaaProg.lean LOADS. Nothing in Lean hashes anything: it is a label: what it is worth is what the hold of that sum in a sandbox is worth. -/
noncomputable def Try.pinned : Pinned := { name := "ytdkmepeolmdccaa", sum := "e1c9eab2580f6a37a6765bbccdf03ef966ceb3f92ba02474f2253e0292f09a8f", checked := Try.checked }
namespace Rows
def none {H : Type} : Left H := { results := [], args := [] }

/-- 'castlaw.EventSays': WHATEVER THE INPUT: true; the input reads as it did. -/
def eventSaysSpec : ChangeSpec := { name := "eventSays", fn := fun _ => fun
  | [d1, d2, d3, d4, d5] => { results := [.lit (.bool true)], args := [d1, d2, d3, d4, d5] }
  | _ => none }
def eventSaysRow : OpenClaim := { program := "ytdkmepeolmdccaa", sum := "e1c9eab2580f6a37a6765bbccdf03ef966ceb3f92ba02474f2253e0292f09a8f", func := "lotcaster/castlaw.EventSays", spec := "eventSays", unfollowed := true, recurses := true, apart := false }
def EventSaysSaid : Prop := eventSaysRow.holds Try.pinned (OpenSpec.ofChange eventSaysSpec)

/-- ITS FALSE NEIGHBOUR: 'it returns false'. Refute it at one input. -/
def eventSaysWrong : ChangeSpec := { name := "eventSays", fn := fun _ => fun
  | [d1, d2, d3, d4, d5] => { results := [.lit (.bool false)], args := [d1, d2, d3, d4, d5] }
  | _ => none }
def EventSaysWrongFalsely : Prop := eventSaysRow.holds Try.pinned (OpenSpec.ofChange eventSaysWrong)

/-- 'castlaw.LotterySays': WHATEVER THE INPUT: true; the input reads as it did. -/
def lotterySaysSpec : ChangeSpec := { name := "lotterySays", fn := fun _ => fun
  | [d1, d2, d3, d4, d5, d6] => { results := [.lit (.bool true)], args := [d1, d2, d3, d4, d5, d6] }
  | _ => none }
def lotterySaysRow : OpenClaim := { program := "ytdkmepeolmdccaa", sum := "e1c9eab2580f6a37a6765bbccdf03ef966ceb3f92ba02474f2253e0292f09a8f", func := "lotcaster/castlaw.LotterySays", spec := "lotterySays", unfollowed := true, recurses := true, apart := false }
def LotterySaysSaid : Prop := lotterySaysRow.holds Try.pinned (OpenSpec.ofChange lotterySaysSpec)

/-- ITS FALSE NEIGHBOUR: 'it returns false'. Refute it at one input. -/
def lotterySaysWrong : ChangeSpec := { name := "lotterySays", fn := fun _ => fun
  | [d1, d2, d3, d4, d5, d6] => { results := [.lit (.bool false)], args := [d1, d2, d3, d4, d5, d6] }
  | _ => none }
def LotterySaysWrongFalsely : Prop := lotterySaysRow.holds Try.pinned (OpenSpec.ofChange lotterySaysWrong)

/-- 'castlaw.BlocksSay': WHATEVER THE INPUT: true; the input reads as it did. -/
def blocksSaySpec : ChangeSpec := { name := "blocksSay", fn := fun _ => fun
  | [d1, d2, d3, d4] => { results := [.lit (.bool true)], args := [d1, d2, d3, d4] }
  | _ => none }
def blocksSayRow : OpenClaim := { program := "ytdkmepeolmdccaa", sum := "e1c9eab2580f6a37a6765bbccdf03ef966ceb3f92ba02474f2253e0292f09a8f", func := "lotcaster/castlaw.BlocksSay", spec := "blocksSay", recurses := true, apart := false }
def BlocksSaySaid : Prop := blocksSayRow.holds Try.pinned (OpenSpec.ofChange blocksSaySpec)

/-- ITS FALSE NEIGHBOUR: 'it returns false'. Refute it at one input. -/
def blocksSayWrong : ChangeSpec := { name := "blocksSay", fn := fun _ => fun
  | [d1, d2, d3, d4] => { results := [.lit (.bool false)], args := [d1, d2, d3, d4] }
  | _ => none }
def BlocksSayWrongFalsely : Prop := blocksSayRow.holds Try.pinned (OpenSpec.ofChange blocksSayWrong)

/-- 'castlaw.RuinSays': WHATEVER THE INPUT: true; the input reads as it did. -/
def ruinSaysSpec : ChangeSpec := { name := "ruinSays", fn := fun _ => fun
  | [d1, d2, d3, d4] => { results := [.lit (.bool true)], args := [d1, d2, d3, d4] }
  | _ => none }
def ruinSaysRow : OpenClaim := { program := "ytdkmepeolmdccaa", sum := "e1c9eab2580f6a37a6765bbccdf03ef966ceb3f92ba02474f2253e0292f09a8f", func := "lotcaster/castlaw.RuinSays", spec := "ruinSays", recurses := true, apart := false }
def RuinSaysSaid : Prop := ruinSaysRow.holds Try.pinned (OpenSpec.ofChange ruinSaysSpec)

/-- ITS FALSE NEIGHBOUR: 'it returns false'. Refute it at one input. -/
def ruinSaysWrong : ChangeSpec := { name := "ruinSays", fn := fun _ => fun
  | [d1, d2, d3, d4] => { results := [.lit (.bool false)], args := [d1, d2, d3, d4] }
  | _ => none }
def RuinSaysWrongFalsely : Prop := ruinSaysRow.holds Try.pinned (OpenSpec.ofChange ruinSaysWrong)

/-- 'castlaw.OddsSay': WHATEVER THE INPUT: true; the input reads as it did. -/
def oddsSaySpec : ChangeSpec := { name := "oddsSay", fn := fun _ => fun
  | [d1, d2, d3] => { results := [.lit (.bool true)], args := [d1, d2, d3] }
  | _ => none }
def oddsSayRow : OpenClaim := { program := "ytdkmepeolmdccaa", sum := "e1c9eab2580f6a37a6765bbccdf03ef966ceb3f92ba02474f2253e0292f09a8f", func := "lotcaster/castlaw.OddsSay", spec := "oddsSay", unfollowed := true, recurses := true, apart := false }
def OddsSaySaid : Prop := oddsSayRow.holds Try.pinned (OpenSpec.ofChange oddsSaySpec)

/-- ITS FALSE NEIGHBOUR: 'it returns false'. Refute it at one input. -/
def oddsSayWrong : ChangeSpec := { name := "oddsSay", fn := fun _ => fun
  | [d1, d2, d3] => { results := [.lit (.bool false)], args := [d1, d2, d3] }
  | _ => none }
def OddsSayWrongFalsely : Prop := oddsSayRow.holds Try.pinned (OpenSpec.ofChange oddsSayWrong)

/-- 'castlaw.WarpSays': WHATEVER THE INPUT: true; the input reads as it did. -/
def warpSaysSpec : ChangeSpec := { name := "warpSays", fn := fun _ => fun
  | [d1, d2, d3] => { results := [.lit (.bool true)], args := [d1, d2, d3] }
  | _ => none }
def warpSaysRow : OpenClaim := { program := "ytdkmepeolmdccaa", sum := "e1c9eab2580f6a37a6765bbccdf03ef966ceb3f92ba02474f2253e0292f09a8f", func := "lotcaster/castlaw.WarpSays", spec := "warpSays", unfollowed := true, recurses := true, apart := false }
def WarpSaysSaid : Prop := warpSaysRow.holds Try.pinned (OpenSpec.ofChange warpSaysSpec)

/-- ITS FALSE NEIGHBOUR: 'it returns false'. Refute it at one input. -/
def warpSaysWrong : ChangeSpec := { name := "warpSays", fn := fun _ => fun
  | [d1, d2, d3] => { results := [.lit (.bool false)], args := [d1, d2, d3] }
  | _ => none }
def WarpSaysWrongFalsely : Prop := warpSaysRow.holds Try.pinned (OpenSpec.ofChange warpSaysWrong)

/-- 'castlaw.RankSays': WHATEVER THE INPUT: true; the input reads as it did. -/
def rankSaysSpec : ChangeSpec := { name := "rankSays", fn := fun _ => fun
  | [d1, d2, d3] => { results := [.lit (.bool true)], args := [d1, d2, d3] }
  | _ => none }
def rankSaysRow : OpenClaim := { program := "ytdkmepeolmdccaa", sum := "e1c9eab2580f6a37a6765bbccdf03ef966ceb3f92ba02474f2253e0292f09a8f", func := "lotcaster/castlaw.RankSays", spec := "rankSays", recurses := true, apart := false }
def RankSaysSaid : Prop := rankSaysRow.holds Try.pinned (OpenSpec.ofChange rankSaysSpec)

/-- ITS FALSE NEIGHBOUR: 'it returns false'. Refute it at one input. -/
def rankSaysWrong : ChangeSpec := { name := "rankSays", fn := fun _ => fun
  | [d1, d2, d3] => { results := [.lit (.bool false)], args := [d1, d2, d3] }
  | _ => none }
def RankSaysWrongFalsely : Prop := rankSaysRow.holds Try.pinned (OpenSpec.ofChange rankSaysWrong)

/-- 'castlaw.UrnSays': WHATEVER THE INPUT: true; the input reads as it did. -/
def urnSaysSpec : ChangeSpec := { name := "urnSays", fn := fun _ => fun
  | [d1, d2, d3] => { results := [.lit (.bool true)], args := [d1, d2, d3] }
  | _ => none }
def urnSaysRow : OpenClaim := { program := "ytdkmepeolmdccaa", sum := "e1c9eab2580f6a37a6765bbccdf03ef966ceb3f92ba02474f2253e0292f09a8f", func := "lotcaster/castlaw.UrnSays", spec := "urnSays", unfollowed := true, recurses := true, apart := false }
def UrnSaysSaid : Prop := urnSaysRow.holds Try.pinned (OpenSpec.ofChange urnSaysSpec)

/-- ITS FALSE NEIGHBOUR: 'it returns false'. Refute it at one input. -/
def urnSaysWrong : ChangeSpec := { name := "urnSays", fn := fun _ => fun
  | [d1, d2, d3] => { results := [.lit (.bool false)], args := [d1, d2, d3] }
  | _ => none }
def UrnSaysWrongFalsely : Prop := urnSaysRow.holds Try.pinned (OpenSpec.ofChange urnSaysWrong)

/-- 'castlaw.ShuffleSays': WHATEVER THE INPUT: true; the input reads as it did. -/
def shuffleSaysSpec : ChangeSpec := { name := "shuffleSays", fn := fun _ => fun
  | [d1, d2, d3, d4] => { results := [.lit (.bool true)], args := [d1, d2, d3, d4] }
  | _ => none }
def shuffleSaysRow : OpenClaim := { program := "ytdkmepeolmdccaa", sum := "e1c9eab2580f6a37a6765bbccdf03ef966ceb3f92ba02474f2253e0292f09a8f", func := "lotcaster/castlaw.ShuffleSays", spec := "shuffleSays", unfollowed := true, recurses := true, apart := false }
def ShuffleSaysSaid : Prop := shuffleSaysRow.holds Try.pinned (OpenSpec.ofChange shuffleSaysSpec)

/-- ITS FALSE NEIGHBOUR: 'it returns false'. Refute it at one input. -/
def shuffleSaysWrong : ChangeSpec := { name := "shuffleSays", fn := fun _ => fun
  | [d1, d2, d3, d4] => { results := [.lit (.bool false)], args := [d1, d2, d3, d4] }
  | _ => none }
def ShuffleSaysWrongFalsely : Prop := shuffleSaysRow.holds Try.pinned (OpenSpec.ofChange shuffleSaysWrong)

/-- 'castlaw.TableauSays': WHATEVER THE INPUT: true; the input reads as it did. -/
def tableauSaysSpec : ChangeSpec := { name := "tableauSays", fn := fun _ => fun
  | [d1, d2] => { results := [.lit (.bool true)], args := [d1, d2] }
  | _ => none }
def tableauSaysRow : OpenClaim := { program := "ytdkmepeolmdccaa", sum := "e1c9eab2580f6a37a6765bbccdf03ef966ceb3f92ba02474f2253e0292f09a8f", func := "lotcaster/castlaw.TableauSays", spec := "tableauSays", unfollowed := true, recurses := true, apart := false }
def TableauSaysSaid : Prop := tableauSaysRow.holds Try.pinned (OpenSpec.ofChange tableauSaysSpec)

/-- ITS FALSE NEIGHBOUR: 'it returns false'. Refute it at one input. -/
def tableauSaysWrong : ChangeSpec := { name := "tableauSays", fn := fun _ => fun
  | [d1, d2] => { results := [.lit (.bool false)], args := [d1, d2] }
  | _ => none }
def TableauSaysWrongFalsely : Prop := tableauSaysRow.holds Try.pinned (OpenSpec.ofChange tableauSaysWrong)

/-- 'castlaw.ChainSays': WHATEVER THE INPUT: true; the input reads as it did. -/
def chainSaysSpec : ChangeSpec := { name := "chainSays", fn := fun _ => fun
  | [d1, d2, d3] => { results := [.lit (.bool true)], args := [d1, d2, d3] }
  | _ => none }
def chainSaysRow : OpenClaim := { program := "ytdkmepeolmdccaa", sum := "e1c9eab2580f6a37a6765bbccdf03ef966ceb3f92ba02474f2253e0292f09a8f", func := "lotcaster/castlaw.ChainSays", spec := "chainSays", unfollowed := true, recurses := true, apart := false }
def ChainSaysSaid : Prop := chainSaysRow.holds Try.pinned (OpenSpec.ofChange chainSaysSpec)

/-- ITS FALSE NEIGHBOUR: 'it returns false'. Refute it at one input. -/
def chainSaysWrong : ChangeSpec := { name := "chainSays", fn := fun _ => fun
  | [d1, d2, d3] => { results := [.lit (.bool false)], args := [d1, d2, d3] }
  | _ => none }
def ChainSaysWrongFalsely : Prop := chainSaysRow.holds Try.pinned (OpenSpec.ofChange chainSaysWrong)

/-- 'castlaw.PoolSays': WHATEVER THE INPUT: true; the input reads as it did. -/
def poolSaysSpec : ChangeSpec := { name := "poolSays", fn := fun _ => fun
  | [d1, d2, d3] => { results := [.lit (.bool true)], args := [d1, d2, d3] }
  | _ => none }
def poolSaysRow : OpenClaim := { program := "ytdkmepeolmdccaa", sum := "e1c9eab2580f6a37a6765bbccdf03ef966ceb3f92ba02474f2253e0292f09a8f", func := "lotcaster/castlaw.PoolSays", spec := "poolSays", recurses := true, apart := false }
def PoolSaysSaid : Prop := poolSaysRow.holds Try.pinned (OpenSpec.ofChange poolSaysSpec)

/-- ITS FALSE NEIGHBOUR: 'it returns false'. Refute it at one input. -/
def poolSaysWrong : ChangeSpec := { name := "poolSays", fn := fun _ => fun
  | [d1, d2, d3] => { results := [.lit (.bool false)], args := [d1, d2, d3] }
  | _ => none }
def PoolSaysWrongFalsely : Prop := poolSaysRow.holds Try.pinned (OpenSpec.ofChange poolSaysWrong)

/- THE SECOND FORM. 'bulk': how many values and letters a reading holds, each counted each time it is reached (what is shared counts as often as it is met; a slice's spare places count too). A statement '..UptoSaid' is the law's where the arguments, and the package variables that the reading takes, are together of bulk at most 1048576: NARROWER than '..Said'. Prove '..Said' where nothing that the law and all that it calls make is longer than what came in: it says more and counts as full. Else prove '..UptoSaid'. A law counts once. -/
mutual
def uptoBulk {H : Type} : DataW H → Nat
  | .lit (.string bytes) => bytes.length + 1
  | .lit _ => 1
  | .nil => 1
  | .ptr d => uptoBulk d + 1
  | .slice elems spare => uptoBulkAll elems + uptoBulkAll spare + 1
  | .agg parts => uptoBulkAll parts + 1
  | .iface _ d => uptoBulk d + 1
  | .map entries => uptoBulkEntries entries + 1
  | .held _ => 1
def uptoBulkAll {H : Type} : List (DataW H) → Nat
  | [] => 0
  | d :: r => uptoBulk d + uptoBulkAll r
def uptoBulkEntries {H : Type} : List (Lit × DataW H) → Nat
  | [] => 0
  | x :: r => uptoBulkEntry x + uptoBulkEntries r
def uptoBulkEntry {H : Type} : Lit × DataW H → Nat
  | (.string bytes, d) => bytes.length + uptoBulk d + 1
  | (_, d) => uptoBulk d + 1
 end
def uptoSmall : (H : Type) → List (DataW H) → Bool := fun _ ds => decide (uptoBulkAll ds ≤ 1048576)
def OpenSpec.upto (s : _root_.Go.ChangeSpec) : _root_.Go.OpenSpec := { _root_.Go.OpenSpec.ofChange s with cond := some uptoSmall }

/-- 'castlaw.EventSays', WHERE WHAT IT READS IS OF BULK AT MOST 1048576: true; the input reads as it did. -/
def eventSaysUptoRow : OpenClaim := { program := "ytdkmepeolmdccaa", sum := "e1c9eab2580f6a37a6765bbccdf03ef966ceb3f92ba02474f2253e0292f09a8f", func := "lotcaster/castlaw.EventSays", spec := "eventSays", unfollowed := true, recurses := true, apart := false, narrowed := true }
def EventSaysUptoSaid : Prop := eventSaysUptoRow.holds Try.pinned (OpenSpec.upto eventSaysSpec)

/-- 'castlaw.LotterySays', WHERE WHAT IT READS IS OF BULK AT MOST 1048576: true; the input reads as it did. -/
def lotterySaysUptoRow : OpenClaim := { program := "ytdkmepeolmdccaa", sum := "e1c9eab2580f6a37a6765bbccdf03ef966ceb3f92ba02474f2253e0292f09a8f", func := "lotcaster/castlaw.LotterySays", spec := "lotterySays", unfollowed := true, recurses := true, apart := false, narrowed := true }
def LotterySaysUptoSaid : Prop := lotterySaysUptoRow.holds Try.pinned (OpenSpec.upto lotterySaysSpec)

/-- 'castlaw.BlocksSay', WHERE WHAT IT READS IS OF BULK AT MOST 1048576: true; the input reads as it did. -/
def blocksSayUptoRow : OpenClaim := { program := "ytdkmepeolmdccaa", sum := "e1c9eab2580f6a37a6765bbccdf03ef966ceb3f92ba02474f2253e0292f09a8f", func := "lotcaster/castlaw.BlocksSay", spec := "blocksSay", recurses := true, apart := false, narrowed := true }
def BlocksSayUptoSaid : Prop := blocksSayUptoRow.holds Try.pinned (OpenSpec.upto blocksSaySpec)

/-- 'castlaw.RuinSays', WHERE WHAT IT READS IS OF BULK AT MOST 1048576: true; the input reads as it did. -/
def ruinSaysUptoRow : OpenClaim := { program := "ytdkmepeolmdccaa", sum := "e1c9eab2580f6a37a6765bbccdf03ef966ceb3f92ba02474f2253e0292f09a8f", func := "lotcaster/castlaw.RuinSays", spec := "ruinSays", recurses := true, apart := false, narrowed := true }
def RuinSaysUptoSaid : Prop := ruinSaysUptoRow.holds Try.pinned (OpenSpec.upto ruinSaysSpec)

/-- 'castlaw.OddsSay', WHERE WHAT IT READS IS OF BULK AT MOST 1048576: true; the input reads as it did. -/
def oddsSayUptoRow : OpenClaim := { program := "ytdkmepeolmdccaa", sum := "e1c9eab2580f6a37a6765bbccdf03ef966ceb3f92ba02474f2253e0292f09a8f", func := "lotcaster/castlaw.OddsSay", spec := "oddsSay", unfollowed := true, recurses := true, apart := false, narrowed := true }
def OddsSayUptoSaid : Prop := oddsSayUptoRow.holds Try.pinned (OpenSpec.upto oddsSaySpec)

/-- 'castlaw.WarpSays', WHERE WHAT IT READS IS OF BULK AT MOST 1048576: true; the input reads as it did. -/
def warpSaysUptoRow : OpenClaim := { program := "ytdkmepeolmdccaa", sum := "e1c9eab2580f6a37a6765bbccdf03ef966ceb3f92ba02474f2253e0292f09a8f", func := "lotcaster/castlaw.WarpSays", spec := "warpSays", unfollowed := true, recurses := true, apart := false, narrowed := true }
def WarpSaysUptoSaid : Prop := warpSaysUptoRow.holds Try.pinned (OpenSpec.upto warpSaysSpec)

/-- 'castlaw.RankSays', WHERE WHAT IT READS IS OF BULK AT MOST 1048576: true; the input reads as it did. -/
def rankSaysUptoRow : OpenClaim := { program := "ytdkmepeolmdccaa", sum := "e1c9eab2580f6a37a6765bbccdf03ef966ceb3f92ba02474f2253e0292f09a8f", func := "lotcaster/castlaw.RankSays", spec := "rankSays", recurses := true, apart := false, narrowed := true }
def RankSaysUptoSaid : Prop := rankSaysUptoRow.holds Try.pinned (OpenSpec.upto rankSaysSpec)

/-- 'castlaw.UrnSays', WHERE WHAT IT READS IS OF BULK AT MOST 1048576: true; the input reads as it did. -/
def urnSaysUptoRow : OpenClaim := { program := "ytdkmepeolmdccaa", sum := "e1c9eab2580f6a37a6765bbccdf03ef966ceb3f92ba02474f2253e0292f09a8f", func := "lotcaster/castlaw.UrnSays", spec := "urnSays", unfollowed := true, recurses := true, apart := false, narrowed := true }
def UrnSaysUptoSaid : Prop := urnSaysUptoRow.holds Try.pinned (OpenSpec.upto urnSaysSpec)

/-- 'castlaw.ShuffleSays', WHERE WHAT IT READS IS OF BULK AT MOST 1048576: true; the input reads as it did. -/
def shuffleSaysUptoRow : OpenClaim := { program := "ytdkmepeolmdccaa", sum := "e1c9eab2580f6a37a6765bbccdf03ef966ceb3f92ba02474f2253e0292f09a8f", func := "lotcaster/castlaw.ShuffleSays", spec := "shuffleSays", unfollowed := true, recurses := true, apart := false, narrowed := true }
def ShuffleSaysUptoSaid : Prop := shuffleSaysUptoRow.holds Try.pinned (OpenSpec.upto shuffleSaysSpec)

/-- 'castlaw.TableauSays', WHERE WHAT IT READS IS OF BULK AT MOST 1048576: true; the input reads as it did. -/
def tableauSaysUptoRow : OpenClaim := { program := "ytdkmepeolmdccaa", sum := "e1c9eab2580f6a37a6765bbccdf03ef966ceb3f92ba02474f2253e0292f09a8f", func := "lotcaster/castlaw.TableauSays", spec := "tableauSays", unfollowed := true, recurses := true, apart := false, narrowed := true }
def TableauSaysUptoSaid : Prop := tableauSaysUptoRow.holds Try.pinned (OpenSpec.upto tableauSaysSpec)

/-- 'castlaw.ChainSays', WHERE WHAT IT READS IS OF BULK AT MOST 1048576: true; the input reads as it did. -/
def chainSaysUptoRow : OpenClaim := { program := "ytdkmepeolmdccaa", sum := "e1c9eab2580f6a37a6765bbccdf03ef966ceb3f92ba02474f2253e0292f09a8f", func := "lotcaster/castlaw.ChainSays", spec := "chainSays", unfollowed := true, recurses := true, apart := false, narrowed := true }
def ChainSaysUptoSaid : Prop := chainSaysUptoRow.holds Try.pinned (OpenSpec.upto chainSaysSpec)

/-- 'castlaw.PoolSays', WHERE WHAT IT READS IS OF BULK AT MOST 1048576: true; the input reads as it did. -/
def poolSaysUptoRow : OpenClaim := { program := "ytdkmepeolmdccaa", sum := "e1c9eab2580f6a37a6765bbccdf03ef966ceb3f92ba02474f2253e0292f09a8f", func := "lotcaster/castlaw.PoolSays", spec := "poolSays", recurses := true, apart := false, narrowed := true }
def PoolSaysUptoSaid : Prop := poolSaysUptoRow.holds Try.pinned (OpenSpec.upto poolSaysSpec)

end Rows
end Go.Proofs.Ytdkmepeolmdccaa
