/-
  No cell of these rows narrows 'for every input' (looked for: loops, veiled, ifaces, maps, wideKeys, modest, calm, conditions, laid).
  DERIVED. THE GIVEN ROWS OF THIS SEAT. 34 by the template 'for every input the law returns true; each argument reads behind the call as it read before'; 0 by the template 'total and deterministic' (their statements: YtcjdiakgckhkdaaTotals.lean).
  GIVEN WITH THE SEED: the statements are not yours to turn. If you find one false, say at which input.
  Laid BY PROGRAM, IN A SANDBOX (cutbox-rows.mjs): the forced cells as the released guide's own fill.sh prints them over the translation c8151257a4c6ad6b… (all of the seat's roots in one cut). By AI agents, Wed Nov 11 2026. No macro, syntax, notation, axiom, sorry.
-/
import Derived.Test.YtcjdiakgckhkdaaChecked
import GoSem.Claim
import GoSem.ClaimJoined
import GoSem.ClaimMapViews
import Derived.JoinedTies
import Derived.KernelRfl
namespace Go.Proofs.Ytcjdiakgckhkdaa
/- THE CELL 'sum', in the pinned program and in every row, IS THE sha256 OF THE DUMP (.gsa) THAT YtcjdiakgckhkdaaProg.lean LOADS. Nothing in Lean hashes anything: it is a label: what it is worth is what the hold of that sum in a sandbox is worth. -/
noncomputable def Try.pinned : Pinned := { name := "ytcjdiakgckhkdaa", sum := "c8151257a4c6ad6b3938cdb90795055dfc437a90145e5fd53d07ce643503bbed", checked := Try.checked }
namespace Rows
def none {H : Type} : Left H := { results := [], args := [] }

/-- 'castlaw.Names': WHATEVER THE INPUT: true; the input reads as it did. -/
def namesSpec : ChangeSpec := { name := "names", fn := fun _ => fun
  | [] => { results := [.lit (.bool true)], args := [] }
  | _ => none }
def namesRow : OpenClaim := { program := "ytcjdiakgckhkdaa", sum := "c8151257a4c6ad6b3938cdb90795055dfc437a90145e5fd53d07ce643503bbed", func := "lotcaster/castlaw.Names", spec := "names", plainKeys := false, apart := false }
def NamesSaid : Prop := namesRow.holds Try.pinned (OpenSpec.ofChange namesSpec)

/-- ITS FALSE NEIGHBOUR: 'it returns false'. Refute it at one input. -/
def namesWrong : ChangeSpec := { name := "names", fn := fun _ => fun
  | [] => { results := [.lit (.bool false)], args := [] }
  | _ => none }
def NamesWrongFalsely : Prop := namesRow.holds Try.pinned (OpenSpec.ofChange namesWrong)

/-- 'castlaw.GraySays': WHATEVER THE INPUT: true; the input reads as it did. -/
def graySaysSpec : ChangeSpec := { name := "graySays", fn := fun _ => fun
  | [d1, d2] => { results := [.lit (.bool true)], args := [d1, d2] }
  | _ => none }
def graySaysRow : OpenClaim := { program := "ytcjdiakgckhkdaa", sum := "c8151257a4c6ad6b3938cdb90795055dfc437a90145e5fd53d07ce643503bbed", func := "lotcaster/castlaw.GraySays", spec := "graySays", plainKeys := false, apart := false }
def GraySaysSaid : Prop := graySaysRow.holds Try.pinned (OpenSpec.ofChange graySaysSpec)

/-- ITS FALSE NEIGHBOUR: 'it returns false'. Refute it at one input. -/
def graySaysWrong : ChangeSpec := { name := "graySays", fn := fun _ => fun
  | [d1, d2] => { results := [.lit (.bool false)], args := [d1, d2] }
  | _ => none }
def GraySaysWrongFalsely : Prop := graySaysRow.holds Try.pinned (OpenSpec.ofChange graySaysWrong)

/-- 'castlaw.TableauCounts': WHATEVER THE INPUT: true; the input reads as it did. -/
def tableauCountsSpec : ChangeSpec := { name := "tableauCounts", fn := fun _ => fun
  | [d] => { results := [.lit (.bool true)], args := [d] }
  | _ => none }
def tableauCountsRow : OpenClaim := { program := "ytcjdiakgckhkdaa", sum := "c8151257a4c6ad6b3938cdb90795055dfc437a90145e5fd53d07ce643503bbed", func := "lotcaster/castlaw.TableauCounts", spec := "tableauCounts", recurses := true, plainKeys := false, apart := false }
def TableauCountsSaid : Prop := tableauCountsRow.holds Try.pinned (OpenSpec.ofChange tableauCountsSpec)

/-- ITS FALSE NEIGHBOUR: 'it returns false'. Refute it at one input. -/
def tableauCountsWrong : ChangeSpec := { name := "tableauCounts", fn := fun _ => fun
  | [d] => { results := [.lit (.bool false)], args := [d] }
  | _ => none }
def TableauCountsWrongFalsely : Prop := tableauCountsRow.holds Try.pinned (OpenSpec.ofChange tableauCountsWrong)

/-- 'castlaw.SumsPlay': WHATEVER THE INPUT: true; the input reads as it did. -/
def sumsPlaySpec : ChangeSpec := { name := "sumsPlay", fn := fun _ => fun
  | [d1, d2] => { results := [.lit (.bool true)], args := [d1, d2] }
  | _ => none }
def sumsPlayRow : OpenClaim := { program := "ytcjdiakgckhkdaa", sum := "c8151257a4c6ad6b3938cdb90795055dfc437a90145e5fd53d07ce643503bbed", func := "lotcaster/castlaw.SumsPlay", spec := "sumsPlay", plainKeys := false, apart := false }
def SumsPlaySaid : Prop := sumsPlayRow.holds Try.pinned (OpenSpec.ofChange sumsPlaySpec)

/-- ITS FALSE NEIGHBOUR: 'it returns false'. Refute it at one input. -/
def sumsPlayWrong : ChangeSpec := { name := "sumsPlay", fn := fun _ => fun
  | [d1, d2] => { results := [.lit (.bool false)], args := [d1, d2] }
  | _ => none }
def SumsPlayWrongFalsely : Prop := sumsPlayRow.holds Try.pinned (OpenSpec.ofChange sumsPlayWrong)

/-- 'castlaw.SubsetSays': WHATEVER THE INPUT: true; the input reads as it did. -/
def subsetSaysSpec : ChangeSpec := { name := "subsetSays", fn := fun _ => fun
  | [d1, d2, d3, d4] => { results := [.lit (.bool true)], args := [d1, d2, d3, d4] }
  | _ => none }
def subsetSaysRow : OpenClaim := { program := "ytcjdiakgckhkdaa", sum := "c8151257a4c6ad6b3938cdb90795055dfc437a90145e5fd53d07ce643503bbed", func := "lotcaster/castlaw.SubsetSays", spec := "subsetSays", plainKeys := false, apart := false }
def SubsetSaysSaid : Prop := subsetSaysRow.holds Try.pinned (OpenSpec.ofChange subsetSaysSpec)

/-- ITS FALSE NEIGHBOUR: 'it returns false'. Refute it at one input. -/
def subsetSaysWrong : ChangeSpec := { name := "subsetSays", fn := fun _ => fun
  | [d1, d2, d3, d4] => { results := [.lit (.bool false)], args := [d1, d2, d3, d4] }
  | _ => none }
def SubsetSaysWrongFalsely : Prop := subsetSaysRow.holds Try.pinned (OpenSpec.ofChange subsetSaysWrong)

/-- 'castlaw.DerangeSays': WHATEVER THE INPUT: true; the input reads as it did. -/
def derangeSaysSpec : ChangeSpec := { name := "derangeSays", fn := fun _ => fun
  | [d1, d2, d3] => { results := [.lit (.bool true)], args := [d1, d2, d3] }
  | _ => none }
def derangeSaysRow : OpenClaim := { program := "ytcjdiakgckhkdaa", sum := "c8151257a4c6ad6b3938cdb90795055dfc437a90145e5fd53d07ce643503bbed", func := "lotcaster/castlaw.DerangeSays", spec := "derangeSays", recurses := true, plainKeys := false, apart := false }
def DerangeSaysSaid : Prop := derangeSaysRow.holds Try.pinned (OpenSpec.ofChange derangeSaysSpec)

/-- ITS FALSE NEIGHBOUR: 'it returns false'. Refute it at one input. -/
def derangeSaysWrong : ChangeSpec := { name := "derangeSays", fn := fun _ => fun
  | [d1, d2, d3] => { results := [.lit (.bool false)], args := [d1, d2, d3] }
  | _ => none }
def DerangeSaysWrongFalsely : Prop := derangeSaysRow.holds Try.pinned (OpenSpec.ofChange derangeSaysWrong)

/-- 'castlaw.RatioSays': WHATEVER THE INPUT: true; the input reads as it did. -/
def ratioSaysSpec : ChangeSpec := { name := "ratioSays", fn := fun _ => fun
  | [d1, d2, d3, d4] => { results := [.lit (.bool true)], args := [d1, d2, d3, d4] }
  | _ => none }
def ratioSaysRow : OpenClaim := { program := "ytcjdiakgckhkdaa", sum := "c8151257a4c6ad6b3938cdb90795055dfc437a90145e5fd53d07ce643503bbed", func := "lotcaster/castlaw.RatioSays", spec := "ratioSays", recurses := true, plainKeys := false, apart := false }
def RatioSaysSaid : Prop := ratioSaysRow.holds Try.pinned (OpenSpec.ofChange ratioSaysSpec)

/-- ITS FALSE NEIGHBOUR: 'it returns false'. Refute it at one input. -/
def ratioSaysWrong : ChangeSpec := { name := "ratioSays", fn := fun _ => fun
  | [d1, d2, d3, d4] => { results := [.lit (.bool false)], args := [d1, d2, d3, d4] }
  | _ => none }
def RatioSaysWrongFalsely : Prop := ratioSaysRow.holds Try.pinned (OpenSpec.ofChange ratioSaysWrong)

/-- 'castlaw.RisesSay': WHATEVER THE INPUT: true; the input reads as it did. -/
def risesSaySpec : ChangeSpec := { name := "risesSay", fn := fun _ => fun
  | [d1, d2, d3] => { results := [.lit (.bool true)], args := [d1, d2, d3] }
  | _ => none }
def risesSayRow : OpenClaim := { program := "ytcjdiakgckhkdaa", sum := "c8151257a4c6ad6b3938cdb90795055dfc437a90145e5fd53d07ce643503bbed", func := "lotcaster/castlaw.RisesSay", spec := "risesSay", plainKeys := false, apart := false }
def RisesSaySaid : Prop := risesSayRow.holds Try.pinned (OpenSpec.ofChange risesSaySpec)

/-- ITS FALSE NEIGHBOUR: 'it returns false'. Refute it at one input. -/
def risesSayWrong : ChangeSpec := { name := "risesSay", fn := fun _ => fun
  | [d1, d2, d3] => { results := [.lit (.bool false)], args := [d1, d2, d3] }
  | _ => none }
def RisesSayWrongFalsely : Prop := risesSayRow.holds Try.pinned (OpenSpec.ofChange risesSayWrong)

/-- 'castlaw.LinesSay': WHATEVER THE INPUT: true; the input reads as it did. -/
def linesSaySpec : ChangeSpec := { name := "linesSay", fn := fun _ => fun
  | [d] => { results := [.lit (.bool true)], args := [d] }
  | _ => none }
def linesSayRow : OpenClaim := { program := "ytcjdiakgckhkdaa", sum := "c8151257a4c6ad6b3938cdb90795055dfc437a90145e5fd53d07ce643503bbed", func := "lotcaster/castlaw.LinesSay", spec := "linesSay", unfollowed := true, recurses := true, plainKeys := false, apart := false }
def LinesSaySaid : Prop := linesSayRow.holds Try.pinned (OpenSpec.ofChange linesSaySpec)

/-- ITS FALSE NEIGHBOUR: 'it returns false'. Refute it at one input. -/
def linesSayWrong : ChangeSpec := { name := "linesSay", fn := fun _ => fun
  | [d] => { results := [.lit (.bool false)], args := [d] }
  | _ => none }
def LinesSayWrongFalsely : Prop := linesSayRow.holds Try.pinned (OpenSpec.ofChange linesSayWrong)

/-- 'casttop.TopChain': WHATEVER THE INPUT: true; the input reads as it did. -/
def topChainSpec : ChangeSpec := { name := "topChain", fn := fun _ => fun
  | [d1, d2, d3] => { results := [.lit (.bool true)], args := [d1, d2, d3] }
  | _ => none }
def topChainRow : OpenClaim := { program := "ytcjdiakgckhkdaa", sum := "c8151257a4c6ad6b3938cdb90795055dfc437a90145e5fd53d07ce643503bbed", func := "lotcaster/casttop.TopChain", spec := "topChain", unfollowed := true, recurses := true, plainKeys := false, apart := false }
def TopChainSaid : Prop := topChainRow.holds Try.pinned (OpenSpec.ofChange topChainSpec)

/-- ITS FALSE NEIGHBOUR: 'it returns false'. Refute it at one input. -/
def topChainWrong : ChangeSpec := { name := "topChain", fn := fun _ => fun
  | [d1, d2, d3] => { results := [.lit (.bool false)], args := [d1, d2, d3] }
  | _ => none }
def TopChainWrongFalsely : Prop := topChainRow.holds Try.pinned (OpenSpec.ofChange topChainWrong)

/-- 'castlaw.StrideSays': WHATEVER THE INPUT: true; the input reads as it did. -/
def strideSaysSpec : ChangeSpec := { name := "strideSays", fn := fun _ => fun
  | [d1, d2, d3] => { results := [.lit (.bool true)], args := [d1, d2, d3] }
  | _ => none }
def strideSaysRow : OpenClaim := { program := "ytcjdiakgckhkdaa", sum := "c8151257a4c6ad6b3938cdb90795055dfc437a90145e5fd53d07ce643503bbed", func := "lotcaster/castlaw.StrideSays", spec := "strideSays", unfollowed := true, recurses := true, plainKeys := false, apart := false }
def StrideSaysSaid : Prop := strideSaysRow.holds Try.pinned (OpenSpec.ofChange strideSaysSpec)

/-- ITS FALSE NEIGHBOUR: 'it returns false'. Refute it at one input. -/
def strideSaysWrong : ChangeSpec := { name := "strideSays", fn := fun _ => fun
  | [d1, d2, d3] => { results := [.lit (.bool false)], args := [d1, d2, d3] }
  | _ => none }
def StrideSaysWrongFalsely : Prop := strideSaysRow.holds Try.pinned (OpenSpec.ofChange strideSaysWrong)

/-- 'castlaw.TapeSays': WHATEVER THE INPUT: true; the input reads as it did. -/
def tapeSaysSpec : ChangeSpec := { name := "tapeSays", fn := fun _ => fun
  | [d1, d2, d3] => { results := [.lit (.bool true)], args := [d1, d2, d3] }
  | _ => none }
def tapeSaysRow : OpenClaim := { program := "ytcjdiakgckhkdaa", sum := "c8151257a4c6ad6b3938cdb90795055dfc437a90145e5fd53d07ce643503bbed", func := "lotcaster/castlaw.TapeSays", spec := "tapeSays", unfollowed := true, recurses := true, plainKeys := false, apart := false }
def TapeSaysSaid : Prop := tapeSaysRow.holds Try.pinned (OpenSpec.ofChange tapeSaysSpec)

/-- ITS FALSE NEIGHBOUR: 'it returns false'. Refute it at one input. -/
def tapeSaysWrong : ChangeSpec := { name := "tapeSays", fn := fun _ => fun
  | [d1, d2, d3] => { results := [.lit (.bool false)], args := [d1, d2, d3] }
  | _ => none }
def TapeSaysWrongFalsely : Prop := tapeSaysRow.holds Try.pinned (OpenSpec.ofChange tapeSaysWrong)

/-- 'castlaw.AliasSays': WHATEVER THE INPUT: true; the input reads as it did. -/
def aliasSaysSpec : ChangeSpec := { name := "aliasSays", fn := fun _ => fun
  | [d1, d2, d3, d4] => { results := [.lit (.bool true)], args := [d1, d2, d3, d4] }
  | _ => none }
def aliasSaysRow : OpenClaim := { program := "ytcjdiakgckhkdaa", sum := "c8151257a4c6ad6b3938cdb90795055dfc437a90145e5fd53d07ce643503bbed", func := "lotcaster/castlaw.AliasSays", spec := "aliasSays", plainKeys := false, apart := false }
def AliasSaysSaid : Prop := aliasSaysRow.holds Try.pinned (OpenSpec.ofChange aliasSaysSpec)

/-- ITS FALSE NEIGHBOUR: 'it returns false'. Refute it at one input. -/
def aliasSaysWrong : ChangeSpec := { name := "aliasSays", fn := fun _ => fun
  | [d1, d2, d3, d4] => { results := [.lit (.bool false)], args := [d1, d2, d3, d4] }
  | _ => none }
def AliasSaysWrongFalsely : Prop := aliasSaysRow.holds Try.pinned (OpenSpec.ofChange aliasSaysWrong)

/-- 'casttop.TopCounts': WHATEVER THE INPUT: true; the input reads as it did. -/
def topCountsSpec : ChangeSpec := { name := "topCounts", fn := fun _ => fun
  | [d] => { results := [.lit (.bool true)], args := [d] }
  | _ => none }
def topCountsRow : OpenClaim := { program := "ytcjdiakgckhkdaa", sum := "c8151257a4c6ad6b3938cdb90795055dfc437a90145e5fd53d07ce643503bbed", func := "lotcaster/casttop.TopCounts", spec := "topCounts", unfollowed := true, recurses := true, plainKeys := false, apart := false }
def TopCountsSaid : Prop := topCountsRow.holds Try.pinned (OpenSpec.ofChange topCountsSpec)

/-- ITS FALSE NEIGHBOUR: 'it returns false'. Refute it at one input. -/
def topCountsWrong : ChangeSpec := { name := "topCounts", fn := fun _ => fun
  | [d] => { results := [.lit (.bool false)], args := [d] }
  | _ => none }
def TopCountsWrongFalsely : Prop := topCountsRow.holds Try.pinned (OpenSpec.ofChange topCountsWrong)

/-- 'castlaw.NestsSay': WHATEVER THE INPUT: true; the input reads as it did. -/
def nestsSaySpec : ChangeSpec := { name := "nestsSay", fn := fun _ => fun
  | [d1, d2, d3, d4, d5] => { results := [.lit (.bool true)], args := [d1, d2, d3, d4, d5] }
  | _ => none }
def nestsSayRow : OpenClaim := { program := "ytcjdiakgckhkdaa", sum := "c8151257a4c6ad6b3938cdb90795055dfc437a90145e5fd53d07ce643503bbed", func := "lotcaster/castlaw.NestsSay", spec := "nestsSay", plainKeys := false, apart := false }
def NestsSaySaid : Prop := nestsSayRow.holds Try.pinned (OpenSpec.ofChange nestsSaySpec)

/-- ITS FALSE NEIGHBOUR: 'it returns false'. Refute it at one input. -/
def nestsSayWrong : ChangeSpec := { name := "nestsSay", fn := fun _ => fun
  | [d1, d2, d3, d4, d5] => { results := [.lit (.bool false)], args := [d1, d2, d3, d4, d5] }
  | _ => none }
def NestsSayWrongFalsely : Prop := nestsSayRow.holds Try.pinned (OpenSpec.ofChange nestsSayWrong)

/-- 'castlaw.EventSays': WHATEVER THE INPUT: true; the input reads as it did. -/
def eventSaysSpec : ChangeSpec := { name := "eventSays", fn := fun _ => fun
  | [d1, d2, d3, d4, d5] => { results := [.lit (.bool true)], args := [d1, d2, d3, d4, d5] }
  | _ => none }
def eventSaysRow : OpenClaim := { program := "ytcjdiakgckhkdaa", sum := "c8151257a4c6ad6b3938cdb90795055dfc437a90145e5fd53d07ce643503bbed", func := "lotcaster/castlaw.EventSays", spec := "eventSays", unfollowed := true, recurses := true, plainKeys := false, apart := false }
def EventSaysSaid : Prop := eventSaysRow.holds Try.pinned (OpenSpec.ofChange eventSaysSpec)

/-- ITS FALSE NEIGHBOUR: 'it returns false'. Refute it at one input. -/
def eventSaysWrong : ChangeSpec := { name := "eventSays", fn := fun _ => fun
  | [d1, d2, d3, d4, d5] => { results := [.lit (.bool false)], args := [d1, d2, d3, d4, d5] }
  | _ => none }
def EventSaysWrongFalsely : Prop := eventSaysRow.holds Try.pinned (OpenSpec.ofChange eventSaysWrong)

/-- 'castlaw.LotterySays': WHATEVER THE INPUT: true; the input reads as it did. -/
def lotterySaysSpec : ChangeSpec := { name := "lotterySays", fn := fun _ => fun
  | [d1, d2, d3, d4, d5, d6] => { results := [.lit (.bool true)], args := [d1, d2, d3, d4, d5, d6] }
  | _ => none }
def lotterySaysRow : OpenClaim := { program := "ytcjdiakgckhkdaa", sum := "c8151257a4c6ad6b3938cdb90795055dfc437a90145e5fd53d07ce643503bbed", func := "lotcaster/castlaw.LotterySays", spec := "lotterySays", unfollowed := true, recurses := true, plainKeys := false, apart := false }
def LotterySaysSaid : Prop := lotterySaysRow.holds Try.pinned (OpenSpec.ofChange lotterySaysSpec)

/-- ITS FALSE NEIGHBOUR: 'it returns false'. Refute it at one input. -/
def lotterySaysWrong : ChangeSpec := { name := "lotterySays", fn := fun _ => fun
  | [d1, d2, d3, d4, d5, d6] => { results := [.lit (.bool false)], args := [d1, d2, d3, d4, d5, d6] }
  | _ => none }
def LotterySaysWrongFalsely : Prop := lotterySaysRow.holds Try.pinned (OpenSpec.ofChange lotterySaysWrong)

/-- 'castlaw.BlocksSay': WHATEVER THE INPUT: true; the input reads as it did. -/
def blocksSaySpec : ChangeSpec := { name := "blocksSay", fn := fun _ => fun
  | [d1, d2, d3, d4] => { results := [.lit (.bool true)], args := [d1, d2, d3, d4] }
  | _ => none }
def blocksSayRow : OpenClaim := { program := "ytcjdiakgckhkdaa", sum := "c8151257a4c6ad6b3938cdb90795055dfc437a90145e5fd53d07ce643503bbed", func := "lotcaster/castlaw.BlocksSay", spec := "blocksSay", recurses := true, plainKeys := false, apart := false }
def BlocksSaySaid : Prop := blocksSayRow.holds Try.pinned (OpenSpec.ofChange blocksSaySpec)

/-- ITS FALSE NEIGHBOUR: 'it returns false'. Refute it at one input. -/
def blocksSayWrong : ChangeSpec := { name := "blocksSay", fn := fun _ => fun
  | [d1, d2, d3, d4] => { results := [.lit (.bool false)], args := [d1, d2, d3, d4] }
  | _ => none }
def BlocksSayWrongFalsely : Prop := blocksSayRow.holds Try.pinned (OpenSpec.ofChange blocksSayWrong)

/-- 'casttop.TopFew': WHATEVER THE INPUT: true; the input reads as it did. -/
def topFewSpec : ChangeSpec := { name := "topFew", fn := fun _ => fun
  | [d] => { results := [.lit (.bool true)], args := [d] }
  | _ => none }
def topFewRow : OpenClaim := { program := "ytcjdiakgckhkdaa", sum := "c8151257a4c6ad6b3938cdb90795055dfc437a90145e5fd53d07ce643503bbed", func := "lotcaster/casttop.TopFew", spec := "topFew", unfollowed := true, recurses := true, plainKeys := false, apart := false }
def TopFewSaid : Prop := topFewRow.holds Try.pinned (OpenSpec.ofChange topFewSpec)

/-- ITS FALSE NEIGHBOUR: 'it returns false'. Refute it at one input. -/
def topFewWrong : ChangeSpec := { name := "topFew", fn := fun _ => fun
  | [d] => { results := [.lit (.bool false)], args := [d] }
  | _ => none }
def TopFewWrongFalsely : Prop := topFewRow.holds Try.pinned (OpenSpec.ofChange topFewWrong)

/-- 'castlaw.RuinSays': WHATEVER THE INPUT: true; the input reads as it did. -/
def ruinSaysSpec : ChangeSpec := { name := "ruinSays", fn := fun _ => fun
  | [d1, d2, d3, d4] => { results := [.lit (.bool true)], args := [d1, d2, d3, d4] }
  | _ => none }
def ruinSaysRow : OpenClaim := { program := "ytcjdiakgckhkdaa", sum := "c8151257a4c6ad6b3938cdb90795055dfc437a90145e5fd53d07ce643503bbed", func := "lotcaster/castlaw.RuinSays", spec := "ruinSays", recurses := true, plainKeys := false, apart := false }
def RuinSaysSaid : Prop := ruinSaysRow.holds Try.pinned (OpenSpec.ofChange ruinSaysSpec)

/-- ITS FALSE NEIGHBOUR: 'it returns false'. Refute it at one input. -/
def ruinSaysWrong : ChangeSpec := { name := "ruinSays", fn := fun _ => fun
  | [d1, d2, d3, d4] => { results := [.lit (.bool false)], args := [d1, d2, d3, d4] }
  | _ => none }
def RuinSaysWrongFalsely : Prop := ruinSaysRow.holds Try.pinned (OpenSpec.ofChange ruinSaysWrong)

/-- 'castlaw.OddsSay': WHATEVER THE INPUT: true; the input reads as it did. -/
def oddsSaySpec : ChangeSpec := { name := "oddsSay", fn := fun _ => fun
  | [d1, d2, d3] => { results := [.lit (.bool true)], args := [d1, d2, d3] }
  | _ => none }
def oddsSayRow : OpenClaim := { program := "ytcjdiakgckhkdaa", sum := "c8151257a4c6ad6b3938cdb90795055dfc437a90145e5fd53d07ce643503bbed", func := "lotcaster/castlaw.OddsSay", spec := "oddsSay", unfollowed := true, recurses := true, plainKeys := false, apart := false }
def OddsSaySaid : Prop := oddsSayRow.holds Try.pinned (OpenSpec.ofChange oddsSaySpec)

/-- ITS FALSE NEIGHBOUR: 'it returns false'. Refute it at one input. -/
def oddsSayWrong : ChangeSpec := { name := "oddsSay", fn := fun _ => fun
  | [d1, d2, d3] => { results := [.lit (.bool false)], args := [d1, d2, d3] }
  | _ => none }
def OddsSayWrongFalsely : Prop := oddsSayRow.holds Try.pinned (OpenSpec.ofChange oddsSayWrong)

/-- 'castlaw.WarpSays': WHATEVER THE INPUT: true; the input reads as it did. -/
def warpSaysSpec : ChangeSpec := { name := "warpSays", fn := fun _ => fun
  | [d1, d2, d3] => { results := [.lit (.bool true)], args := [d1, d2, d3] }
  | _ => none }
def warpSaysRow : OpenClaim := { program := "ytcjdiakgckhkdaa", sum := "c8151257a4c6ad6b3938cdb90795055dfc437a90145e5fd53d07ce643503bbed", func := "lotcaster/castlaw.WarpSays", spec := "warpSays", unfollowed := true, recurses := true, plainKeys := false, apart := false }
def WarpSaysSaid : Prop := warpSaysRow.holds Try.pinned (OpenSpec.ofChange warpSaysSpec)

/-- ITS FALSE NEIGHBOUR: 'it returns false'. Refute it at one input. -/
def warpSaysWrong : ChangeSpec := { name := "warpSays", fn := fun _ => fun
  | [d1, d2, d3] => { results := [.lit (.bool false)], args := [d1, d2, d3] }
  | _ => none }
def WarpSaysWrongFalsely : Prop := warpSaysRow.holds Try.pinned (OpenSpec.ofChange warpSaysWrong)

/-- 'castlaw.RankSays': WHATEVER THE INPUT: true; the input reads as it did. -/
def rankSaysSpec : ChangeSpec := { name := "rankSays", fn := fun _ => fun
  | [d1, d2, d3] => { results := [.lit (.bool true)], args := [d1, d2, d3] }
  | _ => none }
def rankSaysRow : OpenClaim := { program := "ytcjdiakgckhkdaa", sum := "c8151257a4c6ad6b3938cdb90795055dfc437a90145e5fd53d07ce643503bbed", func := "lotcaster/castlaw.RankSays", spec := "rankSays", recurses := true, plainKeys := false, apart := false }
def RankSaysSaid : Prop := rankSaysRow.holds Try.pinned (OpenSpec.ofChange rankSaysSpec)

/-- ITS FALSE NEIGHBOUR: 'it returns false'. Refute it at one input. -/
def rankSaysWrong : ChangeSpec := { name := "rankSays", fn := fun _ => fun
  | [d1, d2, d3] => { results := [.lit (.bool false)], args := [d1, d2, d3] }
  | _ => none }
def RankSaysWrongFalsely : Prop := rankSaysRow.holds Try.pinned (OpenSpec.ofChange rankSaysWrong)

/-- 'castlaw.UrnSays': WHATEVER THE INPUT: true; the input reads as it did. -/
def urnSaysSpec : ChangeSpec := { name := "urnSays", fn := fun _ => fun
  | [d1, d2, d3] => { results := [.lit (.bool true)], args := [d1, d2, d3] }
  | _ => none }
def urnSaysRow : OpenClaim := { program := "ytcjdiakgckhkdaa", sum := "c8151257a4c6ad6b3938cdb90795055dfc437a90145e5fd53d07ce643503bbed", func := "lotcaster/castlaw.UrnSays", spec := "urnSays", unfollowed := true, recurses := true, plainKeys := false, apart := false }
def UrnSaysSaid : Prop := urnSaysRow.holds Try.pinned (OpenSpec.ofChange urnSaysSpec)

/-- ITS FALSE NEIGHBOUR: 'it returns false'. Refute it at one input. -/
def urnSaysWrong : ChangeSpec := { name := "urnSays", fn := fun _ => fun
  | [d1, d2, d3] => { results := [.lit (.bool false)], args := [d1, d2, d3] }
  | _ => none }
def UrnSaysWrongFalsely : Prop := urnSaysRow.holds Try.pinned (OpenSpec.ofChange urnSaysWrong)

/-- 'castlaw.ShuffleSays': WHATEVER THE INPUT: true; the input reads as it did. -/
def shuffleSaysSpec : ChangeSpec := { name := "shuffleSays", fn := fun _ => fun
  | [d1, d2, d3, d4] => { results := [.lit (.bool true)], args := [d1, d2, d3, d4] }
  | _ => none }
def shuffleSaysRow : OpenClaim := { program := "ytcjdiakgckhkdaa", sum := "c8151257a4c6ad6b3938cdb90795055dfc437a90145e5fd53d07ce643503bbed", func := "lotcaster/castlaw.ShuffleSays", spec := "shuffleSays", unfollowed := true, recurses := true, plainKeys := false, apart := false }
def ShuffleSaysSaid : Prop := shuffleSaysRow.holds Try.pinned (OpenSpec.ofChange shuffleSaysSpec)

/-- ITS FALSE NEIGHBOUR: 'it returns false'. Refute it at one input. -/
def shuffleSaysWrong : ChangeSpec := { name := "shuffleSays", fn := fun _ => fun
  | [d1, d2, d3, d4] => { results := [.lit (.bool false)], args := [d1, d2, d3, d4] }
  | _ => none }
def ShuffleSaysWrongFalsely : Prop := shuffleSaysRow.holds Try.pinned (OpenSpec.ofChange shuffleSaysWrong)

/-- 'castlaw.TableauSays': WHATEVER THE INPUT: true; the input reads as it did. -/
def tableauSaysSpec : ChangeSpec := { name := "tableauSays", fn := fun _ => fun
  | [d1, d2] => { results := [.lit (.bool true)], args := [d1, d2] }
  | _ => none }
def tableauSaysRow : OpenClaim := { program := "ytcjdiakgckhkdaa", sum := "c8151257a4c6ad6b3938cdb90795055dfc437a90145e5fd53d07ce643503bbed", func := "lotcaster/castlaw.TableauSays", spec := "tableauSays", unfollowed := true, recurses := true, plainKeys := false, apart := false }
def TableauSaysSaid : Prop := tableauSaysRow.holds Try.pinned (OpenSpec.ofChange tableauSaysSpec)

/-- ITS FALSE NEIGHBOUR: 'it returns false'. Refute it at one input. -/
def tableauSaysWrong : ChangeSpec := { name := "tableauSays", fn := fun _ => fun
  | [d1, d2] => { results := [.lit (.bool false)], args := [d1, d2] }
  | _ => none }
def TableauSaysWrongFalsely : Prop := tableauSaysRow.holds Try.pinned (OpenSpec.ofChange tableauSaysWrong)

/-- 'castlaw.ChainSays': WHATEVER THE INPUT: true; the input reads as it did. -/
def chainSaysSpec : ChangeSpec := { name := "chainSays", fn := fun _ => fun
  | [d1, d2, d3] => { results := [.lit (.bool true)], args := [d1, d2, d3] }
  | _ => none }
def chainSaysRow : OpenClaim := { program := "ytcjdiakgckhkdaa", sum := "c8151257a4c6ad6b3938cdb90795055dfc437a90145e5fd53d07ce643503bbed", func := "lotcaster/castlaw.ChainSays", spec := "chainSays", unfollowed := true, recurses := true, plainKeys := false, apart := false }
def ChainSaysSaid : Prop := chainSaysRow.holds Try.pinned (OpenSpec.ofChange chainSaysSpec)

/-- ITS FALSE NEIGHBOUR: 'it returns false'. Refute it at one input. -/
def chainSaysWrong : ChangeSpec := { name := "chainSays", fn := fun _ => fun
  | [d1, d2, d3] => { results := [.lit (.bool false)], args := [d1, d2, d3] }
  | _ => none }
def ChainSaysWrongFalsely : Prop := chainSaysRow.holds Try.pinned (OpenSpec.ofChange chainSaysWrong)

/-- 'castlaw.PoolSays': WHATEVER THE INPUT: true; the input reads as it did. -/
def poolSaysSpec : ChangeSpec := { name := "poolSays", fn := fun _ => fun
  | [d1, d2, d3] => { results := [.lit (.bool true)], args := [d1, d2, d3] }
  | _ => none }
def poolSaysRow : OpenClaim := { program := "ytcjdiakgckhkdaa", sum := "c8151257a4c6ad6b3938cdb90795055dfc437a90145e5fd53d07ce643503bbed", func := "lotcaster/castlaw.PoolSays", spec := "poolSays", recurses := true, plainKeys := false, apart := false }
def PoolSaysSaid : Prop := poolSaysRow.holds Try.pinned (OpenSpec.ofChange poolSaysSpec)

/-- ITS FALSE NEIGHBOUR: 'it returns false'. Refute it at one input. -/
def poolSaysWrong : ChangeSpec := { name := "poolSays", fn := fun _ => fun
  | [d1, d2, d3] => { results := [.lit (.bool false)], args := [d1, d2, d3] }
  | _ => none }
def PoolSaysWrongFalsely : Prop := poolSaysRow.holds Try.pinned (OpenSpec.ofChange poolSaysWrong)

/-- 'castlaw.BottomSays': WHATEVER THE INPUT: true; the input reads as it did. -/
def bottomSaysSpec : ChangeSpec := { name := "bottomSays", fn := fun _ => fun
  | [d1, d2, d3, d4] => { results := [.lit (.bool true)], args := [d1, d2, d3, d4] }
  | _ => none }
def bottomSaysRow : OpenClaim := { program := "ytcjdiakgckhkdaa", sum := "c8151257a4c6ad6b3938cdb90795055dfc437a90145e5fd53d07ce643503bbed", func := "lotcaster/castlaw.BottomSays", spec := "bottomSays", unfollowed := true, recurses := true, plainKeys := false, apart := false }
def BottomSaysSaid : Prop := bottomSaysRow.holds Try.pinned (OpenSpec.ofChange bottomSaysSpec)

/-- ITS FALSE NEIGHBOUR: 'it returns false'. Refute it at one input. -/
def bottomSaysWrong : ChangeSpec := { name := "bottomSays", fn := fun _ => fun
  | [d1, d2, d3, d4] => { results := [.lit (.bool false)], args := [d1, d2, d3, d4] }
  | _ => none }
def BottomSaysWrongFalsely : Prop := bottomSaysRow.holds Try.pinned (OpenSpec.ofChange bottomSaysWrong)

/-- 'castlaw.PermSays': WHATEVER THE INPUT: true; the input reads as it did. -/
def permSaysSpec : ChangeSpec := { name := "permSays", fn := fun _ => fun
  | [d1, d2] => { results := [.lit (.bool true)], args := [d1, d2] }
  | _ => none }
def permSaysRow : OpenClaim := { program := "ytcjdiakgckhkdaa", sum := "c8151257a4c6ad6b3938cdb90795055dfc437a90145e5fd53d07ce643503bbed", func := "lotcaster/castlaw.PermSays", spec := "permSays", unfollowed := true, recurses := true, plainKeys := false, apart := false }
def PermSaysSaid : Prop := permSaysRow.holds Try.pinned (OpenSpec.ofChange permSaysSpec)

/-- ITS FALSE NEIGHBOUR: 'it returns false'. Refute it at one input. -/
def permSaysWrong : ChangeSpec := { name := "permSays", fn := fun _ => fun
  | [d1, d2] => { results := [.lit (.bool false)], args := [d1, d2] }
  | _ => none }
def PermSaysWrongFalsely : Prop := permSaysRow.holds Try.pinned (OpenSpec.ofChange permSaysWrong)

/-- 'castlaw.PartsSay': WHATEVER THE INPUT: true; the input reads as it did. -/
def partsSaySpec : ChangeSpec := { name := "partsSay", fn := fun _ => fun
  | [d1, d2, d3] => { results := [.lit (.bool true)], args := [d1, d2, d3] }
  | _ => none }
def partsSayRow : OpenClaim := { program := "ytcjdiakgckhkdaa", sum := "c8151257a4c6ad6b3938cdb90795055dfc437a90145e5fd53d07ce643503bbed", func := "lotcaster/castlaw.PartsSay", spec := "partsSay", unfollowed := true, recurses := true, plainKeys := false, apart := false }
def PartsSaySaid : Prop := partsSayRow.holds Try.pinned (OpenSpec.ofChange partsSaySpec)

/-- ITS FALSE NEIGHBOUR: 'it returns false'. Refute it at one input. -/
def partsSayWrong : ChangeSpec := { name := "partsSay", fn := fun _ => fun
  | [d1, d2, d3] => { results := [.lit (.bool false)], args := [d1, d2, d3] }
  | _ => none }
def PartsSayWrongFalsely : Prop := partsSayRow.holds Try.pinned (OpenSpec.ofChange partsSayWrong)

/-- 'castlaw.OrbitsSay': WHATEVER THE INPUT: true; the input reads as it did. -/
def orbitsSaySpec : ChangeSpec := { name := "orbitsSay", fn := fun _ => fun
  | [d1, d2, d3, d4] => { results := [.lit (.bool true)], args := [d1, d2, d3, d4] }
  | _ => none }
def orbitsSayRow : OpenClaim := { program := "ytcjdiakgckhkdaa", sum := "c8151257a4c6ad6b3938cdb90795055dfc437a90145e5fd53d07ce643503bbed", func := "lotcaster/castlaw.OrbitsSay", spec := "orbitsSay", unfollowed := true, recurses := true, plainKeys := false, apart := false }
def OrbitsSaySaid : Prop := orbitsSayRow.holds Try.pinned (OpenSpec.ofChange orbitsSaySpec)

/-- ITS FALSE NEIGHBOUR: 'it returns false'. Refute it at one input. -/
def orbitsSayWrong : ChangeSpec := { name := "orbitsSay", fn := fun _ => fun
  | [d1, d2, d3, d4] => { results := [.lit (.bool false)], args := [d1, d2, d3, d4] }
  | _ => none }
def OrbitsSayWrongFalsely : Prop := orbitsSayRow.holds Try.pinned (OpenSpec.ofChange orbitsSayWrong)

/-- 'casttop.TopDraw': WHATEVER THE INPUT: true; the input reads as it did. -/
def topDrawSpec : ChangeSpec := { name := "topDraw", fn := fun _ => fun
  | [d1, d2, d3] => { results := [.lit (.bool true)], args := [d1, d2, d3] }
  | _ => none }
def topDrawRow : OpenClaim := { program := "ytcjdiakgckhkdaa", sum := "c8151257a4c6ad6b3938cdb90795055dfc437a90145e5fd53d07ce643503bbed", func := "lotcaster/casttop.TopDraw", spec := "topDraw", unfollowed := true, recurses := true, plainKeys := false, apart := false }
def TopDrawSaid : Prop := topDrawRow.holds Try.pinned (OpenSpec.ofChange topDrawSpec)

/-- ITS FALSE NEIGHBOUR: 'it returns false'. Refute it at one input. -/
def topDrawWrong : ChangeSpec := { name := "topDraw", fn := fun _ => fun
  | [d1, d2, d3] => { results := [.lit (.bool false)], args := [d1, d2, d3] }
  | _ => none }
def TopDrawWrongFalsely : Prop := topDrawRow.holds Try.pinned (OpenSpec.ofChange topDrawWrong)

/-- 'casttop.TopPool': WHATEVER THE INPUT: true; the input reads as it did. -/
def topPoolSpec : ChangeSpec := { name := "topPool", fn := fun _ => fun
  | [d1, d2, d3] => { results := [.lit (.bool true)], args := [d1, d2, d3] }
  | _ => none }
def topPoolRow : OpenClaim := { program := "ytcjdiakgckhkdaa", sum := "c8151257a4c6ad6b3938cdb90795055dfc437a90145e5fd53d07ce643503bbed", func := "lotcaster/casttop.TopPool", spec := "topPool", unfollowed := true, recurses := true, plainKeys := false, apart := false }
def TopPoolSaid : Prop := topPoolRow.holds Try.pinned (OpenSpec.ofChange topPoolSpec)

/-- ITS FALSE NEIGHBOUR: 'it returns false'. Refute it at one input. -/
def topPoolWrong : ChangeSpec := { name := "topPool", fn := fun _ => fun
  | [d1, d2, d3] => { results := [.lit (.bool false)], args := [d1, d2, d3] }
  | _ => none }
def TopPoolWrongFalsely : Prop := topPoolRow.holds Try.pinned (OpenSpec.ofChange topPoolWrong)

/- THE SECOND FORM. 'bulk': how many values and letters a reading holds, each counted each time it is reached (what is shared counts as often as it is met; a slice's spare places count too). A statement '..UptoSaid' is the law's where the arguments, and the package variables that the reading takes, are together of bulk at most 1048576: NARROWER than '..Said'. Prove '..Said' where nothing that the law and all that it calls make is longer than what came in: it says more and counts as full. Else prove '..UptoSaid'. A law counts once. -/
mutual
def uptoBulk {H : Type} : DataW H → Nat
  | .lit (.string bytes) => bytes.length + 1
  | .lit _ => 1
  | .nil => 1
  | .ptr d => uptoBulk d + 1
  | .slice elems spare => uptoBulkAll elems + uptoBulkAll spare + 1
  | .agg parts => uptoBulkAll parts + 1
  | .iface _ d => uptoBulk d + 1
  | .map entries => uptoBulkEntries entries + 1
  | .held _ => 1
def uptoBulkAll {H : Type} : List (DataW H) → Nat
  | [] => 0
  | d :: r => uptoBulk d + uptoBulkAll r
def uptoBulkEntries {H : Type} : List (Lit × DataW H) → Nat
  | [] => 0
  | x :: r => uptoBulkEntry x + uptoBulkEntries r
def uptoBulkEntry {H : Type} : Lit × DataW H → Nat
  | (.string bytes, d) => bytes.length + uptoBulk d + 1
  | (_, d) => uptoBulk d + 1
 end
def uptoSmall : (H : Type) → List (DataW H) → Bool := fun _ ds => decide (uptoBulkAll ds ≤ 1048576)
def OpenSpec.upto (s : _root_.Go.ChangeSpec) : _root_.Go.OpenSpec := { _root_.Go.OpenSpec.ofChange s with cond := some uptoSmall }

/-- 'castlaw.Names', WHERE WHAT IT READS IS OF BULK AT MOST 1048576: true; the input reads as it did. -/
def namesUptoRow : OpenClaim := { program := "ytcjdiakgckhkdaa", sum := "c8151257a4c6ad6b3938cdb90795055dfc437a90145e5fd53d07ce643503bbed", func := "lotcaster/castlaw.Names", spec := "names", plainKeys := false, apart := false, narrowed := true }
def NamesUptoSaid : Prop := namesUptoRow.holds Try.pinned (OpenSpec.upto namesSpec)

/-- 'castlaw.GraySays', WHERE WHAT IT READS IS OF BULK AT MOST 1048576: true; the input reads as it did. -/
def graySaysUptoRow : OpenClaim := { program := "ytcjdiakgckhkdaa", sum := "c8151257a4c6ad6b3938cdb90795055dfc437a90145e5fd53d07ce643503bbed", func := "lotcaster/castlaw.GraySays", spec := "graySays", plainKeys := false, apart := false, narrowed := true }
def GraySaysUptoSaid : Prop := graySaysUptoRow.holds Try.pinned (OpenSpec.upto graySaysSpec)

/-- 'castlaw.TableauCounts', WHERE WHAT IT READS IS OF BULK AT MOST 1048576: true; the input reads as it did. -/
def tableauCountsUptoRow : OpenClaim := { program := "ytcjdiakgckhkdaa", sum := "c8151257a4c6ad6b3938cdb90795055dfc437a90145e5fd53d07ce643503bbed", func := "lotcaster/castlaw.TableauCounts", spec := "tableauCounts", recurses := true, plainKeys := false, apart := false, narrowed := true }
def TableauCountsUptoSaid : Prop := tableauCountsUptoRow.holds Try.pinned (OpenSpec.upto tableauCountsSpec)

/-- 'castlaw.SumsPlay', WHERE WHAT IT READS IS OF BULK AT MOST 1048576: true; the input reads as it did. -/
def sumsPlayUptoRow : OpenClaim := { program := "ytcjdiakgckhkdaa", sum := "c8151257a4c6ad6b3938cdb90795055dfc437a90145e5fd53d07ce643503bbed", func := "lotcaster/castlaw.SumsPlay", spec := "sumsPlay", plainKeys := false, apart := false, narrowed := true }
def SumsPlayUptoSaid : Prop := sumsPlayUptoRow.holds Try.pinned (OpenSpec.upto sumsPlaySpec)

/-- 'castlaw.SubsetSays', WHERE WHAT IT READS IS OF BULK AT MOST 1048576: true; the input reads as it did. -/
def subsetSaysUptoRow : OpenClaim := { program := "ytcjdiakgckhkdaa", sum := "c8151257a4c6ad6b3938cdb90795055dfc437a90145e5fd53d07ce643503bbed", func := "lotcaster/castlaw.SubsetSays", spec := "subsetSays", plainKeys := false, apart := false, narrowed := true }
def SubsetSaysUptoSaid : Prop := subsetSaysUptoRow.holds Try.pinned (OpenSpec.upto subsetSaysSpec)

/-- 'castlaw.DerangeSays', WHERE WHAT IT READS IS OF BULK AT MOST 1048576: true; the input reads as it did. -/
def derangeSaysUptoRow : OpenClaim := { program := "ytcjdiakgckhkdaa", sum := "c8151257a4c6ad6b3938cdb90795055dfc437a90145e5fd53d07ce643503bbed", func := "lotcaster/castlaw.DerangeSays", spec := "derangeSays", recurses := true, plainKeys := false, apart := false, narrowed := true }
def DerangeSaysUptoSaid : Prop := derangeSaysUptoRow.holds Try.pinned (OpenSpec.upto derangeSaysSpec)

/-- 'castlaw.RatioSays', WHERE WHAT IT READS IS OF BULK AT MOST 1048576: true; the input reads as it did. -/
def ratioSaysUptoRow : OpenClaim := { program := "ytcjdiakgckhkdaa", sum := "c8151257a4c6ad6b3938cdb90795055dfc437a90145e5fd53d07ce643503bbed", func := "lotcaster/castlaw.RatioSays", spec := "ratioSays", recurses := true, plainKeys := false, apart := false, narrowed := true }
def RatioSaysUptoSaid : Prop := ratioSaysUptoRow.holds Try.pinned (OpenSpec.upto ratioSaysSpec)

/-- 'castlaw.RisesSay', WHERE WHAT IT READS IS OF BULK AT MOST 1048576: true; the input reads as it did. -/
def risesSayUptoRow : OpenClaim := { program := "ytcjdiakgckhkdaa", sum := "c8151257a4c6ad6b3938cdb90795055dfc437a90145e5fd53d07ce643503bbed", func := "lotcaster/castlaw.RisesSay", spec := "risesSay", plainKeys := false, apart := false, narrowed := true }
def RisesSayUptoSaid : Prop := risesSayUptoRow.holds Try.pinned (OpenSpec.upto risesSaySpec)

/-- 'castlaw.LinesSay', WHERE WHAT IT READS IS OF BULK AT MOST 1048576: true; the input reads as it did. -/
def linesSayUptoRow : OpenClaim := { program := "ytcjdiakgckhkdaa", sum := "c8151257a4c6ad6b3938cdb90795055dfc437a90145e5fd53d07ce643503bbed", func := "lotcaster/castlaw.LinesSay", spec := "linesSay", unfollowed := true, recurses := true, plainKeys := false, apart := false, narrowed := true }
def LinesSayUptoSaid : Prop := linesSayUptoRow.holds Try.pinned (OpenSpec.upto linesSaySpec)

/-- 'casttop.TopChain', WHERE WHAT IT READS IS OF BULK AT MOST 1048576: true; the input reads as it did. -/
def topChainUptoRow : OpenClaim := { program := "ytcjdiakgckhkdaa", sum := "c8151257a4c6ad6b3938cdb90795055dfc437a90145e5fd53d07ce643503bbed", func := "lotcaster/casttop.TopChain", spec := "topChain", unfollowed := true, recurses := true, plainKeys := false, apart := false, narrowed := true }
def TopChainUptoSaid : Prop := topChainUptoRow.holds Try.pinned (OpenSpec.upto topChainSpec)

/-- 'castlaw.StrideSays', WHERE WHAT IT READS IS OF BULK AT MOST 1048576: true; the input reads as it did. -/
def strideSaysUptoRow : OpenClaim := { program := "ytcjdiakgckhkdaa", sum := "c8151257a4c6ad6b3938cdb90795055dfc437a90145e5fd53d07ce643503bbed", func := "lotcaster/castlaw.StrideSays", spec := "strideSays", unfollowed := true, recurses := true, plainKeys := false, apart := false, narrowed := true }
def StrideSaysUptoSaid : Prop := strideSaysUptoRow.holds Try.pinned (OpenSpec.upto strideSaysSpec)

/-- 'castlaw.TapeSays', WHERE WHAT IT READS IS OF BULK AT MOST 1048576: true; the input reads as it did. -/
def tapeSaysUptoRow : OpenClaim := { program := "ytcjdiakgckhkdaa", sum := "c8151257a4c6ad6b3938cdb90795055dfc437a90145e5fd53d07ce643503bbed", func := "lotcaster/castlaw.TapeSays", spec := "tapeSays", unfollowed := true, recurses := true, plainKeys := false, apart := false, narrowed := true }
def TapeSaysUptoSaid : Prop := tapeSaysUptoRow.holds Try.pinned (OpenSpec.upto tapeSaysSpec)

/-- 'castlaw.AliasSays', WHERE WHAT IT READS IS OF BULK AT MOST 1048576: true; the input reads as it did. -/
def aliasSaysUptoRow : OpenClaim := { program := "ytcjdiakgckhkdaa", sum := "c8151257a4c6ad6b3938cdb90795055dfc437a90145e5fd53d07ce643503bbed", func := "lotcaster/castlaw.AliasSays", spec := "aliasSays", plainKeys := false, apart := false, narrowed := true }
def AliasSaysUptoSaid : Prop := aliasSaysUptoRow.holds Try.pinned (OpenSpec.upto aliasSaysSpec)

/-- 'casttop.TopCounts', WHERE WHAT IT READS IS OF BULK AT MOST 1048576: true; the input reads as it did. -/
def topCountsUptoRow : OpenClaim := { program := "ytcjdiakgckhkdaa", sum := "c8151257a4c6ad6b3938cdb90795055dfc437a90145e5fd53d07ce643503bbed", func := "lotcaster/casttop.TopCounts", spec := "topCounts", unfollowed := true, recurses := true, plainKeys := false, apart := false, narrowed := true }
def TopCountsUptoSaid : Prop := topCountsUptoRow.holds Try.pinned (OpenSpec.upto topCountsSpec)

/-- 'castlaw.NestsSay', WHERE WHAT IT READS IS OF BULK AT MOST 1048576: true; the input reads as it did. -/
def nestsSayUptoRow : OpenClaim := { program := "ytcjdiakgckhkdaa", sum := "c8151257a4c6ad6b3938cdb90795055dfc437a90145e5fd53d07ce643503bbed", func := "lotcaster/castlaw.NestsSay", spec := "nestsSay", plainKeys := false, apart := false, narrowed := true }
def NestsSayUptoSaid : Prop := nestsSayUptoRow.holds Try.pinned (OpenSpec.upto nestsSaySpec)

/-- 'castlaw.EventSays', WHERE WHAT IT READS IS OF BULK AT MOST 1048576: true; the input reads as it did. -/
def eventSaysUptoRow : OpenClaim := { program := "ytcjdiakgckhkdaa", sum := "c8151257a4c6ad6b3938cdb90795055dfc437a90145e5fd53d07ce643503bbed", func := "lotcaster/castlaw.EventSays", spec := "eventSays", unfollowed := true, recurses := true, plainKeys := false, apart := false, narrowed := true }
def EventSaysUptoSaid : Prop := eventSaysUptoRow.holds Try.pinned (OpenSpec.upto eventSaysSpec)

/-- 'castlaw.LotterySays', WHERE WHAT IT READS IS OF BULK AT MOST 1048576: true; the input reads as it did. -/
def lotterySaysUptoRow : OpenClaim := { program := "ytcjdiakgckhkdaa", sum := "c8151257a4c6ad6b3938cdb90795055dfc437a90145e5fd53d07ce643503bbed", func := "lotcaster/castlaw.LotterySays", spec := "lotterySays", unfollowed := true, recurses := true, plainKeys := false, apart := false, narrowed := true }
def LotterySaysUptoSaid : Prop := lotterySaysUptoRow.holds Try.pinned (OpenSpec.upto lotterySaysSpec)

/-- 'castlaw.BlocksSay', WHERE WHAT IT READS IS OF BULK AT MOST 1048576: true; the input reads as it did. -/
def blocksSayUptoRow : OpenClaim := { program := "ytcjdiakgckhkdaa", sum := "c8151257a4c6ad6b3938cdb90795055dfc437a90145e5fd53d07ce643503bbed", func := "lotcaster/castlaw.BlocksSay", spec := "blocksSay", recurses := true, plainKeys := false, apart := false, narrowed := true }
def BlocksSayUptoSaid : Prop := blocksSayUptoRow.holds Try.pinned (OpenSpec.upto blocksSaySpec)

/-- 'casttop.TopFew', WHERE WHAT IT READS IS OF BULK AT MOST 1048576: true; the input reads as it did. -/
def topFewUptoRow : OpenClaim := { program := "ytcjdiakgckhkdaa", sum := "c8151257a4c6ad6b3938cdb90795055dfc437a90145e5fd53d07ce643503bbed", func := "lotcaster/casttop.TopFew", spec := "topFew", unfollowed := true, recurses := true, plainKeys := false, apart := false, narrowed := true }
def TopFewUptoSaid : Prop := topFewUptoRow.holds Try.pinned (OpenSpec.upto topFewSpec)

/-- 'castlaw.RuinSays', WHERE WHAT IT READS IS OF BULK AT MOST 1048576: true; the input reads as it did. -/
def ruinSaysUptoRow : OpenClaim := { program := "ytcjdiakgckhkdaa", sum := "c8151257a4c6ad6b3938cdb90795055dfc437a90145e5fd53d07ce643503bbed", func := "lotcaster/castlaw.RuinSays", spec := "ruinSays", recurses := true, plainKeys := false, apart := false, narrowed := true }
def RuinSaysUptoSaid : Prop := ruinSaysUptoRow.holds Try.pinned (OpenSpec.upto ruinSaysSpec)

/-- 'castlaw.OddsSay', WHERE WHAT IT READS IS OF BULK AT MOST 1048576: true; the input reads as it did. -/
def oddsSayUptoRow : OpenClaim := { program := "ytcjdiakgckhkdaa", sum := "c8151257a4c6ad6b3938cdb90795055dfc437a90145e5fd53d07ce643503bbed", func := "lotcaster/castlaw.OddsSay", spec := "oddsSay", unfollowed := true, recurses := true, plainKeys := false, apart := false, narrowed := true }
def OddsSayUptoSaid : Prop := oddsSayUptoRow.holds Try.pinned (OpenSpec.upto oddsSaySpec)

/-- 'castlaw.WarpSays', WHERE WHAT IT READS IS OF BULK AT MOST 1048576: true; the input reads as it did. -/
def warpSaysUptoRow : OpenClaim := { program := "ytcjdiakgckhkdaa", sum := "c8151257a4c6ad6b3938cdb90795055dfc437a90145e5fd53d07ce643503bbed", func := "lotcaster/castlaw.WarpSays", spec := "warpSays", unfollowed := true, recurses := true, plainKeys := false, apart := false, narrowed := true }
def WarpSaysUptoSaid : Prop := warpSaysUptoRow.holds Try.pinned (OpenSpec.upto warpSaysSpec)

/-- 'castlaw.RankSays', WHERE WHAT IT READS IS OF BULK AT MOST 1048576: true; the input reads as it did. -/
def rankSaysUptoRow : OpenClaim := { program := "ytcjdiakgckhkdaa", sum := "c8151257a4c6ad6b3938cdb90795055dfc437a90145e5fd53d07ce643503bbed", func := "lotcaster/castlaw.RankSays", spec := "rankSays", recurses := true, plainKeys := false, apart := false, narrowed := true }
def RankSaysUptoSaid : Prop := rankSaysUptoRow.holds Try.pinned (OpenSpec.upto rankSaysSpec)

/-- 'castlaw.UrnSays', WHERE WHAT IT READS IS OF BULK AT MOST 1048576: true; the input reads as it did. -/
def urnSaysUptoRow : OpenClaim := { program := "ytcjdiakgckhkdaa", sum := "c8151257a4c6ad6b3938cdb90795055dfc437a90145e5fd53d07ce643503bbed", func := "lotcaster/castlaw.UrnSays", spec := "urnSays", unfollowed := true, recurses := true, plainKeys := false, apart := false, narrowed := true }
def UrnSaysUptoSaid : Prop := urnSaysUptoRow.holds Try.pinned (OpenSpec.upto urnSaysSpec)

/-- 'castlaw.ShuffleSays', WHERE WHAT IT READS IS OF BULK AT MOST 1048576: true; the input reads as it did. -/
def shuffleSaysUptoRow : OpenClaim := { program := "ytcjdiakgckhkdaa", sum := "c8151257a4c6ad6b3938cdb90795055dfc437a90145e5fd53d07ce643503bbed", func := "lotcaster/castlaw.ShuffleSays", spec := "shuffleSays", unfollowed := true, recurses := true, plainKeys := false, apart := false, narrowed := true }
def ShuffleSaysUptoSaid : Prop := shuffleSaysUptoRow.holds Try.pinned (OpenSpec.upto shuffleSaysSpec)

/-- 'castlaw.TableauSays', WHERE WHAT IT READS IS OF BULK AT MOST 1048576: true; the input reads as it did. -/
def tableauSaysUptoRow : OpenClaim := { program := "ytcjdiakgckhkdaa", sum := "c8151257a4c6ad6b3938cdb90795055dfc437a90145e5fd53d07ce643503bbed", func := "lotcaster/castlaw.TableauSays", spec := "tableauSays", unfollowed := true, recurses := true, plainKeys := false, apart := false, narrowed := true }
def TableauSaysUptoSaid : Prop := tableauSaysUptoRow.holds Try.pinned (OpenSpec.upto tableauSaysSpec)

/-- 'castlaw.ChainSays', WHERE WHAT IT READS IS OF BULK AT MOST 1048576: true; the input reads as it did. -/
def chainSaysUptoRow : OpenClaim := { program := "ytcjdiakgckhkdaa", sum := "c8151257a4c6ad6b3938cdb90795055dfc437a90145e5fd53d07ce643503bbed", func := "lotcaster/castlaw.ChainSays", spec := "chainSays", unfollowed := true, recurses := true, plainKeys := false, apart := false, narrowed := true }
def ChainSaysUptoSaid : Prop := chainSaysUptoRow.holds Try.pinned (OpenSpec.upto chainSaysSpec)

/-- 'castlaw.PoolSays', WHERE WHAT IT READS IS OF BULK AT MOST 1048576: true; the input reads as it did. -/
def poolSaysUptoRow : OpenClaim := { program := "ytcjdiakgckhkdaa", sum := "c8151257a4c6ad6b3938cdb90795055dfc437a90145e5fd53d07ce643503bbed", func := "lotcaster/castlaw.PoolSays", spec := "poolSays", recurses := true, plainKeys := false, apart := false, narrowed := true }
def PoolSaysUptoSaid : Prop := poolSaysUptoRow.holds Try.pinned (OpenSpec.upto poolSaysSpec)

/-- 'castlaw.BottomSays', WHERE WHAT IT READS IS OF BULK AT MOST 1048576: true; the input reads as it did. -/
def bottomSaysUptoRow : OpenClaim := { program := "ytcjdiakgckhkdaa", sum := "c8151257a4c6ad6b3938cdb90795055dfc437a90145e5fd53d07ce643503bbed", func := "lotcaster/castlaw.BottomSays", spec := "bottomSays", unfollowed := true, recurses := true, plainKeys := false, apart := false, narrowed := true }
def BottomSaysUptoSaid : Prop := bottomSaysUptoRow.holds Try.pinned (OpenSpec.upto bottomSaysSpec)

/-- 'castlaw.PermSays', WHERE WHAT IT READS IS OF BULK AT MOST 1048576: true; the input reads as it did. -/
def permSaysUptoRow : OpenClaim := { program := "ytcjdiakgckhkdaa", sum := "c8151257a4c6ad6b3938cdb90795055dfc437a90145e5fd53d07ce643503bbed", func := "lotcaster/castlaw.PermSays", spec := "permSays", unfollowed := true, recurses := true, plainKeys := false, apart := false, narrowed := true }
def PermSaysUptoSaid : Prop := permSaysUptoRow.holds Try.pinned (OpenSpec.upto permSaysSpec)

/-- 'castlaw.PartsSay', WHERE WHAT IT READS IS OF BULK AT MOST 1048576: true; the input reads as it did. -/
def partsSayUptoRow : OpenClaim := { program := "ytcjdiakgckhkdaa", sum := "c8151257a4c6ad6b3938cdb90795055dfc437a90145e5fd53d07ce643503bbed", func := "lotcaster/castlaw.PartsSay", spec := "partsSay", unfollowed := true, recurses := true, plainKeys := false, apart := false, narrowed := true }
def PartsSayUptoSaid : Prop := partsSayUptoRow.holds Try.pinned (OpenSpec.upto partsSaySpec)

/-- 'castlaw.OrbitsSay', WHERE WHAT IT READS IS OF BULK AT MOST 1048576: true; the input reads as it did. -/
def orbitsSayUptoRow : OpenClaim := { program := "ytcjdiakgckhkdaa", sum := "c8151257a4c6ad6b3938cdb90795055dfc437a90145e5fd53d07ce643503bbed", func := "lotcaster/castlaw.OrbitsSay", spec := "orbitsSay", unfollowed := true, recurses := true, plainKeys := false, apart := false, narrowed := true }
def OrbitsSayUptoSaid : Prop := orbitsSayUptoRow.holds Try.pinned (OpenSpec.upto orbitsSaySpec)

/-- 'casttop.TopDraw', WHERE WHAT IT READS IS OF BULK AT MOST 1048576: true; the input reads as it did. -/
def topDrawUptoRow : OpenClaim := { program := "ytcjdiakgckhkdaa", sum := "c8151257a4c6ad6b3938cdb90795055dfc437a90145e5fd53d07ce643503bbed", func := "lotcaster/casttop.TopDraw", spec := "topDraw", unfollowed := true, recurses := true, plainKeys := false, apart := false, narrowed := true }
def TopDrawUptoSaid : Prop := topDrawUptoRow.holds Try.pinned (OpenSpec.upto topDrawSpec)

/-- 'casttop.TopPool', WHERE WHAT IT READS IS OF BULK AT MOST 1048576: true; the input reads as it did. -/
def topPoolUptoRow : OpenClaim := { program := "ytcjdiakgckhkdaa", sum := "c8151257a4c6ad6b3938cdb90795055dfc437a90145e5fd53d07ce643503bbed", func := "lotcaster/casttop.TopPool", spec := "topPool", unfollowed := true, recurses := true, plainKeys := false, apart := false, narrowed := true }
def TopPoolUptoSaid : Prop := topPoolUptoRow.holds Try.pinned (OpenSpec.upto topPoolSpec)

end Rows
end Go.Proofs.Ytcjdiakgckhkdaa
