/- Towards castlaw.DeskSays, part 9: joined by a program of ours. -/
import Derived.Test.YtaphdnpjpmnaeadGreatDoorA8
set_option linter.unusedVariables false
set_option linter.unusedSimpArgs false
set_option linter.unusedSectionVars false
namespace Go.Proofs.YtaphdnpjpmnaeadGreatDoor.tbc
open Go.Am
def nthS (p:List Int) (i:Nat):Int:=(p[i]?).getD 0
def hk (L:List Int):Int:=match F40 60 (L.filter fun x=>decide (0 < x)) with
 | some r=>r.1
 | none=>0
def corner (L:List Int) (i:Nat):Bool:=decide (0 < nthS L i) && decide (nthS L (i + 1) < nthS L i)
def cornerS (L:List Int):Nat→Int
 | 0=>0
 | i + 1=>cornerS L i + if corner L i then hk (L.set i (nthS L i - 1)) else 0
def okS (L:List Int):Bool:=match F40 60 L with
 | some r=>r.2 == 0 && decide (0≤r.1) && decide (r.1≤479001600) && (L.isEmpty || cornerS L L.length == r.1)
 | none=>false
def allP:Nat→Nat→Nat→List Int→Bool
 | 0,_,_,_=>false
 | f + 1,left,most,pre=>okS pre && (List.range (min left most)).all fun x=>allP f (left - (x + 1)) (x + 1) (pre ++ [((x + 1:Nat):Int)])
theorem allP_ok:allP 14 12 12 [] = true:=by kernel_rfl
end Go.Proofs.YtaphdnpjpmnaeadGreatDoor.tbc
