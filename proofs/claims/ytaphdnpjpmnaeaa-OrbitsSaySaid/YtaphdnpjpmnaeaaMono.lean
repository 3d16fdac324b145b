/- More fuel, the same answer: printed by a program of ours (gen.py). -/
import Derived.Test.YtaphdnpjpmnaeaaDef
import Derived.Test.YtaphdnpjpmnaeaaPure
set_option linter.unusedVariables false
namespace Go.Proofs.Ytaphdnpjpmnaeaa
open Go.Am
theorem Le.compF {α : Type} {e e' : α → α → Option Bool} {L : List α} (h : ∀ x y, Le (e x y) (e' x y)) : Le (compF? e L) (compF? e' L) := ⟨fun _ hr => compF?_mono (fun x y _ hq => (h x y).up _ hq) hr⟩
end Go.Proofs.Ytaphdnpjpmnaeaa
