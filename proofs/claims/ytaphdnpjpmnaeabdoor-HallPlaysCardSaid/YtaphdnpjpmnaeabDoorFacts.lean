/- What the rows' closed facts ask of the whole program, once. -/
import Derived.Test.YtaphdnpjpmnaeabDoorRows
import Derived.Test.YtaphdnpjpmnaeabDoorAmB
namespace Go.Proofs.YtaphdnpjpmnaeabDoor.Facts
open Go.Am
set_option maxRecDepth 100000 in
theorem cut : CutHead Tryd.prog := cutHead_of String.toList_ofList (by kernel_rfl)
theorem laysLater : Tryd.prog.laysLater = false := by kernel_rfl
theorem bearsReflect : Tryd.prog.bearsReflect = false := by kernel_rfl
theorem doorFits : Tryd.prog.doorFits [] = true := by kernel_rfl
theorem mayEnter : Tryd.prog.mayEnter = true := mayEnter_of cut laysLater bearsReflect doorFits
theorem liftsFinal : Tryd.prog.liftsFinal = false := liftsFinal_of cut
theorem make : Tryd.prog.make = some .cut := make_of cut
theorem laid : laidOutB Tryd.prog = true := by kernel_rfl
theorem mapsRowed : mapsRowed Tryd.prog = true := by kernel_rfl
theorem stops : (Tryd.prog.stops == []) = true := by kernel_rfl
theorem stopKnobs : (Tryd.prog.stopKnobs == []) = true := by kernel_rfl
theorem stopsHeard : Tryd.prog.stopsHeard = true := by kernel_rfl
theorem own : ownKnob Tryd.prog.godebug = none := by kernel_rfl
end Go.Proofs.YtaphdnpjpmnaeabDoor.Facts
