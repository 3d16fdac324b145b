/- What the rows' closed facts ask of the whole program, once. -/
import Derived.Test.YtaphdnpjpmnaeaaRows
import Derived.Test.YtaphdnpjpmnaeaaAmB
namespace Go.Proofs.Ytaphdnpjpmnaeaa.Facts
open Go.Am
set_option maxRecDepth 100000 in
theorem cut : CutHead Try.prog := cutHead_of String.toList_ofList (by kernel_rfl)
theorem laysLater : Try.prog.laysLater = false := by kernel_rfl
theorem bearsReflect : Try.prog.bearsReflect = false := by kernel_rfl
theorem doorFits : Try.prog.doorFits [] = true := by kernel_rfl
theorem mayEnter : Try.prog.mayEnter = true := mayEnter_of cut laysLater bearsReflect doorFits
theorem liftsFinal : Try.prog.liftsFinal = false := liftsFinal_of cut
theorem make : Try.prog.make = some .cut := make_of cut
theorem laid : laidOutB Try.prog = true := by kernel_rfl
theorem mapsRowed : mapsRowed Try.prog = true := by kernel_rfl
theorem stops : (Try.prog.stops == []) = true := by kernel_rfl
theorem stopKnobs : (Try.prog.stopKnobs == []) = true := by kernel_rfl
theorem stopsHeard : Try.prog.stopsHeard = true := by kernel_rfl
theorem own : ownKnob Try.prog.godebug = none := by kernel_rfl
end Go.Proofs.Ytaphdnpjpmnaeaa.Facts
