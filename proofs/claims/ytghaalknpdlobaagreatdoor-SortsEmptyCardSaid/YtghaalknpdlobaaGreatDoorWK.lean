/- A part of the proof of the statement: no conditions. -/
import Derived.Test.YtghaalknpdlobaaGreatDoorCards
import Derived.KernelRfl
set_option linter.unusedSectionVars false
set_option linter.unusedVariables false
set_option linter.unusedSimpArgs false
namespace Go.Proofs.YtghaalknpdlobaaGreatDoor
open Go
set_option maxRecDepth 100000
theorem main_is:Tryz.prog.mainIs=some (true,"2d1ae55195a7df24065590f9ed50c68d954a343600c95a8804882ad161a3fb95".toList):=by kernel_rfl
end Go.Proofs.YtghaalknpdlobaaGreatDoor

