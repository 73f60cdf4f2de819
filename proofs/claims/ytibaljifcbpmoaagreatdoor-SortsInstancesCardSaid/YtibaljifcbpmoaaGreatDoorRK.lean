/- A part of the proof of the statement: no conditions. -/
import Derived.Test.YtibaljifcbpmoaaGreatDoorCards
import Derived.KernelRfl
set_option linter.unusedSectionVars false
set_option linter.unusedVariables false
set_option linter.unusedSimpArgs false
namespace Go.Proofs.YtibaljifcbpmoaaGreatDoor
open Go
set_option maxRecDepth 100000
theorem d0U:Tryz.prog.mainIs=some (true,"cf934669549fce098b591e632c41bbd1cbc7f3e05380fd176aaeaa1b63ccccba".toList):=by kernel_rfl
end Go.Proofs.YtibaljifcbpmoaaGreatDoor

