/- A part of the proof of the statement: no conditions. -/
import Derived.Test.YtibaljifcbpmoaaGreatDoorCards
import Derived.KernelRfl
set_option linter.unusedSectionVars false
set_option linter.unusedVariables false
set_option linter.unusedSimpArgs false
namespace Go.Proofs.YtibaljifcbpmoaaGreatDoor
open Go
set_option maxRecDepth 100000
theorem a0S:false=Rows.sortsInstancesRow.goesBy Tryz.prog:=by kernel_rfl
end Go.Proofs.YtibaljifcbpmoaaGreatDoor

