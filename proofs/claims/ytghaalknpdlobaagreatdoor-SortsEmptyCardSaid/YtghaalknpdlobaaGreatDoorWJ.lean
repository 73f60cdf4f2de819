/- A part of the proof of the statement: no conditions. -/
import Derived.Test.YtghaalknpdlobaaGreatDoorCards
import Derived.KernelRfl
set_option linter.unusedSectionVars false
set_option linter.unusedVariables false
set_option linter.unusedSimpArgs false
namespace Go.Proofs.YtghaalknpdlobaaGreatDoor
open Go
set_option maxRecDepth 100000
theorem emp_goes:false=Rows.sortsEmptyRow.goesBy Tryz.prog:=by kernel_rfl
end Go.Proofs.YtghaalknpdlobaaGreatDoor

