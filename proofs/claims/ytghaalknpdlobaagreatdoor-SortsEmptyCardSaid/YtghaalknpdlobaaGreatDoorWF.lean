/- A part of the proof of the statement: no conditions. -/
import Derived.Test.YtghaalknpdlobaaGreatDoorWB
import Derived.JoinedOf
set_option linter.unusedSectionVars false
set_option linter.unusedVariables false
set_option linter.unusedSimpArgs false
namespace Go.Proofs.YtghaalknpdlobaaGreatDoor
open Go Go.Ev Go.Proofs Go.RowKit Go.ChangeShapes Go.WideShapes Go.ChangeAt
set_option maxRecDepth 100000
theorem fj9:((Rows.sortsEmptyRow.inPlace == Tryz.prog.inPlace 6))=true:=by kernel_rfl
theorem fj10:((Rows.sortsEmptyRow.unfollowed == Tryz.prog.unfollowed 6))=true:=by kernel_rfl
end Go.Proofs.YtghaalknpdlobaaGreatDoor

