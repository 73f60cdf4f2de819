/- A part of the proof that the card of SortsFits holds (Rows.SortsFitsCardSaid); no conditions. -/
import Derived.Test.YtghaalknpdlobaaGreatDoorUB
import Derived.JoinedOf
namespace Go.Proofs.YtghaalknpdlobaaGreatDoor
set_option linter.unusedSectionVars false
set_option linter.unusedVariables false
set_option linter.unusedSimpArgs false
open Go Go.Ev Go.Proofs Go.RowKit Go.ChangeShapes Go.WideShapes Go.ChangeAt
set_option maxRecDepth 100000

/-! Facts of the program that each row asks for: the second. -/

theorem pj26 : ((Rows.sortsFitsRow.lifted == Tryz.prog.liftsFinal)) = true := by kernel_rfl
theorem pj27 : ((Tryz.prog.make == some Rows.sortsFitsRow.make)) = true := by kernel_rfl
end Go.Proofs.YtghaalknpdlobaaGreatDoor

