/- A part of the proof that the card of SortsFits holds (Rows.SortsFitsCardSaid); no conditions. -/
import Derived.Test.YtghaalknpdlobaaGreatDoorUB
import Derived.JoinedOf
namespace Go.Proofs.YtghaalknpdlobaaGreatDoor
set_option linter.unusedSectionVars false
set_option linter.unusedVariables false
set_option linter.unusedSimpArgs false
open Go Go.Ev Go.Proofs Go.RowKit Go.ChangeShapes Go.WideShapes Go.ChangeAt
set_option maxRecDepth 100000

/-! Facts of SortsFits: the first. -/

theorem fj9 : ((Rows.sortsFitsRow.inPlace == Tryz.prog.inPlace 3)) = true := by kernel_rfl
theorem fj10 : ((Rows.sortsFitsRow.unfollowed == Tryz.prog.unfollowed 3)) = true := by kernel_rfl
end Go.Proofs.YtghaalknpdlobaaGreatDoor

