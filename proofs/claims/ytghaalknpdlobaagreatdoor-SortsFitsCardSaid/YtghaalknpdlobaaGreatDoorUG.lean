/- A part of the proof that the card of SortsFits holds (Rows.SortsFitsCardSaid); no conditions. -/
import Derived.Test.YtghaalknpdlobaaGreatDoorUB
import Derived.JoinedOf
namespace Go.Proofs.YtghaalknpdlobaaGreatDoor
set_option linter.unusedSectionVars false
set_option linter.unusedVariables false
set_option linter.unusedSimpArgs false
open Go Go.Ev Go.Proofs Go.RowKit Go.ChangeShapes Go.WideShapes Go.ChangeAt
set_option maxRecDepth 100000

/-! Facts of SortsFits: the second. -/

theorem fj11 : ((Rows.sortsFitsRow.recurses == Tryz.prog.recurses 3)) = true := by kernel_rfl
theorem fj12 : ((Rows.sortsFitsRow.named == Tryz.prog.varsNamed 3)) = true := by kernel_rfl
end Go.Proofs.YtghaalknpdlobaaGreatDoor

