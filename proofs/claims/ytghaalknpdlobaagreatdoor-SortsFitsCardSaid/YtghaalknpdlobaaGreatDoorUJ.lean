/- A part of the proof that the card of SortsFits holds (Rows.SortsFitsCardSaid); no conditions. -/
import Derived.Test.YtghaalknpdlobaaGreatDoorCards
import Derived.KernelRfl
namespace Go.Proofs.YtghaalknpdlobaaGreatDoor
set_option linter.unusedSectionVars false
set_option linter.unusedVariables false
set_option linter.unusedSimpArgs false
open Go
set_option maxRecDepth 100000

/-! SortsFits starts no goroutine. -/

theorem fits_goes : false = Rows.sortsFitsRow.goesBy Tryz.prog := by kernel_rfl
end Go.Proofs.YtghaalknpdlobaaGreatDoor

