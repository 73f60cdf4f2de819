/- A part of the proof of the statement: no conditions. -/
import Derived.Test.YtibaljifcbpmoaaGreatDoorTryzSane
set_option linter.unusedSectionVars false
set_option linter.unusedVariables false
set_option linter.unusedSimpArgs false
namespace Go.Proofs.YtibaljifcbpmoaaGreatDoor
open Go Go.Ev Go.Proofs
theorem e0k:((A0v 100000 E0 false (C0E 2 d0o).1 seam4.T seam4.s).all seam5.covers)=true:=by kernel_rfl
theorem f0s:((A0v 100000 E0 false (C0E 2 d0d).1 seam5.T seam5.s).all seam6.covers)=true:=by kernel_rfl
theorem e0D:((A0v 100000 E0 false f0h seam6.T seam6.s).all (L0n 0))=true:=by kernel_rfl
end Go.Proofs.YtibaljifcbpmoaaGreatDoor

