/- A part of the proof of the statement: no conditions. -/
import Derived.Test.YtghaalknpdlobaaGreatDoorTryzSane
set_option linter.unusedSectionVars false
set_option linter.unusedVariables false
set_option linter.unusedSimpArgs false
namespace Go.Proofs.YtghaalknpdlobaaGreatDoor
open Go Go.Ev Go.Proofs
theorem piece5:((evCode 100000 E0 false (splitC 2 sane4).1 seam4.T seam4.s).all seam5.covers)=true:=by kernel_rfl
theorem piece6:((evCode 100000 E0 false (splitC 2 sane5).1 seam5.T seam5.s).all seam6.covers)=true:=by kernel_rfl
theorem piece7:((evCode 100000 E0 false sane6 seam6.T seam6.s).all (endsTrue 0))=true:=by kernel_rfl
end Go.Proofs.YtghaalknpdlobaaGreatDoor

