/- A part of the proof of the statement: no conditions. -/
import Derived.Test.YtghaalknpdlobaaGreatDoorWD
import Derived.Test.YtghaalknpdlobaaGreatDoorWE
import Derived.Test.YtghaalknpdlobaaGreatDoorWF
import Derived.Test.YtghaalknpdlobaaGreatDoorWG
import Derived.JoinedOf
set_option linter.unusedSectionVars false
set_option linter.unusedVariables false
set_option linter.unusedSimpArgs false
namespace Go.Proofs.YtghaalknpdlobaaGreatDoor
open Go Go.Ev Go.Proofs Go.RowKit Go.ChangeShapes Go.WideShapes Go.ChangeAt
set_option maxRecDepth 100000
theorem fj0:(Rows.sortsEmptyRow.wf (OpenSpec.ofChange Rows.sortsEmptySpec))=true:=by kernel_rfl
theorem fj3:(Tryz.f6.params.all (Tryz.prog.readableRec ·))=true:=by kernel_rfl
theorem fj4:(namedTie Tryz.prog Rows.sortsEmptyRow.named Rows.sortsEmptySpec.vars)=true:=by kernel_rfl
theorem fj5:((Rows.sortsEmptyRow.stops == []))=true:=by kernel_rfl
theorem fj6:((Tryz.prog.stops == []))=true:=by kernel_rfl
theorem fj7:((Rows.sortsEmptyRow.knobs == []))=true:=by kernel_rfl
theorem fj8:((Tryz.prog.stopKnobs == []))=true:=by kernel_rfl
theorem fj13:((Rows.sortsEmptyRow.maps == (Tryz.f6.params.toList ++ Rows.sortsEmptySpec.plain.varTypes Tryz.prog).any (Tryz.prog.mapsRec ·)))=true:=by kernel_rfl
theorem fj14:((Rows.sortsEmptyRow.ifaces == (Tryz.f6.params.toList ++ Rows.sortsEmptySpec.plain.varTypes Tryz.prog).any (Tryz.prog.ifacesRec ·)))=true:=by kernel_rfl
theorem fj15:((Rows.sortsEmptyRow.mapsOut == Tryz.prog.mapsAmong Tryz.f6.resultTypes.toList))=true:=by kernel_rfl
theorem fj16:((Rows.sortsEmptyRow.loops == (Tryz.f6.params.toList ++ Rows.sortsEmptySpec.plain.varTypes Tryz.prog).any (Tryz.prog.loopsFrom ·)))=true:=by kernel_rfl
theorem fj17:((Rows.sortsEmptyRow.wideKeys == (Tryz.f6.params.toList ++ Rows.sortsEmptySpec.plain.varTypes Tryz.prog ++ Tryz.f6.resultTypes.toList).any (Tryz.prog.wideKeysFrom ·)))=true:=by kernel_rfl
theorem fj18:(Rows.sortsEmptySpec.vars.all (Tryz.prog.varReadable ·))=true:=by kernel_rfl
theorem fj19:(Tryz.f6.resultTypes.all (fun t=>Tryz.prog.readableRec t && decide (t < Tryz.prog.types.size)))=true:=by kernel_rfl
theorem fj20:((Rows.sortsEmptyRow.ifacesOut == Tryz.f6.resultTypes.toList.any (Tryz.prog.ifacesRec ·)))=true:=by kernel_rfl
theorem fj21:((Rows.sortsEmptyRow.loopsOut == Tryz.f6.resultTypes.toList.any (Tryz.prog.loopsFrom ·)))=true:=by kernel_rfl
theorem fj22:((Rows.sortsEmptyRow.plainKeys == Tryz.prog.plainKeys))=true:=by kernel_rfl
theorem fj23:(Rows.sortsEmptyRow.shortTexts.isNone)=true:=by kernel_rfl
theorem fj24:(Tryz.prog.stopsHeard)=true:=by kernel_rfl
theorem fj28:((Rows.sortsEmptyRow.kinds == (if Rows.sortsEmptyRow.domain.isEmpty then [] else Tryz.f6.params.toList.map fun t=>match Tryz.prog.underlying t with | some (.int k)=>some k | _=>none)))=true:=by kernel_rfl
theorem fj29:((Rows.sortsEmptyRow.pinned == Rows.sortsEmptyRow.pinnedBy))=true:=by kernel_rfl
theorem fj30:((Rows.sortsEmptyRow.veiled == (Tryz.f6.params.toList ++ Rows.sortsEmptySpec.plain.varTypes Tryz.prog ++ Tryz.f6.resultTypes.toList).any (Tryz.prog.veiledRec ·)))=true:=by kernel_rfl
theorem fj31:(Rows.sortsEmptyRow.veiledFits Tryz.prog Tryz.f6.params.toList (Tryz.f6.params.toList ++ Rows.sortsEmptySpec.plain.varTypes Tryz.prog ++ Tryz.f6.resultTypes.toList))=true:=by kernel_rfl
theorem andT {a b:Bool} (h:a=true) (k:b=true):(a && b)=true:=by rw [h,k]; rfl
theorem emp_joined:joinedFacts Tryz.prog 6 Tryz.f6 Rows.sortsEmptySpec Rows.sortsEmptyRow=true:=(andT (andT (andT (andT (andT (andT (andT (andT (andT (andT (andT (andT (andT (andT (andT (andT (andT (andT (andT (andT (andT (andT (andT (andT (andT (andT (andT (andT (andT (andT (andT fj0 laidOut) pj2) fj3) fj4) fj5) fj6) fj7) fj8) fj9) fj10) fj11) fj12) fj13) fj14) fj15) fj16) fj17) fj18) fj19) fj20) fj21) fj22) fj23) fj24) pj25) pj26) pj27) fj28) fj29) fj30) fj31)
end Go.Proofs.YtghaalknpdlobaaGreatDoor

