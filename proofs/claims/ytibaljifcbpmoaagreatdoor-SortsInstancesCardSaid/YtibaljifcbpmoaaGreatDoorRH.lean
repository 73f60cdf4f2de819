/- A part of the proof of the statement: no conditions. -/
import Derived.Test.YtibaljifcbpmoaaGreatDoorRD
import Derived.Test.YtibaljifcbpmoaaGreatDoorRE
import Derived.Test.YtibaljifcbpmoaaGreatDoorRF
import Derived.Test.YtibaljifcbpmoaaGreatDoorRG
import Derived.JoinedOf
set_option linter.unusedSectionVars false
set_option linter.unusedVariables false
set_option linter.unusedSimpArgs false
namespace Go.Proofs.YtibaljifcbpmoaaGreatDoor
open Go Go.Ev Go.Proofs Go.RowKit Go.ChangeShapes Go.WideShapes Go.ChangeAt
set_option maxRecDepth 100000
theorem fj0:(Rows.sortsInstancesRow.wf (OpenSpec.ofChange Rows.sortsInstancesSpec))=true:=by kernel_rfl
theorem fj3:(Tryz.f3.params.all (Tryz.prog.readableRec ·))=true:=by kernel_rfl
theorem fj4:(namedTie Tryz.prog Rows.sortsInstancesRow.named Rows.sortsInstancesSpec.vars)=true:=by kernel_rfl
theorem fj5:((Rows.sortsInstancesRow.stops==[]))=true:=by kernel_rfl
theorem fj6:((Tryz.prog.stops==[]))=true:=by kernel_rfl
theorem fj7:((Rows.sortsInstancesRow.knobs==[]))=true:=by kernel_rfl
theorem fj8:((Tryz.prog.stopKnobs==[]))=true:=by kernel_rfl
theorem fj13:((Rows.sortsInstancesRow.maps==(Tryz.f3.params.toList++Rows.sortsInstancesSpec.plain.varTypes Tryz.prog).any (Tryz.prog.mapsRec ·)))=true:=by kernel_rfl
theorem fj14:((Rows.sortsInstancesRow.ifaces==(Tryz.f3.params.toList++Rows.sortsInstancesSpec.plain.varTypes Tryz.prog).any (Tryz.prog.ifacesRec ·)))=true:=by kernel_rfl
theorem fj15:((Rows.sortsInstancesRow.mapsOut==Tryz.prog.mapsAmong Tryz.f3.resultTypes.toList))=true:=by kernel_rfl
theorem fj16:((Rows.sortsInstancesRow.loops==(Tryz.f3.params.toList++Rows.sortsInstancesSpec.plain.varTypes Tryz.prog).any (Tryz.prog.loopsFrom ·)))=true:=by kernel_rfl
theorem fj17:((Rows.sortsInstancesRow.wideKeys==(Tryz.f3.params.toList++Rows.sortsInstancesSpec.plain.varTypes Tryz.prog++Tryz.f3.resultTypes.toList).any (Tryz.prog.wideKeysFrom ·)))=true:=by kernel_rfl
theorem fj18:(Rows.sortsInstancesSpec.vars.all (Tryz.prog.varReadable ·))=true:=by kernel_rfl
theorem fj19:(Tryz.f3.resultTypes.all (fun t=>Tryz.prog.readableRec t&&decide (t<Tryz.prog.types.size)))=true:=by kernel_rfl
theorem fj20:((Rows.sortsInstancesRow.ifacesOut==Tryz.f3.resultTypes.toList.any (Tryz.prog.ifacesRec ·)))=true:=by kernel_rfl
theorem fj21:((Rows.sortsInstancesRow.loopsOut==Tryz.f3.resultTypes.toList.any (Tryz.prog.loopsFrom ·)))=true:=by kernel_rfl
theorem fj22:((Rows.sortsInstancesRow.plainKeys==Tryz.prog.plainKeys))=true:=by kernel_rfl
theorem fj23:(Rows.sortsInstancesRow.shortTexts.isNone)=true:=by kernel_rfl
theorem fj24:(Tryz.prog.stopsHeard)=true:=by kernel_rfl
theorem fj28:((Rows.sortsInstancesRow.kinds==(if Rows.sortsInstancesRow.domain.isEmpty then[] else Tryz.f3.params.toList.map fun t=>match Tryz.prog.underlying t with |some (.int k)=>some k|_=>none)))=true:=by kernel_rfl
theorem fj29:((Rows.sortsInstancesRow.pinned==Rows.sortsInstancesRow.pinnedBy))=true:=by kernel_rfl
theorem fj30:((Rows.sortsInstancesRow.veiled==(Tryz.f3.params.toList++Rows.sortsInstancesSpec.plain.varTypes Tryz.prog++Tryz.f3.resultTypes.toList).any (Tryz.prog.veiledRec ·)))=true:=by kernel_rfl
theorem fj31:(Rows.sortsInstancesRow.veiledFits Tryz.prog Tryz.f3.params.toList (Tryz.f3.params.toList++Rows.sortsInstancesSpec.plain.varTypes Tryz.prog++Tryz.f3.resultTypes.toList))=true:=by kernel_rfl
theorem andT{a b:Bool}(h:a=true)(k:b=true):(a&&b)=true:=by rw[h,k];rfl
theorem W0V:joinedFacts Tryz.prog 3 Tryz.f3 Rows.sortsInstancesSpec Rows.sortsInstancesRow=true:=(andT (andT (andT (andT (andT (andT (andT (andT (andT (andT (andT (andT (andT (andT (andT (andT (andT (andT (andT (andT (andT (andT (andT (andT (andT (andT (andT (andT (andT (andT (andT fj0 M0u) pj2) fj3) fj4) fj5) fj6) fj7) fj8) fj9) fj10) fj11) fj12) fj13) fj14) fj15) fj16) fj17) fj18) fj19) fj20) fj21) fj22) fj23) fj24) pj25) pj26) pj27) fj28) fj29) fj30) fj31)
end Go.Proofs.YtibaljifcbpmoaaGreatDoor

