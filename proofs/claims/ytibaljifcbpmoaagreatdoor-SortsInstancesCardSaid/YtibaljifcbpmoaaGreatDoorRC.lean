/- A part of the proof of the statement: no conditions. -/
import Derived.Test.YtibaljifcbpmoaaGreatDoorRB
import Derived.Lay
import Derived.LaidOnce
import Derived.SevenTiedAt
set_option linter.unusedSectionVars false
set_option linter.unusedVariables false
set_option linter.unusedSimpArgs false
namespace Go.Proofs.YtibaljifcbpmoaaGreatDoor
open Go Go.Ev Go.Proofs Go.RowKit Go.ChangeShapes Go.WideShapes Go.ChangeAt
set_option maxRecDepth 100000
theorem own:ownKnob Tryz.prog.godebug=none:=by kernel_rfl
noncomputable def J0g:List (String×DataW Unit):=Rows.sortsInstancesRow.laid
theorem X0c:laidMetH Tryz.prog J0g=laidMet Tryz.prog J0g:=by
 funext W;exact MakeChecks.laidMetH_plain _ _ _ (by kernel_rfl)
noncomputable def G0d:Array Value:=#[.slice none 0 0,.int .i64 0,.agg #[.int .i64 0,.int .i64 0,.string ⟨#[]⟩,.slice none 0 0],.slice none 0 0]
theorem a0T(os:Os):(World.holding Tryz.prog os ⟨#[],#[],[]⟩).layFits Tryz.prog J0g []=true:=by kernel_rfl
theorem d0C(os:Os):(World.holding Tryz.prog os ⟨#[],#[],[]⟩).layIfaces Tryz.prog J0g (World.laidAll Tryz.prog os J0g)=true:=by kernel_rfl
theorem f3q_named:Tryz.prog.funcNamed "riparian/riparianlaw11.SortsInstances" =some 3:=by kernel_rfl
theorem f3q_at:Tryz.prog.funcs[3]?=some Tryz.f3:=by kernel_rfl
theorem e0P:false=Tryz.prog.looks []:=by kernel_rfl
theorem e0L:([22,3,25,23].all fun u=>!Tryz.prog.wantsStandIn u)=true:=by kernel_rfl
theorem e0M:Tryz.prog.inits.idxOf? 3=none:=by kernel_rfl
theorem sh1(os:Os):((World.laidAll Tryz.prog os J0g).forCall (fun _ _=>0) ⟨#[],G0d,[]⟩).variablesZipB Tryz.prog=true:=by kernel_rfl
theorem sh2(os:Os):(((World.laidAll Tryz.prog os J0g).forCall (fun _ _=>0) ⟨#[],G0d,[]⟩).heap.toList.drop Tryz.prog.globals.size).take ((begin Tryz.prog (fun _ _=>0) default).world.heap.size-Tryz.prog.globals.size)=
   (begin Tryz.prog (fun _ _=>0) default).world.heap.toList.drop Tryz.prog.globals.size:=by kernel_rfl
theorem ok3(os:Os):Input.okWideB Tryz.checked.prog ((World.laidAll Tryz.prog os J0g).forCall (fun _ _=>0) ⟨#[],G0d,[]⟩) 3 ⟨#[],G0d,[]⟩=true:=by kernel_rfl
theorem pre3(os:Os){H:Type}(enc:TypeId×Value→H):Rows.sortsInstancesSpec.preB enc Tryz.checked.prog Tryz.f3 [] false ((World.laidAll Tryz.prog os J0g).forCall (fun _ _=>0) ⟨#[],G0d,[]⟩).memory G0d 8=true:=by kernel_rfl
theorem g0a(os:Os){H:Type}(enc:TypeId×Value→H):Rows.sortsInstancesSpec.sizedB enc Tryz.checked.prog Tryz.f3 false ((World.laidAll Tryz.prog os J0g).forCall (fun _ _=>0) ⟨#[],G0d,[]⟩).memory G0d 8=true:=by kernel_rfl
end Go.Proofs.YtibaljifcbpmoaaGreatDoor

