/- A part of the proof of the statement: no conditions. -/
import Derived.Test.YtghaalknpdlobaaGreatDoorWB
import Derived.Lay
import Derived.LaidOnce
import Derived.SevenTiedAt
set_option linter.unusedSectionVars false
set_option linter.unusedVariables false
set_option linter.unusedSimpArgs false
namespace Go.Proofs.YtghaalknpdlobaaGreatDoor
open Go Go.Ev Go.Proofs Go.RowKit Go.ChangeShapes Go.WideShapes Go.ChangeAt
set_option maxRecDepth 100000
theorem own:ownKnob Tryz.prog.godebug=none:=by kernel_rfl
noncomputable def laidF:List (String×DataW Unit):=Rows.sortsEmptyRow.laid
theorem laid_plain:laidMetH Tryz.prog laidF=laidMet Tryz.prog laidF:=by
 funext W; exact MakeChecks.laidMetH_plain _ _ _ (by kernel_rfl)
noncomputable def empArgs:Array Value:=#[.slice none 0 0]
theorem emp_lays (os:Os):(World.holding Tryz.prog os ⟨#[],#[],[]⟩).layFits Tryz.prog laidF []=true:=by kernel_rfl
theorem emp_ifs (os:Os):(World.holding Tryz.prog os ⟨#[],#[],[]⟩).layIfaces Tryz.prog laidF (World.laidAll Tryz.prog os laidF)=true:=by kernel_rfl
theorem f6q_named:Tryz.prog.funcNamed "riparian/riparianlaw11.SortsEmpty"=some 6:=by kernel_rfl
theorem f6q_at:Tryz.prog.funcs[6]?=some Tryz.f6:=by kernel_rfl
theorem looks0:false=Tryz.prog.looks []:=by kernel_rfl
theorem stand0:([22].all fun u=>!Tryz.prog.wantsStandIn u)=true:=by kernel_rfl
theorem inits6:Tryz.prog.inits.idxOf? 6=none:=by kernel_rfl
theorem sh1 (os:Os):((World.laidAll Tryz.prog os laidF).forCall (fun _ _=>0) ⟨#[],empArgs,[]⟩).variablesZipB Tryz.prog=true:=by kernel_rfl
theorem sh2 (os:Os):(((World.laidAll Tryz.prog os laidF).forCall (fun _ _=>0) ⟨#[],empArgs,[]⟩).heap.toList.drop Tryz.prog.globals.size).take ((begin Tryz.prog (fun _ _=>0) default).world.heap.size - Tryz.prog.globals.size) =
   (begin Tryz.prog (fun _ _=>0) default).world.heap.toList.drop Tryz.prog.globals.size:=by kernel_rfl
theorem ok3 (os:Os):Input.okWideB Tryz.checked.prog ((World.laidAll Tryz.prog os laidF).forCall (fun _ _=>0) ⟨#[],empArgs,[]⟩) 6 ⟨#[],empArgs,[]⟩=true:=by kernel_rfl
theorem pre3 (os:Os) {H:Type} (enc:TypeId×Value→H):Rows.sortsEmptySpec.preB enc Tryz.checked.prog Tryz.f6 [] false ((World.laidAll Tryz.prog os laidF).forCall (fun _ _=>0) ⟨#[],empArgs,[]⟩).memory empArgs 8=true:=by kernel_rfl
theorem size3 (os:Os) {H:Type} (enc:TypeId×Value→H):Rows.sortsEmptySpec.sizedB enc Tryz.checked.prog Tryz.f6 false ((World.laidAll Tryz.prog os laidF).forCall (fun _ _=>0) ⟨#[],empArgs,[]⟩).memory empArgs 8=true:=by kernel_rfl
end Go.Proofs.YtghaalknpdlobaaGreatDoor

