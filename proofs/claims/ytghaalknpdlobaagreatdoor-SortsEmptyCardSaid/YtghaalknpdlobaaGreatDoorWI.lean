/- A part of the proof of the statement: no conditions. -/
import Derived.Test.YtghaalknpdlobaaGreatDoorWC
import Derived.Test.YtghaalknpdlobaaGreatDoorWH
import Derived.Test.YtghaalknpdlobaaGreatDoorWJ
import Derived.Test.YtghaalknpdlobaaGreatDoorWK
import Derived.Lay
import Derived.LaidOnce
import Derived.SevenTiedAt
set_option linter.unusedSectionVars false
set_option linter.unusedVariables false
set_option linter.unusedSimpArgs false
namespace Go.Proofs.YtghaalknpdlobaaGreatDoor
open Go Go.Ev Go.Proofs Go.RowKit Go.ChangeShapes Go.WideShapes Go.ChangeAt
set_option maxRecDepth 100000
theorem emp_lifted (os:Os) (started:os.Started) (H:Type) (enc:TypeId×Value→H) :
  ReturnsInHanded {} Tryz.checked os 6 .any (fun w args=>(Rows.sortsEmptySpec.pre enc Tryz.prog Tryz.f6 [] false w args∧laidMetH Tryz.prog laidF w)∧sizedMet enc Tryz.prog Tryz.f6 (OpenSpec.ofChange Rows.sortsEmptySpec) false w args)
   (Rows.sortsEmptySpec.post enc Tryz.prog Tryz.f6 false true false false):=by
 refine returnsInHanded_of_change_and (C:=Tryz.checked) (X:=fun w _=>laidMetH Tryz.prog laidF w) (fun _ _ _ hh h=>h.of_heap hh) own started inits6 f6q_at
  (ChangeSpec.witness_shaped (enc:=enc) (C:=Tryz.checked) (os:=os) (X:=fun w _=>laidMetH Tryz.prog laidF w) false (World.laidAll Tryz.prog os laidF) empArgs 8 (World.laidAll_os _ _ _)
   (World.shaped_of_ZipB (sh1 os) (sh2 os)) (ok3 os) (pre3 os enc) (size3 os enc)
   (by rw [laid_plain]; exact laidMet_laidAll _ (emp_lays os) (emp_ifs os))) ?_
 intro W base args ds gs before hval hW _ _ _ _
 exact emp_contract H enc W base args ds gs before hval hW
theorem emp_said:Rows.SortsEmptySaid :=
 OpenClaim.holds_of_wide 6 Tryz.f6 rfl rfl rfl rfl rfl rfl rfl ⟨rfl,rfl,rfl,rfl,rfl⟩ rfl rfl rfl rfl rfl f6q_named f6q_at emp_joined
  (of_decide_eq_true (by kernel_rfl)) (by unfold Func.isWrapper; first | (rw [if_pos (by decide +kernel)]; kernel_rfl) | (rw [if_neg (by decide +kernel)]; exact ⟨rfl,rfl⟩))
  (fun os started H enc _=>emp_lifted os started H enc)
theorem emp_plain (f:FuncId) (fn:Func) (hf:Tryz.pinned.checked.prog.funcNamed "riparian/riparianlaw11.SortsEmpty"=some f) (hfn:Tryz.pinned.checked.prog.funcs[f]?=some fn) :
  false=Tryz.pinned.checked.prog.looks []∧∀ (j:Nat) t,fn.params[j]?=some t→Tryz.pinned.checked.prog.wantsStandIn t=false:=by
 obtain rfl:f=6:=Option.some.inj (f6q_named.symm.trans hf) |>.symm
 obtain rfl:fn=Tryz.f6:=(Option.some.inj (f6q_at.symm.trans hfn)).symm
 refine ⟨looks0,fun j t ht=>?_⟩
 have ht:(#[22]:Array TypeId)[j]?=some t:=ht
 have hm:t∈[22]:=by simpa using Array.mem_of_getElem? ht
 exact (show Tryz.prog.wantsStandIn t=false by simpa using List.all_eq_true.1 stand0 t hm)
theorem emp_wf:Rows.sortsEmptyRow.wfByText (OpenSpec.ofChange Rows.sortsEmptySpec)=true:=by kernel_rfl
theorem sortsEmpty_card:Rows.SortsEmptyCardSaid :=
 Claim7.holds_tied_plain_at .later [] _ _ _ _ emp_said (fun _ h=>by cases h) emp_wf (fun _ h=>by cases h) sortsEmpty_row_tie rfl ⟨rfl,rfl⟩ main_is rfl emp_plain emp_goes
end Go.Proofs.YtghaalknpdlobaaGreatDoor

