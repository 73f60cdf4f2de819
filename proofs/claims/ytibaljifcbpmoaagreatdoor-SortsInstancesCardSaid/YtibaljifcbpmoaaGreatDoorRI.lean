/- A part of the proof of the statement: no conditions. -/
import Derived.Test.YtibaljifcbpmoaaGreatDoorRC
import Derived.Test.YtibaljifcbpmoaaGreatDoorRH
import Derived.Test.YtibaljifcbpmoaaGreatDoorRJ
import Derived.Test.YtibaljifcbpmoaaGreatDoorRK
import Derived.Lay
import Derived.LaidOnce
import Derived.SevenTiedAt
set_option linter.unusedSectionVars false
set_option linter.unusedVariables false
set_option linter.unusedSimpArgs false
namespace Go.Proofs.YtibaljifcbpmoaaGreatDoor
open Go Go.Ev Go.Proofs Go.RowKit Go.ChangeShapes Go.WideShapes Go.ChangeAt
set_option maxRecDepth 100000
theorem W0K(os:Os)(started:os.Started)(H:Type)(enc:TypeId×Value→H):
  ReturnsInHanded {} Tryz.checked os 3 .any (fun w args=>(Rows.sortsInstancesSpec.pre enc Tryz.prog Tryz.f3 [] false w args∧laidMetH Tryz.prog J0g w)∧sizedMet enc Tryz.prog Tryz.f3 (OpenSpec.ofChange Rows.sortsInstancesSpec) false w args)
   (Rows.sortsInstancesSpec.post enc Tryz.prog Tryz.f3 false true false false):=by
 refine returnsInHanded_of_change_and (C:=Tryz.checked) (X:=fun w _=>laidMetH Tryz.prog J0g w) (fun _ _ _ hh h=>h.of_heap hh) own started e0M f3q_at
  (ChangeSpec.witness_shaped (enc:=enc) (C:=Tryz.checked) (os:=os) (X:=fun w _=>laidMetH Tryz.prog J0g w) false (World.laidAll Tryz.prog os J0g) G0d 8 (World.laidAll_os _ _ _)
   (World.shaped_of_ZipB (sh1 os) (sh2 os)) (ok3 os) (pre3 os enc) (g0a os enc)
   (by rw[X0c];exact laidMet_laidAll _ (a0T os) (d0C os))) ?_
 intro W base args ds gs before hval hW _ _ _ _
 exact S0r H enc W base args ds gs before hval hW
theorem a0O:Rows.SortsInstancesSaid:=
 OpenClaim.holds_of_wide 3 Tryz.f3 rfl rfl rfl rfl rfl rfl rfl ⟨rfl,rfl,rfl,rfl,rfl⟩ rfl rfl rfl rfl rfl f3q_named f3q_at W0V
  (of_decide_eq_true (by kernel_rfl)) (by unfold Func.isWrapper;first|(rw[if_pos (by decide+kernel)];kernel_rfl)|(rw[if_neg (by decide+kernel)];exact⟨rfl,rfl⟩))
  (fun os started H enc _=>W0K os started H enc)
theorem Z0W(f:FuncId)(fn:Func)(hf:Tryz.pinned.checked.prog.funcNamed "riparian/riparianlaw11.SortsInstances" =some f)(hfn:Tryz.pinned.checked.prog.funcs[f]?=some fn):
  false=Tryz.pinned.checked.prog.looks []∧∀(j:Nat) t,fn.params[j]?=some t→Tryz.pinned.checked.prog.wantsStandIn t=false:=by
 obtain rfl:f=3:=Option.some.inj (f3q_named.symm.trans hf) |>.symm
 obtain rfl:fn=Tryz.f3:=(Option.some.inj (f3q_at.symm.trans hfn)).symm
 refine⟨e0P,fun j t ht=>?_⟩
 have ht:(#[22,3,25,23]:Array TypeId)[j]?=some t:=ht
 have hm:t∈[22,3,25,23]:=by simpa using Array.mem_of_getElem? ht
 exact(show Tryz.prog.wantsStandIn t=false by simpa using List.all_eq_true.1 e0L t hm)
theorem f0C:Rows.sortsInstancesRow.wfByText (OpenSpec.ofChange Rows.sortsInstancesSpec)=true:=by kernel_rfl
theorem sortsInstances_card:Rows.SortsInstancesCardSaid:=
 Claim7.holds_tied_plain_at .later [] _ _ _ _ a0O (fun _ h=>by cases h) f0C (fun _ h=>by cases h) sortsInstances_row_tie rfl ⟨rfl,rfl⟩ d0U rfl Z0W a0S
end Go.Proofs.YtibaljifcbpmoaaGreatDoor

