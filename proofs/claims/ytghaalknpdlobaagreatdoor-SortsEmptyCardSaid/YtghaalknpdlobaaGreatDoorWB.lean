/- A part of the proof of the statement: no conditions. -/
import Derived.Test.YtghaalknpdlobaaGreatDoorPartF
import Derived.Test.YtghaalknpdlobaaGreatDoorPartG
import Derived.Test.YtghaalknpdlobaaGreatDoorCards
import Derived.Test.YtghaalknpdlobaaGreatDoorTie
import Derived.WalkKit
import Derived.ProofKit
import Derived.Deep.DeepHandedRow
import Derived.Deep.DeepWitnessRowRef
import Derived.Lib.LaidTab
set_option linter.unusedSectionVars false
set_option linter.unusedVariables false
set_option linter.unusedSimpArgs false
namespace Go.Proofs.YtghaalknpdlobaaGreatDoor
open Go Go.Ev Go.Proofs Go.RowKit Go.ChangeShapes Go.WideShapes Go.ChangeAt
set_option maxRecDepth 100000
theorem laidOut:laidOutB Tryz.prog=true:=by kernel_rfl
theorem emp_contract (H:Type) (enc:TypeId×Value→H) (W:World) (base:Nat) (args:Array Value) (ds gs:List (DataW H)) (before:List MemPlace)
  (hval:∀ (j:Nat) t v,Tryz.f6.params[j]?=some t→args[j]?=some v→Value.okWide Tryz.prog W .any base t v)
  (hW:DataW.Whole enc Tryz.prog Tryz.f6.params.toList Rows.sortsEmptySpec.vars false W args.toList ds gs before) :
  Calls Tryz.prog 6 args W fun e W'=>∃ v,e=.returned v∧Rows.sortsEmptySpec.post enc Tryz.prog Tryz.f6 false true false false W args v W':=by
 have hW':=hW
 obtain ⟨p,q,hA0,hV,rfl,hfz,hnd⟩:=hW
 have hA:DataW.TrodAll enc Tryz.prog W 0 (fun _=>true) true [22] args.toList ds p:=hA0
 have hval:∀ (j:Nat) t v,(#[22]:Array TypeId)[j]?=some t→args[j]?=some v→Value.okWide Tryz.prog W .any base t v:=hval
 obtain ⟨v0,vs0,d0,ds0,p0,q0,hargs,rfl,rfl,h0,r0⟩:=trodAll_cons hA
 obtain ⟨rfl,rfl,rfl⟩:=trodAll_nil r0
 obtain rfl:args=#[v0]:=by cases args; simp_all
 obtain ⟨rfl,rfl⟩:=trodVars_none hV
 clear hA0
 simp only [List.append_nil] at hW'
 obtain ⟨a0,len0,cap0,rfl⟩:=okWide_slice (e:=106) (by kernel_rfl) (hval 0 22 v0 rfl rfl)
 have k0:=h0
 obtain ⟨f0,g0⟩:=h0
 obtain ⟨v,g,e0,hv,hg⟩:=sorts_in g0
 obtain rfl:Value.slice a0 len0 cap0=v:=by simpa [Value.cells] using e0
 have hargsR:VRels (Gam.all W) (Pts.vals [.d Cd.sort] ((g,()):List Srt×Unit)) [Value.slice a0 len0 cap0]:=.cons (Γ:=Gam.all W) (a:=.dsl Cd.sort g) hv .nil
 have hk:=lawE_kept vars_kept ((g,()):List Srt×Unit) hg (.sb true) rfl
 obtain ⟨_,hpure⟩:=hk
 obtain ⟨_,hcall⟩:=hpure (Gam.all W) W _ (fun _ _ e=>e) (fun _=>rfl) rfl hargsR
 have hcall:=(callsIn_wide (n:=0)).1 (hcall 0)
 refine hcall.mono ?_
 rintro e W' ⟨v,Γ',rfl,hv',_,_,_,hb⟩
 have hv':v=.bool true:=by unfold VRel at hv'; exact hv'
 subst hv'
 have hold:∀ x∈p0,x.block < W.heap.size:=fun x hx=>by simpa using hW'.lt x (by simpa using hx)
 have e1:Rows.sortsEmptySpec.fn H ([d0] ++ [])={ results:=[.lit (.bool true)],args:=[d0] }:=rfl
 refine ⟨_,rfl,[d0],[],_,[],p0 ++ [],[],hW',?_,?_,rfl,hb.frame _,fun h=>by cases h⟩
 ·exact trodAll_cons_mk (shut_bool (by kernel_rfl) _) trodAll_mk0
 ·exact trodAll_cons_mk (Below.trod laidOut (by kernel_rfl) (of_decide_eq_true (by kernel_rfl)) k0 hb (fun x hx=>hold x hx)) trodAll_mk0
end Go.Proofs.YtghaalknpdlobaaGreatDoor

