/- A part of the proof of the statement: no conditions. -/
import Derived.Test.YtibaljifcbpmoaaGreatDoorPartF
import Derived.Test.YtibaljifcbpmoaaGreatDoorCards
import Derived.Test.YtibaljifcbpmoaaGreatDoorTie
import Derived.WalkKit
import Derived.ProofKit
import Derived.Deep.DeepHandedRow
import Derived.Deep.DeepWitnessRowRef
import Derived.Lib.LaidTab
set_option linter.unusedSectionVars false
set_option linter.unusedVariables false
set_option linter.unusedSimpArgs false
namespace Go.Proofs.YtibaljifcbpmoaaGreatDoor
open Go Go.Ev Go.Proofs Go.RowKit Go.ChangeShapes Go.WideShapes Go.ChangeAt
set_option maxRecDepth 100000
theorem M0u:laidOutB Tryz.prog=true:=by kernel_rfl
theorem S0r(H:Type)(enc:TypeId×Value→H)(W:World)(base:Nat)(args:Array Value)(ds gs:List (DataW H))(before:List MemPlace)
  (hval:∀(j:Nat) t v,Tryz.f3.params[j]?=some t→args[j]?=some v→Value.okWide Tryz.prog W .any base t v)
  (hW:DataW.Whole enc Tryz.prog Tryz.f3.params.toList Rows.sortsInstancesSpec.vars false W args.toList ds gs before):
  Calls Tryz.prog 3 args W fun e W'=>∃v,e=.returned v∧Rows.sortsInstancesSpec.post enc Tryz.prog Tryz.f3 false true false false W args v W':=by
 have hW':=hW
 obtain⟨p,q,hA0,hV,rfl,hfz,hnd⟩:=hW
 have hA:DataW.TrodAll enc Tryz.prog W 0 (fun _=>true) true [22,3,25,23] args.toList ds p:=hA0
 have hval:∀(j:Nat) t v,(#[22,3,25,23]:Array TypeId)[j]?=some t→args[j]?=some v→Value.okWide Tryz.prog W .any base t v:=hval
 obtain⟨v0,vs0,d0,ds0,p0,q0,hargs,rfl,rfl,h0,r0⟩:=trodAll_cons hA
 obtain⟨v1,vs1,d1,ds1,p1,q1,rfl,rfl,rfl,h1,r1⟩:=trodAll_cons r0
 obtain⟨v2,vs2,d2,ds2,p2,q2,rfl,rfl,rfl,h2,r2⟩:=trodAll_cons r1
 obtain⟨v3,vs3,d3,ds3,p3,q3,rfl,rfl,rfl,h3,r3⟩:=trodAll_cons r2
 obtain⟨rfl,rfl,rfl⟩:=trodAll_nil r3
 obtain rfl:args=#[v0,v1,v2,v3]:=by cases args;simp_all
 obtain⟨rfl,rfl⟩:=trodVars_none hV
 clear hA0
 simp only[List.append_nil] at hW'
 obtain⟨a0,len0,cap0,rfl⟩:=okWide_slice (e:=56) (by kernel_rfl) (hval 0 22 v0 rfl rfl)
 obtain⟨n1,rfl⟩:=okWide_int (k:=.i64) (by kernel_rfl) (hval 1 3 v1 rfl rfl)
 obtain⟨cs2,rfl,hcs2⟩:=okWide_struct (fs:=fieldsOf 25) (by kernel_rfl) (hval 2 25 v2 rfl rfl)
 obtain⟨a3,len3,cap3,rfl⟩:=okWide_slice (e:=25) (by kernel_rfl) (hval 3 23 v3 rfl rfl)
 have k0:=h0
 have k1:=h1
 have k2:=h2
 have k3:=h3
 obtain⟨f0,g0⟩:=h0
 obtain⟨f2,g2⟩:=h2
 obtain⟨f3,g3⟩:=h3
 obtain⟨v,g,e0,hv,hg⟩:=b0e g0
 obtain rfl:Value.slice a0 len0 cap0=v:=by simpa [Value.cells] using e0
 obtain⟨⟨k,m,s,l⟩,⟨hl2,hc⟩,ht⟩:=Y0g g2
 obtain⟨v3,own,e3,hv3,ho⟩:=b0j g3
 obtain rfl:Value.slice a3 len3 cap3=v3:=by simpa [Value.cells] using e3
 have hargsR:VRels (Gam.all W) (Pts.vals [.d Cd.sort,.i .i64,.agg B0O,.d Cd.term] ((g,n1,(k,m,s,l,()),own,()):List Srt×Int×TrmY×List Trm×Unit)) [Value.slice a0 len0 cap0,.int .i64 n1,.agg cs2,Value.slice a3 len3 cap3]:=by
  refine .cons (Γ:=Gam.all W) (a:=.dsl Cd.sort g) hv (.cons (a:=.si .i64 n1) rfl (.cons (a:=.agg [.si .i64 k,.si .i64 m,.ss s,.dsl Cd.term l]) ?_ (.cons (Γ:=Gam.all W) (a:=.dsl Cd.term own) hv3 .nil)))
  unfold VRel
  refine⟨cs2,rfl,VRels.of_get ?_ fun i a ha=>?_⟩
  ·exact hl2
  ·match i,ha with
   |0,ha=>cases ha;obtain⟨v,h1,h2⟩:=hc 0 _ rfl;cases h2;exact⟨_,h1,rfl⟩
   |1,ha=>cases ha;obtain⟨v,h1,h2⟩:=hc 1 _ rfl;cases h2;exact⟨_,h1,rfl⟩
   |2,ha=>cases ha;obtain⟨v,h1,h2⟩:=hc 2 _ rfl;cases h2;exact⟨_,h1,rfl⟩
   |3,ha=>cases ha;obtain⟨v,h1,h2⟩:=hc 3 _ rfl;exact⟨_,h1,h2⟩
 have hk:=X0L Z0H ((g,n1,(k,m,s,l,()),own,()):List Srt×Int×TrmY×List Trm×Unit) ⟨hg,ht,ho⟩ (.sb true) rfl
 obtain⟨_,hpure⟩:=hk
 obtain⟨_,hcall⟩:=hpure (Gam.all W) W _ (fun _ _ e=>e) (fun _=>rfl) rfl hargsR
 have hcall:=(callsIn_wide (n:=0)).1 (hcall 0)
 refine hcall.mono ?_
 rintro e W'⟨v,Γ',rfl,hv',_,_,_,hb⟩
 have hv':v=.bool true:=by unfold VRel at hv';exact hv'
 subst hv'
 have hold:∀x∈p0++(p1++(p2++(p3++[]))),x.block<W.heap.size:=fun x hx=>by simpa using hW'.lt x (by simpa using hx)
 have e1:Rows.sortsInstancesSpec.fn H ([d0,d1,d2,d3]++[])={results:=[.lit (.bool true)],args:=[d0,d1,d2,d3]}:=rfl
 refine⟨_,rfl,[d0,d1,d2,d3],[],_,[],p0++(p1++(p2++(p3++[]))),[],hW',?_,?_,rfl,hb.frame _,fun h=>by cases h⟩
 ·exact trodAll_cons_mk (shut_bool (by kernel_rfl) _) trodAll_mk0
 ·exact trodAll_cons_mk (Below.trod M0u (by kernel_rfl) (of_decide_eq_true (by kernel_rfl)) k0 hb (fun x hx=>hold x (by simp[hx])))
   (trodAll_cons_mk (Below.trod M0u (by kernel_rfl) (of_decide_eq_true (by kernel_rfl)) k1 hb (fun x hx=>hold x (by simp[hx])))
    (trodAll_cons_mk (Below.trod M0u (by kernel_rfl) (of_decide_eq_true (by kernel_rfl)) k2 hb (fun x hx=>hold x (by simp[hx])))
     (trodAll_cons_mk (Below.trod M0u (by kernel_rfl) (of_decide_eq_true (by kernel_rfl)) k3 hb (fun x hx=>hold x (by simp[hx]))) trodAll_mk0)))
end Go.Proofs.YtibaljifcbpmoaaGreatDoor

