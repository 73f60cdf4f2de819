/- A part of the proof of the statement: no conditions. -/
import Derived.Test.YtghaalknpdlobaaGreatDoorPartD
import Derived.Test.YtghaalknpdlobaaGreatDoorProg
import Derived.KernelRfl
set_option linter.unusedSectionVars false
set_option linter.unusedVariables false
set_option linter.unusedSimpArgs false
namespace Go.Proofs.YtghaalknpdlobaaGreatDoor
open Go Go.Ev Go.Proofs
structure Trm where
 kind:Int
 n:Int
 s:ByteArray
 l:List Trm
structure SCase where
 name:ByteArray
 arity:Int
 args:List Int
structure Srt where
 int:Bool
 str:Bool
 atom:Bool
 cases:List SCase
 vec:List Int
structure Smp where
 t:Trm
 nodes:Int
 deep:Int
inductive Cd where
 | int
 | bool
 | term
 | case
 | sort
 | terms
 | sorts
 | bools
 | any
 | bare
 | smp
deriving DecidableEq
def Cd.S (c:Cd):Type:=match c with
 | .int=>Int
 | .bool=>Bool
 | .term=>Trm
 | .case=>SCase
 | .sort=>Srt
 | .terms=>List Trm
 | .sorts=>List Srt
 | .bools=>List Bool
 | .any=>Unit
 | .bare=>Unit
 | .smp=>Smp
def Cd.dflt (c:Cd):c.S:=match c with
 | .int=>(0:Int)
 | .bool=>false
 | .term=>(⟨0,0,⟨#[]⟩,[]⟩:Trm)
 | .case=>(⟨⟨#[]⟩,0,[]⟩:SCase)
 | .sort=>(⟨false,false,false,[],[]⟩:Srt)
 | .terms=>([]:List Trm)
 | .sorts=>([]:List Srt)
 | .bools=>([]:List Bool)
 | .any=>()
 | .bare=>()
 | .smp=>(⟨⟨0,0,⟨#[]⟩,[]⟩,0,0⟩:Smp)
def Cd.cells (c:Cd):c.S→List (Cell Cd Cd.S):=match c with
 | .int=>fun x=>[.i .i64 x]
 | .bool=>fun x=>[.b x]
 | .term=>fun (t:Trm)=>[.i .i64 t.kind,.i .i64 t.n,.s t.s,.sl .term t.l]
 | .case=>fun (k:SCase)=>[.s k.name,.i .i64 k.arity,.sl .int k.args]
 | .sort=>fun (s:Srt)=>[.b s.int,.b s.str,.b s.atom,.sl .case s.cases,.sl .int s.vec]
 | .terms=>fun l=>[.sl .term l]
 | .sorts=>fun l=>[.sl .sort l]
 | .bools=>fun l=>[.sl .bool l]
 | .any=>fun _=>[.f 72]
 | .bare=>fun _=>[.f 268]
 | .smp=>fun (x:Smp)=>[.i .i64 x.t.kind,.i .i64 x.t.n,.s x.t.s,.sl .term x.t.l,.i .i64 x.nodes,.i .i64 x.deep]
def Cd.esz (c:Cd):Nat:=match c with
 | .int=>1
 | .bool=>1
 | .term=>4
 | .case=>3
 | .sort=>5
 | .terms=>1
 | .sorts=>1
 | .bools=>1
 | .any=>1
 | .bare=>1
 | .smp=>6
def Cd.agg (c:Cd):Bool:=match c with
 | .term=>true
 | .case=>true
 | .sort=>true
 | .smp=>true
 | _=>false
def Cd.unc (c:Cd):List (Cell Cd Cd.S)→Option c.S:=match c with
 | .int=>fun cs=>match cs with
  | [.i .i64 x]=>some x
  | _=>none
 | .bool=>fun cs=>match cs with
  | [.b x]=>some x
  | _=>none
 | .term=>fun cs=>match cs with
  | [.i .i64 k,.i .i64 n,.s s,.sl .term l]=>some (⟨k,n,s,l⟩:Trm)
  | _=>none
 | .case=>fun cs=>match cs with
  | [.s n,.i .i64 a,.sl .int l]=>some (⟨n,a,l⟩:SCase)
  | _=>none
 | .sort=>fun cs=>match cs with
  | [.b i,.b s,.b a,.sl .case c,.sl .int v]=>some (⟨i,s,a,c,v⟩:Srt)
  | _=>none
 | .terms=>fun cs=>match cs with
  | [.sl .term l]=>some l
  | _=>none
 | .sorts=>fun cs=>match cs with
  | [.sl .sort l]=>some l
  | _=>none
 | .bools=>fun cs=>match cs with
  | [.sl .bool l]=>some l
  | _=>none
 | .any=>fun cs=>match cs with
  | [.f 72]=>some ()
  | _=>none
 | .bare=>fun cs=>match cs with
  | [.f 268]=>some ()
  | _=>none
 | .smp=>fun cs=>match cs with
  | [.i .i64 k,.i .i64 n,.s s,.sl .term l,.i .i64 a,.i .i64 b]=>some (⟨⟨k,n,s,l⟩,a,b⟩:Smp)
  | _=>none
theorem Cd.unc_ok (c:Cd) (cs:List (Cell Cd Cd.S)) (x:c.S) (h:c.unc cs=some x):c.cells x=cs:=by
 cases c <;> simp only [Cd.unc] at h <;> split at h <;> first
  | (cases h; rfl)
  | cases h
def Cd.elt (t:TypeId):Option Cd:=match Nat.beq t 3 with
 | true=>some .int
 | false=>match Nat.beq t 4 with
  | true=>some .bool
  | false=>match Nat.beq t 25 with
   | true=>some .term
   | false=>match Nat.beq t 120 with
    | true=>some .smp
    | false=>none
def Cd.flat (c:Cd):Bool:=match c with
 | .int=>true
 | .bool=>true
 | _=>false
theorem Cd.flat_ok (c:Cd) (x:c.S) (h:c.flat=true):∀ cl∈c.cells x,cl.scal=true:=by
 cases c <;> simp only [Cd.flat,Bool.false_eq_true] at h
 all_goals
  intro cl hcl
  simp only [Cd.cells,List.mem_singleton] at hcl
  subst hcl
  rfl
theorem Cd.agg_ok (c:Cd) (h:c.agg=false):c.esz=1:=by cases c <;> first | rfl | cases h
theorem Cd.uni (c:Cd) (x y:c.S):(c.cells x).map Cell.kd=(c.cells y).map Cell.kd:=by cases c <;> rfl
theorem Cd.inj (c:Cd) (x y:c.S) (h:c.cells x=c.cells y):x=y:=by
 have h2:c.unc (c.cells x)=c.unc (c.cells y):=by rw [h]
 cases c
 case term=>obtain ⟨a1,a2,a3,a4⟩:Trm:=x; obtain ⟨b1,b2,b3,b4⟩:Trm:=y; exact Option.some.inj h2
 case case=>obtain ⟨a1,a2,a3⟩:SCase:=x; obtain ⟨b1,b2,b3⟩:SCase:=y; exact Option.some.inj h2
 case sort=>obtain ⟨a1,a2,a3,a4,a5⟩:Srt:=x; obtain ⟨b1,b2,b3,b4,b5⟩:Srt:=y; exact Option.some.inj h2
 case smp=>obtain ⟨⟨a1,a2,a3,a4⟩,a5,a6⟩:Smp:=x; obtain ⟨⟨b1,b2,b3,b4⟩,b5,b6⟩:Smp:=y; exact Option.some.inj h2
 all_goals exact Option.some.inj h2
instance univ:Univ :=
 {C:=Cd,S:=Cd.S,dflt:=Cd.dflt,esz:=Cd.esz,cells:=Cd.cells,dec:=inferInstance
  len:=fun c x=>by cases c <;> rfl
  pos:=fun c=>by cases c <;> decide
  unc:=Cd.unc
  unc_ok:=Cd.unc_ok
  elt:=Cd.elt
  flat:=Cd.flat
  flat_ok:=Cd.flat_ok
  agg:=Cd.agg
  agg_ok:=Cd.agg_ok
  uni:=Cd.uni
  inj:=Cd.inj }
theorem ext_ok:ExtOk Tryz.prog :=
 extOk_of (n:=412) (kc:=316) (ks:=279) (by kernel_rfl) (by kernel_rfl) (by kernel_rfl) (fc:=Tryz.f316) (by kernel_rfl) (by kernel_rfl) (by kernel_rfl) (by kernel_rfl) (by kernel_rfl)
  (fs:=Tryz.f279) (by kernel_rfl) (by kernel_rfl) (by kernel_rfl) (by kernel_rfl) (by kernel_rfl)
theorem follows_ok:Tryz.prog.follows .mixedOrders=true:=by kernel_rfl
end Go.Proofs.YtghaalknpdlobaaGreatDoor

namespace Go.Proofs.YtghaalknpdlobaaGreatDoor
open Go Go.Ev Go.Proofs
noncomputable abbrev cd (f:Func) (ids:List Nat):Code:=markB ids (codeOf f)
theorem wrap64 {n:Int} (h:-9223372036854775808≤n) (h2:n≤9223372036854775807):IntKind.i64.wrap n=n:=by rw [IntKind.wrap_i64]; omega
def maxL:Nat:=9223372036854775807
theorem drop_cons {α:Type} (l:List α) (i:Int) (z:α) (h0:0≤i) (h:i < (l.length:Int)):l.drop i.toNat=l.getD i.toNat z :: l.drop (i + 1).toNat:=by
 have hlt:i.toNat < l.length:=by omega
 rw [List.drop_eq_getElem_cons hlt,List.getD_eq_getElem?_getD,List.getElem?_eq_getElem hlt,show (i + 1).toNat=i.toNat + 1 by omega]
 rfl
theorem drop_end {α:Type} (l:List α) (i:Int) (h1:i≤(l.length:Int)) (h:¬ i < (l.length:Int)):l.drop i.toNat=[]:=by
 apply List.drop_eq_nil_of_le; omega
theorem getD_mem {α:Type} (l:List α) (i:Int) (z:α) (h0:0≤i) (h:i < (l.length:Int)):l.getD i.toNat z∈l:=by
 have hlt:i.toNat < l.length:=by omega
 rw [List.getD_eq_getElem?_getD,List.getElem?_eq_getElem hlt]
 exact List.getElem_mem hlt
theorem getD_any {α:Type} (l:List α) (n:Nat) (z z':α) (h:n < l.length):l.getD n z=l.getD n z':=by
 rw [List.getD_eq_getElem?_getD,List.getD_eq_getElem?_getD,List.getElem?_eq_getElem h]; rfl
theorem ct0:∀ p∈([]:List (FuncId×List FSpec)),∀ S∈p.2,S.Kept Tryz.prog p.1:=fun _ h=>by cases h
theorem ctc {f:FuncId} {S:FSpec} {cs:List (FuncId×List FSpec)} (h:S.Kept Tryz.prog f) (t:∀ p∈cs,∀ S∈p.2,S.Kept Tryz.prog p.1):∀ p∈(f,[S]) :: cs,∀ S∈p.2,S.Kept Tryz.prog p.1:=by
 intro p hp S' hS
 rcases List.mem_cons.1 hp with e | e
 ·subst e; rw [List.mem_singleton.1 hS]; exact h
 ·exact t p e S' hS
theorem lp0:∀ p∈([]:List (Nat×LoopC)),LpSound Tryz.prog p.2:=fun _ h=>by cases h
theorem lpc {n:Nat} {L:LoopC} {ls:List (Nat×LoopC)} (h:LpSound Tryz.prog L) (t:∀ p∈ls,LpSound Tryz.prog p.2):∀ p∈(n,L) :: ls,LpSound Tryz.prog p.2:=by
 intro p hp
 rcases List.mem_cons.1 hp with e | e
 ·subst e; exact h
 ·exact t p e
structure Hd {α:Type} (r:Dt α) (p:α→Prop):Prop where
 out:r.holds p
theorem hd_eq {α:Type} {r t:Dt α} {p:α→Prop} (e:r=t) (h:t.holds p):Hd r p:=⟨by rw [e]; exact h⟩
theorem fkept {cs:List (FuncId×List FSpec)} {ls:List (Nat×LoopC)} (hc:∀ p∈cs,∀ S∈p.2,S.Kept Tryz.prog p.1) (hl:∀ p∈ls,LpSound Tryz.prog p.2)
  (S:FSpec) (f:FuncId) (F:Func) (ids:List Nat) (hmk:mkFn Tryz.prog f=some (.code (unmark ls (cd F ids)) F.ntmps F.results.toList)) (hc':markOk (cd F ids)=true)
  (h:∀ x,S.pre x→Hd (S.run (envOf Tryz.prog cs ls) (cd F ids) F.ntmps F.results.toList 60 x) fun q=>q.1=true∧(S.res x).val=some q.2):S.Kept Tryz.prog f :=
 FSpec.kept ext_ok follows_ok cs ls hc hl S 60 (cd F ids) hmk hc' fun x hx=>(h x hx).out
theorem pkept {cs:List (FuncId×List FSpec)} {ls:List (Nat×LoopC)} (hc:∀ p∈cs,∀ S∈p.2,S.Kept Tryz.prog p.1) (hl:∀ p∈ls,LpSound Tryz.prog p.2)
  (S:PSpec) (μ:Pts (S.keep.map (·.2))→Pos (S.objs.map (·.2))→Nat) (hmk:markOk S.body=true)
  (h:∀ x y,S.inv x y→Hd (S.round (envOf Tryz.prog cs ls) 60 x y) fun q=>q.1=true∧match q.2.1 with
   | .normal=>∃ x' y',Pts.vals _ x'=q.2.2.1∧Pos.obs _ y'=q.2.2.2∧S.inv x' y'∧μ x' y' < μ x y∧(S.res x' y').val=(S.res x y).val
   | e=>(S.res x y).val=some (e,q.2.2)):LpSound Tryz.prog (S.loop ls) :=
 PSpec.kept ext_ok follows_ok cs ls hc hl S 60 μ hmk fun x y hx=>(h x y hx).out
theorem xs0:∀ p∈([]:List (FuncId×XSpec)),p.2.Kept Tryz.prog p.1:=fun _ h=>by cases h
theorem xsc {f:FuncId} {X:XSpec} {ws:List (FuncId×XSpec)} (h:X.Kept Tryz.prog f) (t:∀ p∈ws,p.2.Kept Tryz.prog p.1):∀ p∈(f,X) :: ws,p.2.Kept Tryz.prog p.1:=by
 intro p hp
 rcases List.mem_cons.1 hp with e | e
 ·subst e; exact h
 ·exact t p e
theorem fkeptW {ws:List (FuncId×XSpec)} {cs:List (FuncId×List FSpec)} {ls:List (Nat×LoopC)} (hw:∀ p∈ws,p.2.Kept Tryz.prog p.1) (hc:∀ p∈cs,∀ S∈p.2,S.Kept Tryz.prog p.1) (hl:∀ p∈ls,LpSound Tryz.prog p.2)
  (S:FSpec) (f:FuncId) (F:Func) (ids:List Nat) (hmk:mkFn Tryz.prog f=some (.code (unmark ls (cd F ids)) F.ntmps F.results.toList)) (hc':markOk (cd F ids)=true)
  (h:∀ x,S.pre x→Hd (S.run (envW Tryz.prog ws cs ls) (cd F ids) F.ntmps F.results.toList 60 x) fun q=>q.1=true∧(S.res x).val=some q.2):S.Kept Tryz.prog f :=
 FSpec.keptW ext_ok follows_ok ws cs ls hw hc hl S 60 (cd F ids) hmk hc' fun x hx=>(h x hx).out
theorem okept {ws:List (FuncId×XSpec)} {cs:List (FuncId×List FSpec)} {ls:List (Nat×LoopC)} (hw:∀ p∈ws,p.2.Kept Tryz.prog p.1) (hc:∀ p∈cs,∀ S∈p.2,S.Kept Tryz.prog p.1) (hl:∀ p∈ls,LpSound Tryz.prog p.2)
  (S:OSpec) (f:FuncId) (F:Func) (ids:List Nat) (hmk:mkFn Tryz.prog f=some (.code (unmark ls (cd F ids)) F.ntmps F.results.toList)) (hc':markOk (cd F ids)=true) (hfl:Univ.flat S.c=true)
  (h:∀ x,S.pre x→Hd (S.run (envW Tryz.prog ws cs ls) (cd F ids) F.ntmps F.results.toList 60 x) fun q=>q.1=true∧(S.res x).val=q.2∧q.2≠none):S.Kept Tryz.prog f :=
 OSpec.kept ext_ok follows_ok ws cs ls hw hc hl S 60 (cd F ids) hmk hc' hfl fun x hx=>(h x hx).out
noncomputable def idxDt {α:Type} (p:α→Bool) (l:List α) (i:Int):Dt (AExit×List AVal×List AObj) :=
 .ite ((l.drop i.toNat).any p) (.leaf (.ret,[.si .i64 (i + ((l.drop i.toNat).findIdx p:Nat))],[])) (.leaf (.exit 0,[],[]))
theorem idx_hit {α:Type} {p:α→Bool} {l:List α} {i:Int} (z:α) (h0:0≤i) (h:i < (l.length:Int)) (hp:p (l.getD i.toNat z)=true):(idxDt p l i).val=some (.ret,[.si .i64 i],[]):=by
 unfold idxDt; rw [drop_cons l i z h0 h]
 simp only [List.any_cons,hp,Bool.true_or,List.findIdx_cons,cond_true]
 simp [Dt.val]
theorem idx_on {α:Type} {p:α→Bool} {l:List α} {i:Int} (z:α) (h0:0≤i) (h:i < (l.length:Int)) (hp:p (l.getD i.toNat z)=false):(idxDt p l (i + 1)).val=(idxDt p l i).val:=by
 unfold idxDt; rw [drop_cons l i z h0 h]
 simp only [List.any_cons,hp,Bool.false_or,List.findIdx_cons,cond_false]
 cases hq:(l.drop (i + 1).toNat).any p with
 | true=>simp [Dt.val]; omega
 | false=>simp [Dt.val]
theorem idx_end {α:Type} {p:α→Bool} {l:List α} {i:Int} (h1:i≤(l.length:Int)) (h:¬ i < (l.length:Int)):(idxDt p l i).val=some (.exit 0,[],[]):=by
 unfold idxDt; rw [drop_end l i h1 h]; simp [Dt.val]
theorem len64 {α:Type} {l:List α} (h:l.length≤maxL):(l.length:Int)≤9223372036854775807:=by unfold maxL at h; omega
end Go.Proofs.YtghaalknpdlobaaGreatDoor

namespace Go.Proofs.YtghaalknpdlobaaGreatDoor
open Go Go.Ev Go.Proofs
set_option maxRecDepth 100000
def outB (n x:Int):Bool:=decide (x < 0) || !decide (x < n)
def right1P (c:Pts [.box .int]) (x:Int):Bool:=outB (show Int from c.1) x
noncomputable def right1C:FSpec:=⟨[.i .i64,.box .int],fun (x:Int×Int×Unit)=>True,fun (x:Int×Int×Unit)=>.leaf (.sb (outB x.2.1 x.1))⟩
theorem right1q_kept:right1C.Kept Tryz.prog 138:=by
 refine fkept ct0 lp0 right1C 138 Tryz.f138 [] (by kernel_rfl) (by kernel_rfl) ?_
 intro xx _; obtain ⟨x,m,_⟩:Int×Int×Unit:=xx
 refine hd_eq (t:=.ite (decide (x < 0)) (.leaf (true,.sb true)) (.leaf (true,.sb (!decide (x < m))))) (by kernel_rfl) ?_
 refine holds_ite (fun h=>⟨rfl,?_⟩) (fun h=>⟨rfl,?_⟩) <;> simp [right1C,Dt.val,outB,h]
def noQ {α:Type} {β:Type} (_:α) (_:β):Prop:=True
def right1V (l:List Int) (c:Pts [.box Cd.int]) (n i:Int):Prop:=(∀ e∈l,noQ e c)∧l.length≤maxL∧n=(l.length:Int)∧0≤i∧i≤(l.length:Int)
noncomputable def right1L:PSpec :=
 {body:=loopIn Tryz.f211 0,nt:=19,nx:=0,room:=8,keep:=[(0,.d .int),(1,.fn 138 [.box Cd.int]),(7,.i .i64),(8,.i .i64)],objs:=[]
  keepX:=fun x=>match x with | .ret=>[4] | _=>[],objsX:=fun _=>[]
  inv:=fun (x:List Int×Pts [.box Cd.int]×Int×Int×Unit) _=>right1V x.1 x.2.1 x.2.2.1 x.2.2.2.1
  res:=fun (x:List Int×Pts [.box Cd.int]×Int×Int×Unit) _=>idxDt (right1P x.2.1) x.1 x.2.2.2.1 }
theorem right1L_ok:LpSound Tryz.prog ((right1L).loop []):=by
 refine pkept (ctc (right1q_kept) ct0) lp0 (right1L) (fun (x:List Int×Pts [.box Cd.int]×Int×Int×Unit) _=>((x.1.length:Int) - x.2.2.2.1).toNat) (by kernel_rfl) ?_
 intro xx y hx
 obtain ⟨l,c,n,i,u⟩:List Int×Pts [.box Cd.int]×Int×Int×Unit:=xx
 obtain ⟨hQ,hm,hn,h4,h5⟩:(∀ e∈l,noQ e c)∧l.length≤maxL∧n=(l.length:Int)∧0≤i∧i≤(l.length:Int):=hx
 have hm2:=len64 hm
 subst hn
 let z:Int:=Univ.dflt (.int:Cd)
 refine hd_eq (t:=.ite (decide (i < (l.length:Int)))
   (.ite (decide (0≤i) && decide (i < (l.length:Int)))
    (.ite (dec (noQ (l.getD i.toNat z) c))
     (.ite (right1P c (l.getD i.toNat z)) (.leaf (true,.ret,[.si .i64 i],[]))
      (.leaf (true,.normal,[AVal.dsl (.int:Cd) l,.fn 138 [] (Pts.vals [.box Cd.int] c),.si .i64 (l.length:Int),.si .i64 (IntKind.i64.wrap (i + 1))],[])))
     .fail) .fail)
   (.leaf (true,.exit 0,[],[]))) (by kernel_rfl) ?_
 refine holds_ite (fun hlt=>?_) (fun hlt=>?_)
 ·have hlt:=of_decide_eq_true hlt
  refine holds_need (by simp [h4,hlt]) (holds_need (dec_true (hQ _ (getD_mem l i z h4 hlt))) (holds_ite (fun hp=>⟨rfl,idx_hit z h4 hlt hp⟩) (fun hp=>⟨rfl,(l,c,(l.length:Int),IntKind.i64.wrap (i + 1),()),(),rfl,rfl,?_⟩)))
  rw [wrap64 (by omega) (by omega)]
  refine ⟨⟨hQ,hm,rfl,by show (0:Int)≤i + 1; omega,by show i + 1≤(l.length:Int); omega⟩,by show ((l.length:Int) - (i + 1)).toNat < ((l.length:Int) - i).toNat; omega,?_⟩
  exact idx_on z h4 hlt hp
 ·exact ⟨rfl,idx_end h5 (of_decide_eq_false hlt)⟩
noncomputable def right1I:FSpec:=⟨[.d .int,.fn 138 [.box Cd.int]],fun (x:List Int×Pts [.box Cd.int]×Unit)=>(∀ e∈x.1,noQ e x.2.1)∧x.1.length≤maxL,
 fun (x:List Int×Pts [.box Cd.int]×Unit)=>.ite (x.1.any (right1P x.2.1)) (.leaf (.si .i64 ((x.1.findIdx (right1P x.2.1):Nat):Int))) (.leaf (.si .i64 (-1)))⟩
theorem right1I_kept:(right1I).Kept Tryz.prog 211:=by
 have hL:∀ p∈[(0,(right1L).loop [])],LpSound Tryz.prog p.2:=lpc (right1L_ok) lp0
 have hmk:mkFn Tryz.prog 211=some (.code (unmark [(0,(right1L).loop [])] (cd Tryz.f211 [0])) Tryz.f211.ntmps Tryz.f211.results.toList):=by kernel_rfl
 refine fkept ct0 hL (right1I) 211 Tryz.f211 [0] hmk (by kernel_rfl) ?_
 intro xx hx
 obtain ⟨l,c,u⟩:List Int×Pts [.box Cd.int]×Unit:=xx
 have hx:(∀ e∈l,noQ e c)∧l.length≤maxL:=hx
 have hQ:=hx.1
 have hm:=hx.2
 refine hd_eq (t:=.ite (dec (right1V l c (l.length:Int) 0)) (.ite (l.any (right1P c)) (.leaf (true,.si .i64 (0 + (l.findIdx (right1P c):Nat)))) (.leaf (true,.si .i64 (-1)))) .fail) (by kernel_rfl) ?_
 refine holds_need (dec_true ⟨hQ,hm,rfl,by show (0:Int)≤0; omega,by show (0:Int)≤l.length; omega⟩) (holds_ite (fun hp=>⟨rfl,?_⟩) fun hp=>⟨rfl,?_⟩)
 ·show (Dt.ite (l.any (right1P c)) _ _:Dt AVal).val=_
  rw [hp]; simp [Dt.val]
 ·show (Dt.ite (l.any (right1P c)) _ _:Dt AVal).val=_
  rw [hp]; simp [Dt.val]
noncomputable def right1N:FSpec:=⟨[.d .int,.fn 138 [.box Cd.int]],fun (x:List Int×Pts [.box Cd.int]×Unit)=>(∀ e∈x.1,noQ e x.2.1)∧x.1.length≤maxL,
 fun (x:List Int×Pts [.box Cd.int]×Unit)=>.leaf (.sb (x.1.any (right1P x.2.1)))⟩
theorem right1N_kept:(right1N).Kept Tryz.prog 139:=by
 refine fkept (ctc (right1I_kept) ct0) lp0 (right1N) 139 Tryz.f139 [] (by kernel_rfl) (by kernel_rfl) ?_
 intro xx hx
 obtain ⟨l,c,u⟩:List Int×Pts [.box Cd.int]×Unit:=xx
 have hx:(∀ e∈l,noQ e c)∧l.length≤maxL:=hx
 refine hd_eq (t:=.ite (dec ((∀ e∈l,noQ e c)∧l.length≤maxL)) (.ite (l.any (right1P c)) (.leaf (true,.sb (!decide ((l.findIdx (right1P c):Int) < 0)))) (.leaf (true,.sb (!decide ((-1:Int) < 0))))) .fail) (by kernel_rfl) ?_
 refine holds_need (dec_true hx) (holds_ite (fun hp=>⟨rfl,?_⟩) fun hp=>⟨rfl,?_⟩)
 ·show some (AVal.sb (l.any (right1P c)))=some (AVal.sb _)
  rw [hp]; simp
 ·show some (AVal.sb (l.any (right1P c)))=some (AVal.sb _)
  rw [hp]; simp
end Go.Proofs.YtghaalknpdlobaaGreatDoor

namespace Go.Proofs.YtghaalknpdlobaaGreatDoor
open Go Go.Ev Go.Proofs
set_option maxRecDepth 100000
theorem decode_two (s:ByteArray) (p:Nat):((s.get! p).toNat < 128→Utf8.decode s p=((s.get! p).toNat,1))∧(128≤(s.get! p).toNat→128≤(Utf8.decode s p).1)∧1≤(Utf8.decode s p).2:=by
 refine ⟨fun h=>?_,fun h=>?_,?_⟩
 ·unfold Utf8.decode
  simp only [Nat.add_zero]
  rw [if_pos h]
 ·unfold Utf8.decode
  simp only [Nat.add_zero]
  rw [if_neg (by omega)]
  split
  ·split
   ·rename_i h2; exact h2
   ·show 128≤65533; omega
  ·split
   ·split
    ·rename_i h2; simp only [Bool.and_eq_true,decide_eq_true_eq] at h2; exact Nat.le_trans (by omega) h2.1
    ·show 128≤65533; omega
   ·split
    ·split
     ·rename_i h2; simp only [Bool.and_eq_true,decide_eq_true_eq] at h2; exact Nat.le_trans (by omega) h2.1
     ·show 128≤65533; omega
    ·show 128≤65533; omega
 ·unfold Utf8.decode
  simp only [Nat.add_zero]
  repeat' split
  all_goals first
   | exact Nat.le_refl 1
   | (show 1≤_; omega)
def badRune (r:Int):Bool:=decide (r < 32) || decide (126 < r)
def badByte (b:UInt8):Bool:=badRune (b.toNat:Int)
def firstBad (l:List UInt8):Nat→Nat→Option Nat
 | 0,_=>none
 | f + 1,p=>if p < l.length then (if badRune (runeAt l p)=true then some p else firstBad l f (runeEnd l p)) else none
def FB (l:List UInt8) (p:Nat):Option Nat:=firstBad l (l.length - p) p
theorem end_gt (l:List UInt8) (p:Nat):p < runeEnd l p:=by
 have:=(decode_two ⟨l.toArray⟩ p).2.2
 unfold runeEnd; omega
theorem firstBad_fuel (l:List UInt8):∀ (f g p:Nat),l.length - p≤f→l.length - p≤g→firstBad l f p=firstBad l g p
 | 0,0,_,_,_=>rfl
 | 0,g + 1,p,h,_=>by unfold firstBad; rw [if_neg (by omega)]
 | f + 1,0,p,_,h=>by unfold firstBad; rw [if_neg (by omega)]
 | f + 1,g + 1,p,h1,h2=>by
  unfold firstBad
  have:=end_gt l p
  by_cases hp:p < l.length
  ·rw [if_pos hp,if_pos hp,firstBad_fuel l f g _ (by omega) (by omega)]
  ·rw [if_neg hp,if_neg hp]
theorem FB_step {l:List UInt8} {p:Nat} (h:p < l.length):FB l p=if badRune (runeAt l p)=true then some p else FB l (runeEnd l p):=by
 have:=end_gt l p
 have e:FB l p=firstBad l (l.length - p - 1 + 1) p:=firstBad_fuel l _ _ _ (by omega) (by omega)
 rw [e]
 unfold firstBad
 rw [if_pos h]
 unfold FB
 rw [firstBad_fuel l (l.length - p - 1) (l.length - runeEnd l p) (runeEnd l p) (by omega) (by omega)]
theorem FB_end {l:List UInt8} {p:Nat} (h:¬ p < l.length):FB l p=none:=by
 unfold FB; rw [show l.length - p=0 by omega]; rfl
theorem get_at {l:List UInt8} {p:Nat} (h:p < l.length):((⟨l.toArray⟩:ByteArray).get! p)=l[p]:=by
 simp [ByteArray.get!,h]
theorem FB_any (l:List UInt8):∀ (n p:Nat),l.length - p≤n→(FB l p).isSome=(l.drop p).any badByte
 | 0,p,h=>by rw [FB_end (by omega),List.drop_eq_nil_of_le (by omega)]; rfl
 | n + 1,p,h=>by
  by_cases hp:p < l.length
  ·rw [FB_step hp,List.drop_eq_getElem_cons hp,List.any_cons]
   obtain ⟨d1,d2,d3⟩:=decode_two ⟨l.toArray⟩ p
   rw [get_at hp] at d1 d2
   by_cases hb:l[p].toNat < 128
   ·have hd:=d1 hb
    have hr:runeAt l p=(l[p].toNat:Int):=by unfold runeAt; rw [hd]
    have he:runeEnd l p=p + 1:=by unfold runeEnd; rw [hd]
    rw [hr,he]
    show (if badByte l[p]=true then some p else FB l (p + 1)).isSome=_
    cases hq:badByte l[p] with
    | true=>simp
    | false=>simpa using FB_any l n (p + 1) (by omega)
   ·have hq:badByte l[p]=true:=by unfold badByte badRune; simp; omega
    have hq2:badRune (runeAt l p)=true:=by
     have:=d2 (by omega)
     unfold badRune runeAt; simp; omega
    rw [if_pos hq2,hq]; rfl
  ·rw [FB_end hp,List.drop_eq_nil_of_le (by omega)]; rfl
noncomputable def runeC:FSpec:=⟨[.i .i32],fun _=>True,fun (x:Int×Unit)=>.leaf (.sb (badRune x.1))⟩
theorem rune_kept:runeC.Kept Tryz.prog 314:=by
 refine fkept ct0 lp0 runeC 314 Tryz.f314 [] (by kernel_rfl) (by kernel_rfl) ?_
 intro xx _; obtain ⟨r,u⟩:Int×Unit:=xx
 refine hd_eq (t:=.ite (decide (r < 32)) (.leaf (true,.sb true)) (.leaf (true,.sb (decide (126 < r))))) (by kernel_rfl) ?_
 refine holds_ite (fun h=>⟨rfl,?_⟩) (fun h=>⟨rfl,?_⟩) <;> simp [runeC,Dt.val,badRune,h]
noncomputable def runeL:PSpec :=
 {body:=loopIn Tryz.f344 0,nt:=21,nx:=1,room:=8,keep:=[(1,.fn 314 []),(2,.b),(10,.p 0 0)],objs:=[(0,.sit)]
  keepX:=fun x=>match x with | .ret=>[6] | _=>[],objsX:=fun _=>[]
  inv:=fun (x:Unit×Bool×Unit×Unit) _=>x.2.1=true
  res:=fun _ (y:(List UInt8×Nat)×Unit)=>.ite (FB y.1.1 y.1.2).isSome (.leaf (.ret,[.si .i64 (((FB y.1.1 y.1.2).getD 0:Nat):Int)],[])) (.leaf (.exit 0,[],[])) }
theorem runeL_ok:LpSound Tryz.prog (runeL.loop []):=by
 refine pkept (ctc rune_kept ct0) lp0 runeL (fun _ (y:(List UInt8×Nat)×Unit)=>y.1.1.length - y.1.2) (by kernel_rfl) ?_
 intro xx yy hx
 obtain ⟨u1,b,u2,u3⟩:Unit×Bool×Unit×Unit:=xx
 obtain ⟨⟨l,p⟩,u4⟩:(List UInt8×Nat)×Unit:=yy
 have hb:b=true:=hx
 refine hd_eq (t:=.ite (decide (p < l.length)) (.ite (dec True) (.ite (badRune (runeAt l p) == b) (.leaf (true,.ret,[.si .i64 (p:Int)],[]))
   (.leaf (true,.normal,[AVal.fn 314 [] [],AVal.sb b,AVal.ptr 0 0],[AObj.siter true l (runeEnd l p)]))) .fail) (.leaf (true,.exit 0,[],[]))) (by kernel_rfl) ?_
 subst hb
 refine holds_ite (fun hp=>?_) (fun hp=>?_)
 ·have hp:=of_decide_eq_true hp
  have hs:=FB_step hp
  refine holds_need (dec_true trivial) (holds_ite (fun h=>⟨rfl,?_⟩) (fun h=>⟨rfl,((),true,(),()),((l,runeEnd l p),()),rfl,rfl,rfl,?_,?_⟩))
  ·have h:badRune (runeAt l p)=true:=by simpa using h
   rw [if_pos h] at hs
   show (Dt.ite (FB l p).isSome _ _:Dt (AExit×List AVal×List AObj)).val=_
   rw [hs]; rfl
  ·have:=end_gt l p
   show l.length - runeEnd l p < l.length - p
   omega
  ·have h:¬ badRune (runeAt l p)=true:=by simpa using h
   rw [if_neg h] at hs
   show (Dt.ite (FB l (runeEnd l p)).isSome _ _:Dt (AExit×List AVal×List AObj)).val=(Dt.ite (FB l p).isSome _ _:Dt (AExit×List AVal×List AObj)).val
   rw [hs]
 ·have hs:=FB_end (of_decide_eq_false hp)
  refine ⟨rfl,?_⟩
  show (Dt.ite (FB l p).isSome _ _:Dt (AExit×List AVal×List AObj)).val=_
  rw [hs]; rfl
noncomputable def strIdxC:FSpec:=⟨[.s,.fn 314 [],.b],fun (x:ByteArray×Unit×Bool×Unit)=>x.2.2.1=true,
 fun (x:ByteArray×Unit×Bool×Unit)=>.ite (FB x.1.data.toList 0).isSome (.leaf (.si .i64 (((FB x.1.data.toList 0).getD 0:Nat):Int))) (.leaf (.si .i64 (-1)))⟩
theorem strIdx_kept:strIdxC.Kept Tryz.prog 344:=by
 have hL:∀ p∈[(0,runeL.loop [])],LpSound Tryz.prog p.2:=lpc runeL_ok lp0
 have hmk:mkFn Tryz.prog 344=some (.code (unmark [(0,runeL.loop [])] (cd Tryz.f344 [0])) Tryz.f344.ntmps Tryz.f344.results.toList):=by kernel_rfl
 refine fkept ct0 hL strIdxC 344 Tryz.f344 [0] hmk (by kernel_rfl) ?_
 intro xx hx; obtain ⟨s,u1,b,u2⟩:ByteArray×Unit×Bool×Unit:=xx
 have hb:b=true:=hx
 refine hd_eq (t:=.ite (dec (b=true)) (.ite (FB s.data.toList 0).isSome (.leaf (true,.si .i64 (((FB s.data.toList 0).getD 0:Nat):Int))) (.leaf (true,.si .i64 (-1)))) .fail) (by kernel_rfl) ?_
 refine holds_need (dec_true hb) (holds_ite (fun hp=>⟨rfl,?_⟩) fun hp=>⟨rfl,?_⟩)
 ·show (Dt.ite (FB s.data.toList 0).isSome _ _:Dt AVal).val=_
  rw [hp]; rfl
 ·show (Dt.ite (FB s.data.toList 0).isSome _ _:Dt AVal).val=_
  rw [hp]; rfl
def nameB (s:ByteArray):Bool:=!decide ((s.size:Int) < 1) && (!decide (32 < (s.size:Int)) && !(s.data.toList.any badByte))
noncomputable def nameC:FSpec:=⟨[.s],fun _=>True,fun (x:ByteArray×Unit)=>.leaf (.sb (nameB x.1))⟩
theorem name_kept:nameC.Kept Tryz.prog 272:=by
 refine fkept (ctc strIdx_kept ct0) lp0 nameC 272 Tryz.f272 [] (by kernel_rfl) (by kernel_rfl) ?_
 intro xx _; obtain ⟨s,u⟩:ByteArray×Unit:=xx
 refine hd_eq (t:=.ite (!decide ((s.size:Int) < 1)) (.ite (!decide (32 < (s.size:Int))) (.ite (dec (true=true))
   (.ite (FB s.data.toList 0).isSome (.leaf (true,.sb (decide ((((FB s.data.toList 0).getD 0:Nat):Int) < 0)))) (.leaf (true,.sb (decide ((-1:Int) < 0))))) .fail) (.leaf (true,.sb false))) (.leaf (true,.sb false))) (by kernel_rfl) ?_
 have hany:=FB_any s.data.toList _ 0 (Nat.le_refl _)
 rw [List.drop_zero] at hany
 refine holds_ite (fun h1=>holds_ite (fun h2=>holds_need (dec_true rfl) (holds_ite (fun h3=>⟨rfl,?_⟩) fun h3=>⟨rfl,?_⟩)) fun h2=>⟨rfl,?_⟩) fun h1=>⟨rfl,?_⟩
 ·show some (AVal.sb (nameB s))=_
  rw [h3] at hany
  unfold nameB; rw [h1,h2,← hany]; simp
 ·show some (AVal.sb (nameB s))=_
  rw [h3] at hany
  unfold nameB; rw [h1,h2,← hany]; simp
 ·show some (AVal.sb (nameB s))=_
  unfold nameB; rw [h1,h2]; rfl
 ·show some (AVal.sb (nameB s))=_
  unfold nameB; rw [h1]; rfl
end Go.Proofs.YtghaalknpdlobaaGreatDoor

namespace Go.Proofs.YtghaalknpdlobaaGreatDoor
open Go Go.Ev Go.Proofs
set_option maxRecDepth 100000
theorem holds_and {b q:Bool} {t:Dt (Bool×AVal)} (h:t.holds fun x=>x.1=true∧some (AVal.sb q)=some x.2):(Dt.ite b t (.leaf (true,.sb false))).holds fun x=>x.1=true∧some (AVal.sb (b && q))=some x.2:=by
 cases b with
 | false=>exact holds_ite (fun e=>by cases e) (fun _=>⟨rfl,rfl⟩)
 | true=>exact holds_ite (fun _=>h) (fun e=>by cases e)
theorem holds_sb {q:Bool}:(Dt.leaf (true,AVal.sb q)).holds fun x=>x.1=true∧some (AVal.sb q)=some x.2:=holds_leaf ⟨rfl,rfl⟩
theorem holds_name {b:Prop} {t:Dt (Bool×AVal)} {p:Bool×AVal→Prop} (hb:b) (h:t.holds p):(Dt.ite (dec b) t .fail).holds p:=holds_need (dec_true hb) h
abbrev formsP:List Pt:=[.nf,.fn 269 [.box Cd.bare],.fn 270 [.box Cd.bare],.fn 271 [.box Cd.bare],.fn 273 [.box Cd.bare],.fn 274 [.box Cd.bare],.fn 275 [.box Cd.bare]]
abbrev termP:List Pt:=[.i .i64,.i .i64,.s,.d Cd.term]
abbrev TermX:Type:=Int×Int×ByteArray×List Trm×Unit
noncomputable def formS (p:Int→ByteArray→List Trm→Bool):FSpec:=⟨[.agg termP,.box Cd.bare],fun _=>True,fun (x:TermX×Unit×Unit)=>.leaf (.sb (p x.1.2.1 x.1.2.2.1 x.1.2.2.2.1))⟩
def noS (s:ByteArray):Bool:=decide (s=sStr [])
def noL (l:List Trm):Bool:=decide ((l.length:Int)=0)
def no0 (n:Int):Bool:=decide (n=0)
def form1 (n:Int) (s:ByteArray) (l:List Trm):Bool:=noS s && (noL l && (!decide (n < 0) && decide (n < 100000)))
def form2 (n:Int) (s:ByteArray) (l:List Trm):Bool:=noS s && (noL l && (!decide (n < -2147483647) && !decide (2147483647 < n)))
def form3 (n:Int) (s:ByteArray) (l:List Trm):Bool:=no0 n && (noL l && nameB s)
def form4 (n:Int) (s:ByteArray) (l:List Trm):Bool:=no0 n && (noL l && !decide (255 < (s.size:Int)))
def form5 (n:Int) (s:ByteArray) (l:List Trm):Bool:=no0 n && (nameB s && (!decide ((l.length:Int) < 1) && !decide (16 < (l.length:Int))))
def form6 (n:Int) (s:ByteArray) (l:List Trm):Bool:=no0 n && (noS s && !decide (64 < (l.length:Int)))
theorem form1q_kept:(formS form1).Kept Tryz.prog 269:=by
 refine fkept ct0 lp0 (formS form1) 269 Tryz.f269 [] (by kernel_rfl) (by kernel_rfl) ?_
 intro xx _; obtain ⟨⟨k,n,s,l,u⟩,u2,u3⟩:TermX×Unit×Unit:=xx
 refine hd_eq (t:=.ite (noS s) (.ite (noL l) (.ite (!decide (n < 0)) (.leaf (true,.sb (decide (n < 100000)))) (.leaf (true,.sb false))) (.leaf (true,.sb false))) (.leaf (true,.sb false))) (by kernel_rfl) ?_
 exact holds_and (holds_and (holds_and holds_sb))
theorem form2q_kept:(formS form2).Kept Tryz.prog 270:=by
 refine fkept ct0 lp0 (formS form2) 270 Tryz.f270 [] (by kernel_rfl) (by kernel_rfl) ?_
 intro xx _; obtain ⟨⟨k,n,s,l,u⟩,u2,u3⟩:TermX×Unit×Unit:=xx
 refine hd_eq (t:=.ite (noS s) (.ite (noL l) (.ite (!decide (n < -2147483647)) (.leaf (true,.sb (!decide (2147483647 < n)))) (.leaf (true,.sb false))) (.leaf (true,.sb false))) (.leaf (true,.sb false))) (by kernel_rfl) ?_
 exact holds_and (holds_and (holds_and holds_sb))
theorem form3q_kept:(formS form3).Kept Tryz.prog 271:=by
 refine fkept (ctc name_kept ct0) lp0 (formS form3) 271 Tryz.f271 [] (by kernel_rfl) (by kernel_rfl) ?_
 intro xx _; obtain ⟨⟨k,n,s,l,u⟩,u2,u3⟩:TermX×Unit×Unit:=xx
 refine hd_eq (t:=.ite (no0 n) (.ite (noL l) (.ite (dec True) (.leaf (true,.sb (nameB s))) .fail) (.leaf (true,.sb false))) (.leaf (true,.sb false))) (by kernel_rfl) ?_
 exact holds_and (holds_and (holds_name trivial holds_sb))
theorem form4q_kept:(formS form4).Kept Tryz.prog 273:=by
 refine fkept ct0 lp0 (formS form4) 273 Tryz.f273 [] (by kernel_rfl) (by kernel_rfl) ?_
 intro xx _; obtain ⟨⟨k,n,s,l,u⟩,u2,u3⟩:TermX×Unit×Unit:=xx
 refine hd_eq (t:=.ite (no0 n) (.ite (noL l) (.leaf (true,.sb (!decide (255 < (s.size:Int))))) (.leaf (true,.sb false))) (.leaf (true,.sb false))) (by kernel_rfl) ?_
 exact holds_and (holds_and holds_sb)
theorem form5q_kept:(formS form5).Kept Tryz.prog 274:=by
 refine fkept (ctc name_kept ct0) lp0 (formS form5) 274 Tryz.f274 [] (by kernel_rfl) (by kernel_rfl) ?_
 intro xx _; obtain ⟨⟨k,n,s,l,u⟩,u2,u3⟩:TermX×Unit×Unit:=xx
 refine hd_eq (t:=.ite (no0 n) (.ite (dec True) (.ite (nameB s) (.ite (!decide ((l.length:Int) < 1)) (.leaf (true,.sb (!decide (16 < (l.length:Int))))) (.leaf (true,.sb false))) (.leaf (true,.sb false))) .fail) (.leaf (true,.sb false))) (by kernel_rfl) ?_
 exact holds_and (holds_name trivial (holds_and (holds_and holds_sb)))
theorem form6q_kept:(formS form6).Kept Tryz.prog 275:=by
 refine fkept ct0 lp0 (formS form6) 275 Tryz.f275 [] (by kernel_rfl) (by kernel_rfl) ?_
 intro xx _; obtain ⟨⟨k,n,s,l,u⟩,u2,u3⟩:TermX×Unit×Unit:=xx
 refine hd_eq (t:=.ite (no0 n) (.ite (noS s) (.leaf (true,.sb (!decide (64 < (l.length:Int))))) (.leaf (true,.sb false))) (.leaf (true,.sb false))) (by kernel_rfl) ?_
 exact holds_and (holds_and holds_sb)
noncomputable abbrev formCs:List (FuncId×List FSpec):=[(269,[formS form1]),(270,[formS form2]),(271,[formS form3]),(273,[formS form4]),(274,[formS form5]),(275,[formS form6])]
theorem formCs_ok:∀ p∈formCs,∀ S∈p.2,S.Kept Tryz.prog p.1:=ctc form1q_kept (ctc form2q_kept (ctc form3q_kept (ctc form4q_kept (ctc form5q_kept (ctc form6q_kept ct0)))))
def formB (k n:Int) (s:ByteArray) (l:List Trm):Bool :=
 if k=1 then form1 n s l else if k=2 then form2 n s l else if k=3 then form3 n s l else if k=4 then form4 n s l else if k=5 then form5 n s l else if k=6 then form6 n s l else false
mutual
def countT:Trm→Int→Int→Int
 | ⟨k,n,s,l⟩,left,deep=>if deep < 1∨left < 1∨formB k n s l=false then left + 1 else (match countL l left deep 1 with
  | some m=>m
  | none=>left + 1)
def countL:List Trm→Int→Int→Int→Option Int
 | [],_,_,n=>some n
 | x :: l,left,deep,n=>if left < n + countT x (left - n) (deep - 1) then none else countL l left deep (n + countT x (left - n) (deep - 1))
end
end Go.Proofs.YtghaalknpdlobaaGreatDoor

namespace Go.Proofs.YtghaalknpdlobaaGreatDoor
open Go Go.Ev Go.Proofs
set_option maxRecDepth 100000
mutual
theorem countT_bound:∀ (t:Trm) (left deep:Int),0≤left→1≤countT t left deep∧countT t left deep≤left + 1
 | ⟨k,n,s,l⟩,left,deep,h=>by
  unfold countT
  by_cases c:deep < 1∨left < 1∨formB k n s l=false
  ·rw [if_pos c]; omega
  ·rw [if_neg c]
   cases hm:countL l left deep 1 with
   | none=>simp only []; omega
   | some m =>
    have:=countL_bound l left deep 1 m (by omega) (by omega) hm
    simp only []; omega
theorem countL_bound:∀ (l:List Trm) (left deep n m:Int),1≤n→n≤left→countL l left deep n=some m→n≤m∧m≤left
 | [],left,deep,n,m,h1,h2,h=>by
  unfold countL at h; cases h; omega
 | x :: l,left,deep,n,m,h1,h2,h=>by
  unfold countL at h
  have hb:=countT_bound x (left - n) (deep - 1) (by omega)
  by_cases c:left < n + countT x (left - n) (deep - 1)
  ·rw [if_pos c] at h; cases h
  ·rw [if_neg c] at h
   have:=countL_bound l left deep _ m (by omega) (by omega) h
   omega
end
theorem countL_cons (x:Trm) (l:List Trm) (left deep n:Int):countL (x :: l) left deep n=if left < n + countT x (left - n) (deep - 1) then none else countL l left deep (n + countT x (left - n) (deep - 1)):=by
 conv=>lhs; unfold countL
theorem form_len {k n:Int} {s:ByteArray} {l:List Trm} (h:formB k n s l=true):l.length≤64:=by
 unfold formB at h
 repeat' split at h
 all_goals first
  | cases h
  | (simp only [form1,form2,form3,form4,form5,form6,noL,Bool.and_eq_true,decide_eq_true_eq,Bool.not_eq_true',decide_eq_false_iff_not] at h; omega)
abbrev eT (t:Trm):Trm:=⟨t.kind,t.n,t.s,t.l⟩
theorem eT_eq (t:Trm):eT t=t:=by cases t; rfl
def cntP (N:Nat) (t:Trm) (left deep:Int):Prop:=SizeOf.sizeOf t < N∧0≤left∧left≤1000000000∧0≤deep∧deep≤1000000000
def cntV (N:Nat) (left deep n:Int) (l:List Trm) (len i:Int):Prop :=
 (∀ x∈l,SizeOf.sizeOf x < N)∧l.length≤64∧len=(l.length:Int)∧0≤i∧i≤(l.length:Int)∧1≤n∧n≤left∧left≤1000000000∧1≤deep∧deep≤1000000000
abbrev CntX:Type:=TermX×Int×Int×Pts formsP×Unit
noncomputable def cntS (N:Nat):FSpec:=⟨[.agg termP,.i .i64,.i .i64,.agg formsP],fun (x:CntX)=>cntP N ⟨x.1.1,x.1.2.1,x.1.2.2.1,x.1.2.2.2.1⟩ x.2.1 x.2.2.1,
 fun (x:CntX)=>.leaf (.si .i64 (countT ⟨x.1.1,x.1.2.1,x.1.2.2.1,x.1.2.2.2.1⟩ x.2.1 x.2.2.1))⟩
noncomputable def cntDt (left deep n:Int) (l:List Trm) (i:Int):Dt (AExit×List AVal×List AObj) :=
 .ite (countL (l.drop i.toNat) left deep n).isNone (.leaf (.ret,[.si .i64 (left + 1)],[])) (.leaf (.exit 0,[.si .i64 ((countL (l.drop i.toNat) left deep n).getD 0)],[]))
abbrev CntLX:Type:=Int×Int×Unit×Int×List Trm×Int×Int×Unit
noncomputable def cntL (N:Nat):PSpec :=
 {body:=loopIn Tryz.f205 0,nt:=63,nx:=2,room:=8,keep:=[(1,.i .i64),(2,.i .i64),(7,.p 1 0),(9,.i .i64),(40,.d Cd.term),(41,.i .i64),(42,.i .i64)],objs:=[(1,.cells formsP 289 1 0 [(1,0,7)])]
  keepX:=fun x=>match x with | .ret=>[8] | _=>[9],objsX:=fun _=>[]
  inv:=fun (x:CntLX) _=>cntV N x.1 x.2.1 x.2.2.2.1 x.2.2.2.2.1 x.2.2.2.2.2.1 x.2.2.2.2.2.2.1
  res:=fun (x:CntLX) _=>cntDt x.1 x.2.1 x.2.2.2.1 x.2.2.2.2.1 x.2.2.2.2.2.2.1 }
theorem cntL_ok (N:Nat) (hS:(cntS N).Kept Tryz.prog 205):LpSound Tryz.prog ((cntL N).loop []):=by
 refine pkept (ctc hS formCs_ok) lp0 (cntL N) (fun (x:CntLX) _=>((x.2.2.2.2.1.length:Int) - x.2.2.2.2.2.2.1).toNat) (by kernel_rfl) ?_
 intro xx yy hx
 obtain ⟨left,deep,u1,n,l,len,i,u2⟩:CntLX:=xx
 obtain ⟨f,u3⟩:Pts formsP×Unit:=yy
 have hx:cntV N left deep n l len i:=hx
 have hx0:=hx
 unfold cntV at hx
 obtain ⟨hsz,hl,hlen,hi0,hi1,hn1,hn2,hleft,hd1,hd2⟩:=hx
 subst hlen
 let z:Trm:=Univ.dflt (Cd.term:Cd)
 refine hd_eq (t:=.ite (decide (i < (l.length:Int))) (.ite (decide (0≤i) && decide (i < (l.length:Int))) (.ite (dec (cntP N (eT (l.getD i.toNat z)) (IntKind.i64.wrap (left - n)) (IntKind.i64.wrap (deep - 1))))
   (.ite (decide (left < IntKind.i64.wrap (n + countT (eT (l.getD i.toNat z)) (IntKind.i64.wrap (left - n)) (IntKind.i64.wrap (deep - 1))))) (.leaf (true,.ret,[.si .i64 (IntKind.i64.wrap (left + 1))],[]))
    (.leaf (true,.normal,[.si .i64 left,.si .i64 deep,.ptr 1 0,.si .i64 (IntKind.i64.wrap (n + countT (eT (l.getD i.toNat z)) (IntKind.i64.wrap (left - n)) (IntKind.i64.wrap (deep - 1)))),.dsl (Cd.term:Cd) l,.si .i64 (l.length:Int),.si .i64 (IntKind.i64.wrap (i + 1))],
     [.cells (Pts.vals formsP f) 289 false false 1 0 [(1,0,7)]]))) .fail) .fail) (.leaf (true,.exit 0,[.si .i64 n],[]))) (by kernel_rfl) ?_
 rw [eT_eq]
 refine holds_ite (fun hlt=>?_) (fun hlt=>?_)
 ·have hlt:=of_decide_eq_true hlt
  have hd:=drop_cons l i z hi0 hlt
  have e1:IntKind.i64.wrap (left - n)=left - n:=wrap64 (by omega) (by omega)
  have e2:IntKind.i64.wrap (deep - 1)=deep - 1:=wrap64 (by omega) (by omega)
  rw [e1,e2]
  have hb:=countT_bound (l.getD i.toNat z) (left - n) (deep - 1) (by omega)
  have e3:IntKind.i64.wrap (n + countT (l.getD i.toNat z) (left - n) (deep - 1))=n + countT (l.getD i.toNat z) (left - n) (deep - 1):=wrap64 (by omega) (by omega)
  have e4:IntKind.i64.wrap (left + 1)=left + 1:=wrap64 (by omega) (by omega)
  have e5:IntKind.i64.wrap (i + 1)=i + 1:=wrap64 (by omega) (by omega)
  rw [e3,e4,e5]
  have hc:countL (l.drop i.toNat) left deep n=if left < n + countT (l.getD i.toNat z) (left - n) (deep - 1) then none else countL (l.drop (i + 1).toNat) left deep (n + countT (l.getD i.toNat z) (left - n) (deep - 1)):=by
   rw [hd,countL_cons]
  refine holds_need (by simp [hi0,hlt]) (holds_need (dec_true ⟨hsz _ (getD_mem l i z hi0 hlt),by omega,by omega,by omega,by omega⟩) (holds_ite (fun h=>⟨rfl,?_⟩) (fun h=>⟨rfl,(left,deep,(),n + countT (l.getD i.toNat z) (left - n) (deep - 1),l,(l.length:Int),i + 1,()),(f,()),rfl,rfl,?_,?_,?_⟩)))
  ·rw [if_pos (of_decide_eq_true h)] at hc
   show (cntDt left deep n l i).val=_
   unfold cntDt; rw [hc]; rfl
  ·have h:=of_decide_eq_false h
   show cntV N left deep (n + countT (l.getD i.toNat z) (left - n) (deep - 1)) l (l.length:Int) (i + 1)
   exact ⟨hsz,hl,rfl,by omega,by omega,by omega,by omega,hleft,hd1,hd2⟩
  ·show ((l.length:Int) - (i + 1)).toNat < ((l.length:Int) - i).toNat
   omega
  ·rw [if_neg (of_decide_eq_false h)] at hc
   show (cntDt left deep (n + countT (l.getD i.toNat z) (left - n) (deep - 1)) l (i + 1)).val=(cntDt left deep n l i).val
   unfold cntDt; rw [hc]
 ·have hlt:=of_decide_eq_false hlt
  refine ⟨rfl,?_⟩
  show (cntDt left deep n l i).val=_
  unfold cntDt
  rw [drop_end l i hi1 hlt]
  unfold countL
  rfl
def cntR (left:Int):Dt (Bool×AVal):=.leaf (true,.si .i64 (IntKind.i64.wrap (left + 1)))
noncomputable def cntTail (N:Nat) (left deep:Int) (l:List Trm):Dt (Bool×AVal) :=
 .ite (dec (cntV N left deep 1 l (l.length:Int) 0)) (.ite (countL l left deep 1).isNone (.leaf (true,.si .i64 (left + 1))) (.leaf (true,.si .i64 ((countL l left deep 1).getD 0)))) .fail
noncomputable def cntArm (N:Nat) (b:Bool) (left deep:Int) (l:List Trm):Dt (Bool×AVal):=.ite (dec True) (.ite (!b) (cntR left) (cntTail N left deep l)) .fail
theorem cnt_arm {N:Nat} {k n:Int} {s:ByteArray} {l:List Trm} {left deep:Int} {b:Bool} (hb:formB k n s l=b) (hp:cntP (N + 1) ⟨k,n,s,l⟩ left deep) (hd:¬ deep < 1) (hl:¬ left < 1) :
  (cntArm N b left deep l).holds fun q=>q.1=true∧some (AVal.si .i64 (countT ⟨k,n,s,l⟩ left deep))=some q.2:=by
 obtain ⟨h1,h2,h3,h4,h5⟩:=hp
 refine holds_name trivial (holds_ite (fun h=>⟨rfl,?_⟩) (fun h=>?_))
 ·have h:b=false:=by simpa using h
  unfold countT
  rw [if_pos (by right; right; rw [hb,h]),wrap64 (by omega) (by omega)]
 ·have h:b=true:=by simpa using h
  have hf:formB k n s l=true:=by rw [hb,h]
  have hlen:=form_len hf
  have hc:countT ⟨k,n,s,l⟩ left deep=(match countL l left deep 1 with | some m=>m | none=>left + 1):=by
   conv=>lhs; unfold countT
   rw [if_neg (by rw [hf]; simp; omega)]
   all_goals (cases countL l left deep 1 <;> rfl)
  rw [hc]
  refine holds_need (dec_true ⟨fun x hx=>?_,hlen,rfl,Int.le_refl _,by omega,Int.le_refl _,by omega,h3,by omega,h5⟩) (holds_ite (fun h=>⟨rfl,?_⟩) (fun h=>⟨rfl,?_⟩))
  ·have:=List.sizeOf_lt_of_mem hx
   simp only [Trm.mk.sizeOf_spec] at h1
   omega
  ·rw [Option.isNone_iff_eq_none.1 h]
  ·cases hm:countL l left deep 1 with
   | none=>rw [hm] at h; cases h
   | some m=>rfl
theorem cnt_kept:∀ N,(cntS N).Kept Tryz.prog 205
 | 0=>by
  intro x hx
  exact absurd hx.1 (Nat.not_lt_zero _)
 | N + 1=>by
  have hL:∀ p∈[(0,(cntL N).loop [])],LpSound Tryz.prog p.2:=lpc (cntL_ok N (cnt_kept N)) lp0
  have hmk:mkFn Tryz.prog 205=some (.code (unmark [(0,(cntL N).loop [])] (cd Tryz.f205 [0])) Tryz.f205.ntmps Tryz.f205.results.toList):=by kernel_rfl
  refine fkept formCs_ok hL (cntS (N + 1)) 205 Tryz.f205 [0] hmk (by kernel_rfl) ?_
  intro xx hx
  obtain ⟨⟨k,n,s,l,u1⟩,left,deep,f,u2⟩:CntX:=xx
  have hp:cntP (N + 1) ⟨k,n,s,l⟩ left deep:=hx
  refine hd_eq (t:=.ite (decide (deep < 1)) (cntR left) (.ite (decide (left < 1)) (cntR left) (.ite (decide (k < 1)) (cntR left) (.ite (decide (6 < k)) (cntR left)
   (.ite (decide (k=0)) .fail (.ite (decide (k=1)) (cntArm N (form1 n s l) left deep l) (.ite (decide (k=2)) (cntArm N (form2 n s l) left deep l) (.ite (decide (k=3)) (cntArm N (form3 n s l) left deep l)
    (.ite (decide (k=4)) (cntArm N (form4 n s l) left deep l) (.ite (decide (k=5)) (cntArm N (form5 n s l) left deep l) (.ite (decide (k=6)) (cntArm N (form6 n s l) left deep l) .fail))))))))))) (by kernel_rfl) ?_
  have bad:(deep < 1∨left < 1∨formB k n s l=false)→(cntR left).holds fun q=>q.1=true∧some (AVal.si .i64 (countT ⟨k,n,s,l⟩ left deep))=some q.2:=by
   intro h
   obtain ⟨h1,h2,h3,h4,h5⟩:=hp
   unfold countT
   rw [if_pos h]
   refine holds_leaf ⟨rfl,?_⟩
   show some (AVal.si .i64 (left + 1))=some (AVal.si .i64 (IntKind.i64.wrap (left + 1)))
   rw [wrap64 (by omega) (by omega)]
  refine holds_ite (fun h=>bad (.inl (of_decide_eq_true h))) fun hd=>?_
  refine holds_ite (fun h=>bad (.inr (.inl (of_decide_eq_true h)))) fun hl=>?_
  have hd:=of_decide_eq_false hd
  have hl:=of_decide_eq_false hl
  refine holds_ite (fun h=>bad (.inr (.inr ?_))) fun h1=>?_
  ·have h:=of_decide_eq_true h
   unfold formB
   rw [if_neg (by omega),if_neg (by omega),if_neg (by omega),if_neg (by omega),if_neg (by omega),if_neg (by omega)]
  refine holds_ite (fun h=>bad (.inr (.inr ?_))) fun h6=>?_
  ·have h:=of_decide_eq_true h
   unfold formB
   rw [if_neg (by omega),if_neg (by omega),if_neg (by omega),if_neg (by omega),if_neg (by omega),if_neg (by omega)]
  have h1:=of_decide_eq_false h1
  have h6:=of_decide_eq_false h6
  refine holds_ite (fun h=>by have:=of_decide_eq_true h; omega) fun h=>?_
  refine holds_ite (fun h=>cnt_arm (by have:=of_decide_eq_true h; subst this; rfl) hp hd hl) fun a1=>?_
  refine holds_ite (fun h=>cnt_arm (by have:=of_decide_eq_true h; subst this; rfl) hp hd hl) fun a2=>?_
  refine holds_ite (fun h=>cnt_arm (by have:=of_decide_eq_true h; subst this; rfl) hp hd hl) fun a3=>?_
  refine holds_ite (fun h=>cnt_arm (by have:=of_decide_eq_true h; subst this; rfl) hp hd hl) fun a4=>?_
  refine holds_ite (fun h=>cnt_arm (by have:=of_decide_eq_true h; subst this; rfl) hp hd hl) fun a5=>?_
  refine holds_ite (fun h=>cnt_arm (by have:=of_decide_eq_true h; subst this; rfl) hp hd hl) fun a6=>?_
  have a1:=of_decide_eq_false a1
  have a2:=of_decide_eq_false a2
  have a3:=of_decide_eq_false a3
  have a4:=of_decide_eq_false a4
  have a5:=of_decide_eq_false a5
  have a6:=of_decide_eq_false a6
  omega
end Go.Proofs.YtghaalknpdlobaaGreatDoor

namespace Go.Proofs.YtghaalknpdlobaaGreatDoor
open Go Go.Ev Go.Proofs
set_option maxRecDepth 100000
noncomputable def cntA:FSpec:=⟨[.agg termP,.i .i64,.i .i64,.agg formsP],fun (x:CntX)=>0≤x.2.1∧x.2.1≤1000000000∧0≤x.2.2.1∧x.2.2.1≤1000000000,
 fun (x:CntX)=>.leaf (.si .i64 (countT ⟨x.1.1,x.1.2.1,x.1.2.2.1,x.1.2.2.2.1⟩ x.2.1 x.2.2.1))⟩
theorem cntA_kept:cntA.Kept Tryz.prog 205:=by
 intro x hx
 let x':CntX:=x
 exact cnt_kept (SizeOf.sizeOf (⟨x'.1.1,x'.1.2.1,x'.1.2.2.1,x'.1.2.2.2.1⟩:Trm) + 1) x ⟨Nat.lt_succ_self _,hx⟩
def badT (t:Trm):Bool:=decide (4000 < countT t 4000 600)
def errT (t:Trm):Int:=if badT t=true then 3 else 0
noncomputable def chkC:FSpec:=⟨[.agg termP],fun _=>True,fun (x:TermX×Unit)=>.leaf (.si .i64 (errT ⟨x.1.1,x.1.2.1,x.1.2.2.1,x.1.2.2.2.1⟩))⟩
theorem chk_kept:chkC.Kept Tryz.prog 70:=by
 refine fkept (ctc cntA_kept ct0) lp0 chkC 70 Tryz.f70 [] (by kernel_rfl) (by kernel_rfl) ?_
 intro xx _; obtain ⟨⟨k,n,s,l,u⟩,u2⟩:TermX×Unit:=xx
 refine hd_eq (t:=.ite (dec ((0:Int)≤4000∧(4000:Int)≤1000000000∧(0:Int)≤600∧(600:Int)≤1000000000)) (.ite (badT ⟨k,n,s,l⟩) (.leaf (true,.si .i64 3)) (.leaf (true,.si .i64 0))) .fail) (by kernel_rfl) ?_
 refine holds_need (dec_true (by omega)) (holds_ite (fun h=>holds_leaf ⟨rfl,?_⟩) (fun h=>holds_leaf ⟨rfl,?_⟩))
 ·show some (AVal.si .i64 (errT ⟨k,n,s,l⟩))=some (AVal.si .i64 3)
  unfold errT; rw [if_pos h]
 ·show some (AVal.si .i64 (errT ⟨k,n,s,l⟩))=some (AVal.si .i64 0)
  unfold errT; rw [if_neg (by rw [h]; simp)]
def nameP (s:ByteArray):Bool:=decide (errT ⟨3,0,s,[]⟩=0)
noncomputable def snameC:FSpec:=⟨[.s],fun _=>True,fun (x:ByteArray×Unit)=>.leaf (.sb (nameP x.1))⟩
theorem sname_kept:snameC.Kept Tryz.prog 141:=by
 refine fkept (ctc chk_kept ct0) lp0 snameC 141 Tryz.f141 [] (by kernel_rfl) (by kernel_rfl) ?_
 intro xx _; obtain ⟨s,u⟩:ByteArray×Unit:=xx
 refine hd_eq (t:=.ite (dec True) (.leaf (true,.sb (nameP s))) .fail) (by kernel_rfl) ?_
 exact holds_name trivial (holds_leaf ⟨rfl,rfl⟩)
noncomputable def cmpB (s t:ByteArray):Int:=cmpS s.data.toList t.data.toList
noncomputable def orderV (s:ByteArray) (a:Int) (t:ByteArray) (b:Int):Int:=if cmpB s t=0 then (if a < b then -1 else if b < a then 1 else 0) else cmpB s t
abbrev symP:Pt:=.agg [.s,.i .i64]
abbrev SymX:Type:=ByteArray×Int×Unit
noncomputable def orderC:FSpec:=⟨[symP,symP],fun _=>True,fun (x:SymX×SymX×Unit)=>.leaf (.si .i64 (orderV x.1.1 x.1.2.1 x.2.1.1 x.2.1.2.1))⟩
noncomputable def ordT (c v:Int):Dt (Bool×AVal):=.ite (!decide (c=0)) (.leaf (true,.si .i64 c)) (.leaf (true,.si .i64 v))
theorem order_kept:orderC.Kept Tryz.prog 140:=by
 refine fkept ct0 lp0 orderC 140 Tryz.f140 [] (by kernel_rfl) (by kernel_rfl) ?_
 intro xx _; obtain ⟨⟨s,a,u1⟩,⟨t,b,u2⟩,u3⟩:SymX×SymX×Unit:=xx
 refine hd_eq (t:=.ite (!decide (a=a)) (.ite (!decide (b=b)) (ordT (cmpB s t) 0) (ordT (cmpB s t) (-1))) (.ite (!decide (b=b)) (ordT (cmpB s t) 1)
  (.ite (decide (a < b)) (ordT (cmpB s t) (-1)) (.ite (decide (b < a)) (ordT (cmpB s t) 1) (ordT (cmpB s t) 0))))) (by kernel_rfl) ?_
 have key:∀ v,(if a < b then -1 else if b < a then 1 else 0)=v→(ordT (cmpB s t) v).holds fun q=>q.1=true∧some (AVal.si .i64 (orderV s a t b))=some q.2:=by
  intro v hv
  refine holds_ite (fun h=>⟨rfl,?_⟩) (fun h=>⟨rfl,?_⟩)
  ·have h:¬ cmpB s t=0:=by simpa using h
   unfold orderV; rw [if_neg h]
  ·have h:cmpB s t=0:=by simpa using h
   unfold orderV; rw [if_pos h,hv]
 refine holds_ite (fun h=>by simp at h) fun _=>holds_ite (fun h=>by simp at h) fun _=>holds_ite (fun h=>key _ ?_) fun h1=>holds_ite (fun h=>key _ ?_) fun h2=>key _ ?_
 ·rw [if_pos (of_decide_eq_true h)]
 ·rw [if_neg (of_decide_eq_false h1),if_pos (of_decide_eq_true h)]
 ·rw [if_neg (of_decide_eq_false h1),if_neg (of_decide_eq_false h2)]
end Go.Proofs.YtghaalknpdlobaaGreatDoor

namespace Go.Proofs.YtghaalknpdlobaaGreatDoor
open Go Go.Ev Go.Proofs
set_option maxRecDepth 100000
abbrev sortP:List Pt:=[.b,.b,.b,.d Cd.case,.d Cd.int]
abbrev SortX:Type:=Bool×Bool×Bool×List SCase×List Int×Unit
noncomputable def orderBad (p:Option SCase) (c:SCase):Bool:=match p with
 | none=>false
 | some b=>!decide (orderV b.name b.arity c.name c.arity < 0)
def caseBad (m:Int) (atom:Bool) (c:SCase):Bool :=
 !nameP c.name || (decide (c.arity < 0) || (decide (16 < c.arity) || (!decide ((c.args.length:Int)=c.arity) || (c.args.any (outB m) || (atom && decide (c.arity=0))))))
noncomputable def badTail (m:Int) (atom:Bool):Option SCase→List SCase→Bool
 | _,[]=>false
 | p,c :: cs=>(orderBad p c || caseBad m atom c) || badTail m atom (some c) cs
def zCase:SCase:=Univ.dflt (Cd.case:Cd)
def prevOf (l:List SCase) (i:Int):Option SCase:=if 0 < i then some (l.getD (i - 1).toNat zCase) else none
noncomputable def rightB (m:Int) (s:Srt):Bool:=!(decide (400 < (s.cases.length:Int)) || (decide (1 < (s.vec.length:Int)) || (s.vec.any (outB m) || badTail m s.atom none s.cases)))
abbrev RgtY:Type:=SortX×(Int×Unit)×Unit
abbrev RgtX:Type:=Unit×(Unit×Unit)×List SCase×Int×Int×Unit
noncomputable def rgtDt (m:Int) (atom:Bool) (l:List SCase) (i:Int):Dt (AExit×List AVal×List AObj) :=
 .ite (badTail m atom (prevOf l i) (l.drop i.toNat)) (.leaf (.ret,[.sb false],[])) (.leaf (.exit 0,[],[]))
def rgtV (l:List SCase) (len i:Int) (cs:List SCase):Prop:=cs=l∧len=(l.length:Int)∧0≤i∧i≤(l.length:Int)∧(l.length:Int)≤400
noncomputable def rgtL:PSpec :=
 {body:=loopIn Tryz.f80 0,nt:=93,nx:=2,room:=8,keep:=[(2,.p 0 0),(5,.fn 138 [.p 1 0]),(26,.d Cd.case),(27,.i .i64),(28,.i .i64)],objs:=[(0,.cells sortP 106 0 0 [(0,0,5)]),(1,.cells [.i .i64] 3 1 0 [(1,0,1)])]
  keepX:=fun x=>match x with | .ret=>[4] | _=>[],objsX:=fun _=>[]
  inv:=fun (x:RgtX) (y:RgtY)=>rgtV x.2.2.1 x.2.2.2.1 x.2.2.2.2.1 y.1.2.2.2.1
  res:=fun (x:RgtX) (y:RgtY)=>rgtDt y.2.1.1 y.1.2.2.1 x.2.2.1 x.2.2.2.2.1 }
noncomputable abbrev rgtCs:List (FuncId×List FSpec):=[(139,[right1N]),(140,[orderC]),(141,[snameC])]
theorem rgtCs_ok:∀ p∈rgtCs,∀ S∈p.2,S.Kept Tryz.prog p.1:=ctc right1N_kept (ctc order_kept (ctc sname_kept ct0))
abbrev Rgt4:Type:=Bool×AExit×List AVal×List AObj
def rgtRet:Rgt4:=(true,.ret,[AVal.sb false],[])
noncomputable def rgtRest (m:Int) (atom:Bool) (c:SCase) (nxt:Rgt4):Dt Rgt4 :=
 .ite (dec True) (.ite (!nameP c.name) (.leaf rgtRet) (.ite (decide (c.arity < 0)) (.leaf rgtRet) (.ite (decide (16 < c.arity)) (.leaf rgtRet) (.ite (!decide ((c.args.length:Int)=c.arity)) (.leaf rgtRet)
  (.ite (dec ((∀ e∈c.args,noQ e (show Pts [.box Cd.int] from (m,())))∧c.args.length≤maxL)) (.ite (c.args.any (outB m)) (.leaf rgtRet) (.ite atom (.ite (decide (c.arity=0)) (.leaf rgtRet) (.leaf nxt)) (.leaf nxt))) .fail))))) .fail
theorem rgt_rest {m:Int} {atom:Bool} {c:SCase} {nxt:Rgt4} {p:Rgt4→Prop} (h1:caseBad m atom c=true→p rgtRet) (h2:caseBad m atom c=false→p nxt):(rgtRest m atom c nxt).holds p:=by
 unfold rgtRest
 refine holds_need (dec_true trivial) ?_
 refine holds_ite (fun a1=>h1 (by simp only [caseBad,a1,Bool.true_or])) fun a1=>?_
 refine holds_ite (fun a2=>h1 (by simp only [caseBad,a2,Bool.true_or,Bool.or_true])) fun a2=>?_
 refine holds_ite (fun a3=>h1 (by simp only [caseBad,a3,Bool.true_or,Bool.or_true])) fun a3=>?_
 refine holds_ite (fun a4=>h1 (by simp only [caseBad,a4,Bool.true_or,Bool.or_true])) fun a4=>?_
 have b3:=of_decide_eq_false a3
 have b4:(c.args.length:Int)=c.arity:=by simpa using a4
 refine holds_need (dec_true ⟨fun _ _=>trivial,by unfold maxL; omega⟩) ?_
 refine holds_ite (fun a5=>h1 (by simp only [caseBad,a5,Bool.true_or,Bool.or_true])) fun a5=>?_
 have e:caseBad m atom c=(atom && decide (c.arity=0)):=by simp only [caseBad,a1,a2,a3,a4,a5,Bool.false_or]
 refine holds_ite (fun a6=>holds_ite (fun a7=>h1 (by rw [e,a6,a7]; rfl)) fun a7=>h2 (by rw [e,a6,a7]; rfl)) fun a6=>h2 (by rw [e,a6]; rfl)
theorem prev_next {l:List SCase} {i:Int} (h0:0≤i):prevOf l (i + 1)=some (l.getD i.toNat zCase):=by
 unfold prevOf; rw [if_pos (by omega),show i + 1 - 1=i by omega]
theorem rgtL_ok:LpSound Tryz.prog (rgtL.loop []):=by
 refine pkept rgtCs_ok lp0 rgtL (fun (x:RgtX) _=>((x.2.2.1.length:Int) - x.2.2.2.2.1).toNat) (by kernel_rfl) ?_
 intro xx yy hx
 obtain ⟨u1,⟨u2,u3⟩,l,len,i,u4⟩:RgtX:=xx
 obtain ⟨⟨a,b,at',cs,v,u5⟩,⟨m,u6⟩,u7⟩:RgtY:=yy
 have hx:rgtV l len i cs:=hx
 unfold rgtV at hx
 obtain ⟨hcs,hlen,hi0,hi1,h400⟩:=hx
 subst hcs; subst hlen
 let N:Rgt4:=(true,.normal,[AVal.ptr 0 0,AVal.fn 138 [] [AVal.ptr 1 0],AVal.dsl (Cd.case:Cd) cs,AVal.si .i64 (cs.length:Int),AVal.si .i64 (IntKind.i64.wrap (i + 1))],
  [AObj.cells [AVal.sb a,AVal.sb b,AVal.sb at',AVal.dsl (Cd.case:Cd) cs,AVal.dsl (Cd.int:Cd) v] 106 false false 0 0 [(0,0,5)],AObj.cells [AVal.si .i64 m] 3 false false 1 0 [(1,0,1)]])
 refine hd_eq (t:=.ite (decide (i < (cs.length:Int))) (.ite (decide (0≤i) && decide (i < (cs.length:Int)))
  (.ite (decide (0 < i)) (.ite (decide (0≤IntKind.i64.wrap (i - 1)) && decide (IntKind.i64.wrap (i - 1) < (cs.length:Int))) (.ite (dec True)
    (.ite (!decide (orderV (cs.getD (IntKind.i64.wrap (i - 1)).toNat zCase).name (cs.getD (IntKind.i64.wrap (i - 1)).toNat zCase).arity (cs.getD i.toNat zCase).name (cs.getD i.toNat zCase).arity < 0)) (.leaf rgtRet)
     (rgtRest m at' (cs.getD i.toNat zCase) N)) .fail) .fail)
   (rgtRest m at' (cs.getD i.toNat zCase) N)) .fail) (.leaf (true,.exit 0,[],[]))) (by kernel_rfl) ?_
 refine holds_ite (fun hlt=>?_) (fun hlt=>?_)
 ·have hlt:=of_decide_eq_true hlt
  have hd:=drop_cons cs i zCase hi0 hlt
  have hw:IntKind.i64.wrap (i + 1)=i + 1:=wrap64 (by omega) (by omega)
  refine holds_need (by simp [hi0,hlt]) ?_
  have bad:(orderBad (prevOf cs i) (cs.getD i.toNat zCase) || caseBad m at' (cs.getD i.toNat zCase))=true→(rgtDt m at' cs i).val=some (AExit.ret,[AVal.sb false],[]):=by
   intro h
   unfold rgtDt; rw [hd]
   unfold badTail
   rw [h]; rfl
  have good:(orderBad (prevOf cs i) (cs.getD i.toNat zCase) || caseBad m at' (cs.getD i.toNat zCase))=false→(rgtDt m at' cs (i + 1)).val=(rgtDt m at' cs i).val:=by
   intro h
   unfold rgtDt
   rw [hd,prev_next hi0]
   conv=>rhs; unfold badTail
   rw [h,Bool.false_or]
  have rest:orderBad (prevOf cs i) (cs.getD i.toNat zCase)=false→(rgtRest m at' (cs.getD i.toNat zCase) N).holds fun q=>q.1=true∧match q.2.1 with
   | .normal=>∃ x' y',Pts.vals (rgtL.keep.map (·.2)) x'=q.2.2.1∧Pos.obs (rgtL.objs.map (·.2)) y'=q.2.2.2∧rgtL.inv x' y'∧((fun (x:RgtX) (_:RgtY)=>((x.2.2.1.length:Int) - x.2.2.2.2.1).toNat) x' y') < ((cs.length:Int) - i).toNat∧(rgtL.res x' y').val=(rgtDt m at' cs i).val
   | e=>(rgtDt m at' cs i).val=some (e,q.2.2):=by
   intro ho
   refine rgt_rest (fun h=>⟨rfl,bad (by rw [ho,h]; rfl)⟩) (fun h=>⟨rfl,((),((),()),cs,(cs.length:Int),IntKind.i64.wrap (i + 1),()),((a,b,at',cs,v,()),(m,()),()),rfl,rfl,?_,?_,?_⟩)
   ·show rgtV cs (cs.length:Int) (IntKind.i64.wrap (i + 1)) cs
    rw [hw]; exact ⟨rfl,rfl,by omega,by omega,h400⟩
   ·show ((cs.length:Int) - IntKind.i64.wrap (i + 1)).toNat < _
    rw [hw]; omega
   ·show (rgtDt m at' cs (IntKind.i64.wrap (i + 1))).val=_
    rw [hw]; exact good (by rw [ho,h]; rfl)
  refine holds_ite (fun hp=>?_) (fun hp=>rest ?_)
  ·have hp:=of_decide_eq_true hp
   have hw2:IntKind.i64.wrap (i - 1)=i - 1:=wrap64 (by omega) (by omega)
   have hpr:prevOf cs i=some (cs.getD (i - 1).toNat zCase):=by unfold prevOf; rw [if_pos hp]
   rw [hw2]
   refine holds_need (by simp; omega) (holds_need (dec_true trivial) (holds_ite (fun h=>holds_leaf ⟨rfl,bad ?_⟩) (fun h=>rest ?_)))
   ·rw [hpr]; unfold orderBad; simp only []; rw [h]; rfl
   ·rw [hpr]; exact h
  ·have hp:=of_decide_eq_false hp
   unfold prevOf; rw [if_neg hp]; rfl
 ·have hlt:=of_decide_eq_false hlt
  refine ⟨rfl,?_⟩
  show (rgtDt m at' cs i).val=_
  unfold rgtDt
  rw [drop_end cs i hi1 hlt]
  rfl
noncomputable def rightC:FSpec:=⟨[.agg sortP,.i .i64],fun _=>True,fun (x:SortX×Int×Unit)=>.leaf (.sb (rightB x.2.1 ⟨x.1.1,x.1.2.1,x.1.2.2.1,x.1.2.2.2.1,x.1.2.2.2.2.1⟩))⟩
theorem right_kept:rightC.Kept Tryz.prog 80:=by
 have hL:∀ p∈[(0,rgtL.loop [])],LpSound Tryz.prog p.2:=lpc rgtL_ok lp0
 have hmk:mkFn Tryz.prog 80=some (.code (unmark [(0,rgtL.loop [])] (cd Tryz.f80 [0])) Tryz.f80.ntmps Tryz.f80.results.toList):=by kernel_rfl
 refine fkept rgtCs_ok hL rightC 80 Tryz.f80 [0] hmk (by kernel_rfl) ?_
 intro xx _; obtain ⟨⟨a,b,at',cs,v,u1⟩,m,u2⟩:SortX×Int×Unit:=xx
 refine hd_eq (t:=.ite (decide (400 < (cs.length:Int))) (.leaf (true,.sb false)) (.ite (decide (1 < (v.length:Int))) (.leaf (true,.sb false))
  (.ite (dec ((∀ e∈v,noQ e (show Pts [.box Cd.int] from (m,())))∧v.length≤maxL)) (.ite (v.any (outB m)) (.leaf (true,.sb false))
   (.ite (dec (rgtV cs (cs.length:Int) 0 cs)) (.ite (badTail m at' none cs) (.leaf (true,.sb false)) (.leaf (true,.sb true))) .fail)) .fail))) (by kernel_rfl) ?_
 have res:∀ q,rightB m ⟨a,b,at',cs,v⟩=q→(Dt.leaf (true,AVal.sb q)).holds fun q=>q.1=true∧(rightC.res ((a,b,at',cs,v,u1),m,u2)).val=some q.2:=by
  intro q h
  refine holds_leaf ⟨rfl,?_⟩
  show some (AVal.sb (rightB m ⟨a,b,at',cs,v⟩))=_
  rw [h]
 refine holds_ite (fun a1=>res _ (by simp only [rightB,a1,Bool.true_or,Bool.not_true])) fun a1=>?_
 refine holds_ite (fun a2=>res _ (by simp only [rightB,a2,Bool.true_or,Bool.or_true,Bool.not_true])) fun a2=>?_
 have b1:=of_decide_eq_false a1
 have b2:=of_decide_eq_false a2
 refine holds_need (dec_true ⟨fun _ _=>trivial,by unfold maxL; omega⟩) ?_
 refine holds_ite (fun a3=>res _ (by simp only [rightB,a3,Bool.true_or,Bool.or_true,Bool.not_true])) fun a3=>?_
 refine holds_need (dec_true ⟨rfl,rfl,by omega,by omega,by omega⟩) ?_
 refine holds_ite (fun a4=>res _ (by simp only [rightB,a4,Bool.or_true,Bool.not_true])) fun a4=>res _ (by simp only [rightB,a1,a2,a3,a4,Bool.or_false,Bool.not_false])
end Go.Proofs.YtghaalknpdlobaaGreatDoor

namespace Go.Proofs.YtghaalknpdlobaaGreatDoor
open Go Go.Ev Go.Proofs
set_option maxRecDepth 100000
noncomputable def chk1P (c:Pts [.box Cd.sorts]) (s:Srt):Bool:=!rightB ((show List Srt from c.1).length:Int) s
noncomputable def chk1C:FSpec:=⟨[.agg sortP,.box Cd.sorts],fun _=>True,fun (x:SortX×List Srt×Unit)=>.leaf (.sb (!rightB (x.2.1.length:Int) ⟨x.1.1,x.1.2.1,x.1.2.2.1,x.1.2.2.2.1,x.1.2.2.2.2.1⟩))⟩
theorem chk1q_kept:chk1C.Kept Tryz.prog 79:=by
 refine fkept (ctc right_kept ct0) lp0 chk1C 79 Tryz.f79 [] (by kernel_rfl) (by kernel_rfl) ?_
 intro xx _; obtain ⟨⟨a,b,at',cs,v,u1⟩,g,u2⟩:SortX×List Srt×Unit:=xx
 refine hd_eq (t:=.ite (dec True) (.leaf (true,.sb (!rightB (g.length:Int) ⟨a,b,at',cs,v⟩))) .fail) (by kernel_rfl) ?_
 exact holds_need (dec_true trivial) (holds_leaf ⟨rfl,rfl⟩)
def chk1V (l:List Srt) (c:Pts [.box Cd.sorts]) (n i:Int):Prop:=(∀ e∈l,noQ e c)∧l.length≤maxL∧n=(l.length:Int)∧0≤i∧i≤(l.length:Int)
noncomputable def chk1L:PSpec :=
 {body:=loopIn Tryz.f137 0,nt:=19,nx:=0,room:=8,keep:=[(0,.d .sort),(1,.fn 79 [.box Cd.sorts]),(7,.i .i64),(8,.i .i64)],objs:=[]
  keepX:=fun x=>match x with | .ret=>[4] | _=>[],objsX:=fun _=>[]
  inv:=fun (x:List Srt×Pts [.box Cd.sorts]×Int×Int×Unit) _=>chk1V x.1 x.2.1 x.2.2.1 x.2.2.2.1
  res:=fun (x:List Srt×Pts [.box Cd.sorts]×Int×Int×Unit) _=>idxDt (chk1P x.2.1) x.1 x.2.2.2.1 }
theorem chk1L_ok:LpSound Tryz.prog ((chk1L).loop []):=by
 refine pkept (ctc (chk1q_kept) ct0) lp0 (chk1L) (fun (x:List Srt×Pts [.box Cd.sorts]×Int×Int×Unit) _=>((x.1.length:Int) - x.2.2.2.1).toNat) (by kernel_rfl) ?_
 intro xx y hx
 obtain ⟨l,c,n,i,u⟩:List Srt×Pts [.box Cd.sorts]×Int×Int×Unit:=xx
 obtain ⟨hQ,hm,hn,h4,h5⟩:(∀ e∈l,noQ e c)∧l.length≤maxL∧n=(l.length:Int)∧0≤i∧i≤(l.length:Int):=hx
 have hm2:=len64 hm
 subst hn
 let z:Srt:=Univ.dflt (.sort:Cd)
 refine hd_eq (t:=.ite (decide (i < (l.length:Int)))
   (.ite (decide (0≤i) && decide (i < (l.length:Int)))
    (.ite (dec (noQ (l.getD i.toNat z) c))
     (.ite (chk1P c (l.getD i.toNat z)) (.leaf (true,.ret,[.si .i64 i],[]))
      (.leaf (true,.normal,[AVal.dsl (.sort:Cd) l,.fn 79 [] (Pts.vals [.box Cd.sorts] c),.si .i64 (l.length:Int),.si .i64 (IntKind.i64.wrap (i + 1))],[])))
     .fail) .fail)
   (.leaf (true,.exit 0,[],[]))) (by kernel_rfl) ?_
 refine holds_ite (fun hlt=>?_) (fun hlt=>?_)
 ·have hlt:=of_decide_eq_true hlt
  refine holds_need (by simp [h4,hlt]) (holds_need (dec_true (hQ _ (getD_mem l i z h4 hlt))) (holds_ite (fun hp=>⟨rfl,idx_hit z h4 hlt hp⟩) (fun hp=>⟨rfl,(l,c,(l.length:Int),IntKind.i64.wrap (i + 1),()),(),rfl,rfl,?_⟩)))
  rw [wrap64 (by omega) (by omega)]
  refine ⟨⟨hQ,hm,rfl,by show (0:Int)≤i + 1; omega,by show i + 1≤(l.length:Int); omega⟩,by show ((l.length:Int) - (i + 1)).toNat < ((l.length:Int) - i).toNat; omega,?_⟩
  exact idx_on z h4 hlt hp
 ·exact ⟨rfl,idx_end h5 (of_decide_eq_false hlt)⟩
noncomputable def chk1I:FSpec:=⟨[.d .sort,.fn 79 [.box Cd.sorts]],fun (x:List Srt×Pts [.box Cd.sorts]×Unit)=>(∀ e∈x.1,noQ e x.2.1)∧x.1.length≤maxL,
 fun (x:List Srt×Pts [.box Cd.sorts]×Unit)=>.ite (x.1.any (chk1P x.2.1)) (.leaf (.si .i64 ((x.1.findIdx (chk1P x.2.1):Nat):Int))) (.leaf (.si .i64 (-1)))⟩
theorem chk1I_kept:(chk1I).Kept Tryz.prog 137:=by
 have hL:∀ p∈[(0,(chk1L).loop [])],LpSound Tryz.prog p.2:=lpc (chk1L_ok) lp0
 have hmk:mkFn Tryz.prog 137=some (.code (unmark [(0,(chk1L).loop [])] (cd Tryz.f137 [0])) Tryz.f137.ntmps Tryz.f137.results.toList):=by kernel_rfl
 refine fkept ct0 hL (chk1I) 137 Tryz.f137 [0] hmk (by kernel_rfl) ?_
 intro xx hx
 obtain ⟨l,c,u⟩:List Srt×Pts [.box Cd.sorts]×Unit:=xx
 have hx:(∀ e∈l,noQ e c)∧l.length≤maxL:=hx
 have hQ:=hx.1
 have hm:=hx.2
 refine hd_eq (t:=.ite (dec (chk1V l c (l.length:Int) 0)) (.ite (l.any (chk1P c)) (.leaf (true,.si .i64 (0 + (l.findIdx (chk1P c):Nat)))) (.leaf (true,.si .i64 (-1)))) .fail) (by kernel_rfl) ?_
 refine holds_need (dec_true ⟨hQ,hm,rfl,by show (0:Int)≤0; omega,by show (0:Int)≤l.length; omega⟩) (holds_ite (fun hp=>⟨rfl,?_⟩) fun hp=>⟨rfl,?_⟩)
 ·show (Dt.ite (l.any (chk1P c)) _ _:Dt AVal).val=_
  rw [hp]; simp [Dt.val]
 ·show (Dt.ite (l.any (chk1P c)) _ _:Dt AVal).val=_
  rw [hp]; simp [Dt.val]
noncomputable def chk1N:FSpec:=⟨[.d .sort,.fn 79 [.box Cd.sorts]],fun (x:List Srt×Pts [.box Cd.sorts]×Unit)=>(∀ e∈x.1,noQ e x.2.1)∧x.1.length≤maxL,
 fun (x:List Srt×Pts [.box Cd.sorts]×Unit)=>.leaf (.sb (x.1.any (chk1P x.2.1)))⟩
theorem chk1N_kept:(chk1N).Kept Tryz.prog 78:=by
 refine fkept (ctc (chk1I_kept) ct0) lp0 (chk1N) 78 Tryz.f78 [] (by kernel_rfl) (by kernel_rfl) ?_
 intro xx hx
 obtain ⟨l,c,u⟩:List Srt×Pts [.box Cd.sorts]×Unit:=xx
 have hx:(∀ e∈l,noQ e c)∧l.length≤maxL:=hx
 refine hd_eq (t:=.ite (dec ((∀ e∈l,noQ e c)∧l.length≤maxL)) (.ite (l.any (chk1P c)) (.leaf (true,.sb (!decide ((l.findIdx (chk1P c):Int) < 0)))) (.leaf (true,.sb (!decide ((-1:Int) < 0))))) .fail) (by kernel_rfl) ?_
 refine holds_need (dec_true hx) (holds_ite (fun hp=>⟨rfl,?_⟩) fun hp=>⟨rfl,?_⟩)
 ·show some (AVal.sb (l.any (chk1P c)))=some (AVal.sb _)
  rw [hp]; simp
 ·show some (AVal.sb (l.any (chk1P c)))=some (AVal.sb _)
  rw [hp]; simp
noncomputable def graphP (g:List Srt):Bool:=!(decide (2000 < (g.length:Int)) || g.any fun s=>!rightB (g.length:Int) s)
noncomputable def errG (g:List Srt):Int:=if graphP g=true then 0 else 110
noncomputable def checkC:FSpec:=⟨[.d Cd.sort],fun _=>True,fun (x:List Srt×Unit)=>.leaf (.si .i64 (errG x.1))⟩
theorem check_kept:checkC.Kept Tryz.prog 22:=by
 refine fkept (ctc chk1N_kept ct0) lp0 checkC 22 Tryz.f22 [] (by kernel_rfl) (by kernel_rfl) ?_
 intro xx _; obtain ⟨g,u⟩:List Srt×Unit:=xx
 refine hd_eq (t:=.ite (decide (2000 < (g.length:Int))) (.leaf (true,.si .i64 110)) (.ite (dec ((∀ e∈g,noQ e (show Pts [.box Cd.sorts] from (g,())))∧g.length≤maxL))
  (.ite (g.any fun s=>!rightB (g.length:Int) s) (.leaf (true,.si .i64 110)) (.leaf (true,.si .i64 0))) .fail)) (by kernel_rfl) ?_
 have res:∀ e,errG g=e→(Dt.leaf (true,AVal.si .i64 e)).holds fun q=>q.1=true∧(checkC.res (g,u)).val=some q.2:=by
  intro e h
  refine holds_leaf ⟨rfl,?_⟩
  show some (AVal.si .i64 (errG g))=_
  rw [h]
 refine holds_ite (fun h=>res _ ?_) fun h=>?_
 ·unfold errG graphP; rw [h,Bool.true_or,Bool.not_true]; rfl
 have b:=of_decide_eq_false h
 refine holds_need (dec_true ⟨fun _ _=>trivial,by unfold maxL; omega⟩) (holds_ite (fun h2=>res _ ?_) fun h2=>res _ ?_)
 ·unfold errG graphP; rw [h2,Bool.or_true,Bool.not_true]; rfl
 ·unfold errG graphP; rw [h,h2]; rfl
noncomputable def askE (g:List Srt) (s:Int):Int:=if errG g=0 then (if s < 0 then 1 else if s < (g.length:Int) then 0 else 1) else errG g
noncomputable def askC:FSpec:=⟨[.d Cd.sort,.i .i64],fun _=>True,fun (x:List Srt×Int×Unit)=>.leaf (.si .i64 (askE x.1 x.2.1))⟩
theorem ask_kept:askC.Kept Tryz.prog 69:=by
 refine fkept (ctc check_kept ct0) lp0 askC 69 Tryz.f69 [] (by kernel_rfl) (by kernel_rfl) ?_
 intro xx _; obtain ⟨g,s,u⟩:List Srt×Int×Unit:=xx
 refine hd_eq (t:=.ite (dec True) (.ite (!decide (errG g=0)) (.leaf (true,.si .i64 (errG g))) (.ite (decide (s < 0)) (.leaf (true,.si .i64 1))
  (.ite (!decide (s < (g.length:Int))) (.leaf (true,.si .i64 1)) (.leaf (true,.si .i64 0))))) .fail) (by kernel_rfl) ?_
 have res:∀ e,askE g s=e→(Dt.leaf (true,AVal.si .i64 e)).holds fun q=>q.1=true∧(askC.res (g,s,u)).val=some q.2:=by
  intro e h
  refine holds_leaf ⟨rfl,?_⟩
  show some (AVal.si .i64 (askE g s))=_
  rw [h]
 refine holds_need (dec_true trivial) (holds_ite (fun h=>res _ ?_) fun h=>holds_ite (fun h2=>res _ ?_) fun h2=>holds_ite (fun h3=>res _ ?_) fun h3=>res _ ?_)
 ·unfold askE; rw [if_neg (by simpa using h)]
 ·unfold askE; rw [if_pos (by simpa using h),if_pos (of_decide_eq_true h2)]
 ·unfold askE; rw [if_pos (by simpa using h),if_neg (of_decide_eq_false h2),if_neg (by simpa using h3)]
 ·unfold askE; rw [if_pos (by simpa using h),if_neg (of_decide_eq_false h2),if_pos (by simpa using h3)]
end Go.Proofs.YtghaalknpdlobaaGreatDoor

namespace Go.Proofs.YtghaalknpdlobaaGreatDoor
open Go Go.Ev Go.Proofs
set_option maxRecDepth 100000
noncomputable def ordC (c:SCase) (s:ByteArray) (a:Int):Int:=orderV c.name c.arity s a
def midW (i j:Int):Int:=IntKind.i64.wrap ((IntKind.u64.wrap (IntKind.i64.wrap (i + j))).fdiv (2 ^ min 1 IntKind.u64.bits))
theorem mid_eq {i j:Int} (h0:0≤i) (h1:i≤j) (h2:j≤1000000):midW i j=(i + j) / 2:=by
 unfold midW
 have e1:IntKind.i64.wrap (i + j)=i + j:=wrap64 (by omega) (by omega)
 have e2:IntKind.u64.wrap (i + j)=i + j:=by
  simp only [IntKind.wrap,IntKind.bits,IntKind.signed,Bool.false_and,Bool.false_eq_true,if_false]; omega
 have e3:(2:Int) ^ min 1 IntKind.u64.bits=2:=by rfl
 rw [e1,e2,e3,Int.fdiv_eq_ediv_of_nonneg _ (by omega)]
 exact wrap64 (by omega) (by omega)
noncomputable def bsF (l:List SCase) (s:ByteArray) (a:Int):Nat→Int→Int→Int
 | 0,i,_=>i
 | f + 1,i,j=>if i < j then (if ordC (l.getD ((i + j) / 2).toNat zCase) s a < 0 then bsF l s a f ((i + j) / 2 + 1) j else bsF l s a f i ((i + j) / 2)) else i
noncomputable def bsV (l:List SCase) (s:ByteArray) (a:Int) (i j:Int):Int:=bsF l s a (j - i).toNat i j
theorem bsF_fuel (l:List SCase) (s:ByteArray) (a:Int):∀ (f g:Nat) (i j:Int),(j - i).toNat≤f→(j - i).toNat≤g→bsF l s a f i j=bsF l s a g i j
 | 0,0,_,_,_,_=>rfl
 | 0,g + 1,i,j,h,_=>by unfold bsF; rw [if_neg (by omega)]
 | f + 1,0,i,j,_,h=>by unfold bsF; rw [if_neg (by omega)]
 | f + 1,g + 1,i,j,h1,h2=>by
  unfold bsF
  by_cases c:i < j
  ·rw [if_pos c,if_pos c,bsF_fuel l s a f g _ _ (by omega) (by omega),bsF_fuel l s a f g _ _ (by omega) (by omega)]
  ·rw [if_neg c,if_neg c]
theorem bs_step {l:List SCase} {s:ByteArray} {a i j:Int} (h:i < j):bsV l s a i j=if ordC (l.getD ((i + j) / 2).toNat zCase) s a < 0 then bsV l s a ((i + j) / 2 + 1) j else bsV l s a i ((i + j) / 2):=by
 have e:bsV l s a i j=bsF l s a ((j - i).toNat - 1 + 1) i j:=bsF_fuel l s a _ _ _ _ (by omega) (by omega)
 rw [e]
 unfold bsF
 rw [if_pos h]
 unfold bsV
 rw [bsF_fuel l s a ((j - i).toNat - 1) (j - ((i + j) / 2 + 1)).toNat _ _ (by omega) (by omega),bsF_fuel l s a ((j - i).toNat - 1) ((i + j) / 2 - i).toNat _ _ (by omega) (by omega)]
theorem bs_end {l:List SCase} {s:ByteArray} {a i j:Int} (h:¬ i < j):bsV l s a i j=i:=by
 unfold bsV; rw [show (j - i).toNat=0 by omega]; rfl
abbrev BsX:Type:=List SCase×Unit×Unit×Int×Int×Int×Unit
abbrev BsY:Type:=SymX×Unit
def bsI (l:List SCase) (n i j:Int):Prop:=n=(l.length:Int)∧0≤i∧i≤j∧j≤(l.length:Int)∧(l.length:Int)≤1000000
noncomputable def bsL:PSpec :=
 {body:=loopIn Tryz.f185 0,nt:=49,nx:=1,room:=8,keep:=[(0,.d Cd.case),(2,.fn 186 []),(4,.p 0 0),(8,.i .i64),(9,.i .i64),(10,.i .i64)],objs:=[(0,.cells [.s,.i .i64] 101 0 0 [(0,0,2)])]
  keepX:=fun _=>[0,2,4,8,9],objsX:=fun _=>[0]
  inv:=fun (x:BsX) _=>bsI x.1 x.2.2.2.1 x.2.2.2.2.1 x.2.2.2.2.2.1
  res:=fun (x:BsX) (y:BsY)=>.leaf (.exit 0,[.dsl (Cd.case:Cd) x.1,.fn 186 [] [],.ptr 0 0,.si .i64 x.2.2.2.1,.si .i64 (bsV x.1 y.1.1 y.1.2.1 x.2.2.2.2.1 x.2.2.2.2.2.1)],
   [.cells [.ss y.1.1,.si .i64 y.1.2.1] 101 false false 0 0 [(0,0,2)]]) }
theorem bsL_ok:LpSound Tryz.prog (bsL.loop []):=by
 refine pkept (ctc order_kept ct0) lp0 bsL (fun (x:BsX) _=>(x.2.2.2.2.2.1 - x.2.2.2.2.1).toNat) (by kernel_rfl) ?_
 intro xx yy hx
 obtain ⟨l,u1,u2,n,i,j,u3⟩:BsX:=xx
 obtain ⟨⟨s,a,u4⟩,u5⟩:BsY:=yy
 have hx:bsI l n i j:=hx
 unfold bsI at hx
 obtain ⟨hn,h0,h1,h2,h3⟩:=hx
 refine hd_eq (t:=.ite (decide (i < j)) (.ite (decide (0≤midW i j) && decide (midW i j < (l.length:Int))) (.ite (dec True)
   (.ite (decide (ordC (l.getD (midW i j).toNat zCase) s a < 0))
    (.leaf (true,.normal,[.dsl (Cd.case:Cd) l,.fn 186 [] [],.ptr 0 0,.si .i64 n,.si .i64 (IntKind.i64.wrap (midW i j + 1)),.si .i64 j],[.cells [.ss s,.si .i64 a] 101 false false 0 0 [(0,0,2)]]))
    (.leaf (true,.normal,[.dsl (Cd.case:Cd) l,.fn 186 [] [],.ptr 0 0,.si .i64 n,.si .i64 i,.si .i64 (midW i j)],[.cells [.ss s,.si .i64 a] 101 false false 0 0 [(0,0,2)]]))) .fail) .fail)
  (.leaf (true,.exit 0,[.dsl (Cd.case:Cd) l,.fn 186 [] [],.ptr 0 0,.si .i64 n,.si .i64 i],[.cells [.ss s,.si .i64 a] 101 false false 0 0 [(0,0,2)]]))) (by kernel_rfl) ?_
 rw [mid_eq h0 h1 (by omega)]
 refine holds_ite (fun hlt=>?_) (fun hlt=>⟨rfl,?_⟩)
 ·have hlt:=of_decide_eq_true hlt
  have hs:=bs_step (l:=l) (s:=s) (a:=a) hlt
  have hw:IntKind.i64.wrap ((i + j) / 2 + 1)=(i + j) / 2 + 1:=wrap64 (by omega) (by omega)
  rw [hw]
  refine holds_need (by simp; omega) (holds_need (dec_true trivial) (holds_ite (fun h=>⟨rfl,(l,(),(),n,(i + j) / 2 + 1,j,()),((s,a,()),()),rfl,rfl,?_,?_,?_⟩) (fun h=>⟨rfl,(l,(),(),n,i,(i + j) / 2,()),((s,a,()),()),rfl,rfl,?_,?_,?_⟩)))
  ·show bsI l n ((i + j) / 2 + 1) j
   exact ⟨hn,by omega,by omega,h2,h3⟩
  ·show (j - ((i + j) / 2 + 1)).toNat < (j - i).toNat
   omega
  ·rw [if_pos (of_decide_eq_true h)] at hs
   show some _=some _
   rw [hs]
   rfl
  ·show bsI l n i ((i + j) / 2)
   exact ⟨hn,by omega,by omega,by omega,h3⟩
  ·show ((i + j) / 2 - i).toNat < (j - i).toNat
   omega
  ·rw [if_neg (of_decide_eq_false h)] at hs
   show some _=some _
   rw [hs]
   rfl
 ·have hs:=bs_end (l:=l) (s:=s) (a:=a) (of_decide_eq_false hlt)
  show some _=some _
  rw [hs]
noncomputable def bsearch (l:List SCase) (s:ByteArray) (a:Int):Int:=bsV l s a 0 (l.length:Int)
noncomputable def foundB (l:List SCase) (s:ByteArray) (a:Int):Bool:=decide (bsearch l s a < (l.length:Int)) && decide (ordC (l.getD (bsearch l s a).toNat zCase) s a=0)
theorem bs_bound (l:List SCase) (s:ByteArray) (a:Int):∀ (f:Nat) (i j:Int),0≤i→i≤j→0≤bsF l s a f i j∧bsF l s a f i j≤j
 | 0,i,j,h,k=>⟨h,k⟩
 | f + 1,i,j,h,k=>by
  unfold bsF
  by_cases c:i < j
  ·rw [if_pos c]
   split
   ·exact bs_bound l s a f _ _ (by omega) (by omega)
   ·have:=bs_bound l s a f i ((i + j) / 2) (by omega) (by omega)
    omega
  ·rw [if_neg c]; omega
theorem bsearch_bound (l:List SCase) (s:ByteArray) (a:Int):0≤bsearch l s a∧bsearch l s a≤(l.length:Int):=bs_bound l s a _ _ _ (Int.le_refl _) (by omega)
abbrev BsA:Type:=List SCase×SymX×Unit×Unit
noncomputable def bsC:FSpec:=⟨[.d Cd.case,symP,.fn 186 []],fun (x:BsA)=>(x.1.length:Int)≤1000000,fun (x:BsA)=>.leaf (.tup [.si .i64 (bsearch x.1 x.2.1.1 x.2.1.2.1),.sb (foundB x.1 x.2.1.1 x.2.1.2.1)])⟩
theorem bs_kept:bsC.Kept Tryz.prog 185:=by
 have hL:∀ p∈[(0,bsL.loop [])],LpSound Tryz.prog p.2:=lpc bsL_ok lp0
 have hmk:mkFn Tryz.prog 185=some (.code (unmark [(0,bsL.loop [])] (cd Tryz.f185 [0])) Tryz.f185.ntmps Tryz.f185.results.toList):=by kernel_rfl
 refine fkept (ctc order_kept ct0) hL bsC 185 Tryz.f185 [0] hmk (by kernel_rfl) ?_
 intro xx hx
 obtain ⟨l,⟨s,a,u1⟩,u2,u3⟩:BsA:=xx
 have hl:(l.length:Int)≤1000000:=hx
 refine hd_eq (t:=.ite (dec (bsI l (l.length:Int) 0 (l.length:Int))) (.ite (decide (bsearch l s a < (l.length:Int))) (.ite (decide (0≤bsearch l s a) && decide (bsearch l s a < (l.length:Int))) (.ite (dec True)
   (.leaf (true,.tup [.si .i64 (bsearch l s a),.sb (decide (ordC (l.getD (bsearch l s a).toNat zCase) s a=0))])) .fail) .fail)
  (.leaf (true,.tup [.si .i64 (bsearch l s a),.sb false]))) .fail) (by kernel_rfl) ?_
 have hb:=bsearch_bound l s a
 refine holds_need (dec_true ⟨rfl,by omega,by omega,by omega,hl⟩) (holds_ite (fun h=>holds_need ?_ (holds_need (dec_true trivial) (holds_leaf ⟨rfl,?_⟩))) (fun h=>holds_leaf ⟨rfl,?_⟩))
 ·have:=of_decide_eq_true h
  simp; omega
 ·show some (AVal.tup [.si .i64 (bsearch l s a),.sb (foundB l s a)])=_
  unfold foundB; rw [h,Bool.true_and]
 ·show some (AVal.tup [.si .i64 (bsearch l s a),.sb (foundB l s a)])=_
  unfold foundB; rw [h,Bool.false_and]
abbrev FindA:Type:=SortX×SymX×Unit
noncomputable def findDt (l:List SCase) (s:ByteArray) (a:Int):Dt AVal:=.ite (foundB l s a)
 (.leaf (.tup [.agg [.ss (l.getD (bsearch l s a).toNat zCase).name,.si .i64 (l.getD (bsearch l s a).toNat zCase).arity,.dsl (Cd.int:Cd) (l.getD (bsearch l s a).toNat zCase).args],.sb true]))
 (.leaf (.tup [.agg [.ss (sStr []),.si .i64 0,.nils],.sb false]))
noncomputable def findC:FSpec:=⟨[.agg sortP,symP],fun (x:FindA)=>(x.1.2.2.2.1.length:Int)≤1000000,fun (x:FindA)=>findDt x.1.2.2.2.1 x.2.1.1 x.2.1.2.1⟩
theorem find_kept:findC.Kept Tryz.prog 106:=by
 refine fkept (ctc bs_kept ct0) lp0 findC 106 Tryz.f106 [] (by kernel_rfl) (by kernel_rfl) ?_
 intro xx hx
 obtain ⟨⟨b1,b2,b3,l,v,u0⟩,⟨s,a,u1⟩,u2⟩:FindA:=xx
 have hl:(l.length:Int)≤1000000:=hx
 refine hd_eq (t:=.ite (dec ((l.length:Int)≤1000000)) (.ite (!foundB l s a) (.leaf (true,.tup [.agg [.ss (sStr []),.si .i64 0,.nils],.sb false]))
  (.ite (decide (0≤bsearch l s a) && decide (bsearch l s a < (l.length:Int))) (.leaf (true,.tup [.agg [.ss (l.getD (bsearch l s a).toNat zCase).name,.si .i64 (l.getD (bsearch l s a).toNat zCase).arity,.dsl (Cd.int:Cd) (l.getD (bsearch l s a).toNat zCase).args],.sb true])) .fail)) .fail) (by kernel_rfl) ?_
 have hb:=bsearch_bound l s a
 refine holds_need (dec_true hl) (holds_ite (fun h=>holds_leaf ⟨rfl,?_⟩) (fun h=>holds_need ?_ (holds_leaf ⟨rfl,?_⟩)))
 ·have h:foundB l s a=false:=by simpa using h
  show (findDt l s a).val=_
  unfold findDt; rw [h]; rfl
 ·have h:foundB l s a=true:=by simpa using h
  unfold foundB at h
  rw [Bool.and_eq_true] at h
  rw [h.1,Bool.and_true]; simp; omega
 ·have h:foundB l s a=true:=by simpa using h
  show (findDt l s a).val=_
  unfold findDt; rw [h]; rfl
end Go.Proofs.YtghaalknpdlobaaGreatDoor

namespace Go.Proofs.YtghaalknpdlobaaGreatDoor
open Go Go.Ev Go.Proofs
set_option maxRecDepth 100000
def zSort:Srt:=Univ.dflt (Cd.sort:Cd)
def gAt (g:List Srt) (i:Int):Srt:=g.getD i.toNat zSort
noncomputable def caseAt (l:List SCase) (s:ByteArray) (a:Int):SCase:=l.getD (bsearch l s a).toNat zCase
mutual
noncomputable def fitT (g:List Srt):Trm→Int→Bool
 | ⟨k,_,s,l⟩,i=>if k=1 then true else if k=2 then (gAt g i).int else if k=4 then (gAt g i).str
  else if k=6 then decide (((gAt g i).vec.length:Int)=1) && fitA g l ((gAt g i).vec.getD 0 0)
  else if foundB (gAt g i).cases s (l.length:Int)=true then fitLs g l (caseAt (gAt g i).cases s (l.length:Int)).args else decide (k=3) && (gAt g i).atom
noncomputable def fitA (g:List Srt):List Trm→Int→Bool
 | [],_=>true
 | x :: l,i=>fitT g x i && fitA g l i
noncomputable def fitLs (g:List Srt):List Trm→List Int→Bool
 | [],_=>true
 | x :: l,ys=>fitT g x (ys.headD 0) && fitLs g l ys.tail
end
mutual
def fineT:Trm→Prop
 | ⟨_,_,_,l⟩=>l.length≤64∧fineL l
def fineL:List Trm→Prop
 | []=>True
 | x :: l=>fineT x∧fineL l
end
theorem fineL_mem:∀ {l:List Trm},fineL l→∀ x∈l,fineT x
 | [],_,x,h=>by cases h
 | y :: l,hf,x,h=>by
  unfold fineL at hf
  rcases List.mem_cons.1 h with e | e
  ·rw [e]; exact hf.1
  ·exact fineL_mem hf.2 x e
theorem fitA_any (g:List Srt) (i:Int):∀ l:List Trm,fitA g l i=!(l.any fun x=>!fitT g x i)
 | []=>by unfold fitA; rfl
 | x :: l=>by
  unfold fitA
  rw [fitA_any g i l,List.any_cons]
  cases fitT g x i <;> simp
theorem tail_all {m:Int} {atom:Bool}:∀ {l:List SCase} {p:Option SCase},badTail m atom p l=false→∀ c∈l,caseBad m atom c=false
 | [],_,_,c,h=>by cases h
 | d :: l,p,hb,c,h=>by
  unfold badTail at hb
  rw [Bool.or_eq_false_iff,Bool.or_eq_false_iff] at hb
  rcases List.mem_cons.1 h with e | e
  ·rw [e]; exact hb.1.2
  ·exact tail_all hb.2 c e
def inG (g:List Srt) (i:Int):Prop:=0≤i∧i < (g.length:Int)
theorem outB_false {n x:Int} (h:outB n x=false):0≤x∧x < n:=by
 unfold outB at h
 simp at h; omega
theorem graph_at {g:List Srt} {i:Int} (h:graphP g=true) (hi:inG g i):rightB (g.length:Int) (gAt g i)=true:=by
 unfold graphP at h
 have hm:gAt g i∈g:=getD_mem g i zSort hi.1 hi.2
 have h:(decide (2000 < (g.length:Int)) || g.any fun s=>!rightB (g.length:Int) s)=false:=by simpa using h
 rw [Bool.or_eq_false_iff] at h
 have:=List.any_eq_false.1 h.2 _ hm
 simpa using this
theorem right_parts {m:Int} {s:Srt} (h:rightB m s=true):(s.cases.length:Int)≤400∧(s.vec.length:Int)≤1∧(∀ x∈s.vec,0≤x∧x < m)∧∀ c∈s.cases,(c.args.length:Int)=c.arity∧∀ x∈c.args,0≤x∧x < m:=by
 unfold rightB at h
 have h:(decide (400 < (s.cases.length:Int)) || (decide (1 < (s.vec.length:Int)) || (s.vec.any (outB m) || badTail m s.atom none s.cases)))=false:=by simpa using h
 simp only [Bool.or_eq_false_iff,decide_eq_false_iff_not] at h
 obtain ⟨h1,h2,h3,h4⟩:=h
 refine ⟨by omega,by omega,fun x hx=>outB_false (by simpa using List.any_eq_false.1 h3 x hx),fun c hc=>?_⟩
 have:=tail_all h4 c hc
 unfold caseBad at this
 simp only [Bool.or_eq_false_iff] at this
 obtain ⟨_,_,_,h5,h6,_⟩:=this
 exact ⟨by simpa using h5,fun x hx=>outB_false (by simpa using List.any_eq_false.1 h6 x hx)⟩
def fitP (N:Nat) (g:List Srt) (i:Int) (t:Trm):Prop:=graphP g=true∧inG g i∧SizeOf.sizeOf t < N∧fineT t
abbrev FitX:Type:=List Srt×Int×TermX×Unit×Unit
noncomputable def fitS (N:Nat):FSpec:=⟨[.d Cd.sort,.i .i64,.agg termP,.fn 72 []],fun (x:FitX)=>fitP N x.1 x.2.1 ⟨x.2.2.1.1,x.2.2.1.2.1,x.2.2.1.2.2.1,x.2.2.1.2.2.2.1⟩,
 fun (x:FitX)=>.leaf (.sb (fitT x.1 ⟨x.2.2.1.1,x.2.2.1.2.1,x.2.2.1.2.2.1,x.2.2.1.2.2.2.1⟩ x.2.1))⟩
abbrev FitC:Type:=List Srt×Int×Unit×Unit
def vec0 (g:List Srt) (i:Int):Int:=(gAt g i).vec.getD 0 0
def fit1Q (N:Nat) (t:Trm) (c:Pts [.box Cd.sorts,.box Cd.int,.box Cd.any]):Prop :=
 graphP (show FitC from c).1=true∧inG (show FitC from c).1 (show FitC from c).2.1∧((gAt (show FitC from c).1 (show FitC from c).2.1).vec.length:Int)=1∧SizeOf.sizeOf t < N∧fineT t
noncomputable def fit1P (c:Pts [.box Cd.sorts,.box Cd.int,.box Cd.any]) (t:Trm):Bool:=!fitT (show FitC from c).1 t (vec0 (show FitC from c).1 (show FitC from c).2.1)
abbrev Fit1X:Type:=TermX×FitC
noncomputable def fit1C (N:Nat):FSpec:=⟨[.agg termP,.box Cd.sorts,.box Cd.int,.box Cd.any],fun (x:Fit1X)=>fit1Q N ⟨x.1.1,x.1.2.1,x.1.2.2.1,x.1.2.2.2.1⟩ x.2,
 fun (x:Fit1X)=>.leaf (.sb (fit1P x.2 ⟨x.1.1,x.1.2.1,x.1.2.2.1,x.1.2.2.2.1⟩))⟩
theorem fit1q_kept (N:Nat) (hK:(fitS N).Kept Tryz.prog 71):(fit1C N).Kept Tryz.prog 126:=by
 refine fkept (ctc hK ct0) lp0 (fit1C N) 126 Tryz.f126 [] (by kernel_rfl) (by kernel_rfl) ?_
 intro xx hx
 obtain ⟨⟨k,n,s,l,u1⟩,g,i,u2,u3⟩:Fit1X:=xx
 have hq:fit1Q N ⟨k,n,s,l⟩ (g,i,u2,u3):=hx
 obtain ⟨h1,h2,h3,h4,h5⟩:graphP g=true∧inG g i∧((gAt g i).vec.length:Int)=1∧SizeOf.sizeOf (⟨k,n,s,l⟩:Trm) < N∧fineT ⟨k,n,s,l⟩:=hq
 refine hd_eq (t:=.ite (decide (0≤i) && decide (i < (g.length:Int))) (.ite (decide ((0:Int)≤0) && decide ((0:Int) < ((gAt g i).vec.length:Int)))
  (.ite (dec (fitP N g (vec0 g i) ⟨k,n,s,l⟩)) (.leaf (true,.sb (!fitT g ⟨k,n,s,l⟩ (vec0 g i)))) .fail) .fail) .fail) (by kernel_rfl) ?_
 have hv:=(right_parts (graph_at h1 h2)).2.2.1
 refine holds_need (by simp; exact h2) (holds_need (by simp; omega) (holds_need (dec_true ⟨h1,?_,h4,h5⟩) (holds_leaf ⟨rfl,rfl⟩)))
 exact hv _ (getD_mem _ 0 0 (Int.le_refl _) (by omega))
def fit1V (N:Nat) (l:List Trm) (c:Pts [.box Cd.sorts,.box Cd.int,.box Cd.any]) (n i:Int):Prop:=(∀ e∈l,(fit1Q N) e c)∧l.length≤maxL∧n=(l.length:Int)∧0≤i∧i≤(l.length:Int)
noncomputable def fit1L (N:Nat):PSpec :=
 {body:=loopIn Tryz.f206 0,nt:=19,nx:=0,room:=8,keep:=[(0,.d .term),(1,.fn 126 [.box Cd.sorts,.box Cd.int,.box Cd.any]),(7,.i .i64),(8,.i .i64)],objs:=[]
  keepX:=fun x=>match x with | .ret=>[4] | _=>[],objsX:=fun _=>[]
  inv:=fun (x:List Trm×Pts [.box Cd.sorts,.box Cd.int,.box Cd.any]×Int×Int×Unit) _=>fit1V N x.1 x.2.1 x.2.2.1 x.2.2.2.1
  res:=fun (x:List Trm×Pts [.box Cd.sorts,.box Cd.int,.box Cd.any]×Int×Int×Unit) _=>idxDt (fit1P x.2.1) x.1 x.2.2.2.1 }
theorem fit1L_ok (N:Nat) (hK:(fitS N).Kept Tryz.prog 71):LpSound Tryz.prog ((fit1L N).loop []):=by
 refine pkept (ctc (fit1q_kept N hK) ct0) lp0 (fit1L N) (fun (x:List Trm×Pts [.box Cd.sorts,.box Cd.int,.box Cd.any]×Int×Int×Unit) _=>((x.1.length:Int) - x.2.2.2.1).toNat) (by kernel_rfl) ?_
 intro xx y hx
 obtain ⟨l,c,n,i,u⟩:List Trm×Pts [.box Cd.sorts,.box Cd.int,.box Cd.any]×Int×Int×Unit:=xx
 obtain ⟨hQ,hm,hn,h4,h5⟩:(∀ e∈l,(fit1Q N) e c)∧l.length≤maxL∧n=(l.length:Int)∧0≤i∧i≤(l.length:Int):=hx
 have hm2:=len64 hm
 subst hn
 let z:Trm:=Univ.dflt (.term:Cd)
 refine hd_eq (t:=.ite (decide (i < (l.length:Int)))
   (.ite (decide (0≤i) && decide (i < (l.length:Int)))
    (.ite (dec ((fit1Q N) (eT (l.getD i.toNat z)) c))
     (.ite (fit1P c (eT (l.getD i.toNat z))) (.leaf (true,.ret,[.si .i64 i],[]))
      (.leaf (true,.normal,[AVal.dsl (.term:Cd) l,.fn 126 [] (Pts.vals [.box Cd.sorts,.box Cd.int,.box Cd.any] c),.si .i64 (l.length:Int),.si .i64 (IntKind.i64.wrap (i + 1))],[])))
     .fail) .fail)
   (.leaf (true,.exit 0,[],[]))) (by kernel_rfl) ?_
 rw [eT_eq]
 refine holds_ite (fun hlt=>?_) (fun hlt=>?_)
 ·have hlt:=of_decide_eq_true hlt
  refine holds_need (by simp [h4,hlt]) (holds_need (dec_true (hQ _ (getD_mem l i z h4 hlt))) (holds_ite (fun hp=>⟨rfl,idx_hit z h4 hlt hp⟩) (fun hp=>⟨rfl,(l,c,(l.length:Int),IntKind.i64.wrap (i + 1),()),(),rfl,rfl,?_⟩)))
  rw [wrap64 (by omega) (by omega)]
  refine ⟨⟨hQ,hm,rfl,by show (0:Int)≤i + 1; omega,by show i + 1≤(l.length:Int); omega⟩,by show ((l.length:Int) - (i + 1)).toNat < ((l.length:Int) - i).toNat; omega,?_⟩
  exact idx_on z h4 hlt hp
 ·exact ⟨rfl,idx_end h5 (of_decide_eq_false hlt)⟩
noncomputable def fit1I (N:Nat):FSpec:=⟨[.d .term,.fn 126 [.box Cd.sorts,.box Cd.int,.box Cd.any]],fun (x:List Trm×Pts [.box Cd.sorts,.box Cd.int,.box Cd.any]×Unit)=>(∀ e∈x.1,(fit1Q N) e x.2.1)∧x.1.length≤maxL,
 fun (x:List Trm×Pts [.box Cd.sorts,.box Cd.int,.box Cd.any]×Unit)=>.ite (x.1.any (fit1P x.2.1)) (.leaf (.si .i64 ((x.1.findIdx (fit1P x.2.1):Nat):Int))) (.leaf (.si .i64 (-1)))⟩
theorem fit1I_kept (N:Nat) (hK:(fitS N).Kept Tryz.prog 71):(fit1I N).Kept Tryz.prog 206:=by
 have hL:∀ p∈[(0,(fit1L N).loop [])],LpSound Tryz.prog p.2:=lpc (fit1L_ok N hK) lp0
 have hmk:mkFn Tryz.prog 206=some (.code (unmark [(0,(fit1L N).loop [])] (cd Tryz.f206 [0])) Tryz.f206.ntmps Tryz.f206.results.toList):=by kernel_rfl
 refine fkept ct0 hL (fit1I N) 206 Tryz.f206 [0] hmk (by kernel_rfl) ?_
 intro xx hx
 obtain ⟨l,c,u⟩:List Trm×Pts [.box Cd.sorts,.box Cd.int,.box Cd.any]×Unit:=xx
 have hx:(∀ e∈l,(fit1Q N) e c)∧l.length≤maxL:=hx
 have hQ:=hx.1
 have hm:=hx.2
 refine hd_eq (t:=.ite (dec (fit1V N l c (l.length:Int) 0)) (.ite (l.any (fit1P c)) (.leaf (true,.si .i64 (0 + (l.findIdx (fit1P c):Nat)))) (.leaf (true,.si .i64 (-1)))) .fail) (by kernel_rfl) ?_
 refine holds_need (dec_true ⟨hQ,hm,rfl,by show (0:Int)≤0; omega,by show (0:Int)≤l.length; omega⟩) (holds_ite (fun hp=>⟨rfl,?_⟩) fun hp=>⟨rfl,?_⟩)
 ·show (Dt.ite (l.any (fit1P c)) _ _:Dt AVal).val=_
  rw [hp]; simp [Dt.val]
 ·show (Dt.ite (l.any (fit1P c)) _ _:Dt AVal).val=_
  rw [hp]; simp [Dt.val]
noncomputable def fit1N (N:Nat):FSpec:=⟨[.d .term,.fn 126 [.box Cd.sorts,.box Cd.int,.box Cd.any]],fun (x:List Trm×Pts [.box Cd.sorts,.box Cd.int,.box Cd.any]×Unit)=>(∀ e∈x.1,(fit1Q N) e x.2.1)∧x.1.length≤maxL,
 fun (x:List Trm×Pts [.box Cd.sorts,.box Cd.int,.box Cd.any]×Unit)=>.leaf (.sb (x.1.any (fit1P x.2.1)))⟩
theorem fit1N_kept (N:Nat) (hK:(fitS N).Kept Tryz.prog 71):(fit1N N).Kept Tryz.prog 125:=by
 refine fkept (ctc (fit1I_kept N hK) ct0) lp0 (fit1N N) 125 Tryz.f125 [] (by kernel_rfl) (by kernel_rfl) ?_
 intro xx hx
 obtain ⟨l,c,u⟩:List Trm×Pts [.box Cd.sorts,.box Cd.int,.box Cd.any]×Unit:=xx
 have hx:(∀ e∈l,(fit1Q N) e c)∧l.length≤maxL:=hx
 refine hd_eq (t:=.ite (dec ((∀ e∈l,(fit1Q N) e c)∧l.length≤maxL)) (.ite (l.any (fit1P c)) (.leaf (true,.sb (!decide ((l.findIdx (fit1P c):Int) < 0)))) (.leaf (true,.sb (!decide ((-1:Int) < 0))))) .fail) (by kernel_rfl) ?_
 refine holds_need (dec_true hx) (holds_ite (fun hp=>⟨rfl,?_⟩) fun hp=>⟨rfl,?_⟩)
 ·show some (AVal.sb (l.any (fit1P c)))=some (AVal.sb _)
  rw [hp]; simp
 ·show some (AVal.sb (l.any (fit1P c)))=some (AVal.sb _)
  rw [hp]; simp
end Go.Proofs.YtghaalknpdlobaaGreatDoor

namespace Go.Proofs.YtghaalknpdlobaaGreatDoor
open Go Go.Ev Go.Proofs
set_option maxRecDepth 100000
def fitV (N:Nat) (g:List Srt) (l:List Trm) (len i:Int) (ys:List Int):Prop :=
 graphP g=true∧(∀ x∈l,SizeOf.sizeOf x < N∧fineT x)∧l.length≤64∧len=(l.length:Int)∧0≤i∧i≤(l.length:Int)∧(ys.length:Int)=(l.length:Int)∧∀ x∈ys,0≤x∧x < (g.length:Int)
noncomputable def fitDt (g:List Srt) (l:List Trm) (i:Int) (ys:List Int):Dt (AExit×List AVal×List AObj) :=
 .ite (!fitLs g (l.drop i.toNat) (ys.drop i.toNat)) (.leaf (.ret,[.sb false],[])) (.leaf (.exit 1,[],[]))
abbrev FlX:Type:=Unit×Unit×Unit×List Trm×Int×Int×Unit
abbrev FlY:Type:=(List Srt×Unit)×(Unit×Unit)×(ByteArray×Int×List Int×Unit)×Unit
noncomputable def fitLp (N:Nat):PSpec :=
 {body:=loopIn Tryz.f71 1,nt:=97,nx:=5,room:=8,keep:=[(4,.p 0 0),(7,.p 3 0),(9,.p 4 0),(79,.d Cd.term),(80,.i .i64),(81,.i .i64)],
  objs:=[(0,.cells [.d Cd.sort] 22 0 0 [(0,0,1)]),(3,.cells [.fn 72 []] 113 3 0 [(3,0,1)]),(4,.cells [.s,.i .i64,.d Cd.int] 103 4 0 [(4,0,3)])]
  keepX:=fun x=>match x with | .ret=>[8] | _=>[],objsX:=fun _=>[]
  inv:=fun (x:FlX) (y:FlY)=>fitV N y.1.1 x.2.2.2.1 x.2.2.2.2.1 x.2.2.2.2.2.1 y.2.2.1.2.2.1
  res:=fun (x:FlX) (y:FlY)=>fitDt y.1.1 x.2.2.2.1 x.2.2.2.2.2.1 y.2.2.1.2.2.1 }
theorem fitLp_ok (N:Nat) (hK:(fitS N).Kept Tryz.prog 71):LpSound Tryz.prog ((fitLp N).loop []):=by
 refine pkept (ctc hK ct0) lp0 (fitLp N) (fun (x:FlX) _=>((x.2.2.2.1.length:Int) - x.2.2.2.2.2.1).toNat) (by kernel_rfl) ?_
 intro xx yy hx
 obtain ⟨u1,u2,u3,l,len,i,u4⟩:FlX:=xx
 obtain ⟨⟨g,v1⟩,⟨v2,v3⟩,⟨nm,ar,ys,v4⟩,v5⟩:FlY:=yy
 have hx:fitV N g l len i ys:=hx
 have hx0:=hx
 unfold fitV at hx
 obtain ⟨hg,hl,h64,hlen,h0,h1,hy,hr⟩:=hx
 subst hlen
 let z:Trm:=Univ.dflt (Cd.term:Cd)
 refine hd_eq (t:=.ite (decide (i < (l.length:Int))) (.ite (decide (0≤i) && decide (i < (l.length:Int))) (.ite (decide (0≤i) && decide (i < (ys.length:Int)))
   (.ite (dec (fitP N g (ys.getD i.toNat 0) (eT (l.getD i.toNat z)))) (.ite (!fitT g (eT (l.getD i.toNat z)) (ys.getD i.toNat 0)) (.leaf (true,.ret,[AVal.sb false],[]))
    (.leaf (true,.normal,[.ptr 0 0,.ptr 3 0,.ptr 4 0,.dsl (Cd.term:Cd) l,.si .i64 (l.length:Int),.si .i64 (IntKind.i64.wrap (i + 1))],
     [.cells [.dsl (Cd.sort:Cd) g] 22 false false 0 0 [(0,0,1)],.cells [.fn 72 [] []] 113 false false 3 0 [(3,0,1)],.cells [.ss nm,.si .i64 ar,.dsl (Cd.int:Cd) ys] 103 false false 4 0 [(4,0,3)]]))) .fail) .fail) .fail)
  (.leaf (true,.exit 1,[],[]))) (by kernel_rfl) ?_
 rw [eT_eq]
 refine holds_ite (fun hlt=>?_) (fun hlt=>⟨rfl,?_⟩)
 ·have hlt:=of_decide_eq_true hlt
  have hd:=drop_cons l i z h0 hlt
  have hd2:=drop_cons ys i 0 h0 (by omega)
  have hw:IntKind.i64.wrap (i + 1)=i + 1:=wrap64 (by omega) (by omega)
  have hm:=getD_mem l i z h0 hlt
  have hc:fitLs g (l.drop i.toNat) (ys.drop i.toNat)=(fitT g (l.getD i.toNat z) (ys.getD i.toNat 0) && fitLs g (l.drop (i + 1).toNat) (ys.drop (i + 1).toNat)):=by
   rw [hd,hd2]
   conv=>lhs; unfold fitLs
   rfl
  rw [hw]
  refine holds_need (by simp [h0,hlt]) (holds_need (by simp; omega) (holds_need (dec_true ⟨hg,hr _ (getD_mem ys i 0 h0 (by omega)),hl _ hm⟩) (holds_ite (fun h=>⟨rfl,?_⟩)
   (fun h=>⟨rfl,((),(),(),l,(l.length:Int),i + 1,()),((g,()),((),()),(nm,ar,ys,()),()),rfl,rfl,?_,?_,?_⟩))))
  ·have h:fitT g (l.getD i.toNat z) (ys.getD i.toNat 0)=false:=by simpa using h
   show (fitDt g l i ys).val=_
   unfold fitDt; rw [hc,h]; rfl
  ·show fitV N g l (l.length:Int) (i + 1) ys
   exact ⟨hg,hl,h64,rfl,by omega,by omega,hy,hr⟩
  ·show ((l.length:Int) - (i + 1)).toNat < ((l.length:Int) - i).toNat
   omega
  ·have h:fitT g (l.getD i.toNat z) (ys.getD i.toNat 0)=true:=by simpa using h
   show (fitDt g l (i + 1) ys).val=(fitDt g l i ys).val
   unfold fitDt; rw [hc,h,Bool.true_and]
 ·have hlt:=of_decide_eq_false hlt
  show (fitDt g l i ys).val=_
  unfold fitDt
  rw [drop_end l i h1 hlt]
  unfold fitLs
  rfl
end Go.Proofs.YtghaalknpdlobaaGreatDoor

namespace Go.Proofs.YtghaalknpdlobaaGreatDoor
open Go Go.Ev Go.Proofs
set_option maxRecDepth 100000
theorem ord_arity {c:SCase} {s:ByteArray} {a:Int} (h:ordC c s a=0):c.arity=a:=by
 unfold ordC orderV at h
 split at h
 ·split at h
  ·omega
  ·split at h
   ·omega
   ·omega
 ·rename_i q; exact absurd h q
theorem found_case {l:List SCase} {s:ByteArray} {a:Int} (h:foundB l s a=true):caseAt l s a∈l∧(caseAt l s a).arity=a:=by
 unfold foundB at h
 rw [Bool.and_eq_true] at h
 exact ⟨getD_mem l _ zCase (bsearch_bound l s a).1 (of_decide_eq_true h.1),ord_arity (of_decide_eq_true h.2)⟩
theorem fit_kept:∀ N,(fitS N).Kept Tryz.prog 71
 | 0=>by
  intro x hx
  exact absurd hx.2.2.1 (Nat.not_lt_zero _)
 | N + 1=>by
  have hK:=fit_kept N
  have hL:∀ p∈[(1,(fitLp N).loop [])],LpSound Tryz.prog p.2:=lpc (fitLp_ok N hK) lp0
  have hmk:mkFn Tryz.prog 71=some (.code (unmark [(1,(fitLp N).loop [])] (cd Tryz.f71 [1])) Tryz.f71.ntmps Tryz.f71.results.toList):=by kernel_rfl
  refine fkept (ctc find_kept (ctc (fit1N_kept N hK) ct0)) hL (fitS (N + 1)) 71 Tryz.f71 [1] hmk (by kernel_rfl) ?_
  intro xx hx
  obtain ⟨g,i,⟨k,n,s,l,u1⟩,u2,u3⟩:FitX:=xx
  have hp:fitP (N + 1) g i ⟨k,n,s,l⟩:=hx
  refine hd_eq (t:=.ite (decide (k=1)) (.leaf (true,.sb true)) (.ite (decide (k=2)) (.ite (decide (0≤i) && decide (i < (g.length:Int))) (.leaf (true,.sb (gAt g i).int)) .fail)
   (.ite (decide (k=4)) (.ite (decide (0≤i) && decide (i < (g.length:Int))) (.leaf (true,.sb (gAt g i).str)) .fail)
   (.ite (decide (k=6)) (.ite (decide (0≤i) && decide (i < (g.length:Int))) (.ite (decide (((gAt g i).vec.length:Int)=1)) (.ite (dec ((∀ e∈l,fit1Q N e (show Pts [.box Cd.sorts,.box Cd.int,.box Cd.any] from (g,i,(),())))∧l.length≤maxL))
     (.leaf (true,.sb (!(l.any (fit1P (show Pts [.box Cd.sorts,.box Cd.int,.box Cd.any] from (g,i,(),())))))))  .fail) (.leaf (true,.sb false))) .fail)
    (.ite (decide (0≤i) && decide (i < (g.length:Int))) (.ite (dec (((gAt g i).cases.length:Int)≤1000000)) (.ite (foundB (gAt g i).cases s (l.length:Int))
      (.ite (!true) (.ite (decide (k=3)) (.ite (decide (0≤i) && decide (i < (g.length:Int))) (.leaf (true,.sb (gAt g i).atom)) .fail) (.leaf (true,.sb false)))
       (.ite (dec (fitV N g l (l.length:Int) 0 (caseAt (gAt g i).cases s (l.length:Int)).args)) (.ite (!fitLs g l (caseAt (gAt g i).cases s (l.length:Int)).args) (.leaf (true,.sb false)) (.leaf (true,.sb true))) .fail))
      (.ite (!false) (.ite (decide (k=3)) (.ite (decide (0≤i) && decide (i < (g.length:Int))) (.leaf (true,.sb (gAt g i).atom)) .fail) (.leaf (true,.sb false))) .fail)) .fail) .fail))))) (by kernel_rfl) ?_
  obtain ⟨hg,hi,hsz,hf⟩:=hp
  have hin:(decide (0≤i) && decide (i < (g.length:Int)))=true:=by simp; exact hi
  have hr:=graph_at hg hi
  obtain ⟨r1,r2,r3,r4⟩:=right_parts hr
  have hf':l.length≤64∧fineL l:=by unfold fineT at hf; exact hf
  have hsub:∀ x∈l,SizeOf.sizeOf x < N∧fineT x:=by
   intro x hx
   refine ⟨?_,fineL_mem hf'.2 x hx⟩
   have:=List.sizeOf_lt_of_mem hx
   simp only [Trm.mk.sizeOf_spec] at hsz
   omega
  have e:fitT g ⟨k,n,s,l⟩ i=(if k=1 then true else if k=2 then (gAt g i).int else if k=4 then (gAt g i).str
    else if k=6 then decide (((gAt g i).vec.length:Int)=1) && fitA g l ((gAt g i).vec.getD 0 0)
    else if foundB (gAt g i).cases s (l.length:Int)=true then fitLs g l (caseAt (gAt g i).cases s (l.length:Int)).args else decide (k=3) && (gAt g i).atom):=by
   conv=>lhs; unfold fitT
  have res:∀ b,fitT g ⟨k,n,s,l⟩ i=b→(Dt.leaf (true,AVal.sb b)).holds fun q=>q.1=true∧some (AVal.sb (fitT g ⟨k,n,s,l⟩ i))=some q.2:=fun b h=>holds_leaf ⟨rfl,by rw [h]⟩
  show Dt.holds (fun (q:Bool×AVal)=>q.1=true∧some (AVal.sb (fitT g ⟨k,n,s,l⟩ i))=some q.2) _
  refine holds_ite (fun k1=>res _ (by rw [e,if_pos (of_decide_eq_true k1)])) fun k1=>?_
  have k1:=of_decide_eq_false k1
  rw [if_neg k1] at e
  refine holds_ite (fun k2=>holds_need hin (res _ (by rw [e,if_pos (of_decide_eq_true k2)]))) fun k2=>?_
  have k2:=of_decide_eq_false k2
  rw [if_neg k2] at e
  refine holds_ite (fun k4=>holds_need hin (res _ (by rw [e,if_pos (of_decide_eq_true k4)]))) fun k4=>?_
  have k4:=of_decide_eq_false k4
  rw [if_neg k4] at e
  refine holds_ite (fun k6=>holds_need hin (holds_ite (fun hv=>?_) (fun hv=>res _ ?_))) fun k6=>?_
  ·rw [if_pos (of_decide_eq_true k6),hv,Bool.true_and,fitA_any] at e
   refine holds_need (dec_true ⟨fun x hx=>⟨hg,hi,of_decide_eq_true hv,hsub x hx⟩,by have:=hf'.1; unfold maxL; omega⟩) (res _ ?_)
   rw [e]; rfl
  ·rw [e,if_pos (of_decide_eq_true k6),hv]; rfl
  have k6:=of_decide_eq_false k6
  rw [if_neg k6] at e
  refine holds_need hin (holds_need (dec_true (by omega)) (holds_ite (fun hq=>?_) (fun hq=>?_)))
  ·rw [if_pos hq] at e
   obtain ⟨c1,c2⟩:=found_case hq
   obtain ⟨c3,c4⟩:=r4 _ c1
   refine holds_ite (fun h=>by cases h) fun _=>holds_need (dec_true ⟨hg,hsub,hf'.1,rfl,Int.le_refl _,by omega,by rw [c3,c2],c4⟩) (holds_ite (fun h=>res _ ?_) (fun h=>res _ ?_))
   ·rw [e]; simpa using h
   ·rw [e]; simpa using h
  ·rw [if_neg (by rw [hq]; simp)] at e
   refine holds_ite (fun _=>holds_ite (fun k3=>holds_need hin (res _ ?_)) (fun k3=>res _ ?_)) (fun h=>by cases h)
   ·rw [e,k3,Bool.true_and]
   ·rw [e,k3,Bool.false_and]
end Go.Proofs.YtghaalknpdlobaaGreatDoor

namespace Go.Proofs.YtghaalknpdlobaaGreatDoor
open Go Go.Ev Go.Proofs
set_option maxRecDepth 100000
mutual
theorem count_fine:∀ (t:Trm) (left deep:Int),countT t left deep≤left→fineT t
 | ⟨k,n,s,l⟩,left,deep,h=>by
  unfold countT at h
  unfold fineT
  by_cases c:deep < 1∨left < 1∨formB k n s l=false
  ·rw [if_pos c] at h; omega
  ·rw [if_neg c] at h
   have hf:formB k n s l=true:=by
    cases q:formB k n s l with
    | true=>rfl
    | false=>exact absurd (.inr (.inr q)) c
   cases hm:countL l left deep 1 with
   | none=>rw [hm] at h; simp only [] at h; omega
   | some m=>exact ⟨form_len hf,countL_fine l left deep 1 m hm⟩
theorem countL_fine:∀ (l:List Trm) (left deep n m:Int),countL l left deep n=some m→fineL l
 | [],left,deep,n,m,h=>by unfold fineL; trivial
 | x :: l,left,deep,n,m,h=>by
  rw [countL_cons] at h
  by_cases c:left < n + countT x (left - n) (deep - 1)
  ·rw [if_pos c] at h; cases h
  ·rw [if_neg c] at h
   unfold fineL
   exact ⟨count_fine x (left - n) (deep - 1) (by omega),countL_fine l left deep _ m h⟩
end
theorem err_fine {t:Trm} (h:errT t=0):fineT t:=by
 unfold errT at h
 split at h
 ·omega
 ·rename_i q
  unfold badT at q
  exact count_fine t 4000 600 (by simpa using q)
noncomputable def fitAll:FSpec:=⟨[.d Cd.sort,.i .i64,.agg termP,.fn 72 []],fun (x:FitX)=>graphP x.1=true∧inG x.1 x.2.1∧fineT ⟨x.2.2.1.1,x.2.2.1.2.1,x.2.2.1.2.2.1,x.2.2.1.2.2.2.1⟩,
 fun (x:FitX)=>.leaf (.sb (fitT x.1 ⟨x.2.2.1.1,x.2.2.1.2.1,x.2.2.1.2.2.1,x.2.2.1.2.2.2.1⟩ x.2.1))⟩
theorem fitAll_kept:fitAll.Kept Tryz.prog 71:=by
 intro x hx
 let x':FitX:=x
 exact fit_kept (SizeOf.sizeOf (⟨x'.2.2.1.1,x'.2.2.1.2.1,x'.2.2.1.2.2.1,x'.2.2.1.2.2.2.1⟩:Trm) + 1) x ⟨hx.1,hx.2.1,Nat.lt_succ_self _,hx.2.2⟩
abbrev FitsX:Type:=List Srt×Int×TermX×Unit
noncomputable def fitsE (g:List Srt) (i:Int) (t:Trm):Int:=if askE g i=0 then errT t else askE g i
noncomputable def fitsB (g:List Srt) (i:Int) (t:Trm):Bool:=decide (fitsE g i t=0) && fitT g t i
noncomputable def fitsC:FSpec:=⟨[.d Cd.sort,.i .i64,.agg termP],fun _=>True,fun (x:FitsX)=>.leaf (.tup [.sb (fitsB x.1 x.2.1 ⟨x.2.2.1.1,x.2.2.1.2.1,x.2.2.1.2.2.1,x.2.2.1.2.2.2.1⟩),.si .i64 (fitsE x.1 x.2.1 ⟨x.2.2.1.1,x.2.2.1.2.1,x.2.2.1.2.2.1,x.2.2.1.2.2.2.1⟩)])⟩
theorem ask_ok {g:List Srt} {i:Int} (h:askE g i=0):graphP g=true∧inG g i:=by
 unfold askE at h
 split at h
 ·rename_i q
  refine ⟨?_,?_⟩
  ·unfold errG at q
   split at q
   ·assumption
   ·omega
  ·split at h
   ·omega
   ·split at h
    ·unfold inG; omega
    ·omega
 ·rename_i q; exact absurd h q
theorem fits_kept:fitsC.Kept Tryz.prog 18:=by
 refine fkept (ctc ask_kept (ctc chk_kept (ctc fitAll_kept ct0))) lp0 fitsC 18 Tryz.f18 [] (by kernel_rfl) (by kernel_rfl) ?_
 intro xx _
 obtain ⟨g,i,⟨k,n,s,l,u1⟩,u2⟩:FitsX:=xx
 refine hd_eq (t:=.ite (dec True) (.ite (!decide (askE g i=0)) (.leaf (true,.tup [.sb false,.si .i64 (askE g i)])) (.ite (dec True) (.ite (!decide (errT ⟨k,n,s,l⟩=0)) (.leaf (true,.tup [.sb false,.si .i64 (errT ⟨k,n,s,l⟩)]))
  (.ite (dec (graphP g=true∧inG g i∧fineT ⟨k,n,s,l⟩)) (.leaf (true,.tup [.sb (fitT g ⟨k,n,s,l⟩ i),.si .i64 0])) .fail)) .fail)) .fail) (by kernel_rfl) ?_
 have res:∀ b e,fitsB g i ⟨k,n,s,l⟩=b→fitsE g i ⟨k,n,s,l⟩=e→(Dt.leaf (true,AVal.tup [.sb b,.si .i64 e])).holds fun q=>q.1=true∧some (AVal.tup [.sb (fitsB g i ⟨k,n,s,l⟩),.si .i64 (fitsE g i ⟨k,n,s,l⟩)])=some q.2 :=
  fun b e h h'=>holds_leaf ⟨rfl,by rw [h,h']⟩
 show Dt.holds (fun (q:Bool×AVal)=>q.1=true∧some (AVal.tup [.sb (fitsB g i ⟨k,n,s,l⟩),.si .i64 (fitsE g i ⟨k,n,s,l⟩)])=some q.2) _
 refine holds_need (dec_true trivial) (holds_ite (fun h=>res _ _ ?_ ?_) fun h=>holds_need (dec_true trivial) (holds_ite (fun h2=>res _ _ ?_ ?_) fun h2=>holds_need ?_ (res _ _ ?_ ?_)))
 ·have h:¬ askE g i=0:=by simpa using h
  unfold fitsB fitsE; rw [if_neg h]; simp [h]
 ·have h:¬ askE g i=0:=by simpa using h
  unfold fitsE; rw [if_neg h]
 ·have h:askE g i=0:=by simpa using h
  have h2:¬ errT ⟨k,n,s,l⟩=0:=by simpa using h2
  unfold fitsB fitsE; rw [if_pos h]; simp [h2]
 ·have h:askE g i=0:=by simpa using h
  unfold fitsE; rw [if_pos h]
 ·have h:askE g i=0:=by simpa using h
  have h2:errT ⟨k,n,s,l⟩=0:=by simpa using h2
  exact dec_true ⟨(ask_ok h).1,(ask_ok h).2,err_fine h2⟩
 ·have h:askE g i=0:=by simpa using h
  have h2:errT ⟨k,n,s,l⟩=0:=by simpa using h2
  unfold fitsB fitsE; rw [if_pos h,h2]; simp
 ·have h:askE g i=0:=by simpa using h
  have h2:errT ⟨k,n,s,l⟩=0:=by simpa using h2
  unfold fitsE; rw [if_pos h,h2]
end Go.Proofs.YtghaalknpdlobaaGreatDoor

namespace Go.Proofs.YtghaalknpdlobaaGreatDoor
open Go Go.Ev Go.Proofs
set_option maxRecDepth 100000
end Go.Proofs.YtghaalknpdlobaaGreatDoor

namespace Go.Proofs.YtghaalknpdlobaaGreatDoor
open Go Go.Ev Go.Proofs
set_option maxRecDepth 100000
def rnameB (s:ByteArray):Bool:=!(s.data.toList.any badByte) && (!decide ((s.size:Int) < 1) && !decide (32 < (s.size:Int)))
end Go.Proofs.YtghaalknpdlobaaGreatDoor

namespace Go.Proofs.YtghaalknpdlobaaGreatDoor
open Go Go.Ev Go.Proofs
set_option maxRecDepth 100000
noncomputable def aheadB (b c:SCase):Bool:=ltS b.name.data.toList c.name.data.toList || (decide (b.name=c.name) && decide (b.arity < c.arity))
def isBadC (m:Int) (atom:Bool) (c:SCase):Bool :=
 !rnameB c.name || (decide (c.arity < 0) || (decide (16 < c.arity) || (!decide ((c.args.length:Int)=c.arity) || (c.args.any (outB m) || (atom && decide (c.arity=0))))))
noncomputable def behind (p:Option SCase) (c:SCase):Bool:=match p with
 | none=>false
 | some b=>!aheadB b c
noncomputable def isTail (m:Int) (atom:Bool):Option SCase→List SCase→Bool
 | _,[]=>false
 | p,c :: cs=>(isBadC m atom c || behind p c) || isTail m atom (some c) cs
end Go.Proofs.YtghaalknpdlobaaGreatDoor

namespace Go.Proofs.YtghaalknpdlobaaGreatDoor
open Go Go.Ev Go.Proofs
set_option maxRecDepth 100000
noncomputable def isBadS (m:Int) (s:Srt):Bool:=decide (400 < (s.cases.length:Int)) || (decide (1 < (s.vec.length:Int)) || (s.vec.any (outB m) || isTail m s.atom none s.cases))
end Go.Proofs.YtghaalknpdlobaaGreatDoor

namespace Go.Proofs.YtghaalknpdlobaaGreatDoor
open Go Go.Ev Go.Proofs
set_option maxRecDepth 100000
theorem count_atom (s:ByteArray):countT ⟨3,0,s,[]⟩ 4000 600=if nameB s=true then 1 else 4001:=by
 have hf:formB 3 0 s []=nameB s:=by
  unfold formB
  simp [form3,no0,noL]
 unfold countT
 rw [hf]
 cases h:nameB s with
 | true=>simp [countL]
 | false=>simp
theorem nameP_eq (s:ByteArray):nameP s=rnameB s:=by
 have h1:nameP s=nameB s:=by
  unfold nameP errT badT
  rw [count_atom]
  cases h:nameB s <;> simp
 rw [h1]
 unfold nameB rnameB
 cases s.data.toList.any badByte <;> simp
end Go.Proofs.YtghaalknpdlobaaGreatDoor

namespace Go.Proofs.YtghaalknpdlobaaGreatDoor
open Go Go.Ev Go.Proofs
set_option maxRecDepth 100000
theorem ltS_self:∀ x:List UInt8,ltS x x=false
 | []=>rfl
 | a :: x=>by
  unfold ltS
  rw [show Nat.beq a.toNat a.toNat=true from Nat.beq_refl _,sel_true]
  exact ltS_self x
theorem ltS_both:∀ x y:List UInt8,ltS x y=false→ltS y x=false→x=y
 | [],[],_,_=>rfl
 | [],_ :: _,h,_=>by cases h
 | _ :: _,[],_,h=>by cases h
 | a :: x,b :: y,h1,h2=>by
  unfold ltS at h1 h2
  cases hb:Nat.beq a.toNat b.toNat with
  | true =>
   have e:a.toNat=b.toNat:=Nat.eq_of_beq_eq_true hb
   have e2:Nat.beq b.toNat a.toNat=true:=by rw [e]; exact Nat.beq_refl _
   rw [hb,sel_true] at h1
   rw [e2,sel_true] at h2
   rw [ltS_both x y h1 h2,UInt8.toNat_inj.1 e]
  | false =>
   have ne:a.toNat≠b.toNat:=fun q=>by rw [q,Nat.beq_refl] at hb; cases hb
   have e2:Nat.beq b.toNat a.toNat=false:=by
    cases q:Nat.beq b.toNat a.toNat with
    | false=>rfl
    | true=>exact absurd (Nat.eq_of_beq_eq_true q).symm ne
   rw [hb,sel_false] at h1
   rw [e2,sel_false] at h2
   have h1:¬ a.toNat < b.toNat:=fun q=>by have:=Nat.blt_eq.symm▸q; rw [this] at h1; cases h1
   have h2:¬ b.toNat < a.toNat:=fun q=>by have:=Nat.blt_eq.symm▸q; rw [this] at h2; cases h2
   omega
theorem order_ahead (b c:SCase):(!decide (orderV b.name b.arity c.name c.arity < 0))=!aheadB b c:=by
 congr 1
 unfold orderV cmpB cmpS aheadB
 cases h1:ltS b.name.data.toList c.name.data.toList with
 | true=>simp [sel_true]
 | false =>
  cases h2:ltS c.name.data.toList b.name.data.toList with
  | true =>
   have ne:b.name≠c.name:=fun e=>by rw [e,ltS_self] at h2; cases h2
   simp [sel_true,sel_false,ne]
  | false =>
   have e:b.name=c.name:=by
    have:=ltS_both _ _ h1 h2
    have e2:b.name.data=c.name.data:=by
     have:=congrArg List.toArray this
     simpa using this
    cases hb:b.name; cases hc:c.name
    rw [hb,hc] at e2
    simp at e2; rw [e2]
   simp only [sel_false,e]
   by_cases q:b.arity < c.arity
   ·simp [q]
   ·by_cases q2:c.arity < b.arity <;> simp [q,q2]
end Go.Proofs.YtghaalknpdlobaaGreatDoor

namespace Go.Proofs.YtghaalknpdlobaaGreatDoor
open Go Go.Ev Go.Proofs
set_option maxRecDepth 100000
theorem case_eq (m:Int) (atom:Bool) (c:SCase):caseBad m atom c=isBadC m atom c:=by
 unfold caseBad isBadC; rw [nameP_eq]
theorem order_eq (p:Option SCase) (c:SCase):orderBad p c=behind p c:=by
 cases p with
 | none=>rfl
 | some b=>exact order_ahead b c
theorem tail_eq (m:Int) (atom:Bool):∀ (l:List SCase) (p:Option SCase),badTail m atom p l=isTail m atom p l
 | [],_=>rfl
 | c :: l,p=>by
  unfold badTail isTail
  rw [case_eq,order_eq,tail_eq m atom l,Bool.or_comm (behind p c)]
theorem right_eq (m:Int) (s:Srt):(!rightB m s)=isBadS m s:=by
 unfold rightB isBadS
 rw [Bool.not_not,tail_eq]
end Go.Proofs.YtghaalknpdlobaaGreatDoor

namespace Go.Proofs.YtghaalknpdlobaaGreatDoor
open Go Go.Ev Go.Proofs
set_option maxRecDepth 100000
end Go.Proofs.YtghaalknpdlobaaGreatDoor

namespace Go.Proofs.YtghaalknpdlobaaGreatDoor
open Go Go.Ev Go.Proofs
set_option maxRecDepth 100000
mutual
def sizeT:Trm→Int
 | ⟨_,_,_,l⟩=>1 + sizeL l
def sizeL:List Trm→Int
 | []=>0
 | x :: l=>sizeT x + sizeL l
end
mutual
def deepT:Trm→Int
 | ⟨_,_,_,l⟩=>deepL l + 1
def deepL:List Trm→Int
 | []=>0
 | x :: l=>max (deepT x) (deepL l)
end
mutual
def wellT:Trm→Bool
 | ⟨k,n,s,l⟩=>formB k n s l && wellL l
def wellL:List Trm→Bool
 | []=>true
 | x :: l=>wellT x && wellL l
end
mutual
theorem size_pos:∀ t:Trm,1≤sizeT t
 | ⟨_,_,_,l⟩=>by unfold sizeT; have:=sizeL_pos l; omega
theorem sizeL_pos:∀ l:List Trm,0≤sizeL l
 | []=>by unfold sizeL; omega
 | x :: l=>by unfold sizeL; have:=size_pos x; have:=sizeL_pos l; omega
end
mutual
theorem deep_pos:∀ t:Trm,1≤deepT t
 | ⟨_,_,_,l⟩=>by unfold deepT; have:=deepL_pos l; omega
theorem deepL_pos:∀ l:List Trm,0≤deepL l
 | []=>by unfold deepL; omega
 | x :: l=>by unfold deepL; have:=deep_pos x; have:=deepL_pos l; omega
end
mutual
theorem deep_size:∀ t:Trm,deepT t≤sizeT t
 | ⟨_,_,_,l⟩=>by unfold deepT sizeT; have:=deepL_size l; omega
theorem deepL_size:∀ l:List Trm,deepL l≤sizeL l
 | []=>by unfold deepL sizeL; omega
 | x :: l=>by unfold deepL sizeL; have:=deep_size x; have:=deepL_size l; have:=size_pos x; have:=sizeL_pos l; omega
end
mutual
theorem count_eq:∀ (t:Trm) (left deep:Int),0≤left→countT t left deep=if deepT t≤deep∧sizeT t≤left∧wellT t=true then sizeT t else left + 1
 | ⟨k,n,s,l⟩,left,deep,h=>by
  have h1:=deepL_pos l
  have h2:=sizeL_pos l
  unfold countT deepT sizeT wellT
  by_cases c:deep < 1∨left < 1∨formB k n s l=false
  ·rw [if_pos c,if_neg]
   rintro ⟨a1,a2,a3⟩
   rw [Bool.and_eq_true] at a3
   rcases c with c | c | c
   ·omega
   ·omega
   ·rw [c] at a3; cases a3.1
  ·rw [if_neg c]
   have hf:formB k n s l=true:=by
    cases q:formB k n s l with
    | true=>rfl
    | false=>exact absurd (.inr (.inr q)) c
   rw [countL_eq l left deep 1 (by omega) (by omega) (by omega),hf,Bool.true_and]
   by_cases e:deepL l≤deep - 1∧1 + sizeL l≤left∧wellL l=true
   ·rw [if_pos e,if_pos ⟨by omega,e.2⟩]
   ·rw [if_neg e,if_neg (fun q=>e ⟨by omega,q.2⟩)]
theorem countL_eq:∀ (l:List Trm) (left deep n:Int),1≤n→n≤left→1≤deep→countL l left deep n=if deepL l≤deep - 1∧n + sizeL l≤left∧wellL l=true then some (n + sizeL l) else none
 | [],left,deep,n,h1,h2,h3=>by
  unfold countL deepL sizeL wellL
  rw [if_pos ⟨by omega,by omega,rfl⟩]; simp
 | x :: l,left,deep,n,h1,h2,h3=>by
  rw [countL_cons]
  unfold deepL sizeL wellL
  rw [count_eq x (left - n) (deep - 1) (by omega)]
  have p1:=size_pos x
  have p2:=sizeL_pos l
  by_cases e:deepT x≤deep - 1∧sizeT x≤left - n∧wellT x=true
  ·rw [if_pos e,if_neg (by omega),countL_eq l left deep (n + sizeT x) (by omega) (by omega) h3]
   by_cases e2:deepL l≤deep - 1∧n + sizeT x + sizeL l≤left∧wellL l=true
   ·rw [if_pos e2,if_pos ⟨by omega,by omega,by rw [e.2.2,e2.2.2]; rfl⟩]
    congr 1; omega
   ·rw [if_neg e2,if_neg]
    rintro ⟨a1,a2,a3⟩
    rw [Bool.and_eq_true] at a3
    exact e2 ⟨by omega,by omega,a3.2⟩
  ·rw [if_neg e,if_pos (by omega),if_neg]
   rintro ⟨a1,a2,a3⟩
   rw [Bool.and_eq_true] at a3
   exact e ⟨by omega,by omega,a3.1⟩
end
theorem bad_eq (t:Trm):badT t=!(decide (sizeT t≤4000) && (decide (deepT t≤600) && wellT t)):=by
 unfold badT
 rw [count_eq t 4000 600 (by omega)]
 by_cases e:deepT t≤600∧sizeT t≤4000∧wellT t=true
 ·rw [if_pos e,decide_eq_true e.1,decide_eq_true e.2.1,e.2.2]
  simp; exact e.2.1
 ·rw [if_neg e]
  have:(decide (sizeT t≤4000) && (decide (deepT t≤600) && wellT t))=false:=by
   cases q:(decide (sizeT t≤4000) && (decide (deepT t≤600) && wellT t)) with
   | false=>rfl
   | true =>
    simp only [Bool.and_eq_true,decide_eq_true_eq] at q
    exact absurd ⟨q.2.1,q.1,q.2.2⟩ e
  rw [this]; rfl
theorem errT_ok {t:Trm} (h:errT t=0):wellT t=true:=by
 unfold errT at h
 rw [bad_eq] at h
 split at h
 ·omega
 ·rename_i q
  simp at q
  exact q.2.2
end Go.Proofs.YtghaalknpdlobaaGreatDoor

namespace Go.Proofs.YtghaalknpdlobaaGreatDoor
open Go Go.Ev Go.Proofs
set_option maxRecDepth 100000
theorem ltS_trans:∀ x y z:List UInt8,ltS x y=true→ltS y z=true→ltS x z=true
 | _,_,[],_,h=>by unfold ltS at h; cases h
 | _,[],_ :: _,h,_=>by unfold ltS at h; cases h
 | [],_ :: _,_ :: _,_,_=>by unfold ltS; rfl
 | a :: x,b :: y,c :: z,h1,h2=>by
  unfold ltS at h1 h2 ⊢
  cases hab:Nat.beq a.toNat b.toNat with
  | true =>
   have e:a.toNat=b.toNat:=Nat.eq_of_beq_eq_true hab
   rw [hab,sel_true] at h1
   rw [e]
   cases hbc:Nat.beq b.toNat c.toNat with
   | true =>
    rw [hbc,sel_true] at h2
    rw [sel_true]
    exact ltS_trans x y z h1 h2
   | false=>rw [hbc,sel_false] at h2; rw [sel_false]; exact h2
  | false =>
   rw [hab,sel_false] at h1
   have l1:a.toNat < b.toNat:=by simpa [Nat.blt_eq] using h1
   cases hbc:Nat.beq b.toNat c.toNat with
   | true =>
    have e:b.toNat=c.toNat:=Nat.eq_of_beq_eq_true hbc
    rw [← e,hab,sel_false]; exact h1
   | false =>
    rw [hbc,sel_false] at h2
    have l2:b.toNat < c.toNat:=by simpa [Nat.blt_eq] using h2
    have:Nat.beq a.toNat c.toNat=false:=by
     cases q:Nat.beq a.toNat c.toNat with
     | false=>rfl
     | true=>have:=Nat.eq_of_beq_eq_true q; omega
    rw [this,sel_false]
    rw [Nat.blt_eq]; omega
theorem ahead_trans {a b c:SCase} (h1:aheadB a b=true) (h2:aheadB b c=true):aheadB a c=true:=by
 unfold aheadB at *
 simp only [Bool.or_eq_true,Bool.and_eq_true,decide_eq_true_eq] at *
 rcases h1 with h1 | ⟨e1,h1⟩
 ·rcases h2 with h2 | ⟨e2,h2⟩
  ·exact .inl (ltS_trans _ _ _ h1 h2)
  ·rw [← e2]; exact .inl h1
 ·rcases h2 with h2 | ⟨e2,h2⟩
  ·rw [e1]; exact .inl h2
  ·exact .inr ⟨e1.trans e2,by omega⟩
theorem ahead_irr (a:SCase):aheadB a a=false:=by
 unfold aheadB; rw [ltS_self]; simp
theorem ord_lt (c:SCase) (s:ByteArray) (a:Int):decide (ordC c s a < 0)=aheadB c ⟨s,a,[]⟩:=by
 have:=order_ahead c ⟨s,a,[]⟩
 unfold ordC
 have:=congrArg (!·) this
 simpa using this
theorem ba_ext {x y:ByteArray} (h:x.data.toList=y.data.toList):x=y:=by
 have:=congrArg List.toArray h
 cases x; cases y
 simp at this
 rw [this]
theorem ord_zero (c:SCase) (s:ByteArray) (a:Int):decide (ordC c s a=0)=(decide (c.name=s) && decide (c.arity=a)):=by
 unfold ordC orderV cmpB cmpS
 cases h1:ltS c.name.data.toList s.data.toList with
 | true =>
  have ne:c.name≠s:=fun e=>by rw [e,ltS_self] at h1; cases h1
  simp [sel_true,ne]
 | false =>
  cases h2:ltS s.data.toList c.name.data.toList with
  | true =>
   have ne:c.name≠s:=fun e=>by rw [e,ltS_self] at h2; cases h2
   simp [sel_true,sel_false,ne]
  | false =>
   have e:c.name=s:=ba_ext (ltS_both _ _ h1 h2)
   simp only [sel_false,e]
   by_cases q:c.arity < a
   ·simp [q]; omega
   ·by_cases q2:a < c.arity
    ·simp [q,q2]; omega
    ·have:c.arity=a:=by omega
     simp [this]
def sorted (l:List SCase):Prop:=l.Pairwise fun a b=>aheadB a b=true
theorem tail_all_ahead {m:Int} {atom:Bool}:∀ {l:List SCase} {b:SCase},isTail m atom (some b) l=false→∀ c∈l,aheadB b c=true
 | [],_,_,c,h=>by cases h
 | d :: l,b,hb,c,h=>by
  unfold isTail at hb
  simp only [Bool.or_eq_false_iff] at hb
  have hd:aheadB b d=true:=by have:=hb.1.2; unfold behind at this; simpa using this
  rcases List.mem_cons.1 h with e | e
  ·rw [e]; exact hd
  ·exact ahead_trans hd (tail_all_ahead hb.2 c e)
theorem tail_sorted {m:Int} {atom:Bool}:∀ {l:List SCase} {p:Option SCase},isTail m atom p l=false→sorted l
 | [],_,_=>List.Pairwise.nil
 | d :: l,p,hb=>by
  unfold isTail at hb
  simp only [Bool.or_eq_false_iff] at hb
  exact List.Pairwise.cons (tail_all_ahead hb.2) (tail_sorted hb.2)
theorem sorted_at {l:List SCase} (h:sorted l) {i j:Nat} (hi:i < j) (hj:j < l.length):aheadB (l.getD i zCase) (l.getD j zCase)=true:=by
 unfold sorted at h
 rw [List.pairwise_iff_getElem] at h
 rw [List.getD_eq_getElem?_getD,List.getD_eq_getElem?_getD,List.getElem?_eq_getElem hj,List.getElem?_eq_getElem (by omega)]
 exact h i j (by omega) hj hi
theorem bsF_spec {l:List SCase} (hs:sorted l) (s:ByteArray) (a:Int):∀ (f:Nat) (i j:Int),(j - i).toNat≤f→0≤i→i≤j→j≤(l.length:Int) →
  (∀ k:Nat,(k:Int) < i→aheadB (l.getD k zCase) ⟨s,a,[]⟩=true)→(∀ k:Nat,j≤(k:Int)→k < l.length→aheadB (l.getD k zCase) ⟨s,a,[]⟩=false) →
  (∀ k:Nat,(k:Int) < bsF l s a f i j→aheadB (l.getD k zCase) ⟨s,a,[]⟩=true)∧(∀ k:Nat,bsF l s a f i j≤(k:Int)→k < l.length→aheadB (l.getD k zCase) ⟨s,a,[]⟩=false)
 | 0,i,j,hf,h0,h1,h2,A,B=>by
  unfold bsF
  have:i=j:=by omega
  subst this
  exact ⟨A,B⟩
 | f + 1,i,j,hf,h0,h1,h2,A,B=>by
  unfold bsF
  by_cases c:i < j
  ·rw [if_pos c]
   have hlt:=ord_lt (l.getD ((i + j) / 2).toNat zCase) s a
   by_cases d:ordC (l.getD ((i + j) / 2).toNat zCase) s a < 0
   ·rw [if_pos d]
    have d':aheadB (l.getD ((i + j) / 2).toNat zCase) ⟨s,a,[]⟩=true:=by rw [← hlt]; exact decide_eq_true d
    refine bsF_spec hs s a f _ j (by omega) (by omega) (by omega) h2 (fun k hk=>?_) B
    rcases Int.lt_or_le (k:Int) ((i + j) / 2) with q | q
    ·exact ahead_trans (sorted_at hs (i:=k) (j:=((i + j) / 2).toNat) (by omega) (by omega)) d'
    ·have:k=((i + j) / 2).toNat:=by omega
     rw [this]; exact d'
   ·rw [if_neg d]
    have d':aheadB (l.getD ((i + j) / 2).toNat zCase) ⟨s,a,[]⟩=false:=by rw [← hlt]; exact decide_eq_false d
    refine bsF_spec hs s a f i _ (by omega) h0 (by omega) (by omega) A (fun k hk hkl=>?_)
    cases q:aheadB (l.getD k zCase) ⟨s,a,[]⟩ with
    | false=>rfl
    | true =>
     rcases Int.lt_or_le ((i + j) / 2) (k:Int) with z | z
     ·have:=ahead_trans (sorted_at hs (i:=((i + j) / 2).toNat) (j:=k) (by omega) hkl) q
      rw [this] at d'; cases d'
     ·have:k=((i + j) / 2).toNat:=by omega
      rw [← this,q] at d'; cases d'
  ·rw [if_neg c]
   have:i=j:=by omega
   subst this
   exact ⟨A,B⟩
def keyB (s:ByteArray) (a:Int) (c:SCase):Bool:=decide (c.name=s) && decide (c.arity=a)
def caseL (l:List SCase) (s:ByteArray) (a:Int):Option SCase:=l.find? (keyB s a)
theorem key_ahead {c d:SCase} {s:ByteArray} {a:Int} (h:keyB s a c=true):aheadB d ⟨s,a,[]⟩=aheadB d c:=by
 unfold keyB at h
 simp only [Bool.and_eq_true,decide_eq_true_eq] at h
 unfold aheadB
 simp only [h.1,h.2]
theorem key_not {c:SCase} {s:ByteArray} {a:Int} (h:keyB s a c=true):aheadB c ⟨s,a,[]⟩=false:=by rw [key_ahead h,ahead_irr]
theorem found_eq {l:List SCase} (hs:sorted l) (s:ByteArray) (a:Int):(if foundB l s a=true then some (caseAt l s a) else none)=caseL l s a:=by
 have hb:=bsearch_bound l s a
 have spec:=bsF_spec hs s a ((l.length:Int) - 0).toNat 0 (l.length:Int) (Nat.le_refl _) (Int.le_refl _) (by omega) (Int.le_refl _) (fun k hk=>by omega) (fun k hk hkl=>by omega)
 have e:bsF l s a ((l.length:Int) - 0).toNat 0 (l.length:Int)=bsearch l s a:=rfl
 rw [e] at spec
 generalize hr:bsearch l s a=r at hb spec
 obtain ⟨n,rfl⟩:∃ n:Nat,r=n:=⟨r.toNat,by omega⟩
 obtain ⟨A,B⟩:=spec
 have oz:∀ c:SCase,decide (ordC c s a=0)=keyB s a c:=fun c=>ord_zero c s a
 unfold foundB caseAt
 rw [hr,oz]
 simp only [Int.toNat_natCast]
 have early:∀ k (hk:k < l.length),k < n→keyB s a l[k]=false:=by
  intro k hk hkn
  have h1:=A k (by omega)
  rw [List.getD_eq_getElem?_getD,List.getElem?_eq_getElem hk] at h1
  cases q:keyB s a l[k] with
  | false=>rfl
  | true=>have:=key_not q; rw [show aheadB l[k] ⟨s,a,[]⟩=true from h1] at this; cases this
 unfold caseL
 by_cases hn:n < l.length
 ·have hg:l.getD n zCase=l[n]:=by rw [List.getD_eq_getElem?_getD,List.getElem?_eq_getElem hn]; rfl
  rw [decide_eq_true (show (n:Int) < (l.length:Int) by omega),Bool.true_and,hg]
  cases q:keyB s a l[n] with
  | true =>
   rw [if_pos rfl]
   symm
   rw [List.find?_eq_some_iff_getElem]
   exact ⟨q,n,hn,rfl,fun k hk=>by simpa using early k (by omega) hk⟩
  | false =>
   rw [if_neg (by simp)]
   symm
   rw [List.find?_eq_none]
   intro x hx
   obtain ⟨k,hk,rfl⟩:=List.mem_iff_getElem.1 hx
   rcases Nat.lt_trichotomy k n with z | z | z
   ·rw [early k hk z]; simp
   ·subst z; rw [q]; simp
   ·intro qk
    have h1:=sorted_at hs (i:=n) (j:=k) z hk
    have h2:=B n (Int.le_refl _) hn
    have:l.getD k zCase=l[k]:=by rw [List.getD_eq_getElem?_getD,List.getElem?_eq_getElem hk]; rfl
    rw [this,← key_ahead qk,h2] at h1
    cases h1
 ·rw [decide_eq_false (show ¬ (n:Int) < (l.length:Int) by omega),Bool.false_and,if_neg (by simp)]
  symm
  rw [List.find?_eq_none]
  intro x hx
  obtain ⟨k,hk,rfl⟩:=List.mem_iff_getElem.1 hx
  rw [early k hk (by omega)]; simp
end Go.Proofs.YtghaalknpdlobaaGreatDoor

namespace Go.Proofs.YtghaalknpdlobaaGreatDoor
open Go Go.Ev Go.Proofs
set_option maxRecDepth 100000
mutual
noncomputable def ofT (g:List Srt):Trm→Int→Bool
 | ⟨k,_,s,l⟩,i=>if k=1 then true else if k=2 then (gAt g i).int else if k=4 then (gAt g i).str
  else if k=6 then !decide (((gAt g i).vec.length:Int)=0) && ofA g l ((gAt g i).vec.getD 0 0)
  else if (decide (k=3) && (gAt g i).atom)=true then true else (match caseL (gAt g i).cases s (l.length:Int) with
   | none=>false
   | some c=>ofLs g l c.args)
noncomputable def ofA (g:List Srt):List Trm→Int→Bool
 | [],_=>true
 | x :: l,i=>ofT g x i && ofA g l i
noncomputable def ofLs (g:List Srt):List Trm→List Int→Bool
 | [],_=>true
 | x :: l,ys=>ofT g x (ys.headD 0) && ofLs g l ys.tail
end
theorem graph_sorted {g:List Srt} {i:Int} (h:graphP g=true) (hi:inG g i):sorted (gAt g i).cases:=by
 have hr:=graph_at h hi
 have e:=right_eq (g.length:Int) (gAt g i)
 rw [hr] at e
 unfold isBadS at e
 have e:_=false:=e.symm
 simp only [Bool.or_eq_false_iff] at e
 exact tail_sorted e.2.2.2
theorem graph_atom {g:List Srt} {i:Int} (h:graphP g=true) (hi:inG g i) (ha:(gAt g i).atom=true):∀ c∈(gAt g i).cases,c.arity≠0:=by
 have hr:=graph_at h hi
 unfold rightB at hr
 have hr:(decide (400 < ((gAt g i).cases.length:Int)) || (decide (1 < ((gAt g i).vec.length:Int)) || ((gAt g i).vec.any (outB (g.length:Int)) || badTail (g.length:Int) (gAt g i).atom none (gAt g i).cases)))=false:=by simpa using hr
 simp only [Bool.or_eq_false_iff] at hr
 intro c hc
 have:=tail_all hr.2.2.2 c hc
 unfold caseBad at this
 simp only [Bool.or_eq_false_iff] at this
 obtain ⟨_,_,_,_,_,h6⟩:=this
 rw [ha,Bool.true_and] at h6
 exact of_decide_eq_false h6
theorem form_atom {n:Int} {s:ByteArray} {l:List Trm} (h:formB 3 n s l=true):l=[]:=by
 unfold formB at h
 simp only [form3,noL] at h
 simp at h
 exact h.2.1
mutual
theorem of_eq {g:List Srt} (hg:graphP g=true):∀ (t:Trm) (i:Int),inG g i→wellT t=true→fitT g t i=ofT g t i
 | ⟨k,n,s,l⟩,i,hi,hw=>by
  unfold wellT at hw
  rw [Bool.and_eq_true] at hw
  obtain ⟨hf,hl⟩:=hw
  obtain ⟨r1,r2,r3,r4⟩:=right_parts (graph_at hg hi)
  unfold fitT ofT
  by_cases k1:k=1
  ·rw [if_pos k1,if_pos k1]
  rw [if_neg k1,if_neg k1]
  by_cases k2:k=2
  ·rw [if_pos k2,if_pos k2]
  rw [if_neg k2,if_neg k2]
  by_cases k4:k=4
  ·rw [if_pos k4,if_pos k4]
  rw [if_neg k4,if_neg k4]
  by_cases k6:k=6
  ·rw [if_pos k6,if_pos k6]
   by_cases hv:((gAt g i).vec.length:Int)=1
   ·have:¬ ((gAt g i).vec.length:Int)=0:=by omega
    rw [decide_eq_true hv,decide_eq_false this]
    rw [ofA_eq hg l ((gAt g i).vec.getD 0 0) (r3 _ (getD_mem _ 0 0 (Int.le_refl _) (by omega))) hl]
    rfl
   ·have:((gAt g i).vec.length:Int)=0:=by omega
    rw [decide_eq_false hv,decide_eq_true this]; rfl
  rw [if_neg k6,if_neg k6]
  have hfe:=found_eq (graph_sorted hg hi) s (l.length:Int)
  by_cases ka:(decide (k=3) && (gAt g i).atom)=true
  ·rw [if_pos ka]
   have ka':=ka
   simp only [Bool.and_eq_true,decide_eq_true_eq] at ka'
   obtain ⟨k3,hat⟩:=ka'
   subst k3
   have hnil:=form_atom hf
   subst hnil
   by_cases hq:foundB (gAt g i).cases s (([]:List Trm).length:Int)=true
   ·obtain ⟨c1,c2⟩:=found_case hq
    exact absurd c2 (graph_atom hg hi hat _ c1)
   ·rw [if_neg hq]; exact ka
  ·rw [if_neg ka]
   by_cases hq:foundB (gAt g i).cases s (l.length:Int)=true
   ·rw [if_pos hq] at hfe ⊢
    rw [← hfe]
    obtain ⟨c1,c2⟩:=found_case hq
    obtain ⟨c3,c4⟩:=r4 _ c1
    exact ofLs_eq hg l _ (by rw [c3,c2]) c4 hl
   ·rw [if_neg hq] at hfe ⊢
    rw [← hfe]
    simpa using ka
theorem ofA_eq {g:List Srt} (hg:graphP g=true):∀ (l:List Trm) (i:Int),inG g i→wellL l=true→fitA g l i=ofA g l i
 | [],i,_,_=>by unfold fitA ofA; rfl
 | x :: l,i,hi,hw=>by
  unfold wellL at hw
  rw [Bool.and_eq_true] at hw
  unfold fitA ofA
  rw [of_eq hg x i hi hw.1,ofA_eq hg l i hi hw.2]
theorem ofLs_eq {g:List Srt} (hg:graphP g=true):∀ (l:List Trm) (ys:List Int),(ys.length:Int)=(l.length:Int)→(∀ x∈ys,0≤x∧x < (g.length:Int))→wellL l=true→fitLs g l ys=ofLs g l ys
 | [],ys,_,_,_=>by unfold fitLs ofLs; rfl
 | x :: l,[],h,_,_=>by simp at h; omega
 | x :: l,y :: ys,h,hr,hw=>by
  unfold wellL at hw
  rw [Bool.and_eq_true] at hw
  unfold fitLs ofLs
  simp only [List.headD_cons,List.tail_cons]
  rw [of_eq hg x y (hr y (by simp)) hw.1,ofLs_eq hg l ys (by simpa using h) (fun z hz=>hr z (by simp [hz])) hw.2]
end
end Go.Proofs.YtghaalknpdlobaaGreatDoor

namespace Go.Proofs.YtghaalknpdlobaaGreatDoor
open Go Go.Ev Go.Proofs
set_option maxRecDepth 100000
def aliveB (out:List Bool) (c:SCase):Bool:=!(c.args.any fun x=>out.getD x.toNat false)
def liveB (out:List Bool) (s:Srt):Bool:=s.int || (s.str || (s.atom || (decide (0 < (s.vec.length:Int)) || s.cases.any (aliveB out))))
def inE:List Srt→Nat→List Bool→Bool→List Bool×Bool
 | [],_,out,ch=>(out,ch)
 | s :: l,i,out,ch=>if (out.getD i false && liveB out s)=true then inE l (i + 1) (out.set i false) true else inE l (i + 1) out ch
theorem inE_len:∀ (l:List Srt) (i:Nat) (out:List Bool) (ch:Bool),(inE l i out ch).1.length=out.length
 | [],_,_,_=>rfl
 | s :: l,i,out,ch=>by
  unfold inE
  split
  ·rw [inE_len l]; simp
  ·exact inE_len l _ _ _
theorem count_set {out:List Bool} {i:Nat} (h:out.getD i false=true):(out.set i false).count true < out.count true:=by
 have hi:i < out.length:=by
  rcases Nat.lt_or_ge i out.length with q | q
  ·exact q
  ·rw [List.getD_eq_getElem?_getD,List.getElem?_eq_none q] at h; cases h
 have hg:out[i]=true:=by rw [List.getD_eq_getElem?_getD,List.getElem?_eq_getElem hi] at h; exact h
 have hpos:0 < out.count true:=List.count_pos_iff.2 (by rw [← hg]; exact List.getElem_mem hi)
 rw [List.count_set hi,hg]
 simp
 omega
theorem inE_count:∀ (l:List Srt) (i:Nat) (out:List Bool) (ch:Bool),(inE l i out ch).1.count true≤out.count true∧((inE l i out ch).2=true→ch=true∨(inE l i out ch).1.count true < out.count true)
 | [],_,out,ch=>⟨Nat.le_refl _,fun h=>.inl h⟩
 | s :: l,i,out,ch=>by
  unfold inE
  split
  ·rename_i q
   rw [Bool.and_eq_true] at q
   have h1:=count_set q.1
   have h2:=(inE_count l (i + 1) (out.set i false) true).1
   exact ⟨by omega,fun _=>.inr (by omega)⟩
  ·exact inE_count l _ _ _
def fixE (g:List Srt) (out:List Bool):List Bool :=
 if h:(inE g 0 out false).2=true then fixE g (inE g 0 out false).1 else (inE g 0 out false).1
termination_by out.count true
decreasing_by
 rcases (inE_count g 0 out false).2 h with q | q
 ·cases q
 ·exact q
theorem fixE_step {g:List Srt} {out:List Bool} (h:(inE g 0 out false).2=true):fixE g (inE g 0 out false).1=fixE g out:=by
 conv=>rhs; unfold fixE
 rw [dif_pos h]
theorem fixE_stop {g:List Srt} {out:List Bool} (h:(inE g 0 out false).2=false):fixE g out=(inE g 0 out false).1:=by
 unfold fixE
 rw [dif_neg (by rw [h]; simp)]
theorem fixE_len {g:List Srt}:∀ (n:Nat) (out:List Bool),out.count true≤n→(fixE g out).length=out.length
 | n,out,hn=>by
  cases h:(inE g 0 out false).2 with
  | false=>rw [fixE_stop h,inE_len]
  | true =>
   have hc:(inE g 0 out false).1.count true < out.count true:=by
    rcases (inE_count g 0 out false).2 h with q | q
    ·cases q
    ·exact q
   cases n with
   | zero=>omega
   | succ n=>rw [← fixE_step h,fixE_len n _ (by omega),inE_len]
def emptL (g:List Srt):List Bool:=fixE g (List.replicate g.length true)
end Go.Proofs.YtghaalknpdlobaaGreatDoor

namespace Go.Proofs.YtghaalknpdlobaaGreatDoor
open Go Go.Ev Go.Proofs
set_option maxRecDepth 100000
end Go.Proofs.YtghaalknpdlobaaGreatDoor

namespace Go.Proofs.YtghaalknpdlobaaGreatDoor
open Go Go.Ev Go.Proofs
set_option maxRecDepth 100000
end Go.Proofs.YtghaalknpdlobaaGreatDoor

namespace Go.Proofs.YtghaalknpdlobaaGreatDoor
open Go Go.Ev Go.Proofs
set_option maxRecDepth 100000
theorem sizeL_mem:∀ {l:List Trm} {x:Trm},x∈l→sizeT x≤sizeL l
 | y :: l,x,h=>by
  unfold sizeL
  have p1:=size_pos y
  have p2:=sizeL_pos l
  rcases List.mem_cons.1 h with e | e
  ·rw [e]; omega
  ·have:=sizeL_mem e; omega
theorem sizeL_len:∀ l:List Trm,(l.length:Int)≤sizeL l
 | []=>by unfold sizeL; simp
 | x :: l=>by
  unfold sizeL
  have:=sizeL_len l
  have:=size_pos x
  simp; omega
mutual
def strT:Trm→Prop
 | ⟨_,_,s,l⟩=>s.data.toList.length≤maxL∧(l.length:Int)≤1000000000∧strL l
def strL:List Trm→Prop
 | []=>True
 | x :: l=>strT x∧strL l
end
end Go.Proofs.YtghaalknpdlobaaGreatDoor

namespace Go.Proofs.YtghaalknpdlobaaGreatDoor
open Go Go.Ev Go.Proofs
set_option maxRecDepth 100000
end Go.Proofs.YtghaalknpdlobaaGreatDoor

namespace Go.Proofs.YtghaalknpdlobaaGreatDoor
open Go Go.Ev Go.Proofs
set_option maxRecDepth 100000
theorem u64q_id {n:Int} (h:0≤n) (h2:n < 18446744073709551616):IntKind.u64.wrap n=n:=by
 simp only [IntKind.wrap,IntKind.bits,IntKind.signed,Bool.false_and,Bool.false_eq_true,if_false]; omega
theorem and32 {y:Int} (h0:0≤y) (h1:y < 4294967296):bitsI .u64 (fun a b=>a &&& b) y 4294967295=y:=by
 obtain ⟨n,rfl⟩:∃ n:Nat,y=n:=⟨y.toNat,by omega⟩
 unfold bitsI
 have hb:(IntKind.u64.bits)=64:=rfl
 have e:((BitVec.ofInt IntKind.u64.bits (n:Int) &&& BitVec.ofInt IntKind.u64.bits 4294967295).toNat)=n:=by
  rw [BitVec.toNat_and]
  have e1:(BitVec.ofInt IntKind.u64.bits (n:Int)).toNat=n:=by
   rw [BitVec.toNat_ofInt,hb]; omega
  have e2:(BitVec.ofInt IntKind.u64.bits 4294967295).toNat=2 ^ 32 - 1:=by
   rw [BitVec.toNat_ofInt,hb]; rfl
  rw [e1,e2,Nat.and_two_pow_sub_one_eq_mod]
  exact Nat.mod_eq_of_lt (by omega)
 rw [e]
 exact u64q_id h0 (by omega)
theorem shr32 {y:Int} (h0:0≤y) (h1:y < 4294967296):y.fdiv (2 ^ min 32 IntKind.u64.bits)=0:=by
 have e3:(2:Int) ^ min 32 IntKind.u64.bits=4294967296:=by rfl
 rw [e3,Int.fdiv_eq_ediv_of_nonneg _ (by omega)]
 omega
def muHi (x y:Int):Int :=
 let x0:=bitsI .u64 (fun a b=>a &&& b) x 4294967295
 let y0:=bitsI .u64 (fun a b=>a &&& b) y 4294967295
 let x1:=x.fdiv (2 ^ min 32 IntKind.u64.bits)
 let y1:=y.fdiv (2 ^ min 32 IntKind.u64.bits)
 let w0:=IntKind.u64.wrap (x0 * y0)
 let t:=IntKind.u64.wrap (IntKind.u64.wrap (x1 * y0) + w0.fdiv (2 ^ min 32 IntKind.u64.bits))
 let w1:=IntKind.u64.wrap (bitsI .u64 (fun a b=>a &&& b) t 4294967295 + IntKind.u64.wrap (x0 * y1))
 IntKind.u64.wrap (IntKind.u64.wrap (IntKind.u64.wrap (x1 * y1) + t.fdiv (2 ^ min 32 IntKind.u64.bits)) + w1.fdiv (2 ^ min 32 IntKind.u64.bits))
theorem muHi_one {y:Int} (h0:0≤y) (h1:y < 4294967296):muHi 1 y=0:=by
 have a0:=and32 (y:=1) (by omega) (by omega)
 have a1:=and32 h0 h1
 have a2:=and32 (y:=0) (by omega) (by omega)
 have s0:=shr32 (y:=1) (by omega) (by omega)
 have s1:=shr32 h0 h1
 have s2:=shr32 (y:=0) (by omega) (by omega)
 have w1:IntKind.u64.wrap y=y:=u64q_id h0 (by omega)
 have w0:IntKind.u64.wrap 0=0:=u64q_id (by omega) (by omega)
 unfold muHi
 simp only [a0,a1,s0,s1,Int.one_mul,Int.zero_mul,Int.mul_zero,w1,w0,Int.zero_add,Int.add_zero,a2,s2]
abbrev MulX:Type:=Int×Int×Unit
noncomputable def mulC:FSpec:=⟨[.i .u64,.i .u64],fun (x:MulX)=>x.1=1∧0≤x.2.1∧x.2.1 < 4294967296,fun (x:MulX)=>.leaf (.tup [.si .u64 0,.si .u64 x.2.1])⟩
theorem mul_kept:mulC.Kept Tryz.prog 184:=by
 refine fkept ct0 lp0 mulC 184 Tryz.f184 [] (by kernel_rfl) (by kernel_rfl) ?_
 intro xx hx
 obtain ⟨x,y,u⟩:MulX:=xx
 obtain ⟨hx1,h0,h1⟩:x=1∧0≤y∧y < 4294967296:=hx
 refine hd_eq (t:=.leaf (true,.tup [.si .u64 (muHi x y),.si .u64 (IntKind.u64.wrap (x * y))])) (by kernel_rfl) ?_
 subst hx1
 refine holds_leaf ⟨rfl,?_⟩
 show some (AVal.tup [.si .u64 0,.si .u64 y])=_
 rw [muHi_one h0 h1,Int.one_mul,u64q_id h0 (by omega)]
abbrev RepX:Type:=List Bool×Int×Unit
def repV (k:Nat) (i:Int) (l:List Bool):Prop:=l.length=k∧0≤i∧i≤(k:Int)∧(k:Int)≤100000∧(k=0∨1≤i)∧∀ j:Nat,(j:Int) < i→l.getD j false=l.headD false
abbrev RepLX:Type:=Nat×Int×Unit
abbrev RepLY:Type:=List Bool×Unit
noncomputable def repDt (k:Nat) (l:List Bool):Dt (AExit×List AVal×List AObj):=.leaf (.exit 0,[.asl (Cd.bool:Cd) 0 0 k],[.arr (Cd.bool:Cd) (show List Bool from List.replicate k (l.headD false))])
theorem repDt_eq {k:Nat} {l m:List Bool} (h:l.headD false=m.headD false):(repDt k l).val=(repDt k m).val:=by unfold repDt; rw [h]
theorem repDt_end {k:Nat} {l:List Bool} (h:List.replicate k (l.headD false)=l):(repDt k l).val=some (AExit.exit 0,[.asl (Cd.bool:Cd) 0 0 k],[.arr (Cd.bool:Cd) l]):=by
 have:∀ m:List Bool,List.replicate k (l.headD false)=m→(repDt k l).val=some (AExit.exit 0,[.asl (Cd.bool:Cd) 0 0 k],[.arr (Cd.bool:Cd) m]):=by
  intro m e; subst e; rfl
 exact this l h
noncomputable def repL:PSpec :=
 {body:=loopIn Tryz.f132 0,nt:=48,nx:=1,room:=4,keep:=[(7,.al Cd.bool 0),(8,.i .i64)],objs:=[(0,.arr Cd.bool)]
  keepX:=fun x=>[7],objsX:=fun _=>[0]
  inv:=fun (x:RepLX) (y:RepLY)=>repV x.1 x.2.1 y.1
  res:=fun (x:RepLX) (y:RepLY)=>repDt x.1 y.1 }
theorem head_getD (l:List Bool):l.headD false=l.getD 0 false:=by cases l <;> rfl
theorem repL_ok:LpSound Tryz.prog (repL.loop []):=by
 refine pkept ct0 lp0 repL (fun (x:RepLX) _=>((x.1:Int) - x.2.1).toNat) (by kernel_rfl) ?_
 intro xx yy hx
 obtain ⟨k,i,u1⟩:RepLX:=xx
 obtain ⟨l,u2⟩:RepLY:=yy
 have hx:repV k i l:=hx
 obtain ⟨hl,h0,h1,hk,hi,hh⟩:=hx
 refine hd_eq (t:=.ite (decide (i < (k:Int))) (.ite (decide (0≤i) && decide (i≤Int.ofNat k) && decide (Int.ofNat k≤(k:Int))) (.ite (decide ((0:Int)≤0) && decide (0≤i) && decide (i≤(k:Int)))
   (.leaf (true,.normal,[.asl (Cd.bool:Cd) 0 0 k,.si .i64 (IntKind.i64.wrap (i + Int.ofNat (min (subL l (Int.toNat 0 + 0) (i.toNat - Int.toNat 0)).length ((Int.ofNat k).toNat - i.toNat))))],
    [.arr (Cd.bool:Cd) (copyL l (i.toNat + 0) ((Int.ofNat k).toNat - i.toNat) (subL l (Int.toNat 0 + 0) (i.toNat - Int.toNat 0)))])) .fail) .fail)
  (.leaf (true,.exit 0,[.asl (Cd.bool:Cd) 0 0 k],[.arr (Cd.bool:Cd) l]))) (by kernel_rfl) ?_
 refine holds_ite (fun hlt=>?_) (fun hlt=>⟨rfl,?_⟩)
 ·have hlt:=of_decide_eq_true hlt
  have hi1:1≤i:=by omega
  obtain ⟨q,rfl⟩:∃ q:Nat,i=q:=⟨i.toNat,by omega⟩
  simp only [Int.toNat_natCast,Int.toNat_zero,Nat.add_zero,Nat.sub_zero]
  have e0:(Int.ofNat k).toNat=k:=rfl
  have es:(subL l 0 q).length=q:=by unfold subL; simp; omega
  rw [e0,es]
  have hm:1≤min q (k - q):=by omega
  have hget:=copyL_get l q (k - q) (subL l 0 q) (by omega)
  rw [es] at hget
  have hsub:∀ j,j < q→(subL l 0 q)[j]?=l[j]?:=by
   intro j hj; unfold subL; simp [hj]
  have hlen:(copyL l q (k - q) (subL l 0 q)).length=k:=by unfold copyL; rw [es]; simp [subL]; omega
  have hgD:∀ j,(copyL l q (k - q) (subL l 0 q)).getD j false=if q≤j∧j < q + min q (k - q) then l.getD (j - q) false else l.getD j false:=by
   intro j
   rw [List.getD_eq_getElem?_getD,hget]
   split
   ·rename_i c
    rw [hsub _ (by omega),List.getD_eq_getElem?_getD]
   ·rw [List.getD_eq_getElem?_getD]
  have hhd:(copyL l q (k - q) (subL l 0 q)).headD false=l.headD false:=by
   rw [head_getD,hgD,if_neg (by omega),head_getD]
  have hw:IntKind.i64.wrap ((q:Int) + Int.ofNat (min q (k - q)))=(q:Int) + (min q (k - q):Nat):=wrap64 (by simp; omega) (by simp; omega)
  refine holds_need (by simp; omega) (holds_need (by simp; omega) ⟨rfl,(k,((q:Int) + (min q (k - q):Nat):Int),()),(copyL l q (k - q) (subL l 0 q),()),?_,rfl,?_,?_,?_⟩)
  ·rw [hw]; rfl
  ·show repV k ((q:Int) + (min q (k - q):Nat)) (copyL l q (k - q) (subL l 0 q))
   refine ⟨hlen,by omega,by omega,hk,by omega,fun j hj=>?_⟩
   rw [hhd,hgD]
   split
   ·exact hh _ (by omega)
   ·exact hh _ (by omega)
  ·show ((k:Int) - ((q:Int) + (min q (k - q):Nat))).toNat < ((k:Int) - q).toNat
   omega
  ·exact repDt_eq hhd
 ·have hlt:=of_decide_eq_false hlt
  have e:List.replicate k (l.headD false)=l:=by
   apply List.ext_getElem (by simp [hl])
   intro j h1 h2
   have:=hh j (by simp at h1; omega)
   rw [List.getD_eq_getElem?_getD,List.getElem?_eq_getElem h2] at this
   simp at this ⊢
   exact this.symm
  exact repDt_end e
noncomputable def repS:OSpec:=⟨[.d Cd.bool,.i .i64],Cd.bool,fun (x:RepX)=>x.1.length=1∧0≤x.2.1∧x.2.1≤100000,fun (x:RepX)=>.leaf (List.replicate x.2.1.toNat (x.1.headD false),x.2.1.toNat)⟩
theorem rep_kept:repS.Kept Tryz.prog 132:=by
 have hL:∀ p∈[(0,repL.loop [])],LpSound Tryz.prog p.2:=lpc repL_ok lp0
 have hmk:mkFn Tryz.prog 132=some (.code (unmark [(0,repL.loop [])] (cd Tryz.f132 [0])) Tryz.f132.ntmps Tryz.f132.results.toList):=by kernel_rfl
 refine okept xs0 (ctc mul_kept ct0) hL repS 132 Tryz.f132 [0] hmk (by kernel_rfl) rfl ?_
 intro xx hx
 obtain ⟨l,n,u⟩:RepX:=xx
 obtain ⟨hl,h0,h1⟩:l.length=1∧0≤n∧n≤100000:=hx
 refine hd_eq (t:=.ite (decide (n < 0)) .fail (.ite (dec (IntKind.u64.wrap (Int.ofNat l.length)=1∧0≤IntKind.u64.wrap n∧IntKind.u64.wrap n < 4294967296)) (.ite (decide ((0:Int) < 0)) .fail (.ite (decide (9223372036854775807 < IntKind.u64.wrap n)) .fail
  (.ite (decide (0≤IntKind.i64.wrap (IntKind.u64.wrap n)) && decide (IntKind.i64.wrap (IntKind.u64.wrap n)≤100000) && decide (IntKind.i64.wrap (IntKind.u64.wrap n)=IntKind.i64.wrap (IntKind.u64.wrap n)))
   (.ite (dec (repV (IntKind.i64.wrap (IntKind.u64.wrap n)).toNat (Int.ofNat (min l.length (IntKind.i64.wrap (IntKind.u64.wrap n)).toNat)) (copyL (List.replicate (IntKind.i64.wrap (IntKind.u64.wrap n)).toNat false) 0 (IntKind.i64.wrap (IntKind.u64.wrap n)).toNat l)))
    (.leaf (true,some (List.replicate (IntKind.i64.wrap (IntKind.u64.wrap n)).toNat ((copyL (List.replicate (IntKind.i64.wrap (IntKind.u64.wrap n)).toNat false) 0 (IntKind.i64.wrap (IntKind.u64.wrap n)).toNat l).headD false),(IntKind.i64.wrap (IntKind.u64.wrap n)).toNat))) .fail) .fail))) .fail)) (by kernel_rfl) ?_
 have e1:IntKind.u64.wrap n=n:=u64q_id h0 (by omega)
 have e2:IntKind.i64.wrap n=n:=wrap64 (by omega) (by omega)
 have e3:IntKind.u64.wrap (Int.ofNat l.length)=1:=by rw [hl]; exact u64q_id (by simp) (by simp)
 rw [e1,e2,e3,hl]
 obtain ⟨b,rfl⟩:=List.length_eq_one_iff.1 hl
 obtain ⟨q,rfl⟩:∃ q:Nat,n=q:=⟨n.toNat,by omega⟩
 simp only [Int.toNat_natCast]
 have ec:copyL (List.replicate q false) 0 q [b]=(if q=0 then [] else b :: List.replicate (q - 1) false):=by
  unfold copyL
  cases q with
  | zero=>rfl
  | succ q=>simp
 refine holds_ite (fun h=>by have:=of_decide_eq_true h; omega) fun _=>holds_need (dec_true ⟨trivial,by omega,by omega⟩) (holds_ite (fun h=>by have:=of_decide_eq_true h; omega) fun _=>holds_ite (fun h=>by have:=of_decide_eq_true h; omega) fun _=>holds_need (by simp; omega) (holds_need (dec_true ?_) ?_))
 ·rw [ec]
  refine ⟨?_,by simp,by simp; omega,by omega,?_,fun j hj=>?_⟩
  ·cases q with
   | zero=>rfl
   | succ q=>simp
  ·cases q with
   | zero=>exact .inl rfl
   | succ q=>right; simp
  ·have hj:j < min 1 q:=by simpa using hj
   have:j=0:=by omega
   subst this
   exact (head_getD _).symm
 ·refine holds_leaf ⟨rfl,?_,fun h=>by cases h⟩
  show some (List.replicate ((q:Int)).toNat ([b].headD false),((q:Int)).toNat)=_
  rw [ec]
  cases q with
  | zero=>rfl
  | succ q=>rfl
end Go.Proofs.YtghaalknpdlobaaGreatDoor

namespace Go.Proofs.YtghaalknpdlobaaGreatDoor
open Go Go.Ev Go.Proofs
set_option maxRecDepth 100000
def al1P (c:Pts [.box Cd.bools]) (x:Int):Bool:=(show List Bool from c.1).getD x.toNat false
def al1Q (x:Int) (c:Pts [.box Cd.bools]):Prop:=0≤x∧x < ((show List Bool from c.1).length:Int)
noncomputable def al1C:FSpec:=⟨[.i .i64,.box Cd.bools],fun (x:Int×List Bool×Unit)=>0≤x.1∧x.1 < (x.2.1.length:Int),fun (x:Int×List Bool×Unit)=>.leaf (.sb (x.2.1.getD x.1.toNat false))⟩
theorem al1q_kept:al1C.Kept Tryz.prog 210:=by
 refine fkept ct0 lp0 al1C 210 Tryz.f210 [] (by kernel_rfl) (by kernel_rfl) ?_
 intro xx hx
 obtain ⟨x,out,u⟩:Int×List Bool×Unit:=xx
 obtain ⟨h0,h1⟩:0≤x∧x < (out.length:Int):=hx
 refine hd_eq (t:=.ite (decide (0≤x) && decide (x < (out.length:Int))) (.leaf (true,.sb (out.getD x.toNat false))) .fail) (by kernel_rfl) ?_
 exact holds_need (by simp [h0,h1]) (holds_leaf ⟨rfl,rfl⟩)
def al1V (l:List Int) (c:Pts [.box Cd.bools]) (n i:Int):Prop:=(∀ e∈l,al1Q e c)∧l.length≤maxL∧n=(l.length:Int)∧0≤i∧i≤(l.length:Int)
noncomputable def al1L:PSpec :=
 {body:=loopIn Tryz.f211 0,nt:=19,nx:=0,room:=8,keep:=[(0,.d .int),(1,.fn 210 [.box Cd.bools]),(7,.i .i64),(8,.i .i64)],objs:=[]
  keepX:=fun x=>match x with | .ret=>[4] | _=>[],objsX:=fun _=>[]
  inv:=fun (x:List Int×Pts [.box Cd.bools]×Int×Int×Unit) _=>al1V x.1 x.2.1 x.2.2.1 x.2.2.2.1
  res:=fun (x:List Int×Pts [.box Cd.bools]×Int×Int×Unit) _=>idxDt (al1P x.2.1) x.1 x.2.2.2.1 }
theorem al1L_ok:LpSound Tryz.prog ((al1L).loop []):=by
 refine pkept (ctc (al1q_kept) ct0) lp0 (al1L) (fun (x:List Int×Pts [.box Cd.bools]×Int×Int×Unit) _=>((x.1.length:Int) - x.2.2.2.1).toNat) (by kernel_rfl) ?_
 intro xx y hx
 obtain ⟨l,c,n,i,u⟩:List Int×Pts [.box Cd.bools]×Int×Int×Unit:=xx
 obtain ⟨hQ,hm,hn,h4,h5⟩:(∀ e∈l,al1Q e c)∧l.length≤maxL∧n=(l.length:Int)∧0≤i∧i≤(l.length:Int):=hx
 have hm2:=len64 hm
 subst hn
 let z:Int:=Univ.dflt (.int:Cd)
 refine hd_eq (t:=.ite (decide (i < (l.length:Int)))
   (.ite (decide (0≤i) && decide (i < (l.length:Int)))
    (.ite (dec (al1Q (l.getD i.toNat z) c))
     (.ite (al1P c (l.getD i.toNat z)) (.leaf (true,.ret,[.si .i64 i],[]))
      (.leaf (true,.normal,[AVal.dsl (.int:Cd) l,.fn 210 [] (Pts.vals [.box Cd.bools] c),.si .i64 (l.length:Int),.si .i64 (IntKind.i64.wrap (i + 1))],[])))
     .fail) .fail)
   (.leaf (true,.exit 0,[],[]))) (by kernel_rfl) ?_
 refine holds_ite (fun hlt=>?_) (fun hlt=>?_)
 ·have hlt:=of_decide_eq_true hlt
  refine holds_need (by simp [h4,hlt]) (holds_need (dec_true (hQ _ (getD_mem l i z h4 hlt))) (holds_ite (fun hp=>⟨rfl,idx_hit z h4 hlt hp⟩) (fun hp=>⟨rfl,(l,c,(l.length:Int),IntKind.i64.wrap (i + 1),()),(),rfl,rfl,?_⟩)))
  rw [wrap64 (by omega) (by omega)]
  refine ⟨⟨hQ,hm,rfl,by show (0:Int)≤i + 1; omega,by show i + 1≤(l.length:Int); omega⟩,by show ((l.length:Int) - (i + 1)).toNat < ((l.length:Int) - i).toNat; omega,?_⟩
  exact idx_on z h4 hlt hp
 ·exact ⟨rfl,idx_end h5 (of_decide_eq_false hlt)⟩
noncomputable def al1I:FSpec:=⟨[.d .int,.fn 210 [.box Cd.bools]],fun (x:List Int×Pts [.box Cd.bools]×Unit)=>(∀ e∈x.1,al1Q e x.2.1)∧x.1.length≤maxL,
 fun (x:List Int×Pts [.box Cd.bools]×Unit)=>.ite (x.1.any (al1P x.2.1)) (.leaf (.si .i64 ((x.1.findIdx (al1P x.2.1):Nat):Int))) (.leaf (.si .i64 (-1)))⟩
theorem al1I_kept:(al1I).Kept Tryz.prog 211:=by
 have hL:∀ p∈[(0,(al1L).loop [])],LpSound Tryz.prog p.2:=lpc (al1L_ok) lp0
 have hmk:mkFn Tryz.prog 211=some (.code (unmark [(0,(al1L).loop [])] (cd Tryz.f211 [0])) Tryz.f211.ntmps Tryz.f211.results.toList):=by kernel_rfl
 refine fkept ct0 hL (al1I) 211 Tryz.f211 [0] hmk (by kernel_rfl) ?_
 intro xx hx
 obtain ⟨l,c,u⟩:List Int×Pts [.box Cd.bools]×Unit:=xx
 have hx:(∀ e∈l,al1Q e c)∧l.length≤maxL:=hx
 have hQ:=hx.1
 have hm:=hx.2
 refine hd_eq (t:=.ite (dec (al1V l c (l.length:Int) 0)) (.ite (l.any (al1P c)) (.leaf (true,.si .i64 (0 + (l.findIdx (al1P c):Nat)))) (.leaf (true,.si .i64 (-1)))) .fail) (by kernel_rfl) ?_
 refine holds_need (dec_true ⟨hQ,hm,rfl,by show (0:Int)≤0; omega,by show (0:Int)≤l.length; omega⟩) (holds_ite (fun hp=>⟨rfl,?_⟩) fun hp=>⟨rfl,?_⟩)
 ·show (Dt.ite (l.any (al1P c)) _ _:Dt AVal).val=_
  rw [hp]; simp [Dt.val]
 ·show (Dt.ite (l.any (al1P c)) _ _:Dt AVal).val=_
  rw [hp]; simp [Dt.val]
noncomputable def al1N:FSpec:=⟨[.d .int,.fn 210 [.box Cd.bools]],fun (x:List Int×Pts [.box Cd.bools]×Unit)=>(∀ e∈x.1,al1Q e x.2.1)∧x.1.length≤maxL,
 fun (x:List Int×Pts [.box Cd.bools]×Unit)=>.leaf (.sb (x.1.any (al1P x.2.1)))⟩
theorem al1N_kept:(al1N).Kept Tryz.prog 139:=by
 refine fkept (ctc (al1I_kept) ct0) lp0 (al1N) 139 Tryz.f139 [] (by kernel_rfl) (by kernel_rfl) ?_
 intro xx hx
 obtain ⟨l,c,u⟩:List Int×Pts [.box Cd.bools]×Unit:=xx
 have hx:(∀ e∈l,al1Q e c)∧l.length≤maxL:=hx
 refine hd_eq (t:=.ite (dec ((∀ e∈l,al1Q e c)∧l.length≤maxL)) (.ite (l.any (al1P c)) (.leaf (true,.sb (!decide ((l.findIdx (al1P c):Int) < 0)))) (.leaf (true,.sb (!decide ((-1:Int) < 0))))) .fail) (by kernel_rfl) ?_
 refine holds_need (dec_true hx) (holds_ite (fun hp=>⟨rfl,?_⟩) fun hp=>⟨rfl,?_⟩)
 ·show some (AVal.sb (l.any (al1P c)))=some (AVal.sb _)
  rw [hp]; simp
 ·show some (AVal.sb (l.any (al1P c)))=some (AVal.sb _)
  rw [hp]; simp
abbrev caseP:List Pt:=[.s,.i .i64,.d Cd.int]
abbrev CaseX:Type:=ByteArray×Int×List Int×Unit
def alQ (args:List Int) (out:List Bool):Prop:=(∀ e∈args,0≤e∧e < (out.length:Int))∧args.length≤maxL
noncomputable def alC:FSpec:=⟨[.agg caseP,.d Cd.bool],fun (x:CaseX×List Bool×Unit)=>alQ x.1.2.2.1 x.2.1,fun (x:CaseX×List Bool×Unit)=>.leaf (.sb (aliveB x.2.1 ⟨x.1.1,x.1.2.1,x.1.2.2.1⟩))⟩
theorem al_kept:alC.Kept Tryz.prog 135:=by
 refine fkept (ctc al1N_kept ct0) lp0 alC 135 Tryz.f135 [] (by kernel_rfl) (by kernel_rfl) ?_
 intro xx hx
 obtain ⟨⟨s,a,ys,u1⟩,out,u2⟩:CaseX×List Bool×Unit:=xx
 have hx:alQ ys out:=hx
 refine hd_eq (t:=.ite (dec (alQ ys out)) (.leaf (true,.sb (!ys.any (al1P (show Pts [.box Cd.bools] from (out,())))))) .fail) (by kernel_rfl) ?_
 exact holds_need (dec_true hx) (holds_leaf ⟨rfl,rfl⟩)
def em1P (c:Pts [.box Cd.bools]) (x:SCase):Bool:=aliveB (show List Bool from c.1) x
def em1Q (x:SCase) (c:Pts [.box Cd.bools]):Prop:=alQ x.args (show List Bool from c.1)
noncomputable def em1C:FSpec:=⟨[.agg caseP,.box Cd.bools],fun (x:CaseX×List Bool×Unit)=>alQ x.1.2.2.1 x.2.1,fun (x:CaseX×List Bool×Unit)=>.leaf (.sb (aliveB x.2.1 ⟨x.1.1,x.1.2.1,x.1.2.2.1⟩))⟩
theorem em1q_kept:em1C.Kept Tryz.prog 134:=by
 refine fkept (ctc al_kept ct0) lp0 em1C 134 Tryz.f134 [] (by kernel_rfl) (by kernel_rfl) ?_
 intro xx hx
 obtain ⟨⟨s,a,ys,u1⟩,out,u2⟩:CaseX×List Bool×Unit:=xx
 have hx:alQ ys out:=hx
 refine hd_eq (t:=.ite (dec (alQ ys out)) (.leaf (true,.sb (aliveB out ⟨s,a,ys⟩))) .fail) (by kernel_rfl) ?_
 exact holds_need (dec_true hx) (holds_leaf ⟨rfl,rfl⟩)
def em1V (l:List SCase) (c:Pts [.box Cd.bools]) (n i:Int):Prop:=(∀ e∈l,em1Q e c)∧l.length≤maxL∧n=(l.length:Int)∧0≤i∧i≤(l.length:Int)
noncomputable def em1L:PSpec :=
 {body:=loopIn Tryz.f209 0,nt:=19,nx:=0,room:=8,keep:=[(0,.d .case),(1,.fn 134 [.box Cd.bools]),(7,.i .i64),(8,.i .i64)],objs:=[]
  keepX:=fun x=>match x with | .ret=>[4] | _=>[],objsX:=fun _=>[]
  inv:=fun (x:List SCase×Pts [.box Cd.bools]×Int×Int×Unit) _=>em1V x.1 x.2.1 x.2.2.1 x.2.2.2.1
  res:=fun (x:List SCase×Pts [.box Cd.bools]×Int×Int×Unit) _=>idxDt (em1P x.2.1) x.1 x.2.2.2.1 }
theorem em1L_ok:LpSound Tryz.prog ((em1L).loop []):=by
 refine pkept (ctc (em1q_kept) ct0) lp0 (em1L) (fun (x:List SCase×Pts [.box Cd.bools]×Int×Int×Unit) _=>((x.1.length:Int) - x.2.2.2.1).toNat) (by kernel_rfl) ?_
 intro xx y hx
 obtain ⟨l,c,n,i,u⟩:List SCase×Pts [.box Cd.bools]×Int×Int×Unit:=xx
 obtain ⟨hQ,hm,hn,h4,h5⟩:(∀ e∈l,em1Q e c)∧l.length≤maxL∧n=(l.length:Int)∧0≤i∧i≤(l.length:Int):=hx
 have hm2:=len64 hm
 subst hn
 let z:SCase:=Univ.dflt (.case:Cd)
 refine hd_eq (t:=.ite (decide (i < (l.length:Int)))
   (.ite (decide (0≤i) && decide (i < (l.length:Int)))
    (.ite (dec (em1Q (l.getD i.toNat z) c))
     (.ite (em1P c (l.getD i.toNat z)) (.leaf (true,.ret,[.si .i64 i],[]))
      (.leaf (true,.normal,[AVal.dsl (.case:Cd) l,.fn 134 [] (Pts.vals [.box Cd.bools] c),.si .i64 (l.length:Int),.si .i64 (IntKind.i64.wrap (i + 1))],[])))
     .fail) .fail)
   (.leaf (true,.exit 0,[],[]))) (by kernel_rfl) ?_
 refine holds_ite (fun hlt=>?_) (fun hlt=>?_)
 ·have hlt:=of_decide_eq_true hlt
  refine holds_need (by simp [h4,hlt]) (holds_need (dec_true (hQ _ (getD_mem l i z h4 hlt))) (holds_ite (fun hp=>⟨rfl,idx_hit z h4 hlt hp⟩) (fun hp=>⟨rfl,(l,c,(l.length:Int),IntKind.i64.wrap (i + 1),()),(),rfl,rfl,?_⟩)))
  rw [wrap64 (by omega) (by omega)]
  refine ⟨⟨hQ,hm,rfl,by show (0:Int)≤i + 1; omega,by show i + 1≤(l.length:Int); omega⟩,by show ((l.length:Int) - (i + 1)).toNat < ((l.length:Int) - i).toNat; omega,?_⟩
  exact idx_on z h4 hlt hp
 ·exact ⟨rfl,idx_end h5 (of_decide_eq_false hlt)⟩
noncomputable def em1I:FSpec:=⟨[.d .case,.fn 134 [.box Cd.bools]],fun (x:List SCase×Pts [.box Cd.bools]×Unit)=>(∀ e∈x.1,em1Q e x.2.1)∧x.1.length≤maxL,
 fun (x:List SCase×Pts [.box Cd.bools]×Unit)=>.ite (x.1.any (em1P x.2.1)) (.leaf (.si .i64 ((x.1.findIdx (em1P x.2.1):Nat):Int))) (.leaf (.si .i64 (-1)))⟩
theorem em1I_kept:(em1I).Kept Tryz.prog 209:=by
 have hL:∀ p∈[(0,(em1L).loop [])],LpSound Tryz.prog p.2:=lpc (em1L_ok) lp0
 have hmk:mkFn Tryz.prog 209=some (.code (unmark [(0,(em1L).loop [])] (cd Tryz.f209 [0])) Tryz.f209.ntmps Tryz.f209.results.toList):=by kernel_rfl
 refine fkept ct0 hL (em1I) 209 Tryz.f209 [0] hmk (by kernel_rfl) ?_
 intro xx hx
 obtain ⟨l,c,u⟩:List SCase×Pts [.box Cd.bools]×Unit:=xx
 have hx:(∀ e∈l,em1Q e c)∧l.length≤maxL:=hx
 have hQ:=hx.1
 have hm:=hx.2
 refine hd_eq (t:=.ite (dec (em1V l c (l.length:Int) 0)) (.ite (l.any (em1P c)) (.leaf (true,.si .i64 (0 + (l.findIdx (em1P c):Nat)))) (.leaf (true,.si .i64 (-1)))) .fail) (by kernel_rfl) ?_
 refine holds_need (dec_true ⟨hQ,hm,rfl,by show (0:Int)≤0; omega,by show (0:Int)≤l.length; omega⟩) (holds_ite (fun hp=>⟨rfl,?_⟩) fun hp=>⟨rfl,?_⟩)
 ·show (Dt.ite (l.any (em1P c)) _ _:Dt AVal).val=_
  rw [hp]; simp [Dt.val]
 ·show (Dt.ite (l.any (em1P c)) _ _:Dt AVal).val=_
  rw [hp]; simp [Dt.val]
noncomputable def em1N:FSpec:=⟨[.d .case,.fn 134 [.box Cd.bools]],fun (x:List SCase×Pts [.box Cd.bools]×Unit)=>(∀ e∈x.1,em1Q e x.2.1)∧x.1.length≤maxL,
 fun (x:List SCase×Pts [.box Cd.bools]×Unit)=>.leaf (.sb (x.1.any (em1P x.2.1)))⟩
theorem em1N_kept:(em1N).Kept Tryz.prog 133:=by
 refine fkept (ctc (em1I_kept) ct0) lp0 (em1N) 133 Tryz.f133 [] (by kernel_rfl) (by kernel_rfl) ?_
 intro xx hx
 obtain ⟨l,c,u⟩:List SCase×Pts [.box Cd.bools]×Unit:=xx
 have hx:(∀ e∈l,em1Q e c)∧l.length≤maxL:=hx
 refine hd_eq (t:=.ite (dec ((∀ e∈l,em1Q e c)∧l.length≤maxL)) (.ite (l.any (em1P c)) (.leaf (true,.sb (!decide ((l.findIdx (em1P c):Int) < 0)))) (.leaf (true,.sb (!decide ((-1:Int) < 0))))) .fail) (by kernel_rfl) ?_
 refine holds_need (dec_true hx) (holds_ite (fun hp=>⟨rfl,?_⟩) fun hp=>⟨rfl,?_⟩)
 ·show some (AVal.sb (l.any (em1P c)))=some (AVal.sb _)
  rw [hp]; simp
 ·show some (AVal.sb (l.any (em1P c)))=some (AVal.sb _)
  rw [hp]; simp
end Go.Proofs.YtghaalknpdlobaaGreatDoor

namespace Go.Proofs.YtghaalknpdlobaaGreatDoor
open Go Go.Ev Go.Proofs
set_option maxRecDepth 100000
theorem live_tree {α:Type} {o a1 a2 a3 a4 a5 b:Bool} {Y N:Dt α} {p:α→Prop} (hb:b=true) (hy:(o && (a1 || (a2 || (a3 || (a4 || a5)))))=true→Y.holds p) (hn:(o && (a1 || (a2 || (a3 || (a4 || a5)))))=false→N.holds p) :
  (Dt.ite o (.ite a1 Y (.ite a2 Y (.ite a3 Y (.ite a4 Y (.ite b (.ite a5 Y N) .fail))))) N).holds p:=by
 refine holds_ite (fun h=>?_) (fun h=>hn (by rw [h,Bool.false_and]))
 subst h
 refine holds_ite (fun h=>hy (by rw [h]; rfl)) fun h1=>?_
 subst h1
 refine holds_ite (fun h=>hy (by rw [h]; rfl)) fun h2=>?_
 subst h2
 refine holds_ite (fun h=>hy (by rw [h]; rfl)) fun h3=>?_
 subst h3
 refine holds_ite (fun h=>hy (by rw [h]; rfl)) fun h4=>?_
 subst h4
 exact holds_need hb (holds_ite (fun h=>hy (by rw [h]; rfl)) fun h=>hn (by rw [h]; rfl))
theorem subL_all {α:Type} (l:List α):subL l 0 l.length=l:=by unfold subL; simp
theorem graph_args {g:List Srt} {i:Int} (h:graphP g=true) (hi:inG g i):∀ c∈(gAt g i).cases,c.args.length≤16:=by
 have hr:=graph_at h hi
 unfold rightB at hr
 have hr:(decide (400 < ((gAt g i).cases.length:Int)) || (decide (1 < ((gAt g i).vec.length:Int)) || ((gAt g i).vec.any (outB (g.length:Int)) || badTail (g.length:Int) (gAt g i).atom none (gAt g i).cases)))=false:=by simpa using hr
 simp only [Bool.or_eq_false_iff] at hr
 intro c hc
 have:=tail_all hr.2.2.2 c hc
 unfold caseBad at this
 simp only [Bool.or_eq_false_iff] at this
 obtain ⟨_,_,h3,h4,_,_⟩:=this
 have h4:(c.args.length:Int)=c.arity:=by simpa using h4
 have h3:=of_decide_eq_false h3
 omega
theorem graph_alQ {g:List Srt} {i:Int} (h:graphP g=true) (hi:inG g i) {out:List Bool} (ho:out.length=g.length):(∀ e∈(gAt g i).cases,em1Q e (show Pts [.box Cd.bools] from (out,())))∧(gAt g i).cases.length≤maxL:=by
 obtain ⟨r1,r2,r3,r4⟩:=right_parts (graph_at h hi)
 refine ⟨fun c hc=>⟨fun e he=>?_,?_⟩,by unfold maxL; omega⟩
 ·have:=(r4 c hc).2 e he
  show 0≤e∧e < (out.length:Int)
  omega
 ·have:=graph_args h hi c hc
  unfold maxL; omega
abbrev EmX:Type:=List Srt×Unit×Bool×List Srt×Int×Int×Unit
abbrev EmY:Type:=List Bool×(Nat×Unit)×Unit
def emV (g0 g:List Srt) (n i:Int) (out:List Bool) (k:Nat):Prop:=graphP g=true∧g0=g∧n=(g.length:Int)∧0≤i∧i≤(g.length:Int)∧out.length=g.length∧k=g.length
noncomputable def emDt (g0:List Srt) (k:Nat) (r:List Bool×Bool):Dt (AExit×List AVal×List AObj) :=
 .leaf (.exit 2,[.dsl (Cd.sort:Cd) g0,.ptr 2 0,.sb r.2],[.arr (Cd.bool:Cd) (show List Bool from r.1),.cells [.asl (Cd.bool:Cd) 1 0 k] 32 false false 2 0 [(2,0,1)]])
noncomputable def emL:PSpec :=
 {body:=loopIn Tryz.f76 2,nt:=52,nx:=3,room:=16,keep:=[(0,.d Cd.sort),(3,.p 2 0),(4,.b),(12,.d Cd.sort),(13,.i .i64),(14,.i .i64)],objs:=[(1,.arr Cd.bool),(2,.cells [.al Cd.bool 1] 32 2 0 [(2,0,1)])]
  keepX:=fun _=>[0,3,4],objsX:=fun _=>[1,2]
  inv:=fun (x:EmX) (y:EmY)=>emV x.1 x.2.2.2.1 x.2.2.2.2.1 x.2.2.2.2.2.1 y.1 y.2.1.1
  res:=fun (x:EmX) (y:EmY)=>emDt x.1 y.2.1.1 (inE (x.2.2.2.1.drop x.2.2.2.2.2.1.toNat) x.2.2.2.2.2.1.toNat y.1 x.2.2.1) }
theorem emL_ok:LpSound Tryz.prog (emL.loop []):=by
 refine pkept (ctc em1N_kept ct0) lp0 emL (fun (x:EmX) _=>((x.2.2.2.1.length:Int) - x.2.2.2.2.2.1).toNat) (by kernel_rfl) ?_
 intro xx yy hx
 obtain ⟨g0,u1,ch,g,n,i,u2⟩:EmX:=xx
 obtain ⟨out,⟨k,u3⟩,u4⟩:EmY:=yy
 have hx:emV g0 g n i out k:=hx
 obtain ⟨hg,rfl,rfl,h0,h1,ho,rfl⟩:=hx
 let z:Srt:=Univ.dflt (Cd.sort:Cd)
 let Y:Dt (Bool×AExit×List AVal×List AObj):=.ite (decide (0≤i) && decide (i < ((g0.length:Nat):Int))) (.leaf (true,.normal,[.dsl (Cd.sort:Cd) g0,.ptr 2 0,.sb true,.dsl (Cd.sort:Cd) g0,.si .i64 (g0.length:Int),.si .i64 (IntKind.i64.wrap (i + 1))],
  [.arr (Cd.bool:Cd) (show List Bool from out.set (i.toNat + 0) false),.cells [.asl (Cd.bool:Cd) 1 0 g0.length] 32 false false 2 0 [(2,0,1)]])) .fail
 let N:Dt (Bool×AExit×List AVal×List AObj):=.leaf (true,.normal,[.dsl (Cd.sort:Cd) g0,.ptr 2 0,.sb ch,.dsl (Cd.sort:Cd) g0,.si .i64 (g0.length:Int),.si .i64 (IntKind.i64.wrap (i + 1))],
  [.arr (Cd.bool:Cd) (show List Bool from out),.cells [.asl (Cd.bool:Cd) 1 0 g0.length] 32 false false 2 0 [(2,0,1)]])
 refine hd_eq (t:=.ite (decide (i < (g0.length:Int))) (.ite (decide (0≤i) && decide (i < (g0.length:Int))) (.ite (decide (0≤i) && decide (i < ((g0.length:Nat):Int)))
   (.ite (out.getD (i.toNat + 0) false) (.ite (g0.getD i.toNat z).int Y (.ite (g0.getD i.toNat z).str Y (.ite (g0.getD i.toNat z).atom Y (.ite (decide (0 < ((g0.getD i.toNat z).vec.length:Int))) Y
    (.ite (dec ((∀ e∈(g0.getD i.toNat z).cases,em1Q e (show Pts [.box Cd.bools] from (subL out 0 g0.length,())))∧(g0.getD i.toNat z).cases.length≤maxL)) (.ite ((g0.getD i.toNat z).cases.any (em1P (show Pts [.box Cd.bools] from (subL out 0 g0.length,())))) Y N) .fail))))) N) .fail) .fail)
  (.leaf (true,.exit 2,[.dsl (Cd.sort:Cd) g0,.ptr 2 0,.sb ch],[.arr (Cd.bool:Cd) (show List Bool from out),.cells [.asl (Cd.bool:Cd) 1 0 g0.length] 32 false false 2 0 [(2,0,1)]]))) (by kernel_rfl) ?_
 have hglen:(g0.length:Int)≤2000:=by
  unfold graphP at hg
  simp at hg; omega
 refine holds_ite (fun hlt=>?_) (fun hlt=>⟨rfl,?_⟩)
 ·have hlt:=of_decide_eq_true hlt
  have hin:(decide (0≤i) && decide (i < (g0.length:Int)))=true:=by simp; exact ⟨h0,hlt⟩
  have hd:=drop_cons g0 i z h0 hlt
  have hw:IntKind.i64.wrap (i + 1)=i + 1:=wrap64 (by omega) (by omega)
  have hn1:(i + 1).toNat=i.toNat + 1:=by omega
  have hsub:subL out 0 g0.length=out:=by rw [← ho]; exact subL_all out
  have hstep:inE (g0.drop i.toNat) i.toNat out ch=if (out.getD i.toNat false && liveB out (g0.getD i.toNat z))=true then inE (g0.drop (i + 1).toNat) (i + 1).toNat (out.set i.toNat false) true else inE (g0.drop (i + 1).toNat) (i + 1).toNat out ch:=by
   rw [hd,hn1]
   conv=>lhs; unfold inE
  rw [hsub]
  have hQ:=graph_alQ (i:=i) hg ⟨h0,hlt⟩ ho
  refine holds_need hin (holds_need hin (live_tree (dec_true hQ) (fun hb=>?_) (fun hb=>?_)))
  ·have hb:(out.getD i.toNat false && liveB out (g0.getD i.toNat z))=true:=hb
   rw [if_pos hb] at hstep
   refine holds_need hin ⟨rfl,(g0,(),true,g0,(g0.length:Int),(i + 1:Int),()),(show List Bool from out.set i.toNat false,(g0.length,()),()),?_,rfl,?_,?_,?_⟩
   ·rw [hw]; rfl
   ·show emV g0 g0 (g0.length:Int) (i + 1) (out.set i.toNat false) g0.length
    exact ⟨hg,rfl,rfl,by omega,by omega,by simp [ho],rfl⟩
   ·show ((g0.length:Int) - (i + 1)).toNat < ((g0.length:Int) - i).toNat
    omega
   ·show (emDt g0 g0.length (inE (g0.drop (i + 1).toNat) (i + 1).toNat (out.set i.toNat false) true)).val=(emDt g0 g0.length (inE (g0.drop i.toNat) i.toNat out ch)).val
    rw [hstep]
  ·have hb:(out.getD i.toNat false && liveB out (g0.getD i.toNat z))=false:=hb
   rw [if_neg (by rw [hb]; simp)] at hstep
   refine ⟨rfl,(g0,(),ch,g0,(g0.length:Int),(i + 1:Int),()),(out,(g0.length,()),()),?_,rfl,?_,?_,?_⟩
   ·rw [hw]; rfl
   ·show emV g0 g0 (g0.length:Int) (i + 1) out g0.length
    exact ⟨hg,rfl,rfl,by omega,by omega,ho,rfl⟩
   ·show ((g0.length:Int) - (i + 1)).toNat < ((g0.length:Int) - i).toNat
    omega
   ·show (emDt g0 g0.length (inE (g0.drop (i + 1).toNat) (i + 1).toNat out ch)).val=(emDt g0 g0.length (inE (g0.drop i.toNat) i.toNat out ch)).val
    rw [hstep]
 ·have hlt:=of_decide_eq_false hlt
  show (emDt g0 g0.length (inE (g0.drop i.toNat) i.toNat out ch)).val=_
  rw [drop_end g0 i h1 hlt]
  rfl
abbrev EmOX:Type:=List Srt×Unit×Bool×Unit
def emOV (g:List Srt) (out:List Bool) (k:Nat):Prop:=graphP g=true∧out.length=g.length∧k=g.length
noncomputable def emODt (k:Nat) (out:List Bool):Dt (AExit×List AVal×List AObj) :=
 .leaf (.exit 0,[.ptr 2 0],[.arr (Cd.bool:Cd) (show List Bool from out),.cells [.asl (Cd.bool:Cd) 1 0 k] 32 false false 2 0 [(2,0,1)]])
noncomputable def emO:PSpec :=
 {body:=markB [2] (loopIn Tryz.f76 0),nt:=52,nx:=3,room:=32,keep:=[(0,.d Cd.sort),(3,.p 2 0),(4,.b)],objs:=[(1,.arr Cd.bool),(2,.cells [.al Cd.bool 1] 32 2 0 [(2,0,1)])]
  keepX:=fun _=>[3],objsX:=fun _=>[1,2]
  inv:=fun (x:EmOX) (y:EmY)=>emOV x.1 y.1 y.2.1.1
  res:=fun (x:EmOX) (y:EmY)=>emODt y.2.1.1 (if x.2.2.1=true then fixE x.1 y.1 else y.1) }
theorem emO_ok:LpSound Tryz.prog (emO.loop [(2,emL.loop [])]):=by
 refine pkept ct0 (lpc emL_ok lp0) emO (fun (x:EmOX) (y:EmY)=>if x.2.2.1=true then (show List Bool from y.1).count true + 1 else 0) (by kernel_rfl) ?_
 intro xx yy hx
 obtain ⟨g,u1,ch,u2⟩:EmOX:=xx
 obtain ⟨out,⟨k,u3⟩,u4⟩:EmY:=yy
 have hx:emOV g out k:=hx
 obtain ⟨hg,ho,rfl⟩:=hx
 refine hd_eq (t:=.ite ch (.ite (dec (emV g g (Int.ofNat g.length) 0 out g.length))
   (.leaf (true,.normal,[.dsl (Cd.sort:Cd) g,.ptr 2 0,.sb (inE g 0 out false).2],[.arr (Cd.bool:Cd) (show List Bool from (inE g 0 out false).1),.cells [.asl (Cd.bool:Cd) 1 0 g.length] 32 false false 2 0 [(2,0,1)]])) .fail)
  (.leaf (true,.exit 0,[.ptr 2 0],[.arr (Cd.bool:Cd) (show List Bool from out),.cells [.asl (Cd.bool:Cd) 1 0 g.length] 32 false false 2 0 [(2,0,1)]]))) (by kernel_rfl) ?_
 refine holds_ite (fun h=>?_) (fun h=>⟨rfl,?_⟩)
 ·subst h
  refine holds_need (dec_true ⟨hg,rfl,rfl,Int.le_refl _,by omega,ho,rfl⟩) ⟨rfl,(g,(),(inE g 0 out false).2,()),(show List Bool from (inE g 0 out false).1,(g.length,()),()),rfl,rfl,⟨hg,(inE_len g 0 out false).trans ho,rfl⟩,?_,?_⟩
  ·show (if (inE g 0 out false).2=true then (inE g 0 out false).1.count true + 1 else 0) < (if true=true then out.count true + 1 else 0)
   rw [if_pos rfl]
   split
   ·rename_i q
    rcases (inE_count g 0 out false).2 q with z | z
    ·cases z
    ·omega
   ·omega
  ·show (emODt g.length (if (inE g 0 out false).2=true then fixE g (inE g 0 out false).1 else (inE g 0 out false).1)).val=(emODt g.length (if true=true then fixE g out else out)).val
   rw [if_pos rfl]
   split
   ·rename_i q
    rw [fixE_step q]
   ·rename_i q
    rw [fixE_stop (by simpa using q)]
 ·subst h
  rfl
noncomputable def emS:OSpec:=⟨[.d Cd.sort],Cd.bool,fun (x:List Srt×Unit)=>graphP x.1=true,fun (x:List Srt×Unit)=>.leaf (show List Bool from emptL x.1,x.1.length)⟩
theorem em_kept:emS.Kept Tryz.prog 76:=by
 have hL:∀ p∈[(0,emO.loop [(2,emL.loop [])])],LpSound Tryz.prog p.2:=lpc emO_ok lp0
 have hmk:mkFn Tryz.prog 76=some (.code (unmark [(0,emO.loop [(2,emL.loop [])])] (cd Tryz.f76 [0])) Tryz.f76.ntmps Tryz.f76.results.toList):=by kernel_rfl
 refine okept (xsc (X:=.o repS) rep_kept xs0) ct0 hL emS 76 Tryz.f76 [0] hmk (by kernel_rfl) rfl ?_
 intro xx hx
 obtain ⟨g,u⟩:List Srt×Unit:=xx
 have hg:graphP g=true:=hx
 refine hd_eq (t:=.ite (dec (([true]:List Bool).length=1∧0≤Int.ofNat g.length∧Int.ofNat g.length≤100000)) (.ite (dec (emOV g (List.replicate g.length true) g.length)) (.leaf (true,some (show List Bool from emptL g,g.length))) .fail) .fail) (by kernel_rfl) ?_
 have hglen:(g.length:Int)≤2000:=by
  unfold graphP at hg
  simp at hg; omega
 refine holds_need (dec_true ⟨rfl,by simp,by simp; omega⟩) (holds_need (dec_true ⟨hg,by simp,rfl⟩) (holds_leaf ⟨rfl,rfl,fun h=>by cases h⟩))
noncomputable def emptDt (g:List Srt):Dt AVal:=.ite (graphP g) (.leaf (.tup [.dsl (Cd.bool:Cd) (show List Bool from emptL g),.si .i64 0])) (.leaf (.tup [.nils,.si .i64 110]))
noncomputable def emptC:FSpec:=⟨[.d Cd.sort],fun _=>True,fun (x:List Srt×Unit)=>emptDt x.1⟩
theorem empt_len {g:List Srt}:(emptL g).length=g.length:=by
 unfold emptL
 rw [fixE_len _ _ (Nat.le_refl _)]; simp
theorem empt_kept:emptC.Kept Tryz.prog 20:=by
 refine fkeptW (xsc (X:=.o emS) em_kept xs0) (ctc check_kept ct0) lp0 emptC 20 Tryz.f20 [] (by kernel_rfl) (by kernel_rfl) ?_
 intro xx _
 obtain ⟨g,u⟩:List Srt×Unit:=xx
 refine hd_eq (t:=.ite (dec True) (.ite (!decide (errG g=0)) (.leaf (true,.tup [.nils,.si .i64 (errG g)])) (.ite (dec (graphP g=true)) (.leaf (true,.tup [.dsl (Cd.bool:Cd) (show List Bool from subL (emptL g) 0 g.length),.si .i64 0])) .fail)) .fail) (by kernel_rfl) ?_
 refine holds_need (dec_true trivial) (holds_ite (fun h=>⟨rfl,?_⟩) (fun h=>?_))
 ·have h:¬ errG g=0:=by simpa using h
  have hg:graphP g=false:=by
   cases q:graphP g with
   | false=>rfl
   | true=>exact absurd (by unfold errG; rw [q]; rfl) h
  show (emptDt g).val=_
  unfold emptDt errG
  rw [hg]; rfl
 ·have h:errG g=0:=by simpa using h
  have hg:graphP g=true:=by
   unfold errG at h
   split at h
   ·assumption
   ·omega
  refine holds_need (dec_true hg) (holds_leaf ⟨rfl,?_⟩)
  have hs:subL (emptL g) 0 g.length=emptL g:=by rw [← empt_len]; exact subL_all _
  rw [hs]
  show (emptDt g).val=_
  unfold emptDt
  rw [hg]; rfl
end Go.Proofs.YtghaalknpdlobaaGreatDoor

namespace Go.Proofs.YtghaalknpdlobaaGreatDoor
open Go Go.Ev Go.Proofs
set_option maxRecDepth 100000
abbrev SmY:Type:=SortX×Unit
end Go.Proofs.YtghaalknpdlobaaGreatDoor

namespace Go.Proofs.YtghaalknpdlobaaGreatDoor
open Go Go.Ev Go.Proofs
set_option maxRecDepth 100000
mutual
def ndV:Trm→Int→Int→Bool×Int
 | ⟨_,_,s,l⟩,left,deep=>if left - 1 < 0∨650 < deep∨500 < (s.size:Int) then (false,left - 1) else ndLV l (left - 1) (deep + 1)
def ndLV:List Trm→Int→Int→Bool×Int
 | [],left,_=>(true,left)
 | x :: l,left,deep=>if (ndV x left deep).1=true then ndLV l (ndV x left deep).2 deep else (false,(ndV x left deep).2)
end
mutual
theorem nd_true:∀ (t:Trm) (left deep:Int),left≤1000000000→(ndV t left deep).1=true→0≤(ndV t left deep).2∧(ndV t left deep).2=left - sizeT t∧strT t
 | ⟨k,n,s,l⟩,left,deep,hb,h=>by
  unfold ndV at h ⊢
  by_cases c:left - 1 < 0∨650 < deep∨500 < (s.size:Int)
  ·rw [if_pos c] at h; cases h
  ·rw [if_neg c] at h ⊢
   obtain ⟨h1,h2,h3⟩:=ndL_true l (left - 1) (deep + 1) (by omega) (by omega) h
   refine ⟨h1,?_,?_⟩
   ·unfold sizeT; rw [h2]; omega
   ·unfold strT
    have hs:s.size=s.data.toList.length:=by cases s; simp [ByteArray.size]
    have:=sizeL_len l
    exact ⟨by unfold maxL; omega,by omega,h3⟩
theorem ndL_true:∀ (l:List Trm) (left deep:Int),left≤1000000000→0≤left→(ndLV l left deep).1=true→0≤(ndLV l left deep).2∧(ndLV l left deep).2=left - sizeL l∧strL l
 | [],left,deep,_,h0,_=>by unfold ndLV sizeL strL; exact ⟨h0,by simp,trivial⟩
 | x :: l,left,deep,hb,h0,h=>by
  unfold ndLV at h ⊢
  by_cases c:(ndV x left deep).1=true
  ·rw [if_pos c] at h ⊢
   obtain ⟨a1,a2,a3⟩:=nd_true x left deep hb c
   have:=size_pos x
   obtain ⟨b1,b2,b3⟩:=ndL_true l _ deep (by omega) a1 h
   refine ⟨b1,?_,?_⟩
   ·unfold sizeL; rw [b2,a2]; omega
   ·unfold strL; exact ⟨a3,b3⟩
  ·rw [if_neg c] at h; cases h
end
mutual
def lenT:Trm→Prop
 | ⟨_,_,_,l⟩=>l.length≤maxL∧lenL l
def lenL:List Trm→Prop
 | []=>True
 | x :: l=>lenT x∧lenL l
end
end Go.Proofs.YtghaalknpdlobaaGreatDoor

namespace Go.Proofs.YtghaalknpdlobaaGreatDoor
open Go Go.Ev Go.Proofs
set_option maxRecDepth 100000
def wideB (c:SCase):Bool:=decide (20 < (c.args.length:Int)) || decide (200 < (c.name.size:Int))
def smG:List Srt→Int→Bool
 | [],_=>true
 | s :: g,m=>!(s.cases.any wideB) && (!(decide (60 < IntKind.i64.wrap (m + (s.cases.length:Int)))) && (!(decide (5 < (s.vec.length:Int))) && smG g (IntKind.i64.wrap (m + (s.cases.length:Int)))))
def smallB (g:List Srt):Bool:=smG g 0 && !(decide (12 < (g.length:Int)))
def okLens (g:List Srt):Prop:=g.length≤maxL∧∀ s∈g,s.cases.length≤maxL
abbrev SaX:Type:=List (List Srt)×Int×Int×List Srt×Int×List Srt×Int×Int×Unit×List SCase×Int×Int×Unit
abbrev SaX2:Type:=List (List Srt)×Int×Int×List Srt×Int×List Srt×Int×Int×Unit
abbrev SaX1:Type:=List (List Srt)×Int×Int×Unit
noncomputable abbrev saK:List (Nat×Pt):=[(10,.d Cd.sorts),(11,.i .i64),(12,.i .i64),(4,.d Cd.sort),(5,.i .i64),(16,.d Cd.sort),(17,.i .i64),(18,.i .i64)]
noncomputable def sa3Dt (gs:List (List Srt)) (n1 i1:Int) (g:List Srt) (m:Int) (g2:List Srt) (n2 i2:Int) (b1 b2 b3:Bool) (c0:List SCase) (v:List Int) (cs:List SCase) (i3:Int):Dt (AExit×List AVal×List AObj) :=
 .ite ((cs.drop i3.toNat).any wideB) (.leaf (.ret,[.sb false],[])) (.leaf (.exit 4,[.dsl (Cd.sorts:Cd) gs,.si .i64 n1,.si .i64 i1,.dsl (Cd.sort:Cd) g,.si .i64 m,.dsl (Cd.sort:Cd) g2,.si .i64 n2,.si .i64 i2,.ptr 0 0],
  [.cells [.sb b1,.sb b2,.sb b3,.dsl (Cd.case:Cd) c0,.dsl (Cd.int:Cd) v] 106 false false 0 0 [(0,0,5)]]))
def sa3V (cs:List SCase) (n i:Int):Prop:=n=(cs.length:Int)∧cs.length≤maxL∧0≤i∧i≤(cs.length:Int)
noncomputable def sa3:PSpec :=
 {body:=loopIn Tryz.f16 4,nt:=59,nx:=1,room:=8,keep:=saK ++ [(7,.p 0 0),(28,.d Cd.case),(29,.i .i64),(30,.i .i64)],objs:=[(0,.cells sortP 106 0 0 [(0,0,5)])]
  keepX:=fun x=>match x with | .ret=>[2] | _=>[10,11,12,4,5,16,17,18,7],objsX:=fun x=>match x with | .ret=>[] | _=>[0]
  inv:=fun (x:SaX) (y:SmY)=>sa3V x.2.2.2.2.2.2.2.2.2.1 x.2.2.2.2.2.2.2.2.2.2.1 x.2.2.2.2.2.2.2.2.2.2.2.1
  res:=fun (x:SaX) (y:SmY)=>sa3Dt x.1 x.2.1 x.2.2.1 x.2.2.2.1 x.2.2.2.2.1 x.2.2.2.2.2.1 x.2.2.2.2.2.2.1 x.2.2.2.2.2.2.2.1 y.1.1 y.1.2.1 y.1.2.2.1 y.1.2.2.2.1 y.1.2.2.2.2.1 x.2.2.2.2.2.2.2.2.2.1 x.2.2.2.2.2.2.2.2.2.2.2.1 }
theorem sa3q_ok:LpSound Tryz.prog (sa3.loop []):=by
 refine pkept ct0 lp0 sa3 (fun (x:SaX) _=>(((show List SCase from x.2.2.2.2.2.2.2.2.2.1).length:Int) - x.2.2.2.2.2.2.2.2.2.2.2.1).toNat) (by kernel_rfl) ?_
 intro xx yy hx
 obtain ⟨gs,n1,i1,g,m,g2,n2,i2,u1,cs,n3,i3,u2⟩:SaX:=xx
 obtain ⟨⟨b1,b2,b3,c0,v,u3⟩,u4⟩:SmY:=yy
 have hx:sa3V cs n3 i3:=hx
 obtain ⟨rfl,hm,h0,h1⟩:=hx
 have hm2:=len64 hm
 let z:SCase:=Univ.dflt (Cd.case:Cd)
 refine hd_eq (t:=.ite (decide (i3 < (cs.length:Int))) (.ite (decide (0≤i3) && decide (i3 < (cs.length:Int))) (.ite (decide (20 < ((cs.getD i3.toNat z).args.length:Int))) (.leaf (true,.ret,[.sb false],[])) (.ite (decide (200 < ((cs.getD i3.toNat z).name.size:Int))) (.leaf (true,.ret,[.sb false],[]))
   (.leaf (true,.normal,[.dsl (Cd.sorts:Cd) gs,.si .i64 n1,.si .i64 i1,.dsl (Cd.sort:Cd) g,.si .i64 m,.dsl (Cd.sort:Cd) g2,.si .i64 n2,.si .i64 i2,.ptr 0 0,.dsl (Cd.case:Cd) cs,.si .i64 (cs.length:Int),.si .i64 (IntKind.i64.wrap (i3 + 1))],
    [.cells [.sb b1,.sb b2,.sb b3,.dsl (Cd.case:Cd) c0,.dsl (Cd.int:Cd) v] 106 false false 0 0 [(0,0,5)]])))) .fail)
  (.leaf (true,.exit 4,[.dsl (Cd.sorts:Cd) gs,.si .i64 n1,.si .i64 i1,.dsl (Cd.sort:Cd) g,.si .i64 m,.dsl (Cd.sort:Cd) g2,.si .i64 n2,.si .i64 i2,.ptr 0 0],[.cells [.sb b1,.sb b2,.sb b3,.dsl (Cd.case:Cd) c0,.dsl (Cd.int:Cd) v] 106 false false 0 0 [(0,0,5)]]))) (by kernel_rfl) ?_
 refine holds_ite (fun hlt=>?_) (fun hlt=>⟨rfl,?_⟩)
 ·have hlt:=of_decide_eq_true hlt
  have hd:=drop_cons cs i3 z h0 hlt
  have hw:IntKind.i64.wrap (i3 + 1)=i3 + 1:=wrap64 (by omega) (by omega)
  have hc:(cs.drop i3.toNat).any wideB=(wideB (cs.getD i3.toNat z) || (cs.drop (i3 + 1).toNat).any wideB):=by rw [hd,List.any_cons]
  have bad:wideB (cs.getD i3.toNat z)=true→(sa3Dt gs n1 i1 g m g2 n2 i2 b1 b2 b3 c0 v cs i3).val=some (.ret,[.sb false],[]):=by
   intro h; unfold sa3Dt; rw [hc,h]; rfl
  rw [hw]
  refine holds_need (by simp; exact ⟨h0,hlt⟩) (holds_ite (fun h=>⟨rfl,bad (by unfold wideB; rw [h]; rfl)⟩) fun h=>holds_ite (fun h'=>⟨rfl,bad (by unfold wideB; rw [h',Bool.or_true])⟩) fun h'=>⟨rfl,(gs,n1,i1,g,m,g2,n2,i2,(),cs,(cs.length:Int),(i3 + 1:Int),()),((b1,b2,b3,c0,v,()),()),rfl,rfl,?_,?_,?_⟩)
  ·show sa3V cs (cs.length:Int) (i3 + 1)
   exact ⟨rfl,hm,by omega,by omega⟩
  ·show ((cs.length:Int) - (i3 + 1)).toNat < ((cs.length:Int) - i3).toNat
   omega
  ·have hf:wideB (cs.getD i3.toNat z)=false:=by unfold wideB; rw [h,h']; rfl
   show (sa3Dt gs n1 i1 g m g2 n2 i2 b1 b2 b3 c0 v cs (i3 + 1)).val=(sa3Dt gs n1 i1 g m g2 n2 i2 b1 b2 b3 c0 v cs i3).val
   unfold sa3Dt; rw [hc,hf,Bool.false_or]
 ·have hlt:=of_decide_eq_false hlt
  show (sa3Dt gs n1 i1 g m g2 n2 i2 b1 b2 b3 c0 v cs i3).val=_
  unfold sa3Dt
  rw [drop_end cs i3 h1 hlt]
  rfl
noncomputable def sa2Dt (gs:List (List Srt)) (n1 i1:Int) (g:List Srt) (m:Int) (g2:List Srt) (i2:Int):Dt (AExit×List AVal×List AObj) :=
 .ite (!smG (g2.drop i2.toNat) m) (.leaf (.ret,[.sb false],[])) (.leaf (.exit 2,[.dsl (Cd.sorts:Cd) gs,.si .i64 n1,.si .i64 i1,.dsl (Cd.sort:Cd) g],[]))
def sa2V (g2:List Srt) (n2 i2:Int):Prop:=okLens g2∧n2=(g2.length:Int)∧0≤i2∧i2≤(g2.length:Int)
noncomputable def sa2:PSpec :=
 {body:=markB [4] (loopIn Tryz.f16 2),nt:=59,nx:=0,room:=32,keep:=saK,objs:=[]
  keepX:=fun x=>match x with | .ret=>[2] | _=>[10,11,12,4],objsX:=fun _=>[]
  inv:=fun (x:SaX2) _=>sa2V x.2.2.2.2.2.1 x.2.2.2.2.2.2.1 x.2.2.2.2.2.2.2.1
  res:=fun (x:SaX2) _=>sa2Dt x.1 x.2.1 x.2.2.1 x.2.2.2.1 x.2.2.2.2.1 x.2.2.2.2.2.1 x.2.2.2.2.2.2.2.1 }
theorem sa2q_ok:LpSound Tryz.prog (sa2.loop [(4,sa3.loop [])]):=by
 refine pkept ct0 (lpc sa3q_ok lp0) sa2 (fun (x:SaX2) _=>(((show List Srt from x.2.2.2.2.2.1).length:Int) - x.2.2.2.2.2.2.2.1).toNat) (by kernel_rfl) ?_
 intro xx yy hx
 obtain ⟨gs,n1,i1,g,m,g2,n2,i2,u1⟩:SaX2:=xx
 have hx:sa2V g2 n2 i2:=hx
 obtain ⟨⟨hm,hcs⟩,rfl,h0,h1⟩:=hx
 have hm2:=len64 hm
 let z:Srt:=Univ.dflt (Cd.sort:Cd)
 let M:Int:=IntKind.i64.wrap (m + ((g2.getD i2.toNat z).cases.length:Int))
 refine hd_eq (t:=.ite (decide (i2 < (g2.length:Int))) (.ite (decide (0≤i2) && decide (i2 < (g2.length:Int))) (.ite (dec (sa3V (g2.getD i2.toNat z).cases ((g2.getD i2.toNat z).cases.length:Int) 0)) (.ite ((g2.getD i2.toNat z).cases.any wideB) (.leaf (true,.ret,[.sb false],[]))
   (.ite (decide (60 < M)) (.leaf (true,.ret,[.sb false],[])) (.ite (decide (5 < ((g2.getD i2.toNat z).vec.length:Int))) (.leaf (true,.ret,[.sb false],[]))
    (.leaf (true,.normal,[.dsl (Cd.sorts:Cd) gs,.si .i64 n1,.si .i64 i1,.dsl (Cd.sort:Cd) g,.si .i64 M,.dsl (Cd.sort:Cd) g2,.si .i64 (g2.length:Int),.si .i64 (IntKind.i64.wrap (i2 + 1))],[]))))) .fail) .fail)
  (.leaf (true,.exit 2,[.dsl (Cd.sorts:Cd) gs,.si .i64 n1,.si .i64 i1,.dsl (Cd.sort:Cd) g],[]))) (by kernel_rfl) ?_
 refine holds_ite (fun hlt=>?_) (fun hlt=>⟨rfl,?_⟩)
 ·have hlt:=of_decide_eq_true hlt
  have hd:=drop_cons g2 i2 z h0 hlt
  have hw:IntKind.i64.wrap (i2 + 1)=i2 + 1:=wrap64 (by omega) (by omega)
  have hcl:=hcs _ (getD_mem g2 i2 z h0 hlt)
  have hc:smG (g2.drop i2.toNat) m=(!((g2.getD i2.toNat z).cases.any wideB) && (!(decide (60 < M)) && (!(decide (5 < ((g2.getD i2.toNat z).vec.length:Int))) && smG (g2.drop (i2 + 1).toNat) M))):=by
   rw [hd]; conv=>lhs; unfold smG
  have bad:smG (g2.drop i2.toNat) m=false→(sa2Dt gs n1 i1 g m g2 i2).val=some (.ret,[.sb false],[]):=by
   intro h; unfold sa2Dt; rw [h]; rfl
  rw [hw]
  refine holds_need (by simp; exact ⟨h0,hlt⟩) (holds_need (dec_true ⟨rfl,hcl,Int.le_refl _,by omega⟩) (holds_ite (fun h=>⟨rfl,bad (by rw [hc,h]; rfl)⟩) fun h=>holds_ite (fun h'=>⟨rfl,bad (by rw [hc,h']; simp)⟩) fun h'=>holds_ite (fun h''=>⟨rfl,bad (by rw [hc,h'']; simp)⟩) fun h'' =>
   ⟨rfl,(gs,n1,i1,g,M,g2,(g2.length:Int),(i2 + 1:Int),()),(),rfl,rfl,?_,?_,?_⟩))
  ·show sa2V g2 (g2.length:Int) (i2 + 1)
   exact ⟨⟨hm,hcs⟩,rfl,by omega,by omega⟩
  ·show ((g2.length:Int) - (i2 + 1)).toNat < ((g2.length:Int) - i2).toNat
   omega
  ·show (sa2Dt gs n1 i1 g M g2 (i2 + 1)).val=(sa2Dt gs n1 i1 g m g2 i2).val
   unfold sa2Dt; rw [hc,h,h',h'']; rfl
 ·have hlt:=of_decide_eq_false hlt
  show (sa2Dt gs n1 i1 g m g2 i2).val=_
  unfold sa2Dt
  rw [drop_end g2 i2 h1 hlt]
  rfl
noncomputable def sa1Dt (gs:List (List Srt)) (i:Int):Dt (AExit×List AVal×List AObj):=.ite ((gs.drop i.toNat).all smallB) (.leaf (.exit 0,[],[])) (.leaf (.ret,[.sb false],[]))
def sa1V (gs:List (List Srt)) (n i:Int):Prop:=(∀ g∈gs,okLens g)∧gs.length≤maxL∧n=(gs.length:Int)∧0≤i∧i≤(gs.length:Int)
noncomputable def sa1:PSpec :=
 {body:=markB [2] (loopIn Tryz.f16 0),nt:=59,nx:=0,room:=64,keep:=[(10,.d Cd.sorts),(11,.i .i64),(12,.i .i64)],objs:=[]
  keepX:=fun x=>match x with | .ret=>[2] | _=>[],objsX:=fun _=>[]
  inv:=fun (x:SaX1) _=>sa1V x.1 x.2.1 x.2.2.1
  res:=fun (x:SaX1) _=>sa1Dt x.1 x.2.2.1 }
theorem sa1q_ok:LpSound Tryz.prog (sa1.loop [(2,sa2.loop [(4,sa3.loop [])])]):=by
 refine pkept ct0 (lpc sa2q_ok lp0) sa1 (fun (x:SaX1) _=>(((show List (List Srt) from x.1).length:Int) - x.2.2.1).toNat) (by kernel_rfl) ?_
 intro xx yy hx
 obtain ⟨gs,n,i,u1⟩:SaX1:=xx
 have hx:sa1V gs n i:=hx
 obtain ⟨hg,hm,rfl,h0,h1⟩:=hx
 have hm2:=len64 hm
 let z:List Srt:=Univ.dflt (Cd.sorts:Cd)
 refine hd_eq (t:=.ite (decide (i < (gs.length:Int))) (.ite (decide (0≤i) && decide (i < (gs.length:Int))) (.ite (dec (sa2V (gs.getD i.toNat z) ((gs.getD i.toNat z).length:Int) 0)) (.ite (!smG (gs.getD i.toNat z) 0) (.leaf (true,.ret,[.sb false],[]))
   (.ite (decide (12 < ((gs.getD i.toNat z).length:Int))) (.leaf (true,.ret,[.sb false],[])) (.leaf (true,.normal,[.dsl (Cd.sorts:Cd) gs,.si .i64 (gs.length:Int),.si .i64 (IntKind.i64.wrap (i + 1))],[])))) .fail) .fail)
  (.leaf (true,.exit 0,[],[]))) (by kernel_rfl) ?_
 refine holds_ite (fun hlt=>?_) (fun hlt=>⟨rfl,?_⟩)
 ·have hlt:=of_decide_eq_true hlt
  have hd:=drop_cons gs i z h0 hlt
  have hw:IntKind.i64.wrap (i + 1)=i + 1:=wrap64 (by omega) (by omega)
  have hgi:=hg _ (getD_mem gs i z h0 hlt)
  have hc:(gs.drop i.toNat).all smallB=((smG (gs.getD i.toNat z) 0 && !(decide (12 < ((gs.getD i.toNat z).length:Int)))) && (gs.drop (i + 1).toNat).all smallB):=by rw [hd,List.all_cons]; rfl
  have bad:(gs.drop i.toNat).all smallB=false→(sa1Dt gs i).val=some (.ret,[.sb false],[]):=by
   intro h; unfold sa1Dt; rw [h]; rfl
  rw [hw]
  refine holds_need (by simp; exact ⟨h0,hlt⟩) (holds_need (dec_true ⟨hgi,rfl,Int.le_refl _,by omega⟩) (holds_ite (fun h=>⟨rfl,bad ?_⟩) fun h=>holds_ite (fun h'=>⟨rfl,bad (by rw [hc,h']; simp)⟩) fun h'=>⟨rfl,(gs,(gs.length:Int),(i + 1:Int),()),(),rfl,rfl,?_,?_,?_⟩))
  ·have h:smG (gs.getD i.toNat z) 0=false:=by simpa using h
   rw [hc,h]; rfl
  ·show sa1V gs (gs.length:Int) (i + 1)
   exact ⟨hg,hm,rfl,by omega,by omega⟩
  ·show ((gs.length:Int) - (i + 1)).toNat < ((gs.length:Int) - i).toNat
   omega
  ·have h:smG (gs.getD i.toNat z) 0=true:=by simpa using h
   show (sa1Dt gs (i + 1)).val=(sa1Dt gs i).val
   unfold sa1Dt; rw [hc,h,h']; rfl
 ·have hlt:=of_decide_eq_false hlt
  show (sa1Dt gs i).val=_
  unfold sa1Dt
  rw [drop_end gs i h1 hlt]
  rfl
noncomputable def smallC:FSpec:=⟨[.d Cd.sorts],fun (x:List (List Srt)×Unit)=>(∀ g∈x.1,okLens g)∧x.1.length≤maxL,fun (x:List (List Srt)×Unit)=>.leaf (.sb (x.1.all smallB))⟩
theorem small_kept:smallC.Kept Tryz.prog 16:=by
 have hL:∀ p∈[(0,sa1.loop [(2,sa2.loop [(4,sa3.loop [])])])],LpSound Tryz.prog p.2:=lpc sa1q_ok lp0
 have hmk:mkFn Tryz.prog 16=some (.code (unmark [(0,sa1.loop [(2,sa2.loop [(4,sa3.loop [])])])] (cd Tryz.f16 [0])) Tryz.f16.ntmps Tryz.f16.results.toList):=by kernel_rfl
 refine fkept ct0 hL smallC 16 Tryz.f16 [0] hmk (by kernel_rfl) ?_
 intro xx hx
 obtain ⟨gs,u⟩:List (List Srt)×Unit:=xx
 obtain ⟨hx,hm⟩:(∀ g∈gs,okLens g)∧gs.length≤maxL:=hx
 refine hd_eq (t:=.ite (dec (sa1V gs (gs.length:Int) 0)) (.ite (gs.all smallB) (.leaf (true,.sb true)) (.leaf (true,.sb false))) .fail) (by kernel_rfl) ?_
 refine holds_need (dec_true ⟨hx,hm,rfl,Int.le_refl _,by omega⟩) (holds_ite (fun h=>⟨rfl,?_⟩) (fun h=>⟨rfl,?_⟩))
 ·show some (AVal.sb (gs.all smallB))=_
  rw [h]
 ·show some (AVal.sb (gs.all smallB))=_
  rw [h]
theorem smG_cases:∀ {g:List Srt} {m:Int},smG g m=true→∀ s∈g,∀ c∈s.cases,wideB c=false
 | [],_,_,s,h=>by cases h
 | s :: g,m,hb,t,h=>by
  unfold smG at hb
  simp only [Bool.and_eq_true] at hb
  rcases List.mem_cons.1 h with e | e
  ·rw [e]
   intro c hc
   have:=hb.1
   simp only [Bool.not_eq_true',List.any_eq_false] at this
   simpa using this c hc
  ·exact smG_cases hb.2.2.2 t e
end Go.Proofs.YtghaalknpdlobaaGreatDoor

