/- A part of the proof of the statement: no conditions. -/
import Derived.Test.YtibaljifcbpmoaaGreatDoorPartD
import Derived.Test.YtibaljifcbpmoaaGreatDoorProg
import Derived.KernelRfl
set_option linter.unusedSectionVars false
set_option linter.unusedVariables false
set_option linter.unusedSimpArgs false
namespace Go.Proofs.YtibaljifcbpmoaaGreatDoor
open Go Go.Ev Go.Proofs
structure Trm where
 kind:Int
 n:Int
 s:ByteArray
 l:List Trm
structure A0n where
 name:ByteArray
 arity:Int
 args:List Int
structure Srt where
 int:Bool
 str:Bool
 atom:Bool
 cases :List A0n
 vec:List Int
structure Smp where
 t:Trm
 nodes:Int
 deep:Int
inductive Cd where
 |ints
 |int
 |bool
 |term
 |case
 |sort
 |terms
 |sorts
 |bools
 |any
 |bare
 |smp
deriving DecidableEq
def Cd.S(c:Cd):Type:=match c with
 |.ints=>List Int
 |.int=>Int
 |.bool=>Bool
 |.term=>Trm
 |.case=>A0n
 |.sort=>Srt
 |.terms=>List Trm
 |.sorts=>List Srt
 |.bools=>List Bool
 |.any=>Unit
 |.bare=>Unit
 |.smp=>Smp
def Cd.dflt(c:Cd):c.S:=match c with
 |.ints=>([]:List Int)
 |.int=>(0:Int)
 |.bool=>false
 |.term=>(⟨0,0,⟨#[]⟩,[]⟩:Trm)
 |.case=>(⟨⟨#[]⟩,0,[]⟩:A0n)
 |.sort=>(⟨false,false,false,[],[]⟩:Srt)
 |.terms=>([]:List Trm)
 |.sorts=>([]:List Srt)
 |.bools=>([]:List Bool)
 |.any=>()
 |.bare=>()
 |.smp=>(⟨⟨0,0,⟨#[]⟩,[]⟩,0,0⟩:Smp)
def Cd.cells(c:Cd):c.S→List (Cell Cd Cd.S):=match c with
 |.ints=>fun l=>[.sl .int l]
 |.int=>fun x=>[.i .i64 x]
 |.bool=>fun x=>[.b x]
 |.term=>fun(t:Trm)=>[.i .i64 t.kind,.i .i64 t.n,.s t.s,.sl .term t.l]
 |.case=>fun(k:A0n)=>[.s k.name,.i .i64 k.arity,.sl .int k.args]
 |.sort=>fun(s:Srt)=>[.b s.int,.b s.str,.b s.atom,.sl .case s.cases,.sl .int s.vec]
 |.terms=>fun l=>[.sl .term l]
 |.sorts=>fun l=>[.sl .sort l]
 |.bools=>fun l=>[.sl .bool l]
 |.any=>fun _=>[.f 31]
 |.bare=>fun _=>[.f 149]
 |.smp=>fun(x:Smp)=>[.i .i64 x.t.kind,.i .i64 x.t.n,.s x.t.s,.sl .term x.t.l,.i .i64 x.nodes,.i .i64 x.deep]
def Cd.esz(c:Cd):Nat:=match c with
 |.ints=>1
 |.int=>1
 |.bool=>1
 |.term=>4
 |.case=>3
 |.sort=>5
 |.terms=>1
 |.sorts=>1
 |.bools=>1
 |.any=>1
 |.bare=>1
 |.smp=>6
def Cd.agg(c:Cd):Bool:=match c with
 |.term=>true
 |.case=>true
 |.sort=>true
 |.smp=>true
 |_=>false
def Cd.unc(c:Cd):List (Cell Cd Cd.S)→Option c.S:=match c with
 |
  .ints=>fun cs=>match cs with
  |[.sl .int l]=>some l
  |_=>none
 |
  .int=>fun cs=>match cs with
  |[.i .i64 x]=>some x
  |_=>none
 |
  .bool=>fun cs=>match cs with
  |[.b x]=>some x
  |_=>none
 |
  .term=>fun cs=>match cs with
  |[.i .i64 k,.i .i64 n,.s s,.sl .term l]=>some (⟨k,n,s,l⟩:Trm)
  |_=>none
 |
  .case=>fun cs=>match cs with
  |[.s n,.i .i64 a,.sl .int l]=>some (⟨n,a,l⟩:A0n)
  |_=>none
 |
  .sort=>fun cs=>match cs with
  |[.b i,.b s,.b a,.sl .case c,.sl .int v]=>some (⟨i,s,a,c,v⟩:Srt)
  |_=>none
 |
  .terms=>fun cs=>match cs with
  |[.sl .term l]=>some l
  |_=>none
 |
  .sorts=>fun cs=>match cs with
  |[.sl .sort l]=>some l
  |_=>none
 |
  .bools=>fun cs=>match cs with
  |[.sl .bool l]=>some l
  |_=>none
 |
  .any=>fun cs=>match cs with
  |[.f 31]=>some ()
  |_=>none
 |
  .bare=>fun cs=>match cs with
  |[.f 149]=>some ()
  |_=>none
 |
  .smp=>fun cs=>match cs with
  |[.i .i64 k,.i .i64 n,.s s,.sl .term l,.i .i64 a,.i .i64 b]=>some (⟨⟨k,n,s,l⟩,a,b⟩:Smp)
  |_=>none
theorem Cd.unc_ok(c:Cd)(cs:List (Cell Cd Cd.S))(x:c.S)(h:c.unc cs=some x):c.cells x=cs:=by
 cases c<;>simp only[Cd.unc] at h<;>split at h<;>first
  |(cases h;rfl)
  |cases h
def Cd.elt(t:TypeId):Option Cd:=match Nat.beq t 3 with
 |true=>some .int
 |false=>match Nat.beq t 4 with
 |true=>some .bool
 |false=>match Nat.beq t 25 with
 |true=>some .term
 |false=>match Nat.beq t 91 with
 |true=>some .smp
 |false=>match Nat.beq t 23 with
 |true=>some .terms
 |false=>none
def Cd.flat(c:Cd):Bool:=match c with
 |.int=>true
 |.bool=>true
 |_=>false
theorem Cd.flat_ok(c:Cd)(x:c.S)(h:c.flat=true):∀cl∈c.cells x,cl.scal=true:=by
 cases c<;>simp only[Cd.flat,Bool.false_eq_true] at h
 all_goals
  intro cl hcl
  simp only[Cd.cells,List.mem_singleton,List.mem_cons,List.not_mem_nil,or_false] at hcl
  first
   |(subst hcl;rfl)
theorem Cd.agg_ok(c:Cd)(h:c.agg=false):c.esz=1:=by cases c<;>first|rfl|cases h
theorem Cd.uni(c:Cd)(x y:c.S):(c.cells x).map Cell.kd=(c.cells y).map Cell.kd:=by cases c<;>rfl
theorem Cd.inj(c:Cd)(x y:c.S)(h:c.cells x=c.cells y):x=y:=by
 have h2:c.unc (c.cells x)=c.unc (c.cells y):=by rw[h]
 cases c
 case term=>obtain⟨a1,a2,a3,a4⟩:Trm:=x;obtain⟨b1,b2,b3,b4⟩:Trm:=y;exact Option.some.inj h2
 case case=>obtain⟨a1,a2,a3⟩:A0n:=x;obtain⟨b1,b2,b3⟩:A0n:=y;exact Option.some.inj h2
 case sort=>obtain⟨a1,a2,a3,a4,a5⟩:Srt:=x;obtain⟨b1,b2,b3,b4,b5⟩:Srt:=y;exact Option.some.inj h2
 case smp=>obtain⟨⟨a1,a2,a3,a4⟩,a5,a6⟩:Smp:=x;obtain⟨⟨b1,b2,b3,b4⟩,b5,b6⟩:Smp:=y;exact Option.some.inj h2
 all_goals exact Option.some.inj h2
instance univ:Univ:=
 {C:=Cd,S:=Cd.S,dflt:=Cd.dflt,esz:=Cd.esz,cells:=Cd.cells,dec:=inferInstance
  len:=fun c x=>by cases c<;>rfl
  pos:=fun c=>by cases c<;>decide
  unc:=Cd.unc
  unc_ok:=Cd.unc_ok
  elt:=Cd.elt
  flat:=Cd.flat
  flat_ok:=Cd.flat_ok
  agg:=Cd.agg
  agg_ok:=Cd.agg_ok
  uni:=Cd.uni
  inj:=Cd.inj}
theorem D0N:C0U Tryz.prog:=
 b0M (n:=288) (kc:=213) (ks:=162) (by kernel_rfl) (by kernel_rfl) (by kernel_rfl) (fc:=Tryz.f213) (by kernel_rfl) (by kernel_rfl) (by kernel_rfl) (by kernel_rfl) (by kernel_rfl)
  (fs:=Tryz.f162) (by kernel_rfl) (by kernel_rfl) (by kernel_rfl) (by kernel_rfl) (by kernel_rfl)
theorem A0T:Tryz.prog.follows .mixedOrders=true:=by kernel_rfl
noncomputable abbrev cd(f:Func)(ids:List Nat):Code:=I0r ids (Y0y f)
theorem A0C{n:Int}(h: -9223372036854775808≤n)(h2:n≤9223372036854775807):IntKind.i64.wrap n=n:=by rw[IntKind.wrap_i64];omega
def maxL:Nat:=9223372036854775807
theorem A0w{α:Type}(l:List α)(i:Int)(z:α)(h0:0≤i)(h:i<(l.length:Int)):l.drop i.toNat=l.getD i.toNat z::l.drop (i+1).toNat:=by
 have hlt:i.toNat<l.length:=by omega
 rw[List.drop_eq_getElem_cons hlt,List.getD_eq_getElem?_getD,List.getElem?_eq_getElem hlt,show(i+1).toNat=i.toNat+1 by omega]
 rfl
theorem A0N{α:Type}(l:List α)(i:Int)(h1:i≤(l.length:Int))(h:¬i<(l.length:Int)):l.drop i.toNat=[]:=by
 apply List.drop_eq_nil_of_le;omega
theorem A0H{α:Type}(l:List α)(i:Int)(z:α)(h0:0≤i)(h:i<(l.length:Int)):l.getD i.toNat z∈l:=by
 have hlt:i.toNat<l.length:=by omega
 rw[List.getD_eq_getElem?_getD,List.getElem?_eq_getElem hlt]
 exact List.getElem_mem hlt
theorem U0S{α:Type}(l:List α)(n:Nat)(z z':α)(h:n<l.length):l.getD n z=l.getD n z':=by
 rw[List.getD_eq_getElem?_getD,List.getD_eq_getElem?_getD,List.getElem?_eq_getElem h];rfl
theorem ct0:∀p∈([]:List (FuncId×List FSpec)),∀S∈p.2,S.Kept Tryz.prog p.1:=fun _ h=>by cases h
theorem ctc{f:FuncId}{S:FSpec}{cs:List (FuncId×List FSpec)}(h:S.Kept Tryz.prog f)(t:∀p∈cs,∀S∈p.2,S.Kept Tryz.prog p.1):∀p∈(f,[S])::cs,∀S∈p.2,S.Kept Tryz.prog p.1:=by
 intro p hp S' hS
 rcases List.mem_cons.1 hp with e|e
 ·subst e;rw[List.mem_singleton.1 hS];exact h
 ·exact t p e S' hS
theorem lp0:∀p∈([]:List (Nat×B0s)),A0h Tryz.prog p.2:=fun _ h=>by cases h
theorem lpc{n:Nat}{L:B0s}{ls:List (Nat×B0s)}(h:A0h Tryz.prog L)(t:∀p∈ls,A0h Tryz.prog p.2):∀p∈(n,L)::ls,A0h Tryz.prog p.2:=by
 intro p hp
 rcases List.mem_cons.1 hp with e|e
 ·subst e;exact h
 ·exact t p e
structure Hd{α:Type}(r:Dt α)(p:α→Prop):Prop where
 out:r.holds p
theorem A0A{α:Type}{r t:Dt α}{p:α→Prop}(e:r=t)(h:t.holds p):Hd r p:=⟨by rw[e];exact h⟩
theorem B0w{cs:List (FuncId×List FSpec)}{ls:List (Nat×B0s)}(hc:∀p∈cs,∀S∈p.2,S.Kept Tryz.prog p.1)(hl:∀p∈ls,A0h Tryz.prog p.2)
  (S:FSpec) (f:FuncId) (F:Func) (ids:List Nat) (hmk:mkFn Tryz.prog f=some (.code (A0u ls (cd F ids)) F.ntmps F.results.toList)) (hc':A0M (cd F ids)=true)
  (h:∀x,S.pre x→Hd (S.run (Y0h Tryz.prog cs ls) (cd F ids) F.ntmps F.results.toList 60 x) fun q=>q.1=true∧(S.res x).val=some q.2):S.Kept Tryz.prog f:=
 FSpec.kept D0N A0T cs ls hc hl S 60 (cd F ids) hmk hc' fun x hx=>(h x hx).out
theorem G0w{cs:List (FuncId×List FSpec)}{ls:List (Nat×B0s)}(hc:∀p∈cs,∀S∈p.2,S.Kept Tryz.prog p.1)(hl:∀p∈ls,A0h Tryz.prog p.2)
  (S:PSpec) (μ:Pts (S.keep.map (·.2))→Pos (S.objs.map (·.2))→Nat) (hmk:A0M S.body=true)
  (h:∀x y,S.inv x y→Hd (S.round (Y0h Tryz.prog cs ls) 60 x y) fun q=>q.1=true∧match q.2.1 with
   |.normal=>∃x' y',Pts.vals _ x'=q.2.2.1∧Pos.obs _ y'=q.2.2.2∧S.inv x' y'∧μ x' y'<μ x y∧(S.res x' y').val=(S.res x y).val
   |e=>(S.res x y).val=some (e,q.2.2)):A0h Tryz.prog (S.loop ls):=
 PSpec.kept D0N A0T cs ls hc hl S 60 μ hmk fun x y hx=>(h x y hx).out
theorem xs0:∀p∈([]:List (FuncId×XSpec)),p.2.Kept Tryz.prog p.1:=fun _ h=>by cases h
theorem xsc{f:FuncId}{X:XSpec}{ws:List (FuncId×XSpec)}(h:X.Kept Tryz.prog f)(t:∀p∈ws,p.2.Kept Tryz.prog p.1):∀p∈(f,X)::ws,p.2.Kept Tryz.prog p.1:=by
 intro p hp
 rcases List.mem_cons.1 hp with e|e
 ·subst e;exact h
 ·exact t p e
theorem f0B{ws:List (FuncId×XSpec)}{cs:List (FuncId×List FSpec)}{ls:List (Nat×B0s)}(hw:∀p∈ws,p.2.Kept Tryz.prog p.1)(hc:∀p∈cs,∀S∈p.2,S.Kept Tryz.prog p.1)(hl:∀p∈ls,A0h Tryz.prog p.2)
  (S:PSpec) (μ:Pts (S.keep.map (·.2))→Pos (S.objs.map (·.2))→Nat) (hmk:A0M S.body=true)
  (h:∀x y,S.inv x y→Hd (S.round (envW Tryz.prog ws cs ls) 60 x y) fun q=>q.1=true∧match q.2.1 with
   |.normal=>∃x' y',Pts.vals _ x'=q.2.2.1∧Pos.obs _ y'=q.2.2.2∧S.inv x' y'∧μ x' y'<μ x y∧(S.res x' y').val=(S.res x y).val
   |e=>(S.res x y).val=some (e,q.2.2)):A0h Tryz.prog (S.loop ls):=
 PSpec.keptW D0N A0T ws cs ls hw hc hl S 60 μ hmk fun x y hx=>(h x y hx).out
theorem g0b{ws:List (FuncId×XSpec)}{cs:List (FuncId×List FSpec)}{ls:List (Nat×B0s)}(hw:∀p∈ws,p.2.Kept Tryz.prog p.1)(hc:∀p∈cs,∀S∈p.2,S.Kept Tryz.prog p.1)(hl:∀p∈ls,A0h Tryz.prog p.2)
  (S:WSpec) (f:FuncId) (F:Func) (ids:List Nat) (hmk:mkFn Tryz.prog f=some (.code (A0u ls (cd F ids)) F.ntmps F.results.toList)) (hc':A0M (cd F ids)=true)
  (h:∀x y z,S.pre x y z→Hd (S.run (envW Tryz.prog ws cs ls) (cd F ids) F.ntmps F.results.toList 60 x y z) fun q=>q.1=true∧(S.res x y z).val=q.2∧q.2≠none):S.Kept Tryz.prog f:=
 WSpec.kept D0N A0T ws cs ls hw hc hl S 60 (cd F ids) hmk hc' fun x y z hx=>(h x y z hx).out
noncomputable def L0V{α:Type}(p:α→Bool)(l:List α)(i:Int):Dt (AExit×List AVal×List AObj):=
 .ite ((l.drop i.toNat).any p) (.leaf (.ret,[.si .i64 (i+((l.drop i.toNat).findIdx p:Nat))],[])) (.leaf (.exit 0,[],[]))
theorem P0l{α:Type}{p:α→Bool}{l:List α}{i:Int}(z:α)(h0:0≤i)(h:i<(l.length:Int))(hp:p (l.getD i.toNat z)=true):(L0V p l i).val=some (.ret,[.si .i64 i],[]):=by
 unfold L0V;rw[A0w l i z h0 h]
 simp only[List.any_cons,hp,Bool.true_or,List.findIdx_cons,cond_true]
 simp[Dt.val]
theorem V0k{α:Type}{p:α→Bool}{l:List α}{i:Int}(z:α)(h0:0≤i)(h:i<(l.length:Int))(hp:p (l.getD i.toNat z)=false):(L0V p l (i+1)).val=(L0V p l i).val:=by
 unfold L0V;rw[A0w l i z h0 h]
 simp only[List.any_cons,hp,Bool.false_or,List.findIdx_cons,cond_false]
 cases hq:(l.drop (i+1).toNat).any p with
 |true=>simp[Dt.val];omega
 |false=>simp[Dt.val]
theorem P0F{α:Type}{p:α→Bool}{l:List α}{i:Int}(h1:i≤(l.length:Int))(h:¬i<(l.length:Int)):(L0V p l i).val=some (.exit 0,[],[]):=by
 unfold L0V;rw[A0N l i h1 h];simp[Dt.val]
theorem G0y{α:Type}{l:List α}(h:l.length≤maxL):(l.length:Int)≤9223372036854775807:=by unfold maxL at h;omega
end Go.Proofs.YtibaljifcbpmoaaGreatDoor
namespace Go.Proofs.YtibaljifcbpmoaaGreatDoor
open Go Go.Ev Go.Proofs
set_option maxRecDepth 100000
def outB(n x:Int):Bool:=decide (x<0)||!decide (x<n)
def D0t(c:Pts [.box .int])(x:Int):Bool:=outB (show Int from c.1) x
noncomputable def right1C:FSpec:=⟨[.i .i64,.box .int],fun(x:Int×Int×Unit)=>True,fun(x:Int×Int×Unit)=>.leaf (.sb (outB x.2.1 x.1))⟩
theorem T0M:right1C.Kept Tryz.prog 117:=by
 refine B0w ct0 lp0 right1C 117 Tryz.f117 [] (by kernel_rfl) (by kernel_rfl) ?_
 intro xx _;obtain⟨x,m,_⟩:Int×Int×Unit:=xx
 refine A0A (t:=.ite (decide (x<0)) (.leaf (true,.sb true)) (.leaf (true,.sb (!decide (x<m))))) (by kernel_rfl) ?_
 refine A0b (fun h=>⟨rfl,?_⟩) (fun h=>⟨rfl,?_⟩)<;>simp[right1C,Dt.val,outB,h]
def noQ{α:Type}{β:Type}(_:α)(_:β):Prop:=True
def Y0m(l:List Int)(c:Pts [.box Cd.int])(n i:Int):Prop:=(∀e∈l,noQ e c)∧l.length≤maxL∧n=(l.length:Int)∧0≤i∧i≤(l.length:Int)
noncomputable def P0R:PSpec:=
 {body:=B0e Tryz.f159 0,nt:=19,nx:=0,room:=8,keep:=[(0,.d .int),(1,.fn 117 [.box Cd.int]),(7,.i .i64),(8,.i .i64)],objs:=[]
  keepX:=fun x=>match x with |.ret=>[4]|_=>[],objsX:=fun _=>[]
  inv:=fun(x:List Int×Pts [.box Cd.int]×Int×Int×Unit) _=>Y0m x.1 x.2.1 x.2.2.1 x.2.2.2.1
  res:=fun(x:List Int×Pts [.box Cd.int]×Int×Int×Unit) _=>L0V (D0t x.2.1) x.1 x.2.2.2.1}
theorem W0m:A0h Tryz.prog ((P0R).loop []):=by
 refine G0w (ctc (T0M) ct0) lp0 (P0R) (fun(x:List Int×Pts [.box Cd.int]×Int×Int×Unit) _=>((x.1.length:Int)-x.2.2.2.1).toNat) (by kernel_rfl) ?_
 intro xx y hx
 obtain⟨l,c,n,i,u⟩:List Int×Pts [.box Cd.int]×Int×Int×Unit:=xx
 obtain⟨hQ,hm,hn,h4,h5⟩:(∀e∈l,noQ e c)∧l.length≤maxL∧n=(l.length:Int)∧0≤i∧i≤(l.length:Int):=hx
 have hm2:=G0y hm
 subst hn
 let z:Int:=Univ.dflt (.int:Cd)
 refine A0A (t:=.ite (decide (i<(l.length:Int)))
   (.ite (decide (0≤i)&&decide (i<(l.length:Int)))
    (.ite (dec (noQ (l.getD i.toNat z) c))
     (.ite (D0t c (l.getD i.toNat z)) (.leaf (true,.ret,[.si .i64 i],[]))
      (.leaf (true,.normal,[AVal.dsl (.int:Cd) l,.fn 117 [] (Pts.vals [.box Cd.int] c),.si .i64 (l.length:Int),.si .i64 (IntKind.i64.wrap (i+1))],[])))
     .fail) .fail)
   (.leaf (true,.exit 0,[],[]))) (by kernel_rfl) ?_
 refine A0b (fun hlt=>?_) (fun hlt=>?_)
 ·have hlt:=of_decide_eq_true hlt
  refine A0c (by simp[h4,hlt]) (A0c (A0g (hQ _ (A0H l i z h4 hlt))) (A0b (fun hp=>⟨rfl,P0l z h4 hlt hp⟩) (fun hp=>⟨rfl,(l,c,(l.length:Int),IntKind.i64.wrap (i+1),()),(),rfl,rfl,?_⟩)))
  rw[A0C (by omega) (by omega)]
  refine⟨⟨hQ,hm,rfl,by show(0:Int)≤i+1;omega,by show i+1≤(l.length:Int);omega⟩,by show((l.length:Int)-(i+1)).toNat<((l.length:Int)-i).toNat;omega,?_⟩
  exact V0k z h4 hlt hp
 ·exact⟨rfl,P0F h5 (of_decide_eq_false hlt)⟩
noncomputable def Y0F:FSpec:=⟨[.d .int,.fn 117 [.box Cd.int]],fun(x:List Int×Pts [.box Cd.int]×Unit)=>(∀e∈x.1,noQ e x.2.1)∧x.1.length≤maxL,
 fun(x:List Int×Pts [.box Cd.int]×Unit)=>.ite (x.1.any (D0t x.2.1)) (.leaf (.si .i64 ((x.1.findIdx (D0t x.2.1):Nat):Int))) (.leaf (.si .i64 (-1)))⟩
theorem Q0P:(Y0F).Kept Tryz.prog 159:=by
 have hL:∀p∈[(0,(P0R).loop [])],A0h Tryz.prog p.2:=lpc (W0m) lp0
 have hmk:mkFn Tryz.prog 159=some (.code (A0u [(0,(P0R).loop [])] (cd Tryz.f159 [0])) Tryz.f159.ntmps Tryz.f159.results.toList):=by kernel_rfl
 refine B0w ct0 hL (Y0F) 159 Tryz.f159 [0] hmk (by kernel_rfl) ?_
 intro xx hx
 obtain⟨l,c,u⟩:List Int×Pts [.box Cd.int]×Unit:=xx
 have hx:(∀e∈l,noQ e c)∧l.length≤maxL:=hx
 have hQ:=hx.1
 have hm:=hx.2
 refine A0A (t:=.ite (dec (Y0m l c (l.length:Int) 0)) (.ite (l.any (D0t c)) (.leaf (true,.si .i64 (0+(l.findIdx (D0t c):Nat)))) (.leaf (true,.si .i64 (-1)))) .fail) (by kernel_rfl) ?_
 refine A0c (A0g ⟨hQ,hm,rfl,by show(0:Int)≤0;omega,by show(0:Int)≤l.length;omega⟩) (A0b (fun hp=>⟨rfl,?_⟩) fun hp=>⟨rfl,?_⟩)
 ·show(Dt.ite (l.any (D0t c)) _ _:Dt AVal).val=_
  rw[hp];simp[Dt.val]
 ·show(Dt.ite (l.any (D0t c)) _ _:Dt AVal).val=_
  rw[hp];simp[Dt.val]
noncomputable def T0u:FSpec:=⟨[.d .int,.fn 117 [.box Cd.int]],fun(x:List Int×Pts [.box Cd.int]×Unit)=>(∀e∈x.1,noQ e x.2.1)∧x.1.length≤maxL,
 fun(x:List Int×Pts [.box Cd.int]×Unit)=>.leaf (.sb (x.1.any (D0t x.2.1)))⟩
theorem R0L:(T0u).Kept Tryz.prog 118:=by
 refine B0w (ctc (Q0P) ct0) lp0 (T0u) 118 Tryz.f118 [] (by kernel_rfl) (by kernel_rfl) ?_
 intro xx hx
 obtain⟨l,c,u⟩:List Int×Pts [.box Cd.int]×Unit:=xx
 have hx:(∀e∈l,noQ e c)∧l.length≤maxL:=hx
 refine A0A (t:=.ite (dec ((∀e∈l,noQ e c)∧l.length≤maxL)) (.ite (l.any (D0t c)) (.leaf (true,.sb (!decide ((l.findIdx (D0t c):Int)<0)))) (.leaf (true,.sb (!decide ((-1:Int)<0))))) .fail) (by kernel_rfl) ?_
 refine A0c (A0g hx) (A0b (fun hp=>⟨rfl,?_⟩) fun hp=>⟨rfl,?_⟩)
 ·show some (AVal.sb (l.any (D0t c)))=some (AVal.sb _)
  rw[hp];simp
 ·show some (AVal.sb (l.any (D0t c)))=some (AVal.sb _)
  rw[hp];simp
theorem N0J(s:ByteArray)(p:Nat):((s.get! p).toNat<128→Utf8.decode s p=((s.get! p).toNat,1))∧(128≤(s.get! p).toNat→128≤(Utf8.decode s p).1)∧1≤(Utf8.decode s p).2:=by
 refine⟨fun h=>?_,fun h=>?_,?_⟩
 ·unfold Utf8.decode
  simp only[Nat.add_zero]
  rw[if_pos h]
 ·unfold Utf8.decode
  simp only[Nat.add_zero]
  rw[if_neg (by omega)]
  split
  ·split
   ·rename_i h2;exact h2
   ·show 128≤65533;omega
  ·split
   ·split
    ·rename_i h2;simp only[Bool.and_eq_true,decide_eq_true_eq] at h2;exact Nat.le_trans (by omega) h2.1
    ·show 128≤65533;omega
   ·split
    ·split
     ·rename_i h2;simp only[Bool.and_eq_true,decide_eq_true_eq] at h2;exact Nat.le_trans (by omega) h2.1
     ·show 128≤65533;omega
    ·show 128≤65533;omega
 ·unfold Utf8.decode
  simp only[Nat.add_zero]
  repeat' split
  all_goals first
   |exact Nat.le_refl 1
   |(show 1≤_;omega)
def E0K(r:Int):Bool:=decide (r<32)||decide (126<r)
def D0x(b:UInt8):Bool:=E0K (b.toNat:Int)
def E0l(l:List UInt8):Nat→Nat→Option Nat
 |0,_=>none
 |f+1,p=>if p<l.length then(if E0K (E0C l p)=true then some p else E0l l f (B0H l p)) else none
def FB(l:List UInt8)(p:Nat):Option Nat:=E0l l (l.length-p) p
theorem Z0Y(l:List UInt8)(p:Nat):p<B0H l p:=by
 have :=(N0J ⟨l.toArray⟩ p).2.2
 unfold B0H;omega
theorem G0l(l:List UInt8):∀(f g p:Nat),l.length-p≤f→l.length-p≤g→E0l l f p=E0l l g p
 |0,0,_,_,_=>rfl
 |0,g+1,p,h,_=>by unfold E0l;rw[if_neg (by omega)]
 |f+1,0,p,_,h=>by unfold E0l;rw[if_neg (by omega)]
 |
  f+1,g+1,p,h1,h2=>by
  unfold E0l
  have :=Z0Y l p
  by_cases hp:p<l.length
  ·rw[if_pos hp,if_pos hp,G0l l f g _ (by omega) (by omega)]
  ·rw[if_neg hp,if_neg hp]
theorem Z0F{l:List UInt8}{p:Nat}(h:p<l.length):FB l p=if E0K (E0C l p)=true then some p else FB l (B0H l p):=by
 have :=Z0Y l p
 have e:FB l p=E0l l (l.length-p-1+1) p:=G0l l _ _ _ (by omega) (by omega)
 rw[e]
 unfold E0l
 rw[if_pos h]
 unfold FB
 rw[G0l l (l.length-p-1) (l.length-B0H l p) (B0H l p) (by omega) (by omega)]
theorem Y0R{l:List UInt8}{p:Nat}(h:¬p<l.length):FB l p=none:=by
 unfold FB;rw[show l.length-p=0 by omega];rfl
theorem e0s{l:List UInt8}{p:Nat}(h:p<l.length):((⟨l.toArray⟩:ByteArray).get! p)=l[p]:=by
 simp[ByteArray.get!,h]
theorem b0N(l:List UInt8):∀(n p:Nat),l.length-p≤n→(FB l p).isSome=(l.drop p).any D0x
 |0,p,h=>by rw[Y0R (by omega),List.drop_eq_nil_of_le (by omega)];rfl
 |
  n+1,p,h=>by
  by_cases hp:p<l.length
  ·rw[Z0F hp,List.drop_eq_getElem_cons hp,List.any_cons]
   obtain⟨d1,d2,d3⟩:=N0J ⟨l.toArray⟩ p
   rw[e0s hp] at d1 d2
   by_cases hb:l[p].toNat<128
   ·have hd:=d1 hb
    have hr:E0C l p=(l[p].toNat:Int):=by unfold E0C;rw[hd]
    have he:B0H l p=p+1:=by unfold B0H;rw[hd]
    rw[hr,he]
    show(if D0x l[p]=true then some p else FB l (p+1)).isSome=_
    cases hq:D0x l[p] with
    |true=>simp
    |false=>simpa using b0N l n (p+1) (by omega)
   ·have hq:D0x l[p]=true:=by unfold D0x E0K;simp;omega
    have hq2:E0K (E0C l p)=true:=by
     have :=d2 (by omega)
     unfold E0K E0C;simp;omega
    rw[if_pos hq2,hq];rfl
  ·rw[Y0R hp,List.drop_eq_nil_of_le (by omega)];rfl
noncomputable def runeC:FSpec:=⟨[.i .i32],fun _=>True,fun(x:Int×Unit)=>.leaf (.sb (E0K x.1))⟩
theorem Y0l:runeC.Kept Tryz.prog 193:=by
 refine B0w ct0 lp0 runeC 193 Tryz.f193 [] (by kernel_rfl) (by kernel_rfl) ?_
 intro xx _;obtain⟨r,u⟩:Int×Unit:=xx
 refine A0A (t:=.ite (decide (r<32)) (.leaf (true,.sb true)) (.leaf (true,.sb (decide (126<r))))) (by kernel_rfl) ?_
 refine A0b (fun h=>⟨rfl,?_⟩) (fun h=>⟨rfl,?_⟩)<;>simp[runeC,Dt.val,E0K,h]
noncomputable def runeL:PSpec:=
 {body:=B0e Tryz.f220 0,nt:=21,nx:=1,room:=8,keep:=[(1,.fn 193 []),(2,.b),(10,.p 0 0)],objs:=[(0,.sit)]
  keepX:=fun x=>match x with |.ret=>[6]|_=>[],objsX:=fun _=>[]
  inv:=fun(x:Unit×Bool×Unit×Unit) _=>x.2.1=true
  res:=fun _ (y:(List UInt8×Nat)×Unit)=>.ite (FB y.1.1 y.1.2).isSome (.leaf (.ret,[.si .i64 (((FB y.1.1 y.1.2).getD 0:Nat):Int)],[])) (.leaf (.exit 0,[],[]))}
theorem a0B:A0h Tryz.prog (runeL.loop []):=by
 refine G0w (ctc Y0l ct0) lp0 runeL (fun _ (y:(List UInt8×Nat)×Unit)=>y.1.1.length-y.1.2) (by kernel_rfl) ?_
 intro xx yy hx
 obtain⟨u1,b,u2,u3⟩:Unit×Bool×Unit×Unit:=xx
 obtain⟨⟨l,p⟩,u4⟩:(List UInt8×Nat)×Unit:=yy
 have hb:b=true:=hx
 refine A0A (t:=.ite (decide (p<l.length)) (.ite (dec True) (.ite (E0K (E0C l p)==b) (.leaf (true,.ret,[.si .i64 (p:Int)],[]))
   (.leaf (true,.normal,[AVal.fn 193 [] [],AVal.sb b,AVal.ptr 0 0],[AObj.siter true l (B0H l p)]))) .fail) (.leaf (true,.exit 0,[],[]))) (by kernel_rfl) ?_
 subst hb
 refine A0b (fun hp=>?_) (fun hp=>?_)
 ·have hp:=of_decide_eq_true hp
  have hs:=Z0F hp
  refine A0c (A0g trivial) (A0b (fun h=>⟨rfl,?_⟩) (fun h=>⟨rfl,((),true,(),()),((l,B0H l p),()),rfl,rfl,rfl,?_,?_⟩))
  ·have h:E0K (E0C l p)=true:=by simpa using h
   rw[if_pos h] at hs
   show(Dt.ite (FB l p).isSome _ _:Dt (AExit×List AVal×List AObj)).val=_
   rw[hs];rfl
  ·have :=Z0Y l p
   show l.length-B0H l p<l.length-p
   omega
  ·have h:¬E0K (E0C l p)=true:=by simpa using h
   rw[if_neg h] at hs
   show(Dt.ite (FB l (B0H l p)).isSome _ _:Dt (AExit×List AVal×List AObj)).val=(Dt.ite (FB l p).isSome _ _:Dt (AExit×List AVal×List AObj)).val
   rw[hs]
 ·have hs:=Y0R (of_decide_eq_false hp)
  refine⟨rfl,?_⟩
  show(Dt.ite (FB l p).isSome _ _:Dt (AExit×List AVal×List AObj)).val=_
  rw[hs];rfl
noncomputable def strIdxC:FSpec:=⟨[.s,.fn 193 [],.b],fun(x:ByteArray×Unit×Bool×Unit)=>x.2.2.1=true,
 fun(x:ByteArray×Unit×Bool×Unit)=>.ite (FB x.1.data.toList 0).isSome (.leaf (.si .i64 (((FB x.1.data.toList 0).getD 0:Nat):Int))) (.leaf (.si .i64 (-1)))⟩
theorem S0I:strIdxC.Kept Tryz.prog 220:=by
 have hL:∀p∈[(0,runeL.loop [])],A0h Tryz.prog p.2:=lpc a0B lp0
 have hmk:mkFn Tryz.prog 220=some (.code (A0u [(0,runeL.loop [])] (cd Tryz.f220 [0])) Tryz.f220.ntmps Tryz.f220.results.toList):=by kernel_rfl
 refine B0w ct0 hL strIdxC 220 Tryz.f220 [0] hmk (by kernel_rfl) ?_
 intro xx hx;obtain⟨s,u1,b,u2⟩:ByteArray×Unit×Bool×Unit:=xx
 have hb:b=true:=hx
 refine A0A (t:=.ite (dec (b=true)) (.ite (FB s.data.toList 0).isSome (.leaf (true,.si .i64 (((FB s.data.toList 0).getD 0:Nat):Int))) (.leaf (true,.si .i64 (-1)))) .fail) (by kernel_rfl) ?_
 refine A0c (A0g hb) (A0b (fun hp=>⟨rfl,?_⟩) fun hp=>⟨rfl,?_⟩)
 ·show(Dt.ite (FB s.data.toList 0).isSome _ _:Dt AVal).val=_
  rw[hp];rfl
 ·show(Dt.ite (FB s.data.toList 0).isSome _ _:Dt AVal).val=_
  rw[hp];rfl
def F0u(s:ByteArray):Bool:=!decide ((s.size:Int)<1)&&(!decide (32<(s.size:Int))&&!(s.data.toList.any D0x))
noncomputable def nameC:FSpec:=⟨[.s],fun _=>True,fun(x:ByteArray×Unit)=>.leaf (.sb (F0u x.1))⟩
theorem Q0i:nameC.Kept Tryz.prog 153:=by
 refine B0w (ctc S0I ct0) lp0 nameC 153 Tryz.f153 [] (by kernel_rfl) (by kernel_rfl) ?_
 intro xx _;obtain⟨s,u⟩:ByteArray×Unit:=xx
 refine A0A (t:=.ite (!decide ((s.size:Int)<1)) (.ite (!decide (32<(s.size:Int))) (.ite (dec (true=true))
   (.ite (FB s.data.toList 0).isSome (.leaf (true,.sb (decide ((((FB s.data.toList 0).getD 0:Nat):Int)<0)))) (.leaf (true,.sb (decide ((-1:Int)<0))))) .fail) (.leaf (true,.sb false))) (.leaf (true,.sb false))) (by kernel_rfl) ?_
 have hany:=b0N s.data.toList _ 0 (Nat.le_refl _)
 rw[List.drop_zero] at hany
 refine A0b (fun h1=>A0b (fun h2=>A0c (A0g rfl) (A0b (fun h3=>⟨rfl,?_⟩) fun h3=>⟨rfl,?_⟩)) fun h2=>⟨rfl,?_⟩) fun h1=>⟨rfl,?_⟩
 ·show some (AVal.sb (F0u s))=_
  rw[h3] at hany
  unfold F0u;rw[h1,h2,←hany];simp
 ·show some (AVal.sb (F0u s))=_
  rw[h3] at hany
  unfold F0u;rw[h1,h2,←hany];simp
 ·show some (AVal.sb (F0u s))=_
  unfold F0u;rw[h1,h2];rfl
 ·show some (AVal.sb (F0u s))=_
  unfold F0u;rw[h1];rfl
theorem A0U{b q:Bool}{t:Dt (Bool×AVal)}(h:t.holds fun x=>x.1=true∧some (AVal.sb q)=some x.2):(Dt.ite b t (.leaf (true,.sb false))).holds fun x=>x.1=true∧some (AVal.sb (b&&q))=some x.2:=by
 cases b with
 |false=>exact A0b (fun e=>by cases e) (fun _=>⟨rfl,rfl⟩)
 |true=>exact A0b (fun _=>h) (fun e=>by cases e)
theorem E0k{q:Bool}:(Dt.leaf (true,AVal.sb q)).holds fun x=>x.1=true∧some (AVal.sb q)=some x.2:=A0L ⟨rfl,rfl⟩
theorem B0N{b:Prop}{t:Dt (Bool×AVal)}{p:Bool×AVal→Prop}(hb:b)(h:t.holds p):(Dt.ite (dec b) t .fail).holds p:=A0c (A0g hb) h
abbrev N0S:List Pt:=[.nf,.fn 150 [.box Cd.bare],.fn 151 [.box Cd.bare],.fn 152 [.box Cd.bare],.fn 154 [.box Cd.bare],.fn 155 [.box Cd.bare],.fn 156 [.box Cd.bare]]
abbrev B0O:List Pt:=[.i .i64,.i .i64,.s,.d Cd.term]
abbrev D0j:Type:=Int×Int×ByteArray×List Trm×Unit
noncomputable def G0z(p:Int→ByteArray→List Trm→Bool):FSpec:=⟨[.agg B0O,.box Cd.bare],fun _=>True,fun(x:D0j×Unit×Unit)=>.leaf (.sb (p x.1.2.1 x.1.2.2.1 x.1.2.2.2.1))⟩
def noS(s:ByteArray):Bool:=decide (s=sStr [])
def noL(l:List Trm):Bool:=decide ((l.length:Int)=0)
def no0(n:Int):Bool:=decide (n=0)
def Q0Z(n:Int)(s:ByteArray)(l:List Trm):Bool:=noS s&&(noL l&&(!decide (n<0)&&decide (n<100000)))
def X0i(n:Int)(s:ByteArray)(l:List Trm):Bool:=noS s&&(noL l&&(!decide (n< -2147483647)&&!decide (2147483647<n)))
def J0S(n:Int)(s:ByteArray)(l:List Trm):Bool:=no0 n&&(noL l&&F0u s)
def W0I(n:Int)(s:ByteArray)(l:List Trm):Bool:=no0 n&&(noL l&&!decide (255<(s.size:Int)))
def T0G(n:Int)(s:ByteArray)(l:List Trm):Bool:=no0 n&&(F0u s&&(!decide ((l.length:Int)<1)&&!decide (16<(l.length:Int))))
def X0t(n:Int)(s:ByteArray)(l:List Trm):Bool:=no0 n&&(noS s&&!decide (64<(l.length:Int)))
theorem W0o:(G0z Q0Z).Kept Tryz.prog 150:=by
 refine B0w ct0 lp0 (G0z Q0Z) 150 Tryz.f150 [] (by kernel_rfl) (by kernel_rfl) ?_
 intro xx _;obtain⟨⟨k,n,s,l,u⟩,u2,u3⟩:D0j×Unit×Unit:=xx
 refine A0A (t:=.ite (noS s) (.ite (noL l) (.ite (!decide (n<0)) (.leaf (true,.sb (decide (n<100000)))) (.leaf (true,.sb false))) (.leaf (true,.sb false))) (.leaf (true,.sb false))) (by kernel_rfl) ?_
 exact A0U (A0U (A0U E0k))
theorem W0G:(G0z X0i).Kept Tryz.prog 151:=by
 refine B0w ct0 lp0 (G0z X0i) 151 Tryz.f151 [] (by kernel_rfl) (by kernel_rfl) ?_
 intro xx _;obtain⟨⟨k,n,s,l,u⟩,u2,u3⟩:D0j×Unit×Unit:=xx
 refine A0A (t:=.ite (noS s) (.ite (noL l) (.ite (!decide (n< -2147483647)) (.leaf (true,.sb (!decide (2147483647<n)))) (.leaf (true,.sb false))) (.leaf (true,.sb false))) (.leaf (true,.sb false))) (by kernel_rfl) ?_
 exact A0U (A0U (A0U E0k))
theorem W0h:(G0z J0S).Kept Tryz.prog 152:=by
 refine B0w (ctc Q0i ct0) lp0 (G0z J0S) 152 Tryz.f152 [] (by kernel_rfl) (by kernel_rfl) ?_
 intro xx _;obtain⟨⟨k,n,s,l,u⟩,u2,u3⟩:D0j×Unit×Unit:=xx
 refine A0A (t:=.ite (no0 n) (.ite (noL l) (.ite (dec True) (.leaf (true,.sb (F0u s))) .fail) (.leaf (true,.sb false))) (.leaf (true,.sb false))) (by kernel_rfl) ?_
 exact A0U (A0U (B0N trivial E0k))
theorem X0e:(G0z W0I).Kept Tryz.prog 154:=by
 refine B0w ct0 lp0 (G0z W0I) 154 Tryz.f154 [] (by kernel_rfl) (by kernel_rfl) ?_
 intro xx _;obtain⟨⟨k,n,s,l,u⟩,u2,u3⟩:D0j×Unit×Unit:=xx
 refine A0A (t:=.ite (no0 n) (.ite (noL l) (.leaf (true,.sb (!decide (255<(s.size:Int))))) (.leaf (true,.sb false))) (.leaf (true,.sb false))) (by kernel_rfl) ?_
 exact A0U (A0U E0k)
theorem W0F:(G0z T0G).Kept Tryz.prog 155:=by
 refine B0w (ctc Q0i ct0) lp0 (G0z T0G) 155 Tryz.f155 [] (by kernel_rfl) (by kernel_rfl) ?_
 intro xx _;obtain⟨⟨k,n,s,l,u⟩,u2,u3⟩:D0j×Unit×Unit:=xx
 refine A0A (t:=.ite (no0 n) (.ite (dec True) (.ite (F0u s) (.ite (!decide ((l.length:Int)<1)) (.leaf (true,.sb (!decide (16<(l.length:Int))))) (.leaf (true,.sb false))) (.leaf (true,.sb false))) .fail) (.leaf (true,.sb false))) (by kernel_rfl) ?_
 exact A0U (B0N trivial (A0U (A0U E0k)))
theorem V0N:(G0z X0t).Kept Tryz.prog 156:=by
 refine B0w ct0 lp0 (G0z X0t) 156 Tryz.f156 [] (by kernel_rfl) (by kernel_rfl) ?_
 intro xx _;obtain⟨⟨k,n,s,l,u⟩,u2,u3⟩:D0j×Unit×Unit:=xx
 refine A0A (t:=.ite (no0 n) (.ite (noS s) (.leaf (true,.sb (!decide (64<(l.length:Int))))) (.leaf (true,.sb false))) (.leaf (true,.sb false))) (by kernel_rfl) ?_
 exact A0U (A0U E0k)
noncomputable abbrev e0R:List (FuncId×List FSpec):=[(150,[G0z Q0Z]),(151,[G0z X0i]),(152,[G0z J0S]),(154,[G0z W0I]),(155,[G0z T0G]),(156,[G0z X0t])]
theorem R0i:∀p∈e0R,∀S∈p.2,S.Kept Tryz.prog p.1:=ctc W0o (ctc W0G (ctc W0h (ctc X0e (ctc W0F (ctc V0N ct0)))))
def C0O(k n:Int)(s:ByteArray)(l:List Trm):Bool:=
 if k=1 then Q0Z n s l else if k=2 then X0i n s l else if k=3 then J0S n s l else if k=4 then W0I n s l else if k=5 then T0G n s l else if k=6 then X0t n s l else false
mutual
def A0R:Trm→Int→Int→Int
 |
  ⟨k,n,s,l⟩,left,deep=>if deep<1∨left<1∨C0O k n s l=false then left+1 else(match C0d l left deep 1 with
  |some m=>m
  |none=>left+1)
def C0d:List Trm→Int→Int→Int→Option Int
 |[],_,_,n=>some n
 |x::l,left,deep,n=>if left<n+A0R x (left-n) (deep-1) then none else C0d l left deep (n+A0R x (left-n) (deep-1))
end
mutual
theorem K0B:∀(t:Trm)(left deep:Int),0≤left→1≤A0R t left deep∧A0R t left deep≤left+1
 |
  ⟨k,n,s,l⟩,left,deep,h=>by
  unfold A0R
  by_cases c:deep<1∨left<1∨C0O k n s l=false
  ·rw[if_pos c];omega
  ·rw[if_neg c]
   cases hm:C0d l left deep 1 with
   |none=>simp only[];omega
   |
    some m=>
    have :=K0R l left deep 1 m (by omega) (by omega) hm
    simp only[];omega
theorem K0R:∀(l:List Trm)(left deep n m:Int),1≤n→n≤left→C0d l left deep n=some m→n≤m∧m≤left
 |
  [],left,deep,n,m,h1,h2,h=>by
  unfold C0d at h;cases h;omega
 |
  x::l,left,deep,n,m,h1,h2,h=>by
  unfold C0d at h
  have hb:=K0B x (left-n) (deep-1) (by omega)
  by_cases c:left<n+A0R x (left-n) (deep-1)
  ·rw[if_pos c] at h;cases h
  ·rw[if_neg c] at h
   have :=K0R l left deep _ m (by omega) (by omega) h
   omega
end
theorem H0Y(x:Trm)(l:List Trm)(left deep n:Int):C0d (x::l) left deep n=if left<n+A0R x (left-n) (deep-1) then none else C0d l left deep (n+A0R x (left-n) (deep-1)):=by
 conv=>lhs;unfold C0d
theorem U0W{k n:Int}{s:ByteArray}{l:List Trm}(h:C0O k n s l=true):l.length≤64:=by
 unfold C0O at h
 repeat' split at h
 all_goals first
  |cases h
  |(simp only[Q0Z,X0i,J0S,W0I,T0G,X0t,noL,Bool.and_eq_true,decide_eq_true_eq,Bool.not_eq_true',decide_eq_false_iff_not] at h;omega)
abbrev eT(t:Trm):Trm:=⟨t.kind,t.n,t.s,t.l⟩
theorem D0i(t:Trm):eT t=t:=by cases t;rfl
def cntP(N:Nat)(t:Trm)(left deep:Int):Prop:=SizeOf.sizeOf t<N∧0≤left∧left≤1000000000∧0≤deep∧deep≤1000000000
def cntV(N:Nat)(left deep n:Int)(l:List Trm)(len i:Int):Prop:=
 (∀x∈l,SizeOf.sizeOf x<N)∧l.length≤64∧len=(l.length:Int)∧0≤i∧i≤(l.length:Int)∧1≤n∧n≤left∧left≤1000000000∧1≤deep∧deep≤1000000000
abbrev CntX:Type:=D0j×Int×Int×Pts N0S×Unit
noncomputable def cntS(N:Nat):FSpec:=⟨[.agg B0O,.i .i64,.i .i64,.agg N0S],fun(x:CntX)=>cntP N ⟨x.1.1,x.1.2.1,x.1.2.2.1,x.1.2.2.2.1⟩ x.2.1 x.2.2.1,
 fun(x:CntX)=>.leaf (.si .i64 (A0R ⟨x.1.1,x.1.2.1,x.1.2.2.1,x.1.2.2.2.1⟩ x.2.1 x.2.2.1))⟩
noncomputable def R0l(left deep n:Int)(l:List Trm)(i:Int):Dt (AExit×List AVal×List AObj):=
 .ite (C0d (l.drop i.toNat) left deep n).isNone (.leaf (.ret,[.si .i64 (left+1)],[])) (.leaf (.exit 0,[.si .i64 ((C0d (l.drop i.toNat) left deep n).getD 0)],[]))
abbrev b0k:Type:=Int×Int×Unit×Int×List Trm×Int×Int×Unit
noncomputable def cntL(N:Nat):PSpec:=
 {body:=B0e Tryz.f106 0,nt:=63,nx:=2,room:=8,keep:=[(1,.i .i64),(2,.i .i64),(7,.p 1 0),(9,.i .i64),(40,.d Cd.term),(41,.i .i64),(42,.i .i64)],objs:=[(1,.cells N0S 205 1 0 [(1,0,7)])]
  keepX:=fun x=>match x with |.ret=>[8]|_=>[9],objsX:=fun _=>[]
  inv:=fun(x:b0k) _=>cntV N x.1 x.2.1 x.2.2.2.1 x.2.2.2.2.1 x.2.2.2.2.2.1 x.2.2.2.2.2.2.1
  res:=fun(x:b0k) _=>R0l x.1 x.2.1 x.2.2.2.1 x.2.2.2.2.1 x.2.2.2.2.2.2.1}
theorem c0x(N:Nat)(hS:(cntS N).Kept Tryz.prog 106):A0h Tryz.prog ((cntL N).loop []):=by
 refine G0w (ctc hS R0i) lp0 (cntL N) (fun(x:b0k) _=>((x.2.2.2.2.1.length:Int)-x.2.2.2.2.2.2.1).toNat) (by kernel_rfl) ?_
 intro xx yy hx
 obtain⟨left,deep,u1,n,l,len,i,u2⟩:b0k:=xx
 obtain⟨f,u3⟩:Pts N0S×Unit:=yy
 have hx:cntV N left deep n l len i:=hx
 have hx0:=hx
 unfold cntV at hx
 obtain⟨hsz,hl,hlen,hi0,hi1,hn1,hn2,hleft,hd1,hd2⟩:=hx
 subst hlen
 let z:Trm:=Univ.dflt (Cd.term:Cd)
 refine A0A (t:=.ite (decide (i<(l.length:Int))) (.ite (decide (0≤i)&&decide (i<(l.length:Int))) (.ite (dec (cntP N (eT (l.getD i.toNat z)) (IntKind.i64.wrap (left-n)) (IntKind.i64.wrap (deep-1))))
   (.ite (decide (left<IntKind.i64.wrap (n+A0R (eT (l.getD i.toNat z)) (IntKind.i64.wrap (left-n)) (IntKind.i64.wrap (deep-1))))) (.leaf (true,.ret,[.si .i64 (IntKind.i64.wrap (left+1))],[]))
    (.leaf (true,.normal,[.si .i64 left,.si .i64 deep,.ptr 1 0,.si .i64 (IntKind.i64.wrap (n+A0R (eT (l.getD i.toNat z)) (IntKind.i64.wrap (left-n)) (IntKind.i64.wrap (deep-1)))),.dsl (Cd.term:Cd) l,.si .i64 (l.length:Int),.si .i64 (IntKind.i64.wrap (i+1))],
     [.cells (Pts.vals N0S f) 205 false false 1 0 [(1,0,7)]]))) .fail) .fail) (.leaf (true,.exit 0,[.si .i64 n],[]))) (by kernel_rfl) ?_
 rw[D0i]
 refine A0b (fun hlt=>?_) (fun hlt=>?_)
 ·have hlt:=of_decide_eq_true hlt
  have hd:=A0w l i z hi0 hlt
  have e1:IntKind.i64.wrap (left-n)=left-n:=A0C (by omega) (by omega)
  have e2:IntKind.i64.wrap (deep-1)=deep-1:=A0C (by omega) (by omega)
  rw[e1,e2]
  have hb:=K0B (l.getD i.toNat z) (left-n) (deep-1) (by omega)
  have e3:IntKind.i64.wrap (n+A0R (l.getD i.toNat z) (left-n) (deep-1))=n+A0R (l.getD i.toNat z) (left-n) (deep-1):=A0C (by omega) (by omega)
  have e4:IntKind.i64.wrap (left+1)=left+1:=A0C (by omega) (by omega)
  have e5:IntKind.i64.wrap (i+1)=i+1:=A0C (by omega) (by omega)
  rw[e3,e4,e5]
  have hc:C0d (l.drop i.toNat) left deep n=if left<n+A0R (l.getD i.toNat z) (left-n) (deep-1) then none else C0d (l.drop (i+1).toNat) left deep (n+A0R (l.getD i.toNat z) (left-n) (deep-1)):=by
   rw[hd,H0Y]
  refine A0c (by simp[hi0,hlt]) (A0c (A0g ⟨hsz _ (A0H l i z hi0 hlt),by omega,by omega,by omega,by omega⟩) (A0b (fun h=>⟨rfl,?_⟩) (fun h=>⟨rfl,(left,deep,(),n+A0R (l.getD i.toNat z) (left-n) (deep-1),l,(l.length:Int),i+1,()),(f,()),rfl,rfl,?_,?_,?_⟩)))
  ·rw[if_pos (of_decide_eq_true h)] at hc
   show(R0l left deep n l i).val=_
   unfold R0l;rw[hc];rfl
  ·have h:=of_decide_eq_false h
   show cntV N left deep (n+A0R (l.getD i.toNat z) (left-n) (deep-1)) l (l.length:Int) (i+1)
   exact⟨hsz,hl,rfl,by omega,by omega,by omega,by omega,hleft,hd1,hd2⟩
  ·show((l.length:Int)-(i+1)).toNat<((l.length:Int)-i).toNat
   omega
  ·rw[if_neg (of_decide_eq_false h)] at hc
   show(R0l left deep (n+A0R (l.getD i.toNat z) (left-n) (deep-1)) l (i+1)).val=(R0l left deep n l i).val
   unfold R0l;rw[hc]
 ·have hlt:=of_decide_eq_false hlt
  refine⟨rfl,?_⟩
  show(R0l left deep n l i).val=_
  unfold R0l
  rw[A0N l i hi1 hlt]
  unfold C0d
  rfl
def cntR(left:Int):Dt (Bool×AVal):=.leaf (true,.si .i64 (IntKind.i64.wrap (left+1)))
noncomputable def c0E(N:Nat)(left deep:Int)(l:List Trm):Dt (Bool×AVal):=
 .ite (dec (cntV N left deep 1 l (l.length:Int) 0)) (.ite (C0d l left deep 1).isNone (.leaf (true,.si .i64 (left+1))) (.leaf (true,.si .i64 ((C0d l left deep 1).getD 0)))) .fail
noncomputable def L0J(N:Nat)(b:Bool)(left deep:Int)(l:List Trm):Dt (Bool×AVal):=.ite (dec True) (.ite (!b) (cntR left) (c0E N left deep l)) .fail
theorem J0W{N:Nat}{k n:Int}{s:ByteArray}{l:List Trm}{left deep:Int}{b:Bool}(hb:C0O k n s l=b)(hp:cntP (N+1) ⟨k,n,s,l⟩ left deep)(hd:¬deep<1)(hl:¬left<1):
  (L0J N b left deep l).holds fun q=>q.1=true∧some (AVal.si .i64 (A0R ⟨k,n,s,l⟩ left deep))=some q.2:=by
 obtain⟨h1,h2,h3,h4,h5⟩:=hp
 refine B0N trivial (A0b (fun h=>⟨rfl,?_⟩) (fun h=>?_))
 ·have h:b=false:=by simpa using h
  unfold A0R
  rw[if_pos (by right;right;rw[hb,h]),A0C (by omega) (by omega)]
 ·have h:b=true:=by simpa using h
  have hf:C0O k n s l=true:=by rw[hb,h]
  have hlen:=U0W hf
  have hc:A0R ⟨k,n,s,l⟩ left deep=(match C0d l left deep 1 with |some m=>m|none=>left+1):=by
   conv=>lhs;unfold A0R
   rw[if_neg (by rw[hf];simp;omega)]
   all_goals (cases C0d l left deep 1<;>rfl)
  rw[hc]
  refine A0c (A0g ⟨fun x hx=>?_,hlen,rfl,Int.le_refl _,by omega,Int.le_refl _,by omega,h3,by omega,h5⟩) (A0b (fun h=>⟨rfl,?_⟩) (fun h=>⟨rfl,?_⟩))
  ·have :=List.sizeOf_lt_of_mem hx
   simp only[Trm.mk.sizeOf_spec] at h1
   omega
  ·rw[Option.isNone_iff_eq_none.1 h]
  ·cases hm:C0d l left deep 1 with
   |none=>rw[hm] at h;cases h
   |some m=>rfl
theorem U0C:∀N,(cntS N).Kept Tryz.prog 106
 |
  0=>by
  intro x hx
  exact absurd hx.1 (Nat.not_lt_zero _)
 |
  N+1=>by
  have hL:∀p∈[(0,(cntL N).loop [])],A0h Tryz.prog p.2:=lpc (c0x N (U0C N)) lp0
  have hmk:mkFn Tryz.prog 106=some (.code (A0u [(0,(cntL N).loop [])] (cd Tryz.f106 [0])) Tryz.f106.ntmps Tryz.f106.results.toList):=by kernel_rfl
  refine B0w R0i hL (cntS (N+1)) 106 Tryz.f106 [0] hmk (by kernel_rfl) ?_
  intro xx hx
  obtain⟨⟨k,n,s,l,u1⟩,left,deep,f,u2⟩:CntX:=xx
  have hp:cntP (N+1) ⟨k,n,s,l⟩ left deep:=hx
  refine A0A (t:=.ite (decide (deep<1)) (cntR left) (.ite (decide (left<1)) (cntR left) (.ite (decide (k<1)) (cntR left) (.ite (decide (6<k)) (cntR left)
   (.ite (decide (k=0)) .fail (.ite (decide (k=1)) (L0J N (Q0Z n s l) left deep l) (.ite (decide (k=2)) (L0J N (X0i n s l) left deep l) (.ite (decide (k=3)) (L0J N (J0S n s l) left deep l)
    (.ite (decide (k=4)) (L0J N (W0I n s l) left deep l) (.ite (decide (k=5)) (L0J N (T0G n s l) left deep l) (.ite (decide (k=6)) (L0J N (X0t n s l) left deep l) .fail))))))))))) (by kernel_rfl) ?_
  have bad:(deep<1∨left<1∨C0O k n s l=false)→(cntR left).holds fun q=>q.1=true∧some (AVal.si .i64 (A0R ⟨k,n,s,l⟩ left deep))=some q.2:=by
   intro h
   obtain⟨h1,h2,h3,h4,h5⟩:=hp
   unfold A0R
   rw[if_pos h]
   refine A0L ⟨rfl,?_⟩
   show some (AVal.si .i64 (left+1))=some (AVal.si .i64 (IntKind.i64.wrap (left+1)))
   rw[A0C (by omega) (by omega)]
  refine A0b (fun h=>bad (.inl (of_decide_eq_true h))) fun hd=>?_
  refine A0b (fun h=>bad (.inr (.inl (of_decide_eq_true h)))) fun hl=>?_
  have hd:=of_decide_eq_false hd
  have hl:=of_decide_eq_false hl
  refine A0b (fun h=>bad (.inr (.inr ?_))) fun h1=>?_
  ·have h:=of_decide_eq_true h
   unfold C0O
   rw[if_neg (by omega),if_neg (by omega),if_neg (by omega),if_neg (by omega),if_neg (by omega),if_neg (by omega)]
  refine A0b (fun h=>bad (.inr (.inr ?_))) fun h6=>?_
  ·have h:=of_decide_eq_true h
   unfold C0O
   rw[if_neg (by omega),if_neg (by omega),if_neg (by omega),if_neg (by omega),if_neg (by omega),if_neg (by omega)]
  have h1:=of_decide_eq_false h1
  have h6:=of_decide_eq_false h6
  refine A0b (fun h=>by have :=of_decide_eq_true h;omega) fun h=>?_
  refine A0b (fun h=>J0W (by have :=of_decide_eq_true h;subst this;rfl) hp hd hl) fun a1=>?_
  refine A0b (fun h=>J0W (by have :=of_decide_eq_true h;subst this;rfl) hp hd hl) fun a2=>?_
  refine A0b (fun h=>J0W (by have :=of_decide_eq_true h;subst this;rfl) hp hd hl) fun a3=>?_
  refine A0b (fun h=>J0W (by have :=of_decide_eq_true h;subst this;rfl) hp hd hl) fun a4=>?_
  refine A0b (fun h=>J0W (by have :=of_decide_eq_true h;subst this;rfl) hp hd hl) fun a5=>?_
  refine A0b (fun h=>J0W (by have :=of_decide_eq_true h;subst this;rfl) hp hd hl) fun a6=>?_
  have a1:=of_decide_eq_false a1
  have a2:=of_decide_eq_false a2
  have a3:=of_decide_eq_false a3
  have a4:=of_decide_eq_false a4
  have a5:=of_decide_eq_false a5
  have a6:=of_decide_eq_false a6
  omega
noncomputable def cntA:FSpec:=⟨[.agg B0O,.i .i64,.i .i64,.agg N0S],fun(x:CntX)=>0≤x.2.1∧x.2.1≤1000000000∧0≤x.2.2.1∧x.2.2.1≤1000000000,
 fun(x:CntX)=>.leaf (.si .i64 (A0R ⟨x.1.1,x.1.2.1,x.1.2.2.1,x.1.2.2.2.1⟩ x.2.1 x.2.2.1))⟩
theorem S0k:cntA.Kept Tryz.prog 106:=by
 intro x hx
 let x':CntX:=x
 exact U0C (SizeOf.sizeOf (⟨x'.1.1,x'.1.2.1,x'.1.2.2.1,x'.1.2.2.2.1⟩:Trm)+1) x ⟨Nat.lt_succ_self _,hx⟩
def badT(t:Trm):Bool:=decide (4000<A0R t 4000 600)
def errT(t:Trm):Int:=if badT t=true then 3 else 0
noncomputable def chkC:FSpec:=⟨[.agg B0O],fun _=>True,fun(x:D0j×Unit)=>.leaf (.si .i64 (errT ⟨x.1.1,x.1.2.1,x.1.2.2.1,x.1.2.2.2.1⟩))⟩
theorem J0u:chkC.Kept Tryz.prog 29:=by
 refine B0w (ctc S0k ct0) lp0 chkC 29 Tryz.f29 [] (by kernel_rfl) (by kernel_rfl) ?_
 intro xx _;obtain⟨⟨k,n,s,l,u⟩,u2⟩:D0j×Unit:=xx
 refine A0A (t:=.ite (dec ((0:Int)≤4000∧(4000:Int)≤1000000000∧(0:Int)≤600∧(600:Int)≤1000000000)) (.ite (badT ⟨k,n,s,l⟩) (.leaf (true,.si .i64 3)) (.leaf (true,.si .i64 0))) .fail) (by kernel_rfl) ?_
 refine A0c (A0g (by omega)) (A0b (fun h=>A0L ⟨rfl,?_⟩) (fun h=>A0L ⟨rfl,?_⟩))
 ·show some (AVal.si .i64 (errT ⟨k,n,s,l⟩))=some (AVal.si .i64 3)
  unfold errT;rw[if_pos h]
 ·show some (AVal.si .i64 (errT ⟨k,n,s,l⟩))=some (AVal.si .i64 0)
  unfold errT;rw[if_neg (by rw[h];simp)]
def P0Z(s:ByteArray):Bool:=decide (errT ⟨3,0,s,[]⟩=0)
noncomputable def snameC:FSpec:=⟨[.s],fun _=>True,fun(x:ByteArray×Unit)=>.leaf (.sb (P0Z x.1))⟩
theorem V0Q:snameC.Kept Tryz.prog 119:=by
 refine B0w (ctc J0u ct0) lp0 snameC 119 Tryz.f119 [] (by kernel_rfl) (by kernel_rfl) ?_
 intro xx _;obtain⟨s,u⟩:ByteArray×Unit:=xx
 refine A0A (t:=.ite (dec True) (.leaf (true,.sb (P0Z s))) .fail) (by kernel_rfl) ?_
 exact B0N trivial (A0L ⟨rfl,rfl⟩)
noncomputable def cmpB(s t:ByteArray):Int:=cmpS s.data.toList t.data.toList
noncomputable def H0j(s:ByteArray)(a:Int)(t:ByteArray)(b:Int):Int:=if cmpB s t=0 then(if a<b then -1 else if b<a then 1 else 0) else cmpB s t
abbrev symP:Pt:=.agg [.s,.i .i64]
abbrev SymX:Type:=ByteArray×Int×Unit
noncomputable def orderC:FSpec:=⟨[symP,symP],fun _=>True,fun(x:SymX×SymX×Unit)=>.leaf (.si .i64 (H0j x.1.1 x.1.2.1 x.2.1.1 x.2.1.2.1))⟩
noncomputable def ordT(c v:Int):Dt (Bool×AVal):=.ite (!decide (c=0)) (.leaf (true,.si .i64 c)) (.leaf (true,.si .i64 v))
theorem J0M:orderC.Kept Tryz.prog 102:=by
 refine B0w ct0 lp0 orderC 102 Tryz.f102 [] (by kernel_rfl) (by kernel_rfl) ?_
 intro xx _;obtain⟨⟨s,a,u1⟩,⟨t,b,u2⟩,u3⟩:SymX×SymX×Unit:=xx
 refine A0A (t:=.ite (!decide (a=a)) (.ite (!decide (b=b)) (ordT (cmpB s t) 0) (ordT (cmpB s t) (-1))) (.ite (!decide (b=b)) (ordT (cmpB s t) 1)
  (.ite (decide (a<b)) (ordT (cmpB s t) (-1)) (.ite (decide (b<a)) (ordT (cmpB s t) 1) (ordT (cmpB s t) 0))))) (by kernel_rfl) ?_
 have key:∀v,(if a<b then -1 else if b<a then 1 else 0)=v→(ordT (cmpB s t) v).holds fun q=>q.1=true∧some (AVal.si .i64 (H0j s a t b))=some q.2:=by
  intro v hv
  refine A0b (fun h=>⟨rfl,?_⟩) (fun h=>⟨rfl,?_⟩)
  ·have h:¬cmpB s t=0:=by simpa using h
   unfold H0j;rw[if_neg h]
  ·have h:cmpB s t=0:=by simpa using h
   unfold H0j;rw[if_pos h,hv]
 refine A0b (fun h=>by simp at h) fun _=>A0b (fun h=>by simp at h) fun _=>A0b (fun h=>key _ ?_) fun h1=>A0b (fun h=>key _ ?_) fun h2=>key _ ?_
 ·rw[if_pos (of_decide_eq_true h)]
 ·rw[if_neg (of_decide_eq_false h1),if_pos (of_decide_eq_true h)]
 ·rw[if_neg (of_decide_eq_false h1),if_neg (of_decide_eq_false h2)]
abbrev R0h:List Pt:=[.b,.b,.b,.d Cd.case,.d Cd.int]
abbrev S0c:Type:=Bool×Bool×Bool×List A0n×List Int×Unit
noncomputable def H0C(p:Option A0n)(c:A0n):Bool:=match p with
 |none=>false
 |some b=>!decide (H0j b.name b.arity c.name c.arity<0)
def C0c(m:Int)(atom:Bool)(c:A0n):Bool:=
 !P0Z c.name||(decide (c.arity<0)||(decide (16<c.arity)||(!decide ((c.args.length:Int)=c.arity)||(c.args.any (outB m)||(atom&&decide (c.arity=0))))))
noncomputable def D0F(m:Int)(atom:Bool):Option A0n→List A0n→Bool
 |_,[]=>false
 |p,c::cs=>(H0C p c||C0c m atom c)||D0F m atom (some c) cs
def B0h:A0n:=Univ.dflt (Cd.case:Cd)
def E0E(l:List A0n)(i:Int):Option A0n:=if 0<i then some (l.getD (i-1).toNat B0h) else none
noncomputable def C0x(m:Int)(s:Srt):Bool:=!(decide (400<(s.cases.length:Int))||(decide (1<(s.vec.length:Int))||(s.vec.any (outB m)||D0F m s.atom none s.cases)))
abbrev RgtY:Type:=S0c×(Int×Unit)×Unit
abbrev RgtX:Type:=Unit×(Unit×Unit)×List A0n×Int×Int×Unit
noncomputable def M0T(m:Int)(atom:Bool)(l:List A0n)(i:Int):Dt (AExit×List AVal×List AObj):=
 .ite (D0F m atom (E0E l i) (l.drop i.toNat)) (.leaf (.ret,[.sb false],[])) (.leaf (.exit 0,[],[]))
def rgtV(l:List A0n)(len i:Int)(cs:List A0n):Prop:=cs=l∧len=(l.length:Int)∧0≤i∧i≤(l.length:Int)∧(l.length:Int)≤400
noncomputable def rgtL:PSpec:=
 {body:=B0e Tryz.f70 0,nt:=93,nx:=2,room:=8,keep:=[(2,.p 0 0),(5,.fn 117 [.p 1 0]),(26,.d Cd.case),(27,.i .i64),(28,.i .i64)],objs:=[(0,.cells R0h 56 0 0 [(0,0,5)]),(1,.cells [.i .i64] 3 1 0 [(1,0,1)])]
  keepX:=fun x=>match x with |.ret=>[4]|_=>[],objsX:=fun _=>[]
  inv:=fun(x:RgtX)(y:RgtY)=>rgtV x.2.2.1 x.2.2.2.1 x.2.2.2.2.1 y.1.2.2.2.1
  res:=fun(x:RgtX)(y:RgtY)=>M0T y.2.1.1 y.1.2.2.1 x.2.2.1 x.2.2.2.2.1}
noncomputable abbrev g0e:List (FuncId×List FSpec):=[(118,[T0u]),(102,[orderC]),(119,[snameC])]
theorem U0Z:∀p∈g0e,∀S∈p.2,S.Kept Tryz.prog p.1:=ctc R0L (ctc J0M (ctc V0Q ct0))
abbrev Rgt4:Type:=Bool×AExit×List AVal×List AObj
def C0R:Rgt4:=(true,.ret,[AVal.sb false],[])
noncomputable def N0m(m:Int)(atom:Bool)(c:A0n)(nxt:Rgt4):Dt Rgt4:=
 .ite (dec True) (.ite (!P0Z c.name) (.leaf C0R) (.ite (decide (c.arity<0)) (.leaf C0R) (.ite (decide (16<c.arity)) (.leaf C0R) (.ite (!decide ((c.args.length:Int)=c.arity)) (.leaf C0R)
  (.ite (dec ((∀e∈c.args,noQ e (show Pts [.box Cd.int] from(m,())))∧c.args.length≤maxL)) (.ite (c.args.any (outB m)) (.leaf C0R) (.ite atom (.ite (decide (c.arity=0)) (.leaf C0R) (.leaf nxt)) (.leaf nxt))) .fail))))) .fail
theorem a0Q{m:Int}{atom:Bool}{c:A0n}{nxt:Rgt4}{p:Rgt4→Prop}(h1:C0c m atom c=true→p C0R)(h2:C0c m atom c=false→p nxt):(N0m m atom c nxt).holds p:=by
 unfold N0m
 refine A0c (A0g trivial) ?_
 refine A0b (fun a1=>h1 (by simp only[C0c,a1,Bool.true_or])) fun a1=>?_
 refine A0b (fun a2=>h1 (by simp only[C0c,a2,Bool.true_or,Bool.or_true])) fun a2=>?_
 refine A0b (fun a3=>h1 (by simp only[C0c,a3,Bool.true_or,Bool.or_true])) fun a3=>?_
 refine A0b (fun a4=>h1 (by simp only[C0c,a4,Bool.true_or,Bool.or_true])) fun a4=>?_
 have b3:=of_decide_eq_false a3
 have b4:(c.args.length:Int)=c.arity:=by simpa using a4
 refine A0c (A0g ⟨fun _ _=>trivial,by unfold maxL;omega⟩) ?_
 refine A0b (fun a5=>h1 (by simp only[C0c,a5,Bool.true_or,Bool.or_true])) fun a5=>?_
 have e:C0c m atom c=(atom&&decide (c.arity=0)):=by simp only[C0c,a1,a2,a3,a4,a5,Bool.false_or]
 refine A0b (fun a6=>A0b (fun a7=>h1 (by rw[e,a6,a7];rfl)) fun a7=>h2 (by rw[e,a6,a7];rfl)) fun a6=>h2 (by rw[e,a6];rfl)
theorem Q0D{l:List A0n}{i:Int}(h0:0≤i):E0E l (i+1)=some (l.getD i.toNat B0h):=by
 unfold E0E;rw[if_pos (by omega),show i+1-1=i by omega]
theorem d0W:A0h Tryz.prog (rgtL.loop []):=by
 refine G0w U0Z lp0 rgtL (fun(x:RgtX) _=>((x.2.2.1.length:Int)-x.2.2.2.2.1).toNat) (by kernel_rfl) ?_
 intro xx yy hx
 obtain⟨u1,⟨u2,u3⟩,l,len,i,u4⟩:RgtX:=xx
 obtain⟨⟨a,b,at',cs,v,u5⟩,⟨m,u6⟩,u7⟩:RgtY:=yy
 have hx:rgtV l len i cs:=hx
 unfold rgtV at hx
 obtain⟨hcs,hlen,hi0,hi1,h400⟩:=hx
 subst hcs;subst hlen
 let N:Rgt4:=(true,.normal,[AVal.ptr 0 0,AVal.fn 117 [] [AVal.ptr 1 0],AVal.dsl (Cd.case:Cd) cs,AVal.si .i64 (cs.length:Int),AVal.si .i64 (IntKind.i64.wrap (i+1))],
  [AObj.cells [AVal.sb a,AVal.sb b,AVal.sb at',AVal.dsl (Cd.case:Cd) cs,AVal.dsl (Cd.int:Cd) v] 56 false false 0 0 [(0,0,5)],AObj.cells [AVal.si .i64 m] 3 false false 1 0 [(1,0,1)]])
 refine A0A (t:=.ite (decide (i<(cs.length:Int))) (.ite (decide (0≤i)&&decide (i<(cs.length:Int)))
  (.ite (decide (0<i)) (.ite (decide (0≤IntKind.i64.wrap (i-1))&&decide (IntKind.i64.wrap (i-1)<(cs.length:Int))) (.ite (dec True)
    (.ite (!decide (H0j (cs.getD (IntKind.i64.wrap (i-1)).toNat B0h).name (cs.getD (IntKind.i64.wrap (i-1)).toNat B0h).arity (cs.getD i.toNat B0h).name (cs.getD i.toNat B0h).arity<0)) (.leaf C0R)
     (N0m m at' (cs.getD i.toNat B0h) N)) .fail) .fail)
   (N0m m at' (cs.getD i.toNat B0h) N)) .fail) (.leaf (true,.exit 0,[],[]))) (by kernel_rfl) ?_
 refine A0b (fun hlt=>?_) (fun hlt=>?_)
 ·have hlt:=of_decide_eq_true hlt
  have hd:=A0w cs i B0h hi0 hlt
  have hw:IntKind.i64.wrap (i+1)=i+1:=A0C (by omega) (by omega)
  refine A0c (by simp[hi0,hlt]) ?_
  have bad:(H0C (E0E cs i) (cs.getD i.toNat B0h)||C0c m at' (cs.getD i.toNat B0h))=true→(M0T m at' cs i).val=some (AExit.ret,[AVal.sb false],[]):=by
   intro h
   unfold M0T;rw[hd]
   unfold D0F
   rw[h];rfl
  have good:(H0C (E0E cs i) (cs.getD i.toNat B0h)||C0c m at' (cs.getD i.toNat B0h))=false→(M0T m at' cs (i+1)).val=(M0T m at' cs i).val:=by
   intro h
   unfold M0T
   rw[hd,Q0D hi0]
   conv=>rhs;unfold D0F
   rw[h,Bool.false_or]
  have rest:H0C (E0E cs i) (cs.getD i.toNat B0h)=false→(N0m m at' (cs.getD i.toNat B0h) N).holds fun q=>q.1=true∧match q.2.1 with
   |.normal=>∃x' y',Pts.vals (rgtL.keep.map (·.2)) x'=q.2.2.1∧Pos.obs (rgtL.objs.map (·.2)) y'=q.2.2.2∧rgtL.inv x' y'∧((fun(x:RgtX)(_:RgtY)=>((x.2.2.1.length:Int)-x.2.2.2.2.1).toNat) x' y')<((cs.length:Int)-i).toNat∧(rgtL.res x' y').val=(M0T m at' cs i).val
   |e=>(M0T m at' cs i).val=some (e,q.2.2):=by
   intro ho
   refine a0Q (fun h=>⟨rfl,bad (by rw[ho,h];rfl)⟩) (fun h=>⟨rfl,((),((),()),cs,(cs.length:Int),IntKind.i64.wrap (i+1),()),((a,b,at',cs,v,()),(m,()),()),rfl,rfl,?_,?_,?_⟩)
   ·show rgtV cs (cs.length:Int) (IntKind.i64.wrap (i+1)) cs
    rw[hw];exact⟨rfl,rfl,by omega,by omega,h400⟩
   ·show((cs.length:Int)-IntKind.i64.wrap (i+1)).toNat<_
    rw[hw];omega
   ·show(M0T m at' cs (IntKind.i64.wrap (i+1))).val=_
    rw[hw];exact good (by rw[ho,h];rfl)
  refine A0b (fun hp=>?_) (fun hp=>rest ?_)
  ·have hp:=of_decide_eq_true hp
   have hw2:IntKind.i64.wrap (i-1)=i-1:=A0C (by omega) (by omega)
   have hpr:E0E cs i=some (cs.getD (i-1).toNat B0h):=by unfold E0E;rw[if_pos hp]
   rw[hw2]
   refine A0c (by simp;omega) (A0c (A0g trivial) (A0b (fun h=>A0L ⟨rfl,bad ?_⟩) (fun h=>rest ?_)))
   ·rw[hpr];unfold H0C;simp only[];rw[h];rfl
   ·rw[hpr];exact h
  ·have hp:=of_decide_eq_false hp
   unfold E0E;rw[if_neg hp];rfl
 ·have hlt:=of_decide_eq_false hlt
  refine⟨rfl,?_⟩
  show(M0T m at' cs i).val=_
  unfold M0T
  rw[A0N cs i hi1 hlt]
  rfl
noncomputable def rightC:FSpec:=⟨[.agg R0h,.i .i64],fun _=>True,fun(x:S0c×Int×Unit)=>.leaf (.sb (C0x x.2.1 ⟨x.1.1,x.1.2.1,x.1.2.2.1,x.1.2.2.2.1,x.1.2.2.2.2.1⟩))⟩
theorem V0T:rightC.Kept Tryz.prog 70:=by
 have hL:∀p∈[(0,rgtL.loop [])],A0h Tryz.prog p.2:=lpc d0W lp0
 have hmk:mkFn Tryz.prog 70=some (.code (A0u [(0,rgtL.loop [])] (cd Tryz.f70 [0])) Tryz.f70.ntmps Tryz.f70.results.toList):=by kernel_rfl
 refine B0w U0Z hL rightC 70 Tryz.f70 [0] hmk (by kernel_rfl) ?_
 intro xx _;obtain⟨⟨a,b,at',cs,v,u1⟩,m,u2⟩:S0c×Int×Unit:=xx
 refine A0A (t:=.ite (decide (400<(cs.length:Int))) (.leaf (true,.sb false)) (.ite (decide (1<(v.length:Int))) (.leaf (true,.sb false))
  (.ite (dec ((∀e∈v,noQ e (show Pts [.box Cd.int] from(m,())))∧v.length≤maxL)) (.ite (v.any (outB m)) (.leaf (true,.sb false))
   (.ite (dec (rgtV cs (cs.length:Int) 0 cs)) (.ite (D0F m at' none cs) (.leaf (true,.sb false)) (.leaf (true,.sb true))) .fail)) .fail))) (by kernel_rfl) ?_
 have res:∀q,C0x m ⟨a,b,at',cs,v⟩=q→(Dt.leaf (true,AVal.sb q)).holds fun q=>q.1=true∧(rightC.res ((a,b,at',cs,v,u1),m,u2)).val=some q.2:=by
  intro q h
  refine A0L ⟨rfl,?_⟩
  show some (AVal.sb (C0x m ⟨a,b,at',cs,v⟩))=_
  rw[h]
 refine A0b (fun a1=>res _ (by simp only[C0x,a1,Bool.true_or,Bool.not_true])) fun a1=>?_
 refine A0b (fun a2=>res _ (by simp only[C0x,a2,Bool.true_or,Bool.or_true,Bool.not_true])) fun a2=>?_
 have b1:=of_decide_eq_false a1
 have b2:=of_decide_eq_false a2
 refine A0c (A0g ⟨fun _ _=>trivial,by unfold maxL;omega⟩) ?_
 refine A0b (fun a3=>res _ (by simp only[C0x,a3,Bool.true_or,Bool.or_true,Bool.not_true])) fun a3=>?_
 refine A0c (A0g ⟨rfl,rfl,by omega,by omega,by omega⟩) ?_
 refine A0b (fun a4=>res _ (by simp only[C0x,a4,Bool.or_true,Bool.not_true])) fun a4=>res _ (by simp only[C0x,a1,a2,a3,a4,Bool.or_false,Bool.not_false])
noncomputable def J0X(c:Pts [.box Cd.sorts])(s:Srt):Bool:=!C0x ((show List Srt from c.1).length:Int) s
noncomputable def chk1C:FSpec:=⟨[.agg R0h,.box Cd.sorts],fun _=>True,fun(x:S0c×List Srt×Unit)=>.leaf (.sb (!C0x (x.2.1.length:Int) ⟨x.1.1,x.1.2.1,x.1.2.2.1,x.1.2.2.2.1,x.1.2.2.2.2.1⟩))⟩
theorem Y0K:chk1C.Kept Tryz.prog 69:=by
 refine B0w (ctc V0T ct0) lp0 chk1C 69 Tryz.f69 [] (by kernel_rfl) (by kernel_rfl) ?_
 intro xx _;obtain⟨⟨a,b,at',cs,v,u1⟩,g,u2⟩:S0c×List Srt×Unit:=xx
 refine A0A (t:=.ite (dec True) (.leaf (true,.sb (!C0x (g.length:Int) ⟨a,b,at',cs,v⟩))) .fail) (by kernel_rfl) ?_
 exact A0c (A0g trivial) (A0L ⟨rfl,rfl⟩)
def f0M(l:List Srt)(c:Pts [.box Cd.sorts])(n i:Int):Prop:=(∀e∈l,noQ e c)∧l.length≤maxL∧n=(l.length:Int)∧0≤i∧i≤(l.length:Int)
noncomputable def b0f:PSpec:=
 {body:=B0e Tryz.f116 0,nt:=19,nx:=0,room:=8,keep:=[(0,.d .sort),(1,.fn 69 [.box Cd.sorts]),(7,.i .i64),(8,.i .i64)],objs:=[]
  keepX:=fun x=>match x with |.ret=>[4]|_=>[],objsX:=fun _=>[]
  inv:=fun(x:List Srt×Pts [.box Cd.sorts]×Int×Int×Unit) _=>f0M x.1 x.2.1 x.2.2.1 x.2.2.2.1
  res:=fun(x:List Srt×Pts [.box Cd.sorts]×Int×Int×Unit) _=>L0V (J0X x.2.1) x.1 x.2.2.2.1}
theorem b0g:A0h Tryz.prog ((b0f).loop []):=by
 refine G0w (ctc (Y0K) ct0) lp0 (b0f) (fun(x:List Srt×Pts [.box Cd.sorts]×Int×Int×Unit) _=>((x.1.length:Int)-x.2.2.2.1).toNat) (by kernel_rfl) ?_
 intro xx y hx
 obtain⟨l,c,n,i,u⟩:List Srt×Pts [.box Cd.sorts]×Int×Int×Unit:=xx
 obtain⟨hQ,hm,hn,h4,h5⟩:(∀e∈l,noQ e c)∧l.length≤maxL∧n=(l.length:Int)∧0≤i∧i≤(l.length:Int):=hx
 have hm2:=G0y hm
 subst hn
 let z:Srt:=Univ.dflt (.sort:Cd)
 refine A0A (t:=.ite (decide (i<(l.length:Int)))
   (.ite (decide (0≤i)&&decide (i<(l.length:Int)))
    (.ite (dec (noQ (l.getD i.toNat z) c))
     (.ite (J0X c (l.getD i.toNat z)) (.leaf (true,.ret,[.si .i64 i],[]))
      (.leaf (true,.normal,[AVal.dsl (.sort:Cd) l,.fn 69 [] (Pts.vals [.box Cd.sorts] c),.si .i64 (l.length:Int),.si .i64 (IntKind.i64.wrap (i+1))],[])))
     .fail) .fail)
   (.leaf (true,.exit 0,[],[]))) (by kernel_rfl) ?_
 refine A0b (fun hlt=>?_) (fun hlt=>?_)
 ·have hlt:=of_decide_eq_true hlt
  refine A0c (by simp[h4,hlt]) (A0c (A0g (hQ _ (A0H l i z h4 hlt))) (A0b (fun hp=>⟨rfl,P0l z h4 hlt hp⟩) (fun hp=>⟨rfl,(l,c,(l.length:Int),IntKind.i64.wrap (i+1),()),(),rfl,rfl,?_⟩)))
  rw[A0C (by omega) (by omega)]
  refine⟨⟨hQ,hm,rfl,by show(0:Int)≤i+1;omega,by show i+1≤(l.length:Int);omega⟩,by show((l.length:Int)-(i+1)).toNat<((l.length:Int)-i).toNat;omega,?_⟩
  exact V0k z h4 hlt hp
 ·exact⟨rfl,P0F h5 (of_decide_eq_false hlt)⟩
noncomputable def e0Y:FSpec:=⟨[.d .sort,.fn 69 [.box Cd.sorts]],fun(x:List Srt×Pts [.box Cd.sorts]×Unit)=>(∀e∈x.1,noQ e x.2.1)∧x.1.length≤maxL,
 fun(x:List Srt×Pts [.box Cd.sorts]×Unit)=>.ite (x.1.any (J0X x.2.1)) (.leaf (.si .i64 ((x.1.findIdx (J0X x.2.1):Nat):Int))) (.leaf (.si .i64 (-1)))⟩
theorem X0u:(e0Y).Kept Tryz.prog 116:=by
 have hL:∀p∈[(0,(b0f).loop [])],A0h Tryz.prog p.2:=lpc (b0g) lp0
 have hmk:mkFn Tryz.prog 116=some (.code (A0u [(0,(b0f).loop [])] (cd Tryz.f116 [0])) Tryz.f116.ntmps Tryz.f116.results.toList):=by kernel_rfl
 refine B0w ct0 hL (e0Y) 116 Tryz.f116 [0] hmk (by kernel_rfl) ?_
 intro xx hx
 obtain⟨l,c,u⟩:List Srt×Pts [.box Cd.sorts]×Unit:=xx
 have hx:(∀e∈l,noQ e c)∧l.length≤maxL:=hx
 have hQ:=hx.1
 have hm:=hx.2
 refine A0A (t:=.ite (dec (f0M l c (l.length:Int) 0)) (.ite (l.any (J0X c)) (.leaf (true,.si .i64 (0+(l.findIdx (J0X c):Nat)))) (.leaf (true,.si .i64 (-1)))) .fail) (by kernel_rfl) ?_
 refine A0c (A0g ⟨hQ,hm,rfl,by show(0:Int)≤0;omega,by show(0:Int)≤l.length;omega⟩) (A0b (fun hp=>⟨rfl,?_⟩) fun hp=>⟨rfl,?_⟩)
 ·show(Dt.ite (l.any (J0X c)) _ _:Dt AVal).val=_
  rw[hp];simp[Dt.val]
 ·show(Dt.ite (l.any (J0X c)) _ _:Dt AVal).val=_
  rw[hp];simp[Dt.val]
noncomputable def f0n:FSpec:=⟨[.d .sort,.fn 69 [.box Cd.sorts]],fun(x:List Srt×Pts [.box Cd.sorts]×Unit)=>(∀e∈x.1,noQ e x.2.1)∧x.1.length≤maxL,
 fun(x:List Srt×Pts [.box Cd.sorts]×Unit)=>.leaf (.sb (x.1.any (J0X x.2.1)))⟩
theorem W0L:(f0n).Kept Tryz.prog 68:=by
 refine B0w (ctc (X0u) ct0) lp0 (f0n) 68 Tryz.f68 [] (by kernel_rfl) (by kernel_rfl) ?_
 intro xx hx
 obtain⟨l,c,u⟩:List Srt×Pts [.box Cd.sorts]×Unit:=xx
 have hx:(∀e∈l,noQ e c)∧l.length≤maxL:=hx
 refine A0A (t:=.ite (dec ((∀e∈l,noQ e c)∧l.length≤maxL)) (.ite (l.any (J0X c)) (.leaf (true,.sb (!decide ((l.findIdx (J0X c):Int)<0)))) (.leaf (true,.sb (!decide ((-1:Int)<0))))) .fail) (by kernel_rfl) ?_
 refine A0c (A0g hx) (A0b (fun hp=>⟨rfl,?_⟩) fun hp=>⟨rfl,?_⟩)
 ·show some (AVal.sb (l.any (J0X c)))=some (AVal.sb _)
  rw[hp];simp
 ·show some (AVal.sb (l.any (J0X c)))=some (AVal.sb _)
  rw[hp];simp
noncomputable def B0l(g:List Srt):Bool:=!(decide (2000<(g.length:Int))||g.any fun s=>!C0x (g.length:Int) s)
noncomputable def errG(g:List Srt):Int:=if B0l g=true then 0 else 110
noncomputable def checkC:FSpec:=⟨[.d Cd.sort],fun _=>True,fun(x:List Srt×Unit)=>.leaf (.si .i64 (errG x.1))⟩
theorem V0G:checkC.Kept Tryz.prog 39:=by
 refine B0w (ctc W0L ct0) lp0 checkC 39 Tryz.f39 [] (by kernel_rfl) (by kernel_rfl) ?_
 intro xx _;obtain⟨g,u⟩:List Srt×Unit:=xx
 refine A0A (t:=.ite (decide (2000<(g.length:Int))) (.leaf (true,.si .i64 110)) (.ite (dec ((∀e∈g,noQ e (show Pts [.box Cd.sorts] from(g,())))∧g.length≤maxL))
  (.ite (g.any fun s=>!C0x (g.length:Int) s) (.leaf (true,.si .i64 110)) (.leaf (true,.si .i64 0))) .fail)) (by kernel_rfl) ?_
 have res:∀e,errG g=e→(Dt.leaf (true,AVal.si .i64 e)).holds fun q=>q.1=true∧(checkC.res (g,u)).val=some q.2:=by
  intro e h
  refine A0L ⟨rfl,?_⟩
  show some (AVal.si .i64 (errG g))=_
  rw[h]
 refine A0b (fun h=>res _ ?_) fun h=>?_
 ·unfold errG B0l;rw[h,Bool.true_or,Bool.not_true];rfl
 have b:=of_decide_eq_false h
 refine A0c (A0g ⟨fun _ _=>trivial,by unfold maxL;omega⟩) (A0b (fun h2=>res _ ?_) fun h2=>res _ ?_)
 ·unfold errG B0l;rw[h2,Bool.or_true,Bool.not_true];rfl
 ·unfold errG B0l;rw[h,h2];rfl
noncomputable def askE(g:List Srt)(s:Int):Int:=if errG g=0 then(if s<0 then 1 else if s<(g.length:Int) then 0 else 1) else errG g
noncomputable def askC:FSpec:=⟨[.d Cd.sort,.i .i64],fun _=>True,fun(x:List Srt×Int×Unit)=>.leaf (.si .i64 (askE x.1 x.2.1))⟩
theorem U0H:askC.Kept Tryz.prog 28:=by
 refine B0w (ctc V0G ct0) lp0 askC 28 Tryz.f28 [] (by kernel_rfl) (by kernel_rfl) ?_
 intro xx _;obtain⟨g,s,u⟩:List Srt×Int×Unit:=xx
 refine A0A (t:=.ite (dec True) (.ite (!decide (errG g=0)) (.leaf (true,.si .i64 (errG g))) (.ite (decide (s<0)) (.leaf (true,.si .i64 1))
  (.ite (!decide (s<(g.length:Int))) (.leaf (true,.si .i64 1)) (.leaf (true,.si .i64 0))))) .fail) (by kernel_rfl) ?_
 have res:∀e,askE g s=e→(Dt.leaf (true,AVal.si .i64 e)).holds fun q=>q.1=true∧(askC.res (g,s,u)).val=some q.2:=by
  intro e h
  refine A0L ⟨rfl,?_⟩
  show some (AVal.si .i64 (askE g s))=_
  rw[h]
 refine A0c (A0g trivial) (A0b (fun h=>res _ ?_) fun h=>A0b (fun h2=>res _ ?_) fun h2=>A0b (fun h3=>res _ ?_) fun h3=>res _ ?_)
 ·unfold askE;rw[if_neg (by simpa using h)]
 ·unfold askE;rw[if_pos (by simpa using h),if_pos (of_decide_eq_true h2)]
 ·unfold askE;rw[if_pos (by simpa using h),if_neg (of_decide_eq_false h2),if_neg (by simpa using h3)]
 ·unfold askE;rw[if_pos (by simpa using h),if_neg (of_decide_eq_false h2),if_pos (by simpa using h3)]
noncomputable def ordC(c:A0n)(s:ByteArray)(a:Int):Int:=H0j c.name c.arity s a
def midW(i j:Int):Int:=IntKind.i64.wrap ((IntKind.u64.wrap (IntKind.i64.wrap (i+j))).fdiv (2^min 1 IntKind.u64.bits))
theorem f0k{i j:Int}(h0:0≤i)(h1:i≤j)(h2:j≤1000000):midW i j=(i+j)/2:=by
 unfold midW
 have e1:IntKind.i64.wrap (i+j)=i+j:=A0C (by omega) (by omega)
 have e2:IntKind.u64.wrap (i+j)=i+j:=by
  simp only[IntKind.wrap,IntKind.bits,IntKind.signed,Bool.false_and,Bool.false_eq_true,if_false];omega
 have e3:(2:Int)^min 1 IntKind.u64.bits=2:=by rfl
 rw[e1,e2,e3,Int.fdiv_eq_ediv_of_nonneg _ (by omega)]
 exact A0C (by omega) (by omega)
noncomputable def bsF(l:List A0n)(s:ByteArray)(a:Int):Nat→Int→Int→Int
 |0,i,_=>i
 |f+1,i,j=>if i<j then(if ordC (l.getD ((i+j)/2).toNat B0h) s a<0 then bsF l s a f ((i+j)/2+1) j else bsF l s a f i ((i+j)/2)) else i
noncomputable def bsV(l:List A0n)(s:ByteArray)(a:Int)(i j:Int):Int:=bsF l s a (j-i).toNat i j
theorem I0z(l:List A0n)(s:ByteArray)(a:Int):∀(f g:Nat)(i j:Int),(j-i).toNat≤f→(j-i).toNat≤g→bsF l s a f i j=bsF l s a g i j
 |0,0,_,_,_,_=>rfl
 |0,g+1,i,j,h,_=>by unfold bsF;rw[if_neg (by omega)]
 |f+1,0,i,j,_,h=>by unfold bsF;rw[if_neg (by omega)]
 |
  f+1,g+1,i,j,h1,h2=>by
  unfold bsF
  by_cases c:i<j
  ·rw[if_pos c,if_pos c,I0z l s a f g _ _ (by omega) (by omega),I0z l s a f g _ _ (by omega) (by omega)]
  ·rw[if_neg c,if_neg c]
theorem c0S{l:List A0n}{s:ByteArray}{a i j:Int}(h:i<j):bsV l s a i j=if ordC (l.getD ((i+j)/2).toNat B0h) s a<0 then bsV l s a ((i+j)/2+1) j else bsV l s a i ((i+j)/2):=by
 have e:bsV l s a i j=bsF l s a ((j-i).toNat-1+1) i j:=I0z l s a _ _ _ _ (by omega) (by omega)
 rw[e]
 unfold bsF
 rw[if_pos h]
 unfold bsV
 rw[I0z l s a ((j-i).toNat-1) (j-((i+j)/2+1)).toNat _ _ (by omega) (by omega),I0z l s a ((j-i).toNat-1) ((i+j)/2-i).toNat _ _ (by omega) (by omega)]
theorem e0r{l:List A0n}{s:ByteArray}{a i j:Int}(h:¬i<j):bsV l s a i j=i:=by
 unfold bsV;rw[show(j-i).toNat=0 by omega];rfl
abbrev BsX:Type:=List A0n×Unit×Unit×Int×Int×Int×Unit
abbrev BsY:Type:=SymX×Unit
def bsI(l:List A0n)(n i j:Int):Prop:=n=(l.length:Int)∧0≤i∧i≤j∧j≤(l.length:Int)∧(l.length:Int)≤1000000
noncomputable def bsL:PSpec:=
 {body:=B0e Tryz.f108 0,nt:=49,nx:=1,room:=8,keep:=[(0,.d Cd.case),(2,.fn 109 []),(4,.p 0 0),(8,.i .i64),(9,.i .i64),(10,.i .i64)],objs:=[(0,.cells [.s,.i .i64] 51 0 0 [(0,0,2)])]
  keepX:=fun _=>[0,2,4,8,9],objsX:=fun _=>[0]
  inv:=fun(x:BsX) _=>bsI x.1 x.2.2.2.1 x.2.2.2.2.1 x.2.2.2.2.2.1
  res:=fun(x:BsX)(y:BsY)=>.leaf (.exit 0,[.dsl (Cd.case:Cd) x.1,.fn 109 [] [],.ptr 0 0,.si .i64 x.2.2.2.1,.si .i64 (bsV x.1 y.1.1 y.1.2.1 x.2.2.2.2.1 x.2.2.2.2.2.1)],
   [.cells [.ss y.1.1,.si .i64 y.1.2.1] 51 false false 0 0 [(0,0,2)]])}
theorem f0O:A0h Tryz.prog (bsL.loop []):=by
 refine G0w (ctc J0M ct0) lp0 bsL (fun(x:BsX) _=>(x.2.2.2.2.2.1-x.2.2.2.2.1).toNat) (by kernel_rfl) ?_
 intro xx yy hx
 obtain⟨l,u1,u2,n,i,j,u3⟩:BsX:=xx
 obtain⟨⟨s,a,u4⟩,u5⟩:BsY:=yy
 have hx:bsI l n i j:=hx
 unfold bsI at hx
 obtain⟨hn,h0,h1,h2,h3⟩:=hx
 refine A0A (t:=.ite (decide (i<j)) (.ite (decide (0≤midW i j)&&decide (midW i j<(l.length:Int))) (.ite (dec True)
   (.ite (decide (ordC (l.getD (midW i j).toNat B0h) s a<0))
    (.leaf (true,.normal,[.dsl (Cd.case:Cd) l,.fn 109 [] [],.ptr 0 0,.si .i64 n,.si .i64 (IntKind.i64.wrap (midW i j+1)),.si .i64 j],[.cells [.ss s,.si .i64 a] 51 false false 0 0 [(0,0,2)]]))
    (.leaf (true,.normal,[.dsl (Cd.case:Cd) l,.fn 109 [] [],.ptr 0 0,.si .i64 n,.si .i64 i,.si .i64 (midW i j)],[.cells [.ss s,.si .i64 a] 51 false false 0 0 [(0,0,2)]]))) .fail) .fail)
  (.leaf (true,.exit 0,[.dsl (Cd.case:Cd) l,.fn 109 [] [],.ptr 0 0,.si .i64 n,.si .i64 i],[.cells [.ss s,.si .i64 a] 51 false false 0 0 [(0,0,2)]]))) (by kernel_rfl) ?_
 rw[f0k h0 h1 (by omega)]
 refine A0b (fun hlt=>?_) (fun hlt=>⟨rfl,?_⟩)
 ·have hlt:=of_decide_eq_true hlt
  have hs:=c0S (l:=l) (s:=s) (a:=a) hlt
  have hw:IntKind.i64.wrap ((i+j)/2+1)=(i+j)/2+1:=A0C (by omega) (by omega)
  rw[hw]
  refine A0c (by simp;omega) (A0c (A0g trivial) (A0b (fun h=>⟨rfl,(l,(),(),n,(i+j)/2+1,j,()),((s,a,()),()),rfl,rfl,?_,?_,?_⟩) (fun h=>⟨rfl,(l,(),(),n,i,(i+j)/2,()),((s,a,()),()),rfl,rfl,?_,?_,?_⟩)))
  ·show bsI l n ((i+j)/2+1) j
   exact⟨hn,by omega,by omega,h2,h3⟩
  ·show(j-((i+j)/2+1)).toNat<(j-i).toNat
   omega
  ·rw[if_pos (of_decide_eq_true h)] at hs
   show some _=some _
   rw[hs]
   rfl
  ·show bsI l n i ((i+j)/2)
   exact⟨hn,by omega,by omega,by omega,h3⟩
  ·show((i+j)/2-i).toNat<(j-i).toNat
   omega
  ·rw[if_neg (of_decide_eq_false h)] at hs
   show some _=some _
   rw[hs]
   rfl
 ·have hs:=e0r (l:=l) (s:=s) (a:=a) (of_decide_eq_false hlt)
  show some _=some _
  rw[hs]
noncomputable def B0m(l:List A0n)(s:ByteArray)(a:Int):Int:=bsV l s a 0 (l.length:Int)
noncomputable def C0e(l:List A0n)(s:ByteArray)(a:Int):Bool:=decide (B0m l s a<(l.length:Int))&&decide (ordC (l.getD (B0m l s a).toNat B0h) s a=0)
theorem P0j(l:List A0n)(s:ByteArray)(a:Int):∀(f:Nat)(i j:Int),0≤i→i≤j→0≤bsF l s a f i j∧bsF l s a f i j≤j
 |0,i,j,h,k=>⟨h,k⟩
 |
  f+1,i,j,h,k=>by
  unfold bsF
  by_cases c:i<j
  ·rw[if_pos c]
   split
   ·exact P0j l s a f _ _ (by omega) (by omega)
   ·have :=P0j l s a f i ((i+j)/2) (by omega) (by omega)
    omega
  ·rw[if_neg c];omega
theorem E0r(l:List A0n)(s:ByteArray)(a:Int):0≤B0m l s a∧B0m l s a≤(l.length:Int):=P0j l s a _ _ _ (Int.le_refl _) (by omega)
abbrev BsA:Type:=List A0n×SymX×Unit×Unit
noncomputable def bsC:FSpec:=⟨[.d Cd.case,symP,.fn 109 []],fun(x:BsA)=>(x.1.length:Int)≤1000000,fun(x:BsA)=>.leaf (.tup [.si .i64 (B0m x.1 x.2.1.1 x.2.1.2.1),.sb (C0e x.1 x.2.1.1 x.2.1.2.1)])⟩
theorem c0D:bsC.Kept Tryz.prog 108:=by
 have hL:∀p∈[(0,bsL.loop [])],A0h Tryz.prog p.2:=lpc f0O lp0
 have hmk:mkFn Tryz.prog 108=some (.code (A0u [(0,bsL.loop [])] (cd Tryz.f108 [0])) Tryz.f108.ntmps Tryz.f108.results.toList):=by kernel_rfl
 refine B0w (ctc J0M ct0) hL bsC 108 Tryz.f108 [0] hmk (by kernel_rfl) ?_
 intro xx hx
 obtain⟨l,⟨s,a,u1⟩,u2,u3⟩:BsA:=xx
 have hl:(l.length:Int)≤1000000:=hx
 refine A0A (t:=.ite (dec (bsI l (l.length:Int) 0 (l.length:Int))) (.ite (decide (B0m l s a<(l.length:Int))) (.ite (decide (0≤B0m l s a)&&decide (B0m l s a<(l.length:Int))) (.ite (dec True)
   (.leaf (true,.tup [.si .i64 (B0m l s a),.sb (decide (ordC (l.getD (B0m l s a).toNat B0h) s a=0))])) .fail) .fail)
  (.leaf (true,.tup [.si .i64 (B0m l s a),.sb false]))) .fail) (by kernel_rfl) ?_
 have hb:=E0r l s a
 refine A0c (A0g ⟨rfl,by omega,by omega,by omega,hl⟩) (A0b (fun h=>A0c ?_ (A0c (A0g trivial) (A0L ⟨rfl,?_⟩))) (fun h=>A0L ⟨rfl,?_⟩))
 ·have :=of_decide_eq_true h
  simp;omega
 ·show some (AVal.tup [.si .i64 (B0m l s a),.sb (C0e l s a)])=_
  unfold C0e;rw[h,Bool.true_and]
 ·show some (AVal.tup [.si .i64 (B0m l s a),.sb (C0e l s a)])=_
  unfold C0e;rw[h,Bool.false_and]
abbrev c0y:Type:=S0c×SymX×Unit
noncomputable def Q0I(l:List A0n)(s:ByteArray)(a:Int):Dt AVal:=.ite (C0e l s a)
 (.leaf (.tup [.agg [.ss (l.getD (B0m l s a).toNat B0h).name,.si .i64 (l.getD (B0m l s a).toNat B0h).arity,.dsl (Cd.int:Cd) (l.getD (B0m l s a).toNat B0h).args],.sb true]))
 (.leaf (.tup [.agg [.ss (sStr []),.si .i64 0,.nils],.sb false]))
noncomputable def findC:FSpec:=⟨[.agg R0h,symP],fun(x:c0y)=>(x.1.2.2.2.1.length:Int)≤1000000,fun(x:c0y)=>Q0I x.1.2.2.2.1 x.2.1.1 x.2.1.2.1⟩
theorem Y0p:findC.Kept Tryz.prog 60:=by
 refine B0w (ctc c0D ct0) lp0 findC 60 Tryz.f60 [] (by kernel_rfl) (by kernel_rfl) ?_
 intro xx hx
 obtain⟨⟨b1,b2,b3,l,v,u0⟩,⟨s,a,u1⟩,u2⟩:c0y:=xx
 have hl:(l.length:Int)≤1000000:=hx
 refine A0A (t:=.ite (dec ((l.length:Int)≤1000000)) (.ite (!C0e l s a) (.leaf (true,.tup [.agg [.ss (sStr []),.si .i64 0,.nils],.sb false]))
  (.ite (decide (0≤B0m l s a)&&decide (B0m l s a<(l.length:Int))) (.leaf (true,.tup [.agg [.ss (l.getD (B0m l s a).toNat B0h).name,.si .i64 (l.getD (B0m l s a).toNat B0h).arity,.dsl (Cd.int:Cd) (l.getD (B0m l s a).toNat B0h).args],.sb true])) .fail)) .fail) (by kernel_rfl) ?_
 have hb:=E0r l s a
 refine A0c (A0g hl) (A0b (fun h=>A0L ⟨rfl,?_⟩) (fun h=>A0c ?_ (A0L ⟨rfl,?_⟩)))
 ·have h:C0e l s a=false:=by simpa using h
  show(Q0I l s a).val=_
  unfold Q0I;rw[h];rfl
 ·have h:C0e l s a=true:=by simpa using h
  unfold C0e at h
  rw[Bool.and_eq_true] at h
  rw[h.1,Bool.and_true];simp;omega
 ·have h:C0e l s a=true:=by simpa using h
  show(Q0I l s a).val=_
  unfold Q0I;rw[h];rfl
def Q0g:Srt:=Univ.dflt (Cd.sort:Cd)
def gAt(g:List Srt)(i:Int):Srt:=g.getD i.toNat Q0g
noncomputable def F0K(l:List A0n)(s:ByteArray)(a:Int):A0n:=l.getD (B0m l s a).toNat B0h
mutual
noncomputable def fitT(g:List Srt):Trm→Int→Bool
 |
  ⟨k,_,s,l⟩,i=>if k=1 then true else if k=2 then(gAt g i).int else if k=4 then(gAt g i).str
  else if k=6 then decide (((gAt g i).vec.length:Int)=1)&&fitA g l ((gAt g i).vec.getD 0 0)
  else if C0e (gAt g i).cases s (l.length:Int)=true then E0D g l (F0K (gAt g i).cases s (l.length:Int)).args else decide (k=3)&&(gAt g i).atom
noncomputable def fitA(g:List Srt):List Trm→Int→Bool
 |[],_=>true
 |x::l,i=>fitT g x i&&fitA g l i
noncomputable def E0D(g:List Srt):List Trm→List Int→Bool
 |[],_=>true
 |x::l,ys=>fitT g x (ys.headD 0)&&E0D g l ys.tail
end
mutual
def K0h:Trm→Prop
 |⟨_,_,_,l⟩=>l.length≤64∧Q0z l
def Q0z:List Trm→Prop
 |[]=>True
 |x::l=>K0h x∧Q0z l
end
theorem S0p:∀{l:List Trm},Q0z l→∀x∈l,K0h x
 |[],_,x,h=>by cases h
 |
  y::l,hf,x,h=>by
  unfold Q0z at hf
  rcases List.mem_cons.1 h with e|e
  ·rw[e];exact hf.1
  ·exact S0p hf.2 x e
theorem U0b(g:List Srt)(i:Int):∀l:List Trm,fitA g l i=!(l.any fun x=>!fitT g x i)
 |[]=>by unfold fitA;rfl
 |
  x::l=>by
  unfold fitA
  rw[U0b g i l,List.any_cons]
  cases fitT g x i<;>simp
theorem L0l{m:Int}{atom:Bool}:∀{l:List A0n}{p:Option A0n},D0F m atom p l=false→∀c∈l,C0c m atom c=false
 |[],_,_,c,h=>by cases h
 |
  d::l,p,hb,c,h=>by
  unfold D0F at hb
  rw[Bool.or_eq_false_iff,Bool.or_eq_false_iff] at hb
  rcases List.mem_cons.1 h with e|e
  ·rw[e];exact hb.1.2
  ·exact L0l hb.2 c e
def inG(g:List Srt)(i:Int):Prop:=0≤i∧i<(g.length:Int)
theorem N0Y{n x:Int}(h:outB n x=false):0≤x∧x<n:=by
 unfold outB at h
 simp at h;omega
theorem E0g{g:List Srt}{i:Int}(h:B0l g=true)(hi:inG g i):C0x (g.length:Int) (gAt g i)=true:=by
 unfold B0l at h
 have hm:gAt g i∈g:=A0H g i Q0g hi.1 hi.2
 have h:(decide (2000<(g.length:Int))||g.any fun s=>!C0x (g.length:Int) s)=false:=by simpa using h
 rw[Bool.or_eq_false_iff] at h
 have :=List.any_eq_false.1 h.2 _ hm
 simpa using this
theorem D0r{m:Int}{s:Srt}(h:C0x m s=true):(s.cases.length:Int)≤400∧(s.vec.length:Int)≤1∧(∀x∈s.vec,0≤x∧x<m)∧∀c∈s.cases,(c.args.length:Int)=c.arity∧∀x∈c.args,0≤x∧x<m:=by
 unfold C0x at h
 have h:(decide (400<(s.cases.length:Int))||(decide (1<(s.vec.length:Int))||(s.vec.any (outB m)||D0F m s.atom none s.cases)))=false:=by simpa using h
 simp only[Bool.or_eq_false_iff,decide_eq_false_iff_not] at h
 obtain⟨h1,h2,h3,h4⟩:=h
 refine⟨by omega,by omega,fun x hx=>N0Y (by simpa using List.any_eq_false.1 h3 x hx),fun c hc=>?_⟩
 have :=L0l h4 c hc
 unfold C0c at this
 simp only[Bool.or_eq_false_iff] at this
 obtain⟨_,_,_,h5,h6,_⟩:=this
 exact⟨by simpa using h5,fun x hx=>N0Y (by simpa using List.any_eq_false.1 h6 x hx)⟩
def fitP(N:Nat)(g:List Srt)(i:Int)(t:Trm):Prop:=B0l g=true∧inG g i∧SizeOf.sizeOf t<N∧K0h t
abbrev FitX:Type:=List Srt×Int×D0j×Unit×Unit
noncomputable def fitS(N:Nat):FSpec:=⟨[.d Cd.sort,.i .i64,.agg B0O,.fn 31 []],fun(x:FitX)=>fitP N x.1 x.2.1 ⟨x.2.2.1.1,x.2.2.1.2.1,x.2.2.1.2.2.1,x.2.2.1.2.2.2.1⟩,
 fun(x:FitX)=>.leaf (.sb (fitT x.1 ⟨x.2.2.1.1,x.2.2.1.2.1,x.2.2.1.2.2.1,x.2.2.1.2.2.2.1⟩ x.2.1))⟩
abbrev FitC:Type:=List Srt×Int×Unit×Unit
def vec0(g:List Srt)(i:Int):Int:=(gAt g i).vec.getD 0 0
def L0y(N:Nat)(t:Trm)(c:Pts [.box Cd.sorts,.box Cd.int,.box Cd.any]):Prop:=
 B0l (show FitC from c).1=true∧inG (show FitC from c).1 (show FitC from c).2.1∧((gAt (show FitC from c).1 (show FitC from c).2.1).vec.length:Int)=1∧SizeOf.sizeOf t<N∧K0h t
noncomputable def I0q(c:Pts [.box Cd.sorts,.box Cd.int,.box Cd.any])(t:Trm):Bool:=!fitT (show FitC from c).1 t (vec0 (show FitC from c).1 (show FitC from c).2.1)
abbrev d0V:Type:=D0j×FitC
noncomputable def f0D(N:Nat):FSpec:=⟨[.agg B0O,.box Cd.sorts,.box Cd.int,.box Cd.any],fun(x:d0V)=>L0y N ⟨x.1.1,x.1.2.1,x.1.2.2.1,x.1.2.2.2.1⟩ x.2,
 fun(x:d0V)=>.leaf (.sb (I0q x.2 ⟨x.1.1,x.1.2.1,x.1.2.2.1,x.1.2.2.2.1⟩))⟩
theorem Z0e(N:Nat)(hK:(fitS N).Kept Tryz.prog 30):(f0D N).Kept Tryz.prog 59:=by
 refine B0w (ctc hK ct0) lp0 (f0D N) 59 Tryz.f59 [] (by kernel_rfl) (by kernel_rfl) ?_
 intro xx hx
 obtain⟨⟨k,n,s,l,u1⟩,g,i,u2,u3⟩:d0V:=xx
 have hq:L0y N ⟨k,n,s,l⟩ (g,i,u2,u3):=hx
 obtain⟨h1,h2,h3,h4,h5⟩:B0l g=true∧inG g i∧((gAt g i).vec.length:Int)=1∧SizeOf.sizeOf (⟨k,n,s,l⟩:Trm)<N∧K0h ⟨k,n,s,l⟩:=hq
 refine A0A (t:=.ite (decide (0≤i)&&decide (i<(g.length:Int))) (.ite (decide ((0:Int)≤0)&&decide ((0:Int)<((gAt g i).vec.length:Int)))
  (.ite (dec (fitP N g (vec0 g i) ⟨k,n,s,l⟩)) (.leaf (true,.sb (!fitT g ⟨k,n,s,l⟩ (vec0 g i)))) .fail) .fail) .fail) (by kernel_rfl) ?_
 have hv:=(D0r (E0g h1 h2)).2.2.1
 refine A0c (by simp;exact h2) (A0c (by simp;omega) (A0c (A0g ⟨h1,?_,h4,h5⟩) (A0L ⟨rfl,rfl⟩)))
 exact hv _ (A0H _ 0 0 (Int.le_refl _) (by omega))
def f0a(N:Nat)(l:List Trm)(c:Pts [.box Cd.sorts,.box Cd.int,.box Cd.any])(n i:Int):Prop:=(∀e∈l,(L0y N) e c)∧l.length≤maxL∧n=(l.length:Int)∧0≤i∧i≤(l.length:Int)
noncomputable def a0l(N:Nat):PSpec:=
 {body:=B0e Tryz.f107 0,nt:=19,nx:=0,room:=8,keep:=[(0,.d .term),(1,.fn 59 [.box Cd.sorts,.box Cd.int,.box Cd.any]),(7,.i .i64),(8,.i .i64)],objs:=[]
  keepX:=fun x=>match x with |.ret=>[4]|_=>[],objsX:=fun _=>[]
  inv:=fun(x:List Trm×Pts [.box Cd.sorts,.box Cd.int,.box Cd.any]×Int×Int×Unit) _=>f0a N x.1 x.2.1 x.2.2.1 x.2.2.2.1
  res:=fun(x:List Trm×Pts [.box Cd.sorts,.box Cd.int,.box Cd.any]×Int×Int×Unit) _=>L0V (I0q x.2.1) x.1 x.2.2.2.1}
theorem b0F(N:Nat)(hK:(fitS N).Kept Tryz.prog 30):A0h Tryz.prog ((a0l N).loop []):=by
 refine G0w (ctc (Z0e N hK) ct0) lp0 (a0l N) (fun(x:List Trm×Pts [.box Cd.sorts,.box Cd.int,.box Cd.any]×Int×Int×Unit) _=>((x.1.length:Int)-x.2.2.2.1).toNat) (by kernel_rfl) ?_
 intro xx y hx
 obtain⟨l,c,n,i,u⟩:List Trm×Pts [.box Cd.sorts,.box Cd.int,.box Cd.any]×Int×Int×Unit:=xx
 obtain⟨hQ,hm,hn,h4,h5⟩:(∀e∈l,(L0y N) e c)∧l.length≤maxL∧n=(l.length:Int)∧0≤i∧i≤(l.length:Int):=hx
 have hm2:=G0y hm
 subst hn
 let z:Trm:=Univ.dflt (.term:Cd)
 refine A0A (t:=.ite (decide (i<(l.length:Int)))
   (.ite (decide (0≤i)&&decide (i<(l.length:Int)))
    (.ite (dec ((L0y N) (eT (l.getD i.toNat z)) c))
     (.ite (I0q c (eT (l.getD i.toNat z))) (.leaf (true,.ret,[.si .i64 i],[]))
      (.leaf (true,.normal,[AVal.dsl (.term:Cd) l,.fn 59 [] (Pts.vals [.box Cd.sorts,.box Cd.int,.box Cd.any] c),.si .i64 (l.length:Int),.si .i64 (IntKind.i64.wrap (i+1))],[])))
     .fail) .fail)
   (.leaf (true,.exit 0,[],[]))) (by kernel_rfl) ?_
 rw[D0i]
 refine A0b (fun hlt=>?_) (fun hlt=>?_)
 ·have hlt:=of_decide_eq_true hlt
  refine A0c (by simp[h4,hlt]) (A0c (A0g (hQ _ (A0H l i z h4 hlt))) (A0b (fun hp=>⟨rfl,P0l z h4 hlt hp⟩) (fun hp=>⟨rfl,(l,c,(l.length:Int),IntKind.i64.wrap (i+1),()),(),rfl,rfl,?_⟩)))
  rw[A0C (by omega) (by omega)]
  refine⟨⟨hQ,hm,rfl,by show(0:Int)≤i+1;omega,by show i+1≤(l.length:Int);omega⟩,by show((l.length:Int)-(i+1)).toNat<((l.length:Int)-i).toNat;omega,?_⟩
  exact V0k z h4 hlt hp
 ·exact⟨rfl,P0F h5 (of_decide_eq_false hlt)⟩
noncomputable def f0v(N:Nat):FSpec:=⟨[.d .term,.fn 59 [.box Cd.sorts,.box Cd.int,.box Cd.any]],fun(x:List Trm×Pts [.box Cd.sorts,.box Cd.int,.box Cd.any]×Unit)=>(∀e∈x.1,(L0y N) e x.2.1)∧x.1.length≤maxL,
 fun(x:List Trm×Pts [.box Cd.sorts,.box Cd.int,.box Cd.any]×Unit)=>.ite (x.1.any (I0q x.2.1)) (.leaf (.si .i64 ((x.1.findIdx (I0q x.2.1):Nat):Int))) (.leaf (.si .i64 (-1)))⟩
theorem W0Z(N:Nat)(hK:(fitS N).Kept Tryz.prog 30):(f0v N).Kept Tryz.prog 107:=by
 have hL:∀p∈[(0,(a0l N).loop [])],A0h Tryz.prog p.2:=lpc (b0F N hK) lp0
 have hmk:mkFn Tryz.prog 107=some (.code (A0u [(0,(a0l N).loop [])] (cd Tryz.f107 [0])) Tryz.f107.ntmps Tryz.f107.results.toList):=by kernel_rfl
 refine B0w ct0 hL (f0v N) 107 Tryz.f107 [0] hmk (by kernel_rfl) ?_
 intro xx hx
 obtain⟨l,c,u⟩:List Trm×Pts [.box Cd.sorts,.box Cd.int,.box Cd.any]×Unit:=xx
 have hx:(∀e∈l,(L0y N) e c)∧l.length≤maxL:=hx
 have hQ:=hx.1
 have hm:=hx.2
 refine A0A (t:=.ite (dec (f0a N l c (l.length:Int) 0)) (.ite (l.any (I0q c)) (.leaf (true,.si .i64 (0+(l.findIdx (I0q c):Nat)))) (.leaf (true,.si .i64 (-1)))) .fail) (by kernel_rfl) ?_
 refine A0c (A0g ⟨hQ,hm,rfl,by show(0:Int)≤0;omega,by show(0:Int)≤l.length;omega⟩) (A0b (fun hp=>⟨rfl,?_⟩) fun hp=>⟨rfl,?_⟩)
 ·show(Dt.ite (l.any (I0q c)) _ _:Dt AVal).val=_
  rw[hp];simp[Dt.val]
 ·show(Dt.ite (l.any (I0q c)) _ _:Dt AVal).val=_
  rw[hp];simp[Dt.val]
noncomputable def e0X(N:Nat):FSpec:=⟨[.d .term,.fn 59 [.box Cd.sorts,.box Cd.int,.box Cd.any]],fun(x:List Trm×Pts [.box Cd.sorts,.box Cd.int,.box Cd.any]×Unit)=>(∀e∈x.1,(L0y N) e x.2.1)∧x.1.length≤maxL,
 fun(x:List Trm×Pts [.box Cd.sorts,.box Cd.int,.box Cd.any]×Unit)=>.leaf (.sb (x.1.any (I0q x.2.1)))⟩
theorem W0t(N:Nat)(hK:(fitS N).Kept Tryz.prog 30):(e0X N).Kept Tryz.prog 58:=by
 refine B0w (ctc (W0Z N hK) ct0) lp0 (e0X N) 58 Tryz.f58 [] (by kernel_rfl) (by kernel_rfl) ?_
 intro xx hx
 obtain⟨l,c,u⟩:List Trm×Pts [.box Cd.sorts,.box Cd.int,.box Cd.any]×Unit:=xx
 have hx:(∀e∈l,(L0y N) e c)∧l.length≤maxL:=hx
 refine A0A (t:=.ite (dec ((∀e∈l,(L0y N) e c)∧l.length≤maxL)) (.ite (l.any (I0q c)) (.leaf (true,.sb (!decide ((l.findIdx (I0q c):Int)<0)))) (.leaf (true,.sb (!decide ((-1:Int)<0))))) .fail) (by kernel_rfl) ?_
 refine A0c (A0g hx) (A0b (fun hp=>⟨rfl,?_⟩) fun hp=>⟨rfl,?_⟩)
 ·show some (AVal.sb (l.any (I0q c)))=some (AVal.sb _)
  rw[hp];simp
 ·show some (AVal.sb (l.any (I0q c)))=some (AVal.sb _)
  rw[hp];simp
def fitV(N:Nat)(g:List Srt)(l:List Trm)(len i:Int)(ys:List Int):Prop:=
 B0l g=true∧(∀x∈l,SizeOf.sizeOf x<N∧K0h x)∧l.length≤64∧len=(l.length:Int)∧0≤i∧i≤(l.length:Int)∧(ys.length:Int)=(l.length:Int)∧∀x∈ys,0≤x∧x<(g.length:Int)
noncomputable def Q0C(g:List Srt)(l:List Trm)(i:Int)(ys:List Int):Dt (AExit×List AVal×List AObj):=
 .ite (!E0D g (l.drop i.toNat) (ys.drop i.toNat)) (.leaf (.ret,[.sb false],[])) (.leaf (.exit 1,[],[]))
abbrev FlX:Type:=Unit×Unit×Unit×List Trm×Int×Int×Unit
abbrev FlY:Type:=(List Srt×Unit)×(Unit×Unit)×(ByteArray×Int×List Int×Unit)×Unit
noncomputable def a0Z(N:Nat):PSpec:=
 {body:=B0e Tryz.f30 1,nt:=97,nx:=5,room:=8,keep:=[(4,.p 0 0),(7,.p 3 0),(9,.p 4 0),(79,.d Cd.term),(80,.i .i64),(81,.i .i64)],
  objs:=[(0,.cells [.d Cd.sort] 22 0 0 [(0,0,1)]),(3,.cells [.fn 31 []] 87 3 0 [(3,0,1)]),(4,.cells [.s,.i .i64,.d Cd.int] 53 4 0 [(4,0,3)])]
  keepX:=fun x=>match x with |.ret=>[8]|_=>[],objsX:=fun _=>[]
  inv:=fun(x:FlX)(y:FlY)=>fitV N y.1.1 x.2.2.2.1 x.2.2.2.2.1 x.2.2.2.2.2.1 y.2.2.1.2.2.1
  res:=fun(x:FlX)(y:FlY)=>Q0C y.1.1 x.2.2.2.1 x.2.2.2.2.2.1 y.2.2.1.2.2.1}
theorem a0n(N:Nat)(hK:(fitS N).Kept Tryz.prog 30):A0h Tryz.prog ((a0Z N).loop []):=by
 refine G0w (ctc hK ct0) lp0 (a0Z N) (fun(x:FlX) _=>((x.2.2.2.1.length:Int)-x.2.2.2.2.2.1).toNat) (by kernel_rfl) ?_
 intro xx yy hx
 obtain⟨u1,u2,u3,l,len,i,u4⟩:FlX:=xx
 obtain⟨⟨g,v1⟩,⟨v2,v3⟩,⟨nm,ar,ys,v4⟩,v5⟩:FlY:=yy
 have hx:fitV N g l len i ys:=hx
 have hx0:=hx
 unfold fitV at hx
 obtain⟨hg,hl,h64,hlen,h0,h1,hy,hr⟩:=hx
 subst hlen
 let z:Trm:=Univ.dflt (Cd.term:Cd)
 refine A0A (t:=.ite (decide (i<(l.length:Int))) (.ite (decide (0≤i)&&decide (i<(l.length:Int))) (.ite (decide (0≤i)&&decide (i<(ys.length:Int)))
   (.ite (dec (fitP N g (ys.getD i.toNat 0) (eT (l.getD i.toNat z)))) (.ite (!fitT g (eT (l.getD i.toNat z)) (ys.getD i.toNat 0)) (.leaf (true,.ret,[AVal.sb false],[]))
    (.leaf (true,.normal,[.ptr 0 0,.ptr 3 0,.ptr 4 0,.dsl (Cd.term:Cd) l,.si .i64 (l.length:Int),.si .i64 (IntKind.i64.wrap (i+1))],
     [.cells [.dsl (Cd.sort:Cd) g] 22 false false 0 0 [(0,0,1)],.cells [.fn 31 [] []] 87 false false 3 0 [(3,0,1)],.cells [.ss nm,.si .i64 ar,.dsl (Cd.int:Cd) ys] 53 false false 4 0 [(4,0,3)]]))) .fail) .fail) .fail)
  (.leaf (true,.exit 1,[],[]))) (by kernel_rfl) ?_
 rw[D0i]
 refine A0b (fun hlt=>?_) (fun hlt=>⟨rfl,?_⟩)
 ·have hlt:=of_decide_eq_true hlt
  have hd:=A0w l i z h0 hlt
  have hd2:=A0w ys i 0 h0 (by omega)
  have hw:IntKind.i64.wrap (i+1)=i+1:=A0C (by omega) (by omega)
  have hm:=A0H l i z h0 hlt
  have hc:E0D g (l.drop i.toNat) (ys.drop i.toNat)=(fitT g (l.getD i.toNat z) (ys.getD i.toNat 0)&&E0D g (l.drop (i+1).toNat) (ys.drop (i+1).toNat)):=by
   rw[hd,hd2]
   conv=>lhs;unfold E0D
   rfl
  rw[hw]
  refine A0c (by simp[h0,hlt]) (A0c (by simp;omega) (A0c (A0g ⟨hg,hr _ (A0H ys i 0 h0 (by omega)),hl _ hm⟩) (A0b (fun h=>⟨rfl,?_⟩)
   (fun h=>⟨rfl,((),(),(),l,(l.length:Int),i+1,()),((g,()),((),()),(nm,ar,ys,()),()),rfl,rfl,?_,?_,?_⟩))))
  ·have h:fitT g (l.getD i.toNat z) (ys.getD i.toNat 0)=false:=by simpa using h
   show(Q0C g l i ys).val=_
   unfold Q0C;rw[hc,h];rfl
  ·show fitV N g l (l.length:Int) (i+1) ys
   exact⟨hg,hl,h64,rfl,by omega,by omega,hy,hr⟩
  ·show((l.length:Int)-(i+1)).toNat<((l.length:Int)-i).toNat
   omega
  ·have h:fitT g (l.getD i.toNat z) (ys.getD i.toNat 0)=true:=by simpa using h
   show(Q0C g l (i+1) ys).val=(Q0C g l i ys).val
   unfold Q0C;rw[hc,h,Bool.true_and]
 ·have hlt:=of_decide_eq_false hlt
  show(Q0C g l i ys).val=_
  unfold Q0C
  rw[A0N l i h1 hlt]
  unfold E0D
  rfl
theorem Y0H{c:A0n}{s:ByteArray}{a:Int}(h:ordC c s a=0):c.arity=a:=by
 unfold ordC H0j at h
 split at h
 ·split at h
  ·omega
  ·split at h
   ·omega
   ·omega
 ·rename_i q;exact absurd h q
theorem J0U{l:List A0n}{s:ByteArray}{a:Int}(h:C0e l s a=true):F0K l s a∈l∧(F0K l s a).arity=a:=by
 unfold C0e at h
 rw[Bool.and_eq_true] at h
 exact⟨A0H l _ B0h (E0r l s a).1 (of_decide_eq_true h.1),Y0H (of_decide_eq_true h.2)⟩
theorem U0q:∀N,(fitS N).Kept Tryz.prog 30
 |
  0=>by
  intro x hx
  exact absurd hx.2.2.1 (Nat.not_lt_zero _)
 |
  N+1=>by
  have hK:=U0q N
  have hL:∀p∈[(1,(a0Z N).loop [])],A0h Tryz.prog p.2:=lpc (a0n N hK) lp0
  have hmk:mkFn Tryz.prog 30=some (.code (A0u [(1,(a0Z N).loop [])] (cd Tryz.f30 [1])) Tryz.f30.ntmps Tryz.f30.results.toList):=by kernel_rfl
  refine B0w (ctc Y0p (ctc (W0t N hK) ct0)) hL (fitS (N+1)) 30 Tryz.f30 [1] hmk (by kernel_rfl) ?_
  intro xx hx
  obtain⟨g,i,⟨k,n,s,l,u1⟩,u2,u3⟩:FitX:=xx
  have hp:fitP (N+1) g i ⟨k,n,s,l⟩:=hx
  refine A0A (t:=.ite (decide (k=1)) (.leaf (true,.sb true)) (.ite (decide (k=2)) (.ite (decide (0≤i)&&decide (i<(g.length:Int))) (.leaf (true,.sb (gAt g i).int)) .fail)
   (.ite (decide (k=4)) (.ite (decide (0≤i)&&decide (i<(g.length:Int))) (.leaf (true,.sb (gAt g i).str)) .fail)
   (.ite (decide (k=6)) (.ite (decide (0≤i)&&decide (i<(g.length:Int))) (.ite (decide (((gAt g i).vec.length:Int)=1)) (.ite (dec ((∀e∈l,L0y N e (show Pts [.box Cd.sorts,.box Cd.int,.box Cd.any] from(g,i,(),())))∧l.length≤maxL))
     (.leaf (true,.sb (!(l.any (I0q (show Pts [.box Cd.sorts,.box Cd.int,.box Cd.any] from(g,i,(),()))))))) .fail) (.leaf (true,.sb false))) .fail)
    (.ite (decide (0≤i)&&decide (i<(g.length:Int))) (.ite (dec (((gAt g i).cases.length:Int)≤1000000)) (.ite (C0e (gAt g i).cases s (l.length:Int))
      (.ite (!true) (.ite (decide (k=3)) (.ite (decide (0≤i)&&decide (i<(g.length:Int))) (.leaf (true,.sb (gAt g i).atom)) .fail) (.leaf (true,.sb false)))
       (.ite (dec (fitV N g l (l.length:Int) 0 (F0K (gAt g i).cases s (l.length:Int)).args)) (.ite (!E0D g l (F0K (gAt g i).cases s (l.length:Int)).args) (.leaf (true,.sb false)) (.leaf (true,.sb true))) .fail))
      (.ite (!false) (.ite (decide (k=3)) (.ite (decide (0≤i)&&decide (i<(g.length:Int))) (.leaf (true,.sb (gAt g i).atom)) .fail) (.leaf (true,.sb false))) .fail)) .fail) .fail))))) (by kernel_rfl) ?_
  obtain⟨hg,hi,hsz,hf⟩:=hp
  have hin:(decide (0≤i)&&decide (i<(g.length:Int)))=true:=by simp;exact hi
  have hr:=E0g hg hi
  obtain⟨r1,r2,r3,r4⟩:=D0r hr
  have hf':l.length≤64∧Q0z l:=by unfold K0h at hf;exact hf
  have hsub:∀x∈l,SizeOf.sizeOf x<N∧K0h x:=by
   intro x hx
   refine⟨?_,S0p hf'.2 x hx⟩
   have :=List.sizeOf_lt_of_mem hx
   simp only[Trm.mk.sizeOf_spec] at hsz
   omega
  have e:fitT g ⟨k,n,s,l⟩ i=(if k=1 then true else if k=2 then(gAt g i).int else if k=4 then(gAt g i).str
    else if k=6 then decide (((gAt g i).vec.length:Int)=1)&&fitA g l ((gAt g i).vec.getD 0 0)
    else if C0e (gAt g i).cases s (l.length:Int)=true then E0D g l (F0K (gAt g i).cases s (l.length:Int)).args else decide (k=3)&&(gAt g i).atom):=by
   conv=>lhs;unfold fitT
  have res:∀b,fitT g ⟨k,n,s,l⟩ i=b→(Dt.leaf (true,AVal.sb b)).holds fun q=>q.1=true∧some (AVal.sb (fitT g ⟨k,n,s,l⟩ i))=some q.2:=fun b h=>A0L ⟨rfl,by rw[h]⟩
  show Dt.holds (fun(q:Bool×AVal)=>q.1=true∧some (AVal.sb (fitT g ⟨k,n,s,l⟩ i))=some q.2) _
  refine A0b (fun k1=>res _ (by rw[e,if_pos (of_decide_eq_true k1)])) fun k1=>?_
  have k1:=of_decide_eq_false k1
  rw[if_neg k1] at e
  refine A0b (fun k2=>A0c hin (res _ (by rw[e,if_pos (of_decide_eq_true k2)]))) fun k2=>?_
  have k2:=of_decide_eq_false k2
  rw[if_neg k2] at e
  refine A0b (fun k4=>A0c hin (res _ (by rw[e,if_pos (of_decide_eq_true k4)]))) fun k4=>?_
  have k4:=of_decide_eq_false k4
  rw[if_neg k4] at e
  refine A0b (fun k6=>A0c hin (A0b (fun hv=>?_) (fun hv=>res _ ?_))) fun k6=>?_
  ·rw[if_pos (of_decide_eq_true k6),hv,Bool.true_and,U0b] at e
   refine A0c (A0g ⟨fun x hx=>⟨hg,hi,of_decide_eq_true hv,hsub x hx⟩,by have :=hf'.1;unfold maxL;omega⟩) (res _ ?_)
   rw[e];rfl
  ·rw[e,if_pos (of_decide_eq_true k6),hv];rfl
  have k6:=of_decide_eq_false k6
  rw[if_neg k6] at e
  refine A0c hin (A0c (A0g (by omega)) (A0b (fun hq=>?_) (fun hq=>?_)))
  ·rw[if_pos hq] at e
   obtain⟨c1,c2⟩:=J0U hq
   obtain⟨c3,c4⟩:=r4 _ c1
   refine A0b (fun h=>by cases h) fun _=>A0c (A0g ⟨hg,hsub,hf'.1,rfl,Int.le_refl _,by omega,by rw[c3,c2],c4⟩) (A0b (fun h=>res _ ?_) (fun h=>res _ ?_))
   ·rw[e];simpa using h
   ·rw[e];simpa using h
  ·rw[if_neg (by rw[hq];simp)] at e
   refine A0b (fun _=>A0b (fun k3=>A0c hin (res _ ?_)) (fun k3=>res _ ?_)) (fun h=>by cases h)
   ·rw[e,k3,Bool.true_and]
   ·rw[e,k3,Bool.false_and]
mutual
theorem N0D:∀(t:Trm)(left deep:Int),A0R t left deep≤left→K0h t
 |
  ⟨k,n,s,l⟩,left,deep,h=>by
  unfold A0R at h
  unfold K0h
  by_cases c:deep<1∨left<1∨C0O k n s l=false
  ·rw[if_pos c] at h;omega
  ·rw[if_neg c] at h
   have hf:C0O k n s l=true:=by
    cases q:C0O k n s l with
    |true=>rfl
    |false=>exact absurd (.inr (.inr q)) c
   cases hm:C0d l left deep 1 with
   |none=>rw[hm] at h;simp only[] at h;omega
   |some m=>exact⟨U0W hf,M0R l left deep 1 m hm⟩
theorem M0R:∀(l:List Trm)(left deep n m:Int),C0d l left deep n=some m→Q0z l
 |[],left,deep,n,m,h=>by unfold Q0z;trivial
 |
  x::l,left,deep,n,m,h=>by
  rw[H0Y] at h
  by_cases c:left<n+A0R x (left-n) (deep-1)
  ·rw[if_pos c] at h;cases h
  ·rw[if_neg c] at h
   unfold Q0z
   exact⟨N0D x (left-n) (deep-1) (by omega),M0R l left deep _ m h⟩
end
theorem b0p{t:Trm}(h:errT t=0):K0h t:=by
 unfold errT at h
 split at h
 ·omega
 ·rename_i q
  unfold badT at q
  exact N0D t 4000 600 (by simpa using q)
noncomputable def fitAll:FSpec:=⟨[.d Cd.sort,.i .i64,.agg B0O,.fn 31 []],fun(x:FitX)=>B0l x.1=true∧inG x.1 x.2.1∧K0h ⟨x.2.2.1.1,x.2.2.1.2.1,x.2.2.1.2.2.1,x.2.2.1.2.2.2.1⟩,
 fun(x:FitX)=>.leaf (.sb (fitT x.1 ⟨x.2.2.1.1,x.2.2.1.2.1,x.2.2.1.2.2.1,x.2.2.1.2.2.2.1⟩ x.2.1))⟩
theorem S0G:fitAll.Kept Tryz.prog 30:=by
 intro x hx
 let x':FitX:=x
 exact U0q (SizeOf.sizeOf (⟨x'.2.2.1.1,x'.2.2.1.2.1,x'.2.2.1.2.2.1,x'.2.2.1.2.2.2.1⟩:Trm)+1) x ⟨hx.1,hx.2.1,Nat.lt_succ_self _,hx.2.2⟩
abbrev f0K:Type:=List Srt×Int×D0j×Unit
noncomputable def E0o(g:List Srt)(i:Int)(t:Trm):Int:=if askE g i=0 then errT t else askE g i
noncomputable def F0P(g:List Srt)(i:Int)(t:Trm):Bool:=decide (E0o g i t=0)&&fitT g t i
noncomputable def fitsC:FSpec:=⟨[.d Cd.sort,.i .i64,.agg B0O],fun _=>True,fun(x:f0K)=>.leaf (.tup [.sb (F0P x.1 x.2.1 ⟨x.2.2.1.1,x.2.2.1.2.1,x.2.2.1.2.2.1,x.2.2.1.2.2.2.1⟩),.si .i64 (E0o x.1 x.2.1 ⟨x.2.2.1.1,x.2.2.1.2.1,x.2.2.1.2.2.1,x.2.2.1.2.2.2.1⟩)])⟩
theorem V0c{g:List Srt}{i:Int}(h:askE g i=0):B0l g=true∧inG g i:=by
 unfold askE at h
 split at h
 ·rename_i q
  refine⟨?_,?_⟩
  ·unfold errG at q
   split at q
   ·assumption
   ·omega
  ·split at h
   ·omega
   ·split at h
    ·unfold inG;omega
    ·omega
 ·rename_i q;exact absurd h q
theorem M0y:fitsC.Kept Tryz.prog 7:=by
 refine B0w (ctc U0H (ctc J0u (ctc S0G ct0))) lp0 fitsC 7 Tryz.f7 [] (by kernel_rfl) (by kernel_rfl) ?_
 intro xx _
 obtain⟨g,i,⟨k,n,s,l,u1⟩,u2⟩:f0K:=xx
 refine A0A (t:=.ite (dec True) (.ite (!decide (askE g i=0)) (.leaf (true,.tup [.sb false,.si .i64 (askE g i)])) (.ite (dec True) (.ite (!decide (errT ⟨k,n,s,l⟩=0)) (.leaf (true,.tup [.sb false,.si .i64 (errT ⟨k,n,s,l⟩)]))
  (.ite (dec (B0l g=true∧inG g i∧K0h ⟨k,n,s,l⟩)) (.leaf (true,.tup [.sb (fitT g ⟨k,n,s,l⟩ i),.si .i64 0])) .fail)) .fail)) .fail) (by kernel_rfl) ?_
 have res:∀b e,F0P g i ⟨k,n,s,l⟩=b→E0o g i ⟨k,n,s,l⟩=e→(Dt.leaf (true,AVal.tup [.sb b,.si .i64 e])).holds fun q=>q.1=true∧some (AVal.tup [.sb (F0P g i ⟨k,n,s,l⟩),.si .i64 (E0o g i ⟨k,n,s,l⟩)])=some q.2:=
  fun b e h h'=>A0L ⟨rfl,by rw[h,h']⟩
 show Dt.holds (fun(q:Bool×AVal)=>q.1=true∧some (AVal.tup [.sb (F0P g i ⟨k,n,s,l⟩),.si .i64 (E0o g i ⟨k,n,s,l⟩)])=some q.2) _
 refine A0c (A0g trivial) (A0b (fun h=>res _ _ ?_ ?_) fun h=>A0c (A0g trivial) (A0b (fun h2=>res _ _ ?_ ?_) fun h2=>A0c ?_ (res _ _ ?_ ?_)))
 ·have h:¬askE g i=0:=by simpa using h
  unfold F0P E0o;rw[if_neg h];simp[h]
 ·have h:¬askE g i=0:=by simpa using h
  unfold E0o;rw[if_neg h]
 ·have h:askE g i=0:=by simpa using h
  have h2:¬errT ⟨k,n,s,l⟩=0:=by simpa using h2
  unfold F0P E0o;rw[if_pos h];simp[h2]
 ·have h:askE g i=0:=by simpa using h
  unfold E0o;rw[if_pos h]
 ·have h:askE g i=0:=by simpa using h
  have h2:errT ⟨k,n,s,l⟩=0:=by simpa using h2
  exact A0g ⟨(V0c h).1,(V0c h).2,b0p h2⟩
 ·have h:askE g i=0:=by simpa using h
  have h2:errT ⟨k,n,s,l⟩=0:=by simpa using h2
  unfold F0P E0o;rw[if_pos h,h2];simp
 ·have h:askE g i=0:=by simpa using h
  have h2:errT ⟨k,n,s,l⟩=0:=by simpa using h2
  unfold E0o;rw[if_pos h,h2]
noncomputable def G0P{α:Type}(p:α→Bool)(l:List α)(i:Int)(keep:List AVal):Dt (AExit×List AVal×List AObj):=
 .ite ((l.drop i.toNat).any p) (.leaf (.ret,[.sb false],[])) (.leaf (.exit 0,keep,[]))
theorem N0j{α:Type}{p:α→Bool}{l:List α}{i:Int}{k:List AVal}(z:α)(h0:0≤i)(h:i<(l.length:Int))(hp:p (l.getD i.toNat z)=true):(G0P p l i k).val=some (.ret,[.sb false],[]):=by
 unfold G0P;rw[A0w l i z h0 h]
 simp only[List.any_cons,hp,Bool.true_or]
 rfl
theorem Y0Q{α:Type}{p:α→Bool}{l:List α}{i:Int}{k:List AVal}(z:α)(h0:0≤i)(h:i<(l.length:Int))(hp:p (l.getD i.toNat z)=false):(G0P p l (i+1) k).val=(G0P p l i k).val:=by
 unfold G0P;rw[A0w l i z h0 h]
 simp only[List.any_cons,hp,Bool.false_or]
theorem T0q{α:Type}{p:α→Bool}{l:List α}{i:Int}{k:List AVal}(h1:i≤(l.length:Int))(h:¬i<(l.length:Int)):(G0P p l i k).val=some (.exit 0,k,[]):=by
 unfold G0P;rw[A0N l i h1 h];rfl
def inV{α:Type}(l:List α)(i:Int):Prop:=l.length≤maxL∧0≤i∧i≤(l.length:Int)
abbrev InX:Type:=List Srt×List Int×Int×Unit
noncomputable def inL:PSpec:=
 {body:=B0e Tryz.f54 0,nt:=26,nx:=0,room:=8,keep:=[(0,.d Cd.sort),(1,.d Cd.int),(5,.i .i64)],objs:=[]
  keepX:=fun x=>match x with |.ret=>[4]|_=>[],objsX:=fun _=>[]
  inv:=fun(x:InX) _=>inV x.2.1 x.2.2.1
  res:=fun(x:InX) _=>G0P (outB (x.1.length:Int)) x.2.1 x.2.2.1 []}
theorem f0c:A0h Tryz.prog (inL.loop []):=by
 refine G0w ct0 lp0 inL (fun(x:InX) _=>((x.2.1.length:Int)-x.2.2.1).toNat) (by kernel_rfl) ?_
 intro xx yy hx
 obtain⟨g,l,i,u⟩:InX:=xx
 have hx:inV l i:=hx
 obtain⟨hm,h0,h1⟩:l.length≤maxL∧0≤i∧i≤(l.length:Int):=hx
 have hm2:=G0y hm
 let nxt:Bool×AExit×List AVal×List AObj:=(true,.normal,[.dsl (Cd.sort:Cd) g,.dsl (Cd.int:Cd) l,.si .i64 (IntKind.i64.wrap (i+1))],[])
 let ok:Bool:=decide (0≤i)&&decide (i<(l.length:Int))
 refine A0A (t:=.ite (decide (i<(l.length:Int))) (.ite ok (.ite (decide (l.getD i.toNat 0<0)) (.leaf (true,.ret,[AVal.sb false],[]))
  (.ite ok (.ite (!decide (l.getD i.toNat 0<(g.length:Int))) (.leaf (true,.ret,[AVal.sb false],[])) (.leaf nxt)) .fail)) .fail) (.leaf (true,.exit 0,[],[]))) (by kernel_rfl) ?_
 refine A0b (fun hlt=>?_) (fun hlt=>⟨rfl,T0q h1 (of_decide_eq_false hlt)⟩)
 have hlt:=of_decide_eq_true hlt
 have hok:ok=true:=by simp[ok,h0,hlt]
 have hw:IntKind.i64.wrap (i+1)=i+1:=A0C (by omega) (by omega)
 refine A0c hok (A0b (fun h=>⟨rfl,N0j (0:Int) h0 hlt (by unfold outB;rw[h,Bool.true_or])⟩) (fun h=>A0c hok (A0b (fun h2=>⟨rfl,N0j (0:Int) h0 hlt (by unfold outB;rw[h2,Bool.or_true])⟩)
  (fun h2=>⟨rfl,(g,l,IntKind.i64.wrap (i+1),()),(),rfl,rfl,?_,?_,?_⟩))))
 ·show inV l (IntKind.i64.wrap (i+1))
  rw[hw];exact⟨hm,by omega,by omega⟩
 ·show((l.length:Int)-IntKind.i64.wrap (i+1)).toNat<((l.length:Int)-i).toNat
  rw[hw];omega
 ·show(G0P (outB (g.length:Int)) l (IntKind.i64.wrap (i+1)) []).val=(G0P (outB (g.length:Int)) l i []).val
  rw[hw]
  exact Y0Q (0:Int) h0 hlt (by unfold outB;rw[h,h2];rfl)
noncomputable def inC:FSpec:=⟨[.d Cd.sort,.d Cd.int],fun(x:List Srt×List Int×Unit)=>x.2.1.length≤maxL,fun(x:List Srt×List Int×Unit)=>.leaf (.sb (!(x.2.1.any (outB (x.1.length:Int)))))⟩
theorem d0p:inC.Kept Tryz.prog 54:=by
 have hL:∀p∈[(0,inL.loop [])],A0h Tryz.prog p.2:=lpc f0c lp0
 have hmk:mkFn Tryz.prog 54=some (.code (A0u [(0,inL.loop [])] (cd Tryz.f54 [0])) Tryz.f54.ntmps Tryz.f54.results.toList):=by kernel_rfl
 refine B0w ct0 hL inC 54 Tryz.f54 [0] hmk (by kernel_rfl) ?_
 intro xx hx
 obtain⟨g,l,u⟩:List Srt×List Int×Unit:=xx
 have hx:l.length≤maxL:=hx
 refine A0A (t:=.ite (dec (inV l 0)) (.ite (l.any (outB (g.length:Int))) (.leaf (true,.sb false)) (.leaf (true,.sb true))) .fail) (by kernel_rfl) ?_
 refine A0c (A0g ⟨hx,Int.le_refl _,by omega⟩) (A0b (fun h=>⟨rfl,?_⟩) (fun h=>⟨rfl,?_⟩))
 ·show some (AVal.sb (!(l.any (outB (g.length:Int)))))=_
  rw[h];rfl
 ·show some (AVal.sb (!(l.any (outB (g.length:Int)))))=_
  rw[h];rfl
abbrev NmX:Type:=ByteArray×Int×Unit
noncomputable def nmL:PSpec:=
 {body:=B0e Tryz.f55 0,nt:=28,nx:=0,room:=8,keep:=[(0,.s),(3,.i .i64)],objs:=[]
  keepX:=fun x=>match x with |.ret=>[2]|_=>[0],objsX:=fun _=>[]
  inv:=fun(x:NmX) _=>inV x.1.data.toList x.2.1
  res:=fun(x:NmX) _=>G0P D0x x.1.data.toList x.2.1 [.ss x.1]}
theorem f0u:A0h Tryz.prog (nmL.loop []):=by
 refine G0w ct0 lp0 nmL (fun(x:NmX) _=>((x.1.data.toList.length:Int)-x.2.1).toNat) (by kernel_rfl) ?_
 intro xx yy hx
 obtain⟨s,i,u⟩:NmX:=xx
 have hx:inV s.data.toList i:=hx
 obtain⟨hm,h0,h1⟩:s.data.toList.length≤maxL∧0≤i∧i≤(s.data.toList.length:Int):=hx
 have hm2:=G0y hm
 have hsz:(s.size:Int)=(s.data.toList.length:Int):=rfl
 let nxt:Bool×AExit×List AVal×List AObj:=(true,.normal,[.ss s,.si .i64 (IntKind.i64.wrap (i+1))],[])
 let ok:Bool:=decide (0≤i)&&decide (i<(s.size:Int))
 refine A0A (t:=.ite (decide (i<(s.size:Int))) (.ite ok (.ite (decide (Q0H s i.toNat<32)) (.leaf (true,.ret,[AVal.sb false],[]))
  (.ite ok (.ite (decide (126<Q0H s i.toNat)) (.leaf (true,.ret,[AVal.sb false],[])) (.leaf nxt)) .fail)) .fail) (.leaf (true,.exit 0,[.ss s],[]))) (by kernel_rfl) ?_
 refine A0b (fun hlt=>?_) (fun hlt=>⟨rfl,T0q h1 (by rw[←hsz];exact of_decide_eq_false hlt)⟩)
 have hlt:=of_decide_eq_true hlt
 rw[hsz] at hlt
 have hok:ok=true:=by simp only[ok,hsz];simp[h0];exact hlt
 have hw:IntKind.i64.wrap (i+1)=i+1:=A0C (by omega) (by omega)
 have hbb:D0x (s.data.toList.getD i.toNat 0)=(decide (Q0H s i.toNat<32)||decide (126<Q0H s i.toNat)):=rfl
 refine A0c hok (A0b (fun h=>⟨rfl,N0j (0:UInt8) h0 hlt (by rw[hbb,h,Bool.true_or])⟩) (fun h=>A0c hok (A0b (fun h2=>⟨rfl,N0j (0:UInt8) h0 hlt (by rw[hbb,h2,Bool.or_true])⟩)
  (fun h2=>⟨rfl,(s,IntKind.i64.wrap (i+1),()),(),rfl,rfl,?_,?_,?_⟩))))
 ·show inV s.data.toList (IntKind.i64.wrap (i+1))
  rw[hw];exact⟨hm,by omega,by omega⟩
 ·show((s.data.toList.length:Int)-IntKind.i64.wrap (i+1)).toNat<((s.data.toList.length:Int)-i).toNat
  rw[hw];omega
 ·show(G0P D0x s.data.toList (IntKind.i64.wrap (i+1)) [.ss s]).val=(G0P D0x s.data.toList i [.ss s]).val
  rw[hw]
  exact Y0Q (0:UInt8) h0 hlt (by rw[hbb,h,h2];rfl)
def G0G(s:ByteArray):Bool:=!(s.data.toList.any D0x)&&(!decide ((s.size:Int)<1)&&!decide (32<(s.size:Int)))
noncomputable def rnameC:FSpec:=⟨[.s],fun(x:ByteArray×Unit)=>x.1.data.toList.length≤maxL,fun(x:ByteArray×Unit)=>.leaf (.sb (G0G x.1))⟩
theorem X0j:rnameC.Kept Tryz.prog 55:=by
 have hL:∀p∈[(0,nmL.loop [])],A0h Tryz.prog p.2:=lpc f0u lp0
 have hmk:mkFn Tryz.prog 55=some (.code (A0u [(0,nmL.loop [])] (cd Tryz.f55 [0])) Tryz.f55.ntmps Tryz.f55.results.toList):=by kernel_rfl
 refine B0w ct0 hL rnameC 55 Tryz.f55 [0] hmk (by kernel_rfl) ?_
 intro xx hx
 obtain⟨s,u⟩:ByteArray×Unit:=xx
 have hx:s.data.toList.length≤maxL:=hx
 refine A0A (t:=.ite (dec (inV s.data.toList 0)) (.ite (s.data.toList.any D0x) (.leaf (true,.sb false)) (.ite (!decide ((s.size:Int)<1)) (.leaf (true,.sb (!decide (32<(s.size:Int))))) (.leaf (true,.sb false)))) .fail) (by kernel_rfl) ?_
 refine A0c (A0g ⟨hx,Int.le_refl _,by omega⟩) (A0b (fun h=>⟨rfl,?_⟩) (fun h=>A0b (fun h2=>⟨rfl,?_⟩) (fun h2=>⟨rfl,?_⟩)))
 ·show some (AVal.sb (G0G s))=_
  unfold G0G;rw[h];rfl
 ·show some (AVal.sb (G0G s))=_
  unfold G0G;rw[h,h2];rfl
 ·show some (AVal.sb (G0G s))=_
  unfold G0G;rw[h,h2];rfl
noncomputable def B0I(b c:A0n):Bool:=ltS b.name.data.toList c.name.data.toList||(decide (b.name=c.name)&&decide (b.arity<c.arity))
noncomputable def aheadC:FSpec:=⟨[symP,symP],fun _=>True,fun(x:SymX×SymX×Unit)=>.leaf (.sb (B0I ⟨x.1.1,x.1.2.1,[]⟩ ⟨x.2.1.1,x.2.1.2.1,[]⟩))⟩
theorem W0S:aheadC.Kept Tryz.prog 56:=by
 refine B0w ct0 lp0 aheadC 56 Tryz.f56 [] (by kernel_rfl) (by kernel_rfl) ?_
 intro xx _;obtain⟨⟨s,a,u1⟩,⟨t,b,u2⟩,u3⟩:SymX×SymX×Unit:=xx
 refine A0A (t:=.ite (ltS s.data.toList t.data.toList) (.leaf (true,.sb true)) (.ite (decide (s=t)) (.leaf (true,.sb (decide (a<b)))) (.leaf (true,.sb false)))) (by kernel_rfl) ?_
 refine A0b (fun h=>⟨rfl,?_⟩) (fun h=>A0b (fun h2=>⟨rfl,?_⟩) (fun h2=>⟨rfl,?_⟩))
 ·show some (AVal.sb (ltS s.data.toList t.data.toList||(decide (s=t)&&decide (a<b))))=_
  rw[h];rfl
 ·show some (AVal.sb (ltS s.data.toList t.data.toList||(decide (s=t)&&decide (a<b))))=_
  rw[h,h2];rfl
 ·show some (AVal.sb (ltS s.data.toList t.data.toList||(decide (s=t)&&decide (a<b))))=_
  rw[h,h2];rfl
def E0W(m:Int)(atom:Bool)(c:A0n):Bool:=
 !G0G c.name||(decide (c.arity<0)||(decide (16<c.arity)||(!decide ((c.args.length:Int)=c.arity)||(c.args.any (outB m)||(atom&&decide (c.arity=0))))))
noncomputable def behind(p:Option A0n)(c:A0n):Bool:=match p with
 |none=>false
 |some b=>!B0I b c
noncomputable def G0u(m:Int)(atom:Bool):Option A0n→List A0n→Bool
 |_,[]=>false
 |p,c::cs=>(E0W m atom c||behind p c)||G0u m atom (some c) cs
noncomputable def X0G(m:Int)(atom:Bool)(c:A0n)(t:Dt Rgt4):Dt Rgt4:=
 .ite (dec (c.name.data.toList.length≤maxL)) (.ite (!G0G c.name) (.leaf C0R) (.ite (decide (c.arity<0)) (.leaf C0R) (.ite (decide (16<c.arity)) (.leaf C0R) (.ite (!decide ((c.args.length:Int)=c.arity)) (.leaf C0R)
  (.ite (dec (c.args.length≤maxL)) (.ite (!!(c.args.any (outB m))) (.leaf C0R) (.ite atom (.ite (decide (c.arity=0)) (.leaf C0R) t) t)) .fail))))) .fail
theorem d0D{m:Int}{atom:Bool}{c:A0n}{t:Dt Rgt4}{p:Rgt4→Prop}(hn:c.name.data.toList.length≤maxL)(h1:E0W m atom c=true→p C0R)(h2:E0W m atom c=false→t.holds p):(X0G m atom c t).holds p:=by
 unfold X0G
 refine A0c (A0g hn) ?_
 refine A0b (fun a1=>h1 (by simp only[E0W,a1,Bool.true_or])) fun a1=>?_
 refine A0b (fun a2=>h1 (by simp only[E0W,a2,Bool.true_or,Bool.or_true])) fun a2=>?_
 refine A0b (fun a3=>h1 (by simp only[E0W,a3,Bool.true_or,Bool.or_true])) fun a3=>?_
 refine A0b (fun a4=>h1 (by simp only[E0W,a4,Bool.true_or,Bool.or_true])) fun a4=>?_
 have b3:=of_decide_eq_false a3
 have b4:(c.args.length:Int)=c.arity:=by simpa using a4
 refine A0c (A0g (by unfold maxL;omega)) ?_
 rw[Bool.not_not]
 refine A0b (fun a5=>h1 (by simp only[E0W,a5,Bool.true_or,Bool.or_true])) fun a5=>?_
 have e:E0W m atom c=(atom&&decide (c.arity=0)):=by simp only[E0W,a1,a2,a3,a4,a5,Bool.false_or]
 refine A0b (fun a6=>A0b (fun a7=>h1 (by rw[e,a6,a7];rfl)) fun a7=>h2 (by rw[e,a6,a7];rfl)) fun a6=>h2 (by rw[e,a6];rfl)
noncomputable abbrev isCs:List (FuncId×List FSpec):=[(54,[inC]),(55,[rnameC]),(56,[aheadC])]
theorem S0W:∀p∈isCs,∀S∈p.2,S.Kept Tryz.prog p.1:=ctc d0p (ctc X0j (ctc W0S ct0))
noncomputable def isDt(g:List Srt)(i:Int)(atom:Bool)(cs:List A0n)(k:Int):Dt (AExit×List AVal×List AObj):=
 .ite (G0u (g.length:Int) atom (E0E cs k) (cs.drop k.toNat)) (.leaf (.ret,[.sb false],[])) (.leaf (.exit 2,[.dsl (Cd.sort:Cd) g,.si .i64 i],[]))
def isV(cs:List A0n)(k:Int):Prop:=(∀c∈cs,c.name.data.toList.length≤maxL)∧0≤k∧k≤(cs.length:Int)∧(cs.length:Int)≤400
abbrev IsX:Type:=List Srt×Int×Unit×Int×Unit
abbrev IsY:Type:=S0c×Unit
noncomputable def isIn:PSpec:=
 {body:=B0e Tryz.f26 2,nt:=109,nx:=1,room:=8,keep:=[(0,.d Cd.sort),(3,.i .i64),(4,.p 0 0),(5,.i .i64)],objs:=[(0,.cells R0h 56 0 0 [(0,0,5)])]
  keepX:=fun x=>match x with |.ret=>[2]|_=>[0,3],objsX:=fun _=>[]
  inv:=fun(x:IsX)(y:IsY)=>isV y.1.2.2.2.1 x.2.2.2.1
  res:=fun(x:IsX)(y:IsY)=>isDt x.1 x.2.1 y.1.2.2.1 y.1.2.2.2.1 x.2.2.2.1}
theorem c0C:A0h Tryz.prog (isIn.loop []):=by
 refine G0w S0W lp0 isIn (fun(x:IsX)(y:IsY)=>((y.1.2.2.2.1.length:Int)-x.2.2.2.1).toNat) (by kernel_rfl) ?_
 intro xx yy hx
 obtain⟨g,i,u1,k,u2⟩:IsX:=xx
 obtain⟨⟨a,b,at',cs,v,u3⟩,u4⟩:IsY:=yy
 have hx:isV cs k:=hx
 obtain⟨hn,h0,h1,h400⟩:(∀c∈cs,c.name.data.toList.length≤maxL)∧0≤k∧k≤(cs.length:Int)∧(cs.length:Int)≤400:=hx
 let N:Rgt4:=(true,.normal,[.dsl (Cd.sort:Cd) g,.si .i64 i,.ptr 0 0,.si .i64 (IntKind.i64.wrap (k+1))],[.cells [.sb a,.sb b,.sb at',.dsl (Cd.case:Cd) cs,.dsl (Cd.int:Cd) v] 56 false false 0 0 [(0,0,5)]])
 let w:Int:=IntKind.i64.wrap (k-1)
 refine A0A (t:=.ite (decide (k<(cs.length:Int))) (.ite (decide (0≤k)&&decide (k<(cs.length:Int))) (X0G (g.length:Int) at' (cs.getD k.toNat B0h)
   (.ite (decide (0<k)) (.ite (decide (0≤w)&&decide (w<(cs.length:Int))) (.ite (dec True) (.ite (!B0I (cs.getD w.toNat B0h) (cs.getD k.toNat B0h)) (.leaf C0R) (.leaf N)) .fail) .fail) (.leaf N))) .fail)
  (.leaf (true,.exit 2,[.dsl (Cd.sort:Cd) g,.si .i64 i],[]))) (by kernel_rfl) ?_
 refine A0b (fun hlt=>?_) (fun hlt=>⟨rfl,?_⟩)
 ·have hlt:=of_decide_eq_true hlt
  have hd:=A0w cs k B0h h0 hlt
  have hw:IntKind.i64.wrap (k+1)=k+1:=A0C (by omega) (by omega)
  have bad:(E0W (g.length:Int) at' (cs.getD k.toNat B0h)||behind (E0E cs k) (cs.getD k.toNat B0h))=true→(isDt g i at' cs k).val=some (AExit.ret,[AVal.sb false],[]):=by
   intro h
   unfold isDt;rw[hd];unfold G0u;rw[h];rfl
  have good:E0W (g.length:Int) at' (cs.getD k.toNat B0h)=false→behind (E0E cs k) (cs.getD k.toNat B0h)=false→(Dt.leaf N).holds fun q=>q.1=true∧match q.2.1 with
   |.normal=>∃x' y',Pts.vals (isIn.keep.map (·.2)) x'=q.2.2.1∧Pos.obs (isIn.objs.map (·.2)) y'=q.2.2.2∧isIn.inv x' y'∧((fun(x:IsX)(y:IsY)=>((y.1.2.2.2.1.length:Int)-x.2.2.2.1).toNat) x' y')<((cs.length:Int)-k).toNat∧(isIn.res x' y').val=(isDt g i at' cs k).val
   |e=>(isDt g i at' cs k).val=some (e,q.2.2):=by
   intro e1 e2
   refine A0L ⟨rfl,(g,i,(),IntKind.i64.wrap (k+1),()),((a,b,at',cs,v,()),()),rfl,rfl,?_,?_,?_⟩
   ·show isV cs (IntKind.i64.wrap (k+1))
    rw[hw];exact⟨hn,by omega,by omega,h400⟩
   ·show((cs.length:Int)-IntKind.i64.wrap (k+1)).toNat<_
    rw[hw];omega
   ·show(isDt g i at' cs (IntKind.i64.wrap (k+1))).val=_
    rw[hw]
    unfold isDt
    rw[hd,Q0D h0]
    conv=>rhs;unfold G0u
    rw[e1,e2];rfl
  refine A0c (by simp[h0,hlt]) (d0D (hn _ (A0H cs k B0h h0 hlt)) (fun h=>⟨rfl,bad (by rw[h,Bool.true_or])⟩) (fun e1=>?_))
  refine A0b (fun hp=>?_) (fun hp=>good e1 ?_)
  ·have hp:=of_decide_eq_true hp
   have hw2:w=k-1:=A0C (by omega) (by omega)
   have hpr:E0E cs k=some (cs.getD (k-1).toNat B0h):=by unfold E0E;rw[if_pos hp]
   rw[hw2]
   refine A0c (by simp;omega) (A0c (A0g trivial) (A0b (fun h=>A0L ⟨rfl,bad ?_⟩) (fun h=>good e1 ?_)))
   ·rw[hpr];unfold behind;simp only[];rw[h,Bool.or_true]
   ·rw[hpr];exact h
  ·have hp:=of_decide_eq_false hp
   unfold E0E;rw[if_neg hp];rfl
 ·have hlt:=of_decide_eq_false hlt
  show(isDt g i at' cs k).val=_
  unfold isDt
  rw[A0N cs k h1 hlt]
  rfl
noncomputable def D0L(m:Int)(s:Srt):Bool:=decide (400<(s.cases.length:Int))||(decide (1<(s.vec.length:Int))||(s.vec.any (outB m)||G0u m s.atom none s.cases))
def J0R(g:List Srt):Prop:=g.length≤maxL∧∀s∈g,∀c∈s.cases,c.name.data.toList.length≤maxL
def isOV(g:List Srt)(i:Int):Prop:=J0R g∧0≤i∧i≤(g.length:Int)
abbrev IsOX:Type:=List Srt×Int×Unit
noncomputable def isOut:PSpec:=
 {body:=I0r [2] (B0e Tryz.f26 0),nt:=109,nx:=0,room:=40,keep:=[(0,.d Cd.sort),(3,.i .i64)],objs:=[]
  keepX:=fun x=>match x with |.ret=>[2]|_=>[0],objsX:=fun _=>[]
  inv:=fun(x:IsOX) _=>isOV x.1 x.2.1
  res:=fun(x:IsOX) _=>G0P (D0L (x.1.length:Int)) x.1 x.2.1 [.dsl (Cd.sort:Cd) x.1]}
theorem a0v:A0h Tryz.prog (isOut.loop [(2,isIn.loop [])]):=by
 refine G0w S0W (lpc c0C lp0) isOut (fun(x:IsOX) _=>((x.1.length:Int)-x.2.1).toNat) (by kernel_rfl) ?_
 intro xx yy hx
 obtain⟨g,i,u1⟩:IsOX:=xx
 have hx:isOV g i:=hx
 obtain⟨hn,h0,h1⟩:J0R g∧0≤i∧i≤(g.length:Int):=hx
 have hm2:=G0y hn.1
 let s:Srt:=gAt g i
 let m:Int:=(g.length:Int)
 refine A0A (t:=.ite (decide (i<(g.length:Int))) (.ite (decide (0≤i)&&decide (i<(g.length:Int))) (.ite (decide (400<(s.cases.length:Int))) (.leaf C0R) (.ite (decide (1<(s.vec.length:Int))) (.leaf C0R)
   (.ite (dec (s.vec.length≤maxL)) (.ite (!!(s.vec.any (outB m))) (.leaf C0R) (.ite (dec (isV s.cases 0)) (.ite (G0u m s.atom none s.cases) (.leaf C0R)
    (.leaf (true,.normal,[.dsl (Cd.sort:Cd) g,.si .i64 (IntKind.i64.wrap (i+1))],[]))) .fail)) .fail))) .fail) (.leaf (true,.exit 0,[.dsl (Cd.sort:Cd) g],[]))) (by kernel_rfl) ?_
 refine A0b (fun hlt=>?_) (fun hlt=>⟨rfl,T0q h1 (of_decide_eq_false hlt)⟩)
 have hlt:=of_decide_eq_true hlt
 have hw:IntKind.i64.wrap (i+1)=i+1:=A0C (by omega) (by omega)
 have hmem:s∈g:=A0H g i Q0g h0 hlt
 have bad:D0L m s=true→(G0P (D0L (g.length:Int)) g i [.dsl (Cd.sort:Cd) g]).val=some (.ret,[.sb false],[]):=fun h=>N0j Q0g h0 hlt h
 refine A0c (by simp[h0,hlt]) (A0b (fun a1=>⟨rfl,bad (by simp only[D0L,a1,Bool.true_or])⟩) fun a1=>A0b (fun a2=>⟨rfl,bad (by simp only[D0L,a2,Bool.true_or,Bool.or_true])⟩) fun a2=>?_)
 have b1:=of_decide_eq_false a1
 have b2:=of_decide_eq_false a2
 refine A0c (A0g (by unfold maxL;omega)) ?_
 rw[Bool.not_not]
 refine A0b (fun a3=>⟨rfl,bad (by simp only[D0L,a3,Bool.true_or,Bool.or_true])⟩) fun a3=>?_
 refine A0c (A0g ⟨hn.2 s hmem,Int.le_refl _,by omega,by omega⟩) (A0b (fun a4=>⟨rfl,bad (by simp only[D0L,a4,Bool.or_true])⟩) fun a4=>⟨rfl,(g,IntKind.i64.wrap (i+1),()),(),rfl,rfl,?_,?_,?_⟩)
 ·show isOV g (IntKind.i64.wrap (i+1))
  rw[hw];exact⟨hn,by omega,by omega⟩
 ·show((g.length:Int)-IntKind.i64.wrap (i+1)).toNat<((g.length:Int)-i).toNat
  rw[hw];omega
 ·show(G0P (D0L (g.length:Int)) g (IntKind.i64.wrap (i+1)) _).val=(G0P (D0L (g.length:Int)) g i _).val
  rw[hw]
  refine Y0Q Q0g h0 hlt ?_
  show D0L m s=false
  simp only[D0L,a1,a2,a3,a4,Bool.or_false]
noncomputable def isB(g:List Srt):Bool:=!(g.any (D0L (g.length:Int)))&&!decide (2000<(g.length:Int))
noncomputable def isC:FSpec:=⟨[.d Cd.sort],fun(x:List Srt×Unit)=>J0R x.1,fun(x:List Srt×Unit)=>.leaf (.sb (isB x.1))⟩
theorem Y0f:isC.Kept Tryz.prog 26:=by
 have hL:∀p∈[(0,isOut.loop [(2,isIn.loop [])])],A0h Tryz.prog p.2:=lpc a0v lp0
 have hmk:mkFn Tryz.prog 26=some (.code (A0u [(0,isOut.loop [(2,isIn.loop [])])] (cd Tryz.f26 [0])) Tryz.f26.ntmps Tryz.f26.results.toList):=by kernel_rfl
 refine B0w S0W hL isC 26 Tryz.f26 [0] hmk (by kernel_rfl) ?_
 intro xx hx
 obtain⟨g,u⟩:List Srt×Unit:=xx
 have hx:J0R g:=hx
 refine A0A (t:=.ite (dec (isOV g 0)) (.ite (g.any (D0L (g.length:Int))) (.leaf (true,.sb false)) (.leaf (true,.sb (!decide (2000<(g.length:Int)))))) .fail) (by kernel_rfl) ?_
 refine A0c (A0g ⟨hx,Int.le_refl _,by omega⟩) (A0b (fun h=>⟨rfl,?_⟩) (fun h=>⟨rfl,?_⟩))
 ·show some (AVal.sb (isB g))=_
  unfold isB;rw[h];rfl
 ·show some (AVal.sb (isB g))=_
  unfold isB;rw[h];rfl
theorem V0D(s:ByteArray):A0R ⟨3,0,s,[]⟩ 4000 600=if F0u s=true then 1 else 4001:=by
 have hf:C0O 3 0 s []=F0u s:=by
  unfold C0O
  simp[J0S,no0,noL]
 unfold A0R
 rw[hf]
 cases h:F0u s with
 |true=>simp[C0d]
 |false=>simp
theorem b0u(s:ByteArray):P0Z s=G0G s:=by
 have h1:P0Z s=F0u s:=by
  unfold P0Z errT badT
  rw[V0D]
  cases h:F0u s<;>simp
 rw[h1]
 unfold F0u G0G
 cases s.data.toList.any D0x<;>simp
theorem I0L:∀x:List UInt8,ltS x x=false
 |[]=>rfl
 |
  a::x=>by
  unfold ltS
  rw[show Nat.beq a.toNat a.toNat=true from Nat.beq_refl _,A0e]
  exact I0L x
theorem P0U:∀x y:List UInt8,ltS x y=false→ltS y x=false→x=y
 |[],[],_,_=>rfl
 |[],_::_,h,_=>by cases h
 |_::_,[],_,h=>by cases h
 |
  a::x,b::y,h1,h2=>by
  unfold ltS at h1 h2
  cases hb:Nat.beq a.toNat b.toNat with
  |
   true=>
   have e:a.toNat=b.toNat:=Nat.eq_of_beq_eq_true hb
   have e2:Nat.beq b.toNat a.toNat=true:=by rw[e];exact Nat.beq_refl _
   rw[hb,A0e] at h1
   rw[e2,A0e] at h2
   rw[P0U x y h1 h2,UInt8.toNat_inj.1 e]
  |
   false=>
   have ne:a.toNat≠b.toNat:=fun q=>by rw[q,Nat.beq_refl] at hb;cases hb
   have e2:Nat.beq b.toNat a.toNat=false:=by
    cases q:Nat.beq b.toNat a.toNat with
    |false=>rfl
    |true=>exact absurd (Nat.eq_of_beq_eq_true q).symm ne
   rw[hb,A0f] at h1
   rw[e2,A0f] at h2
   have h1:¬a.toNat<b.toNat:=fun q=>by have :=Nat.blt_eq.symm▸q;rw[this] at h1;cases h1
   have h2:¬b.toNat<a.toNat:=fun q=>by have :=Nat.blt_eq.symm▸q;rw[this] at h2;cases h2
   omega
theorem M0L(b c:A0n):(!decide (H0j b.name b.arity c.name c.arity<0))=!B0I b c:=by
 congr 1
 unfold H0j cmpB cmpS B0I
 cases h1:ltS b.name.data.toList c.name.data.toList with
 |true=>simp[A0e]
 |
  false=>
  cases h2:ltS c.name.data.toList b.name.data.toList with
  |
   true=>
   have ne:b.name≠c.name:=fun e=>by rw[e,I0L] at h2;cases h2
   simp[A0e,A0f,ne]
  |
   false=>
   have e:b.name=c.name:=by
    have :=P0U _ _ h1 h2
    have e2:b.name.data=c.name.data:=by
     have :=congrArg List.toArray this
     simpa using this
    cases hb:b.name;cases hc:c.name
    rw[hb,hc] at e2
    simp at e2;rw[e2]
   simp only[A0f,e]
   by_cases q:b.arity<c.arity
   ·simp[q]
   ·by_cases q2:c.arity<b.arity<;>simp[q,q2]
theorem c0N(m:Int)(atom:Bool)(c:A0n):C0c m atom c=E0W m atom c:=by
 unfold C0c E0W;rw[b0u]
theorem b0z(p:Option A0n)(c:A0n):H0C p c=behind p c:=by
 cases p with
 |none=>rfl
 |some b=>exact M0L b c
theorem Z0z(m:Int)(atom:Bool):∀(l:List A0n)(p:Option A0n),D0F m atom p l=G0u m atom p l
 |[],_=>rfl
 |
  c::l,p=>by
  unfold D0F G0u
  rw[c0N,b0z,Z0z m atom l,Bool.or_comm (behind p c)]
theorem U0h(m:Int)(s:Srt):(!C0x m s)=D0L m s:=by
 unfold C0x D0L
 rw[Bool.not_not,Z0z]
theorem b0l(g:List Srt):B0l g=isB g:=by
 unfold B0l isB
 rw[Bool.not_or,Bool.and_comm]
 have e:(fun s=>!C0x (g.length:Int) s)=D0L (g.length:Int):=by funext s;exact U0h _ s
 rw[e]
mutual
def A0G:Trm→Int
 |⟨_,_,_,l⟩=>1+B0b l
def B0b:List Trm→Int
 |[]=>0
 |x::l=>A0G x+B0b l
end
mutual
def D0h:Trm→Int
 |⟨_,_,_,l⟩=>D0K l+1
def D0K:List Trm→Int
 |[]=>0
 |x::l=>max (D0h x) (D0K l)
end
mutual
def C0V:Trm→Bool
 |⟨k,n,s,l⟩=>C0O k n s l&&E0L l
def E0L:List Trm→Bool
 |[]=>true
 |x::l=>C0V x&&E0L l
end
mutual
theorem B0f:∀t:Trm,1≤A0G t
 |⟨_,_,_,l⟩=>by unfold A0G;have :=C0p l;omega
theorem C0p:∀l:List Trm,0≤B0b l
 |[]=>by unfold B0b;omega
 |x::l=>by unfold B0b;have :=B0f x;have :=C0p l;omega
end
mutual
theorem P0u:∀t:Trm,1≤D0h t
 |⟨_,_,_,l⟩=>by unfold D0h;have :=G0U l;omega
theorem G0U:∀l:List Trm,0≤D0K l
 |[]=>by unfold D0K;omega
 |x::l=>by unfold D0K;have :=P0u x;have :=G0U l;omega
end
mutual
theorem S0g:∀t:Trm,D0h t≤A0G t
 |⟨_,_,_,l⟩=>by unfold D0h A0G;have :=K0t l;omega
theorem K0t:∀l:List Trm,D0K l≤B0b l
 |[]=>by unfold D0K B0b;omega
 |x::l=>by unfold D0K B0b;have :=S0g x;have :=K0t l;have :=B0f x;have :=C0p l;omega
end
mutual
theorem J0C:∀(t:Trm)(left deep:Int),0≤left→A0R t left deep=if D0h t≤deep∧A0G t≤left∧C0V t=true then A0G t else left+1
 |
  ⟨k,n,s,l⟩,left,deep,h=>by
  have h1:=G0U l
  have h2:=C0p l
  unfold A0R D0h A0G C0V
  by_cases c:deep<1∨left<1∨C0O k n s l=false
  ·rw[if_pos c,if_neg]
   rintro⟨a1,a2,a3⟩
   rw[Bool.and_eq_true] at a3
   rcases c with c|c|c
   ·omega
   ·omega
   ·rw[c] at a3;cases a3.1
  ·rw[if_neg c]
   have hf:C0O k n s l=true:=by
    cases q:C0O k n s l with
    |true=>rfl
    |false=>exact absurd (.inr (.inr q)) c
   rw[S0v l left deep 1 (by omega) (by omega) (by omega),hf,Bool.true_and]
   by_cases e:D0K l≤deep-1∧1+B0b l≤left∧E0L l=true
   ·rw[if_pos e,if_pos ⟨by omega,e.2⟩]
   ·rw[if_neg e,if_neg (fun q=>e ⟨by omega,q.2⟩)]
theorem S0v:∀(l:List Trm)(left deep n:Int),1≤n→n≤left→1≤deep→C0d l left deep n=if D0K l≤deep-1∧n+B0b l≤left∧E0L l=true then some (n+B0b l) else none
 |
  [],left,deep,n,h1,h2,h3=>by
  unfold C0d D0K B0b E0L
  rw[if_pos ⟨by omega,by omega,rfl⟩];simp
 |
  x::l,left,deep,n,h1,h2,h3=>by
  rw[H0Y]
  unfold D0K B0b E0L
  rw[J0C x (left-n) (deep-1) (by omega)]
  have p1:=B0f x
  have p2:=C0p l
  by_cases e:D0h x≤deep-1∧A0G x≤left-n∧C0V x=true
  ·rw[if_pos e,if_neg (by omega),S0v l left deep (n+A0G x) (by omega) (by omega) h3]
   by_cases e2:D0K l≤deep-1∧n+A0G x+B0b l≤left∧E0L l=true
   ·rw[if_pos e2,if_pos ⟨by omega,by omega,by rw[e.2.2,e2.2.2];rfl⟩]
    congr 1;omega
   ·rw[if_neg e2,if_neg]
    rintro⟨a1,a2,a3⟩
    rw[Bool.and_eq_true] at a3
    exact e2 ⟨by omega,by omega,a3.2⟩
  ·rw[if_neg e,if_pos (by omega),if_neg]
   rintro⟨a1,a2,a3⟩
   rw[Bool.and_eq_true] at a3
   exact e ⟨by omega,by omega,a3.1⟩
end
theorem f0L(t:Trm):badT t=!(decide (A0G t≤4000)&&(decide (D0h t≤600)&&C0V t)):=by
 unfold badT
 rw[J0C t 4000 600 (by omega)]
 by_cases e:D0h t≤600∧A0G t≤4000∧C0V t=true
 ·rw[if_pos e,decide_eq_true e.1,decide_eq_true e.2.1,e.2.2]
  simp;exact e.2.1
 ·rw[if_neg e]
  have :(decide (A0G t≤4000)&&(decide (D0h t≤600)&&C0V t))=false:=by
   cases q:(decide (A0G t≤4000)&&(decide (D0h t≤600)&&C0V t)) with
   |false=>rfl
   |
    true=>
    simp only[Bool.and_eq_true,decide_eq_true_eq] at q
    exact absurd ⟨q.2.1,q.1,q.2.2⟩ e
  rw[this];rfl
theorem d0I{t:Trm}(h:errT t=0):C0V t=true:=by
 unfold errT at h
 rw[f0L] at h
 split at h
 ·omega
 ·rename_i q
  simp at q
  exact q.2.2
theorem R0e:∀x y z:List UInt8,ltS x y=true→ltS y z=true→ltS x z=true
 |_,_,[],_,h=>by unfold ltS at h;cases h
 |_,[],_::_,h,_=>by unfold ltS at h;cases h
 |[],_::_,_::_,_,_=>by unfold ltS;rfl
 |
  a::x,b::y,c::z,h1,h2=>by
  unfold ltS at h1 h2⊢
  cases hab:Nat.beq a.toNat b.toNat with
  |
   true=>
   have e:a.toNat=b.toNat:=Nat.eq_of_beq_eq_true hab
   rw[hab,A0e] at h1
   rw[e]
   cases hbc:Nat.beq b.toNat c.toNat with
   |
    true=>
    rw[hbc,A0e] at h2
    rw[A0e]
    exact R0e x y z h1 h2
   |false=>rw[hbc,A0f] at h2;rw[A0f];exact h2
  |
   false=>
   rw[hab,A0f] at h1
   have l1:a.toNat<b.toNat:=by simpa [Nat.blt_eq] using h1
   cases hbc:Nat.beq b.toNat c.toNat with
   |
    true=>
    have e:b.toNat=c.toNat:=Nat.eq_of_beq_eq_true hbc
    rw[←e,hab,A0f];exact h1
   |
    false=>
    rw[hbc,A0f] at h2
    have l2:b.toNat<c.toNat:=by simpa [Nat.blt_eq] using h2
    have :Nat.beq a.toNat c.toNat=false:=by
     cases q:Nat.beq a.toNat c.toNat with
     |false=>rfl
     |true=>have :=Nat.eq_of_beq_eq_true q;omega
    rw[this,A0f]
    rw[Nat.blt_eq];omega
theorem I0i{a b c:A0n}(h1:B0I a b=true)(h2:B0I b c=true):B0I a c=true:=by
 unfold B0I at *
 simp only[Bool.or_eq_true,Bool.and_eq_true,decide_eq_true_eq] at *
 rcases h1 with h1|⟨e1,h1⟩
 ·rcases h2 with h2|⟨e2,h2⟩
  ·exact .inl (R0e _ _ _ h1 h2)
  ·rw[←e2];exact .inl h1
 ·rcases h2 with h2|⟨e2,h2⟩
  ·rw[e1];exact .inl h2
  ·exact .inr ⟨e1.trans e2,by omega⟩
theorem Y0Y(a:A0n):B0I a a=false:=by
 unfold B0I;rw[I0L];simp
theorem e0f(c:A0n)(s:ByteArray)(a:Int):decide (ordC c s a<0)=B0I c ⟨s,a,[]⟩:=by
 have :=M0L c ⟨s,a,[]⟩
 unfold ordC
 have :=congrArg (!·) this
 simpa using this
theorem e0u{x y:ByteArray}(h:x.data.toList=y.data.toList):x=y:=by
 have :=congrArg List.toArray h
 cases x;cases y
 simp at this
 rw[this]
theorem b0a(c:A0n)(s:ByteArray)(a:Int):decide (ordC c s a=0)=(decide (c.name=s)&&decide (c.arity=a)):=by
 unfold ordC H0j cmpB cmpS
 cases h1:ltS c.name.data.toList s.data.toList with
 |
  true=>
  have ne:c.name≠s:=fun e=>by rw[e,I0L] at h1;cases h1
  simp[A0e,ne]
 |
  false=>
  cases h2:ltS s.data.toList c.name.data.toList with
  |
   true=>
   have ne:c.name≠s:=fun e=>by rw[e,I0L] at h2;cases h2
   simp[A0e,A0f,ne]
  |
   false=>
   have e:c.name=s:=e0u (P0U _ _ h1 h2)
   simp only[A0f,e]
   by_cases q:c.arity<a
   ·simp[q];omega
   ·by_cases q2:a<c.arity
    ·simp[q,q2];omega
    ·have :c.arity=a:=by omega
     simp[this]
def I0Z(l:List A0n):Prop:=l.Pairwise fun a b=>B0I a b=true
theorem H0J{m:Int}{atom:Bool}:∀{l:List A0n}{b:A0n},G0u m atom (some b) l=false→∀c∈l,B0I b c=true
 |[],_,_,c,h=>by cases h
 |
  d::l,b,hb,c,h=>by
  unfold G0u at hb
  simp only[Bool.or_eq_false_iff] at hb
  have hd:B0I b d=true:=by have :=hb.1.2;unfold behind at this;simpa using this
  rcases List.mem_cons.1 h with e|e
  ·rw[e];exact hd
  ·exact I0i hd (H0J hb.2 c e)
theorem L0t{m:Int}{atom:Bool}:∀{l:List A0n}{p:Option A0n},G0u m atom p l=false→I0Z l
 |[],_,_=>List.Pairwise.nil
 |
  d::l,p,hb=>by
  unfold G0u at hb
  simp only[Bool.or_eq_false_iff] at hb
  exact List.Pairwise.cons (H0J hb.2) (L0t hb.2)
theorem M0Y{l:List A0n}(h:I0Z l){i j:Nat}(hi:i<j)(hj:j<l.length):B0I (l.getD i B0h) (l.getD j B0h)=true:=by
 unfold I0Z at h
 rw[List.pairwise_iff_getElem] at h
 rw[List.getD_eq_getElem?_getD,List.getD_eq_getElem?_getD,List.getElem?_eq_getElem hj,List.getElem?_eq_getElem (by omega)]
 exact h i j (by omega) hj hi
theorem Q0d{l:List A0n}(hs:I0Z l)(s:ByteArray)(a:Int):∀(f:Nat)(i j:Int),(j-i).toNat≤f→0≤i→i≤j→j≤(l.length:Int)→
  (∀k:Nat,(k:Int)<i→B0I (l.getD k B0h) ⟨s,a,[]⟩=true)→(∀k:Nat,j≤(k:Int)→k<l.length→B0I (l.getD k B0h) ⟨s,a,[]⟩=false)→
  (∀k:Nat,(k:Int)<bsF l s a f i j→B0I (l.getD k B0h) ⟨s,a,[]⟩=true)∧(∀k:Nat,bsF l s a f i j≤(k:Int)→k<l.length→B0I (l.getD k B0h) ⟨s,a,[]⟩=false)
 |
  0,i,j,hf,h0,h1,h2,A,B=>by
  unfold bsF
  have :i=j:=by omega
  subst this
  exact⟨A,B⟩
 |
  f+1,i,j,hf,h0,h1,h2,A,B=>by
  unfold bsF
  by_cases c:i<j
  ·rw[if_pos c]
   have hlt:=e0f (l.getD ((i+j)/2).toNat B0h) s a
   by_cases d:ordC (l.getD ((i+j)/2).toNat B0h) s a<0
   ·rw[if_pos d]
    have d':B0I (l.getD ((i+j)/2).toNat B0h) ⟨s,a,[]⟩=true:=by rw[←hlt];exact decide_eq_true d
    refine Q0d hs s a f _ j (by omega) (by omega) (by omega) h2 (fun k hk=>?_) B
    rcases Int.lt_or_le (k:Int) ((i+j)/2) with q|q
    ·exact I0i (M0Y hs (i:=k) (j:=((i+j)/2).toNat) (by omega) (by omega)) d'
    ·have :k=((i+j)/2).toNat:=by omega
     rw[this];exact d'
   ·rw[if_neg d]
    have d':B0I (l.getD ((i+j)/2).toNat B0h) ⟨s,a,[]⟩=false:=by rw[←hlt];exact decide_eq_false d
    refine Q0d hs s a f i _ (by omega) h0 (by omega) (by omega) A (fun k hk hkl=>?_)
    cases q:B0I (l.getD k B0h) ⟨s,a,[]⟩ with
    |false=>rfl
    |
     true=>
     rcases Int.lt_or_le ((i+j)/2) (k:Int) with z|z
     ·have :=I0i (M0Y hs (i:=((i+j)/2).toNat) (j:=k) (by omega) hkl) q
      rw[this] at d';cases d'
     ·have :k=((i+j)/2).toNat:=by omega
      rw[←this,q] at d';cases d'
  ·rw[if_neg c]
   have :i=j:=by omega
   subst this
   exact⟨A,B⟩
def keyB(s:ByteArray)(a:Int)(c:A0n):Bool:=decide (c.name=s)&&decide (c.arity=a)
def T0f(l:List A0n)(s:ByteArray)(a:Int):Option A0n:=l.find? (keyB s a)
theorem I0U{c d:A0n}{s:ByteArray}{a:Int}(h:keyB s a c=true):B0I d ⟨s,a,[]⟩=B0I d c:=by
 unfold keyB at h
 simp only[Bool.and_eq_true,decide_eq_true_eq] at h
 unfold B0I
 simp only[h.1,h.2]
theorem S0U{c:A0n}{s:ByteArray}{a:Int}(h:keyB s a c=true):B0I c ⟨s,a,[]⟩=false:=by rw[I0U h,Y0Y]
theorem O0R{l:List A0n}(hs:I0Z l)(s:ByteArray)(a:Int):(if C0e l s a=true then some (F0K l s a) else none)=T0f l s a:=by
 have hb:=E0r l s a
 have spec:=Q0d hs s a ((l.length:Int)-0).toNat 0 (l.length:Int) (Nat.le_refl _) (Int.le_refl _) (by omega) (Int.le_refl _) (fun k hk=>by omega) (fun k hk hkl=>by omega)
 have e:bsF l s a ((l.length:Int)-0).toNat 0 (l.length:Int)=B0m l s a:=rfl
 rw[e] at spec
 generalize hr:B0m l s a=r at hb spec
 obtain⟨n,rfl⟩:∃n:Nat,r=n:=⟨r.toNat,by omega⟩
 obtain⟨A,B⟩:=spec
 have oz:∀c:A0n,decide (ordC c s a=0)=keyB s a c:=fun c=>b0a c s a
 unfold C0e F0K
 rw[hr,oz]
 simp only[Int.toNat_natCast]
 have early:∀k (hk:k<l.length),k<n→keyB s a l[k]=false:=by
  intro k hk hkn
  have h1:=A k (by omega)
  rw[List.getD_eq_getElem?_getD,List.getElem?_eq_getElem hk] at h1
  cases q:keyB s a l[k] with
  |false=>rfl
  |true=>have :=S0U q;rw[show B0I l[k] ⟨s,a,[]⟩=true from h1] at this;cases this
 unfold T0f
 by_cases hn:n<l.length
 ·have hg:l.getD n B0h=l[n]:=by rw[List.getD_eq_getElem?_getD,List.getElem?_eq_getElem hn];rfl
  rw[decide_eq_true (show(n:Int)<(l.length:Int) by omega),Bool.true_and,hg]
  cases q:keyB s a l[n] with
  |
   true=>
   rw[if_pos rfl]
   symm
   rw[List.find?_eq_some_iff_getElem]
   exact⟨q,n,hn,rfl,fun k hk=>by simpa using early k (by omega) hk⟩
  |
   false=>
   rw[if_neg (by simp)]
   symm
   rw[List.find?_eq_none]
   intro x hx
   obtain⟨k,hk,rfl⟩:=List.mem_iff_getElem.1 hx
   rcases Nat.lt_trichotomy k n with z|z|z
   ·rw[early k hk z];simp
   ·subst z;rw[q];simp
   ·intro qk
    have h1:=M0Y hs (i:=n) (j:=k) z hk
    have h2:=B n (Int.le_refl _) hn
    have :l.getD k B0h=l[k]:=by rw[List.getD_eq_getElem?_getD,List.getElem?_eq_getElem hk];rfl
    rw[this,←I0U qk,h2] at h1
    cases h1
 ·rw[decide_eq_false (show¬(n:Int)<(l.length:Int) by omega),Bool.false_and,if_neg (by simp)]
  symm
  rw[List.find?_eq_none]
  intro x hx
  obtain⟨k,hk,rfl⟩:=List.mem_iff_getElem.1 hx
  rw[early k hk (by omega)];simp
mutual
noncomputable def ofT(g:List Srt):Trm→Int→Bool
 |
  ⟨k,_,s,l⟩,i=>if k=1 then true else if k=2 then(gAt g i).int else if k=4 then(gAt g i).str
  else if k=6 then !decide (((gAt g i).vec.length:Int)=0)&&ofA g l ((gAt g i).vec.getD 0 0)
  else if(decide (k=3)&&(gAt g i).atom)=true then true else(match T0f (gAt g i).cases s (l.length:Int) with
   |none=>false
   |some c=>ofLs g l c.args)
noncomputable def ofA(g:List Srt):List Trm→Int→Bool
 |[],_=>true
 |x::l,i=>ofT g x i&&ofA g l i
noncomputable def ofLs(g:List Srt):List Trm→List Int→Bool
 |[],_=>true
 |x::l,ys=>ofT g x (ys.headD 0)&&ofLs g l ys.tail
end
theorem G0J{g:List Srt}{i:Int}(h:B0l g=true)(hi:inG g i):I0Z (gAt g i).cases:=by
 have hr:=E0g h hi
 have e:=U0h (g.length:Int) (gAt g i)
 rw[hr] at e
 unfold D0L at e
 have e:_=false:=e.symm
 simp only[Bool.or_eq_false_iff] at e
 exact L0t e.2.2.2
theorem V0S{g:List Srt}{i:Int}(h:B0l g=true)(hi:inG g i)(ha:(gAt g i).atom=true):∀c∈(gAt g i).cases,c.arity≠0:=by
 have hr:=E0g h hi
 unfold C0x at hr
 have hr:(decide (400<((gAt g i).cases.length:Int))||(decide (1<((gAt g i).vec.length:Int))||((gAt g i).vec.any (outB (g.length:Int))||D0F (g.length:Int) (gAt g i).atom none (gAt g i).cases)))=false:=by simpa using hr
 simp only[Bool.or_eq_false_iff] at hr
 intro c hc
 have :=L0l hr.2.2.2 c hc
 unfold C0c at this
 simp only[Bool.or_eq_false_iff] at this
 obtain⟨_,_,_,_,_,h6⟩:=this
 rw[ha,Bool.true_and] at h6
 exact of_decide_eq_false h6
theorem Y0G{n:Int}{s:ByteArray}{l:List Trm}(h:C0O 3 n s l=true):l=[]:=by
 unfold C0O at h
 simp only[J0S,noL] at h
 simp at h
 exact h.2.1
mutual
theorem f0x{g:List Srt}(hg:B0l g=true):∀(t:Trm)(i:Int),inG g i→C0V t=true→fitT g t i=ofT g t i
 |
  ⟨k,n,s,l⟩,i,hi,hw=>by
  unfold C0V at hw
  rw[Bool.and_eq_true] at hw
  obtain⟨hf,hl⟩:=hw
  obtain⟨r1,r2,r3,r4⟩:=D0r (E0g hg hi)
  unfold fitT ofT
  by_cases k1:k=1
  ·rw[if_pos k1,if_pos k1]
  rw[if_neg k1,if_neg k1]
  by_cases k2:k=2
  ·rw[if_pos k2,if_pos k2]
  rw[if_neg k2,if_neg k2]
  by_cases k4:k=4
  ·rw[if_pos k4,if_pos k4]
  rw[if_neg k4,if_neg k4]
  by_cases k6:k=6
  ·rw[if_pos k6,if_pos k6]
   by_cases hv:((gAt g i).vec.length:Int)=1
   ·have :¬((gAt g i).vec.length:Int)=0:=by omega
    rw[decide_eq_true hv,decide_eq_false this]
    rw[b0V hg l ((gAt g i).vec.getD 0 0) (r3 _ (A0H _ 0 0 (Int.le_refl _) (by omega))) hl]
    rfl
   ·have :((gAt g i).vec.length:Int)=0:=by omega
    rw[decide_eq_false hv,decide_eq_true this];rfl
  rw[if_neg k6,if_neg k6]
  have hfe:=O0R (G0J hg hi) s (l.length:Int)
  by_cases ka:(decide (k=3)&&(gAt g i).atom)=true
  ·rw[if_pos ka]
   have ka':=ka
   simp only[Bool.and_eq_true,decide_eq_true_eq] at ka'
   obtain⟨k3,hat⟩:=ka'
   subst k3
   have hnil:=Y0G hf
   subst hnil
   by_cases hq:C0e (gAt g i).cases s (([]:List Trm).length:Int)=true
   ·obtain⟨c1,c2⟩:=J0U hq
    exact absurd c2 (V0S hg hi hat _ c1)
   ·rw[if_neg hq];exact ka
  ·rw[if_neg ka]
   by_cases hq:C0e (gAt g i).cases s (l.length:Int)=true
   ·rw[if_pos hq] at hfe⊢
    rw[←hfe]
    obtain⟨c1,c2⟩:=J0U hq
    obtain⟨c3,c4⟩:=r4 _ c1
    exact Y0i hg l _ (by rw[c3,c2]) c4 hl
   ·rw[if_neg hq] at hfe⊢
    rw[←hfe]
    simpa using ka
theorem b0V{g:List Srt}(hg:B0l g=true):∀(l:List Trm)(i:Int),inG g i→E0L l=true→fitA g l i=ofA g l i
 |[],i,_,_=>by unfold fitA ofA;rfl
 |
  x::l,i,hi,hw=>by
  unfold E0L at hw
  rw[Bool.and_eq_true] at hw
  unfold fitA ofA
  rw[f0x hg x i hi hw.1,b0V hg l i hi hw.2]
theorem Y0i{g:List Srt}(hg:B0l g=true):∀(l:List Trm)(ys:List Int),(ys.length:Int)=(l.length:Int)→(∀x∈ys,0≤x∧x<(g.length:Int))→E0L l=true→E0D g l ys=ofLs g l ys
 |[],ys,_,_,_=>by unfold E0D ofLs;rfl
 |x::l,[],h,_,_=>by simp at h;omega
 |
  x::l,y::ys,h,hr,hw=>by
  unfold E0L at hw
  rw[Bool.and_eq_true] at hw
  unfold E0D ofLs
  simp only[List.headD_cons,List.tail_cons]
  rw[f0x hg x y (hr y (by simp)) hw.1,Y0i hg l ys (by simpa using h) (fun z hz=>hr z (by simp[hz])) hw.2]
end
theorem D0J:∀{l:List Trm}{x:Trm},x∈l→A0G x≤B0b l
 |
  y::l,x,h=>by
  unfold B0b
  have p1:=B0f y
  have p2:=C0p l
  rcases List.mem_cons.1 h with e|e
  ·rw[e];omega
  ·have :=D0J e;omega
theorem B0L:∀l:List Trm,(l.length:Int)≤B0b l
 |[]=>by unfold B0b;simp
 |
  x::l=>by
  unfold B0b
  have :=B0L l
  have :=B0f x
  simp;omega
mutual
def strT:Trm→Prop
 |⟨_,_,s,l⟩=>s.data.toList.length≤maxL∧(l.length:Int)≤1000000000∧strL l
def strL:List Trm→Prop
 |[]=>True
 |x::l=>strT x∧strL l
end
theorem J0i{α:Type}(l:List α):subL l 0 l.length=l:=by unfold subL;simp
abbrev SmY:Type:=S0c×Unit
mutual
def ndV:Trm→Int→Int→Bool×Int
 |⟨_,_,s,l⟩,left,deep=>if left-1<0∨650<deep∨500<(s.size:Int) then(false,left-1) else ndLV l (left-1) (deep+1)
def ndLV:List Trm→Int→Int→Bool×Int
 |[],left,_=>(true,left)
 |x::l,left,deep=>if(ndV x left deep).1=true then ndLV l (ndV x left deep).2 deep else(false,(ndV x left deep).2)
end
mutual
theorem S0K:∀(t:Trm)(left deep:Int),left≤1000000000→(ndV t left deep).1=true→0≤(ndV t left deep).2∧(ndV t left deep).2=left-A0G t∧strT t
 |
  ⟨k,n,s,l⟩,left,deep,hb,h=>by
  unfold ndV at h⊢
  by_cases c:left-1<0∨650<deep∨500<(s.size:Int)
  ·rw[if_pos c] at h;cases h
  ·rw[if_neg c] at h⊢
   obtain⟨h1,h2,h3⟩:=O0O l (left-1) (deep+1) (by omega) (by omega) h
   refine⟨h1,?_,?_⟩
   ·unfold A0G;rw[h2];omega
   ·unfold strT
    have hs:s.size=s.data.toList.length:=by cases s;simp[ByteArray.size]
    have :=B0L l
    exact⟨by unfold maxL;omega,by omega,h3⟩
theorem O0O:∀(l:List Trm)(left deep:Int),left≤1000000000→0≤left→(ndLV l left deep).1=true→0≤(ndLV l left deep).2∧(ndLV l left deep).2=left-B0b l∧strL l
 |[],left,deep,_,h0,_=>by unfold ndLV B0b strL;exact⟨h0,by simp,trivial⟩
 |
  x::l,left,deep,hb,h0,h=>by
  unfold ndLV at h⊢
  by_cases c:(ndV x left deep).1=true
  ·rw[if_pos c] at h⊢
   obtain⟨a1,a2,a3⟩:=S0K x left deep hb c
   have :=B0f x
   obtain⟨b1,b2,b3⟩:=O0O l _ deep (by omega) a1 h
   refine⟨b1,?_,?_⟩
   ·unfold B0b;rw[b2,a2];omega
   ·unfold strL;exact⟨a3,b3⟩
  ·rw[if_neg c] at h;cases h
end
mutual
def lenT:Trm→Prop
 |⟨_,_,_,l⟩=>l.length≤maxL∧lenL l
def lenL:List Trm→Prop
 |[]=>True
 |x::l=>lenT x∧lenL l
end
theorem T0Y:∀{l:List Trm},lenL l→∀x∈l,lenT x
 |[],_,x,h=>by cases h
 |
  y::l,hf,x,h=>by
  unfold lenL at hf
  rcases List.mem_cons.1 h with e|e
  ·rw[e];exact hf.1
  ·exact T0Y hf.2 x e
def ndP(N:Nat)(t:Trm)(left deep:Int):Prop:=(SizeOf.sizeOf t<N∧lenT t)∧0≤left∧left≤1000000000∧0≤deep∧deep≤1000000
noncomputable def ndS(N:Nat):WSpec:=⟨[.agg B0O],[.i .i64],.i .i64,3,fun(x:D0j×Unit)(y:Int)(z:Int×Unit)=>ndP N ⟨x.1.1,x.1.2.1,x.1.2.2.1,x.1.2.2.2.1⟩ y z.1,
 fun(x:D0j×Unit)(y:Int)(z:Int×Unit)=>.leaf (.sb (ndV ⟨x.1.1,x.1.2.1,x.1.2.2.1,x.1.2.2.2.1⟩ y z.1).1,.si .i64 (ndV ⟨x.1.1,x.1.2.1,x.1.2.2.1,x.1.2.2.2.1⟩ y z.1).2)⟩
abbrev NdX:Type:=Unit×Int×List Trm×Int×Int×Unit
abbrev NdY:Type:=(Int×Unit)×Unit
def b0r(N:Nat)(l:List Trm)(n i left deep:Int):Prop:=(∀x∈l,SizeOf.sizeOf x<N∧lenT x)∧n=(l.length:Int)∧l.length≤maxL∧0≤i∧i≤(l.length:Int)∧0≤left∧left≤1000000000∧0≤deep∧deep≤650
noncomputable def ndDt(l:List Trm)(i left deep:Int):Dt (AExit×List AVal×List AObj):=
 .ite (!(ndLV (l.drop i.toNat) left (deep+1)).1) (.leaf (.ret,[.sb false],[.cells [.si .i64 (ndLV (l.drop i.toNat) left (deep+1)).2] 3 false false 0 0 [(0,0,1)]]))
  (.leaf (.exit 0,[],[.cells [.si .i64 (ndLV (l.drop i.toNat) left (deep+1)).2] 3 false false 0 0 [(0,0,1)]]))
noncomputable def ndLp(N:Nat):PSpec:=
 {body:=B0e Tryz.f27 0,nt:=42,nx:=2,room:=8,keep:=[(1,.p 0 0),(2,.i .i64),(29,.d Cd.term),(30,.i .i64),(31,.i .i64)],objs:=[(0,.cells [.i .i64] 3 0 0 [(0,0,1)])]
  keepX:=fun x=>match x with |.ret=>[6]|_=>[],objsX:=fun _=>[0]
  inv:=fun(x:NdX)(y:NdY)=>b0r N x.2.2.1 x.2.2.2.1 x.2.2.2.2.1 y.1.1 x.2.1
  res:=fun(x:NdX)(y:NdY)=>ndDt x.2.2.1 x.2.2.2.2.1 y.1.1 x.2.1}
theorem d0L(N:Nat)(hK:(ndS N).Kept Tryz.prog 27):A0h Tryz.prog ((ndLp N).loop []):=by
 refine f0B (xsc (X:=.w (ndS N)) hK xs0) ct0 lp0 (ndLp N) (fun(x:NdX) _=>(((show List Trm from x.2.2.1).length:Int)-x.2.2.2.2.1).toNat) (by kernel_rfl) ?_
 intro xx yy hx
 obtain⟨u1,deep,l,n,i,u2⟩:NdX:=xx
 obtain⟨⟨left,u3⟩,u4⟩:NdY:=yy
 have hx:b0r N l n i left deep:=hx
 obtain⟨hsz,rfl,hm,h0,h1,hl0,hl1,hd0,hd1⟩:=hx
 have hm2:=G0y hm
 let z:Trm:=Univ.dflt (Cd.term:Cd)
 refine A0A (t:=.ite (decide (i<(l.length:Int))) (.ite (decide (0≤i)&&decide (i<(l.length:Int))) (.ite (dec (ndP N (eT (l.getD i.toNat z)) left (IntKind.i64.wrap (deep+1))))
   (.ite (!(ndV (eT (l.getD i.toNat z)) left (IntKind.i64.wrap (deep+1))).1) (.leaf (true,.ret,[.sb false],[.cells [.si .i64 (ndV (eT (l.getD i.toNat z)) left (IntKind.i64.wrap (deep+1))).2] 3 false false 0 0 [(0,0,1)]]))
    (.leaf (true,.normal,[.ptr 0 0,.si .i64 deep,.dsl (Cd.term:Cd) l,.si .i64 (l.length:Int),.si .i64 (IntKind.i64.wrap (i+1))],[.cells [.si .i64 (ndV (eT (l.getD i.toNat z)) left (IntKind.i64.wrap (deep+1))).2] 3 false false 0 0 [(0,0,1)]]))) .fail) .fail)
  (.leaf (true,.exit 0,[],[.cells [.si .i64 left] 3 false false 0 0 [(0,0,1)]]))) (by kernel_rfl) ?_
 rw[D0i]
 refine A0b (fun hlt=>?_) (fun hlt=>⟨rfl,?_⟩)
 ·have hlt:=of_decide_eq_true hlt
  have hd:=A0w l i z h0 hlt
  have hw:IntKind.i64.wrap (i+1)=i+1:=A0C (by omega) (by omega)
  have hw2:IntKind.i64.wrap (deep+1)=deep+1:=A0C (by omega) (by omega)
  have hc:ndLV (l.drop i.toNat) left (deep+1)=if(ndV (l.getD i.toNat z) left (deep+1)).1=true then ndLV (l.drop (i+1).toNat) (ndV (l.getD i.toNat z) left (deep+1)).2 (deep+1) else(false,(ndV (l.getD i.toNat z) left (deep+1)).2):=by
   rw[hd];conv=>lhs;unfold ndLV
  rw[hw,hw2]
  refine A0c (by simp;exact⟨h0,hlt⟩) (A0c (A0g ⟨hsz _ (A0H l i z h0 hlt),hl0,hl1,by omega,by omega⟩) (A0b (fun h=>⟨rfl,?_⟩) (fun h=>⟨rfl,((),(deep:Int),l,(l.length:Int),(i+1:Int),()),(((ndV (l.getD i.toNat z) left (deep+1)).2,()),()),rfl,rfl,?_,?_,?_⟩)))
  ·have h:(ndV (l.getD i.toNat z) left (deep+1)).1=false:=by simpa using h
   rw[if_neg (by rw[h];simp)] at hc
   show(ndDt l i left deep).val=_
   unfold ndDt;rw[hc];rfl
  ·have h:(ndV (l.getD i.toNat z) left (deep+1)).1=true:=by simpa using h
   obtain⟨a1,a2,_⟩:=S0K _ _ _ hl1 h
   have :=B0f (l.getD i.toNat z)
   show b0r N l (l.length:Int) (i+1) (ndV (l.getD i.toNat z) left (deep+1)).2 deep
   exact⟨hsz,rfl,hm,by omega,by omega,a1,by omega,hd0,hd1⟩
  ·show((l.length:Int)-(i+1)).toNat<((l.length:Int)-i).toNat
   omega
  ·have h:(ndV (l.getD i.toNat z) left (deep+1)).1=true:=by simpa using h
   rw[if_pos h] at hc
   show(ndDt l (i+1) (ndV (l.getD i.toNat z) left (deep+1)).2 deep).val=(ndDt l i left deep).val
   unfold ndDt;rw[hc]
 ·have hlt:=of_decide_eq_false hlt
  show(ndDt l i left deep).val=_
  unfold ndDt
  rw[A0N l i h1 hlt]
  unfold ndLV
  rfl
theorem M0H:∀N,(ndS N).Kept Tryz.prog 27
 |
  0=>by
  intro x y z hx
  exact absurd hx.1.1 (Nat.not_lt_zero _)
 |
  N+1=>by
  have hL:∀p∈[(0,(ndLp N).loop [])],A0h Tryz.prog p.2:=lpc (d0L N (M0H N)) lp0
  have hmk:mkFn Tryz.prog 27=some (.code (A0u [(0,(ndLp N).loop [])] (cd Tryz.f27 [0])) Tryz.f27.ntmps Tryz.f27.results.toList):=by kernel_rfl
  refine g0b xs0 ct0 hL (ndS (N+1)) 27 Tryz.f27 [0] hmk (by kernel_rfl) ?_
  intro xx yy zz hx
  obtain⟨⟨k,n,s,l,u1⟩,u2⟩:D0j×Unit:=xx
  obtain⟨deep,u3⟩:Int×Unit:=zz
  let left:Int:=yy
  have hp:ndP (N+1) ⟨k,n,s,l⟩ left deep:=hx
  obtain⟨⟨h1,h2⟩,hl0,hl1,hd0,hd1⟩:=hp
  have h2:l.length≤maxL∧lenL l:=by unfold lenT at h2;exact h2
  refine A0A (t:=.ite (decide (IntKind.i64.wrap (left-1)<0)) (.leaf (true,some (.sb false,.si .i64 (IntKind.i64.wrap (left-1))))) (.ite (decide (650<deep)) (.leaf (true,some (.sb false,.si .i64 (IntKind.i64.wrap (left-1)))))
   (.ite (decide (500<(s.size:Int))) (.leaf (true,some (.sb false,.si .i64 (IntKind.i64.wrap (left-1))))) (.ite (dec (b0r N l (l.length:Int) 0 (IntKind.i64.wrap (left-1)) deep))
    (.ite (!(ndLV l (IntKind.i64.wrap (left-1)) (deep+1)).1) (.leaf (true,some (.sb false,.si .i64 (ndLV l (IntKind.i64.wrap (left-1)) (deep+1)).2))) (.leaf (true,some (.sb true,.si .i64 (ndLV l (IntKind.i64.wrap (left-1)) (deep+1)).2)))) .fail)))) (by kernel_rfl) ?_
  have hw:IntKind.i64.wrap (left-1)=left-1:=A0C (by omega) (by omega)
  rw[hw]
  have e:ndV ⟨k,n,s,l⟩ left deep=if left-1<0∨650<deep∨500<(s.size:Int) then(false,left-1) else ndLV l (left-1) (deep+1):=by conv=>lhs;unfold ndV
  have res:∀b x,ndV ⟨k,n,s,l⟩ left deep=(b,x)→(Dt.leaf (true,some (AVal.sb b,AVal.si IntKind.i64 x))).holds fun q=>q.1=true∧some (AVal.sb (ndV ⟨k,n,s,l⟩ left deep).1,AVal.si IntKind.i64 (ndV ⟨k,n,s,l⟩ left deep).2)=q.2∧q.2≠none:=by
   intro b x h
   exact A0L ⟨rfl,by rw[h],fun h=>by cases h⟩
  show Dt.holds (fun(q:Bool×Option (AVal×AVal))=>q.1=true∧some (AVal.sb (ndV ⟨k,n,s,l⟩ left deep).1,AVal.si IntKind.i64 (ndV ⟨k,n,s,l⟩ left deep).2)=q.2∧q.2≠none) _
  refine A0b (fun h=>res _ _ (by rw[e,if_pos (.inl (of_decide_eq_true h))])) fun c1=>A0b (fun h=>res _ _ (by rw[e,if_pos (.inr (.inl (of_decide_eq_true h)))])) fun c2=>A0b (fun h=>res _ _ (by rw[e,if_pos (.inr (.inr (of_decide_eq_true h)))])) fun c3=>?_
  have c1:=of_decide_eq_false c1
  have c2:=of_decide_eq_false c2
  have c3:=of_decide_eq_false c3
  rw[if_neg (by omega)] at e
  refine A0c (A0g ⟨fun x hx=>⟨?_,T0Y h2.2 x hx⟩,rfl,h2.1,Int.le_refl _,by omega,by omega,by omega,hd0,by omega⟩) (A0b (fun h=>res _ _ ?_) (fun h=>res _ _ ?_))
  ·have :=List.sizeOf_lt_of_mem hx
   simp only[Trm.mk.sizeOf_spec] at h1
   omega
  ·have h:(ndLV l (left-1) (deep+1)).1=false:=by simpa using h
   rw[e,←h]
  ·have h:(ndLV l (left-1) (deep+1)).1=true:=by simpa using h
   rw[e,←h]
noncomputable def ndAll:WSpec:=⟨[.agg B0O],[.i .i64],.i .i64,3,fun(x:D0j×Unit)(y:Int)(z:Int×Unit)=>lenT ⟨x.1.1,x.1.2.1,x.1.2.2.1,x.1.2.2.2.1⟩∧0≤y∧y≤1000000000∧0≤z.1∧z.1≤1000000,
 fun(x:D0j×Unit)(y:Int)(z:Int×Unit)=>.leaf (.sb (ndV ⟨x.1.1,x.1.2.1,x.1.2.2.1,x.1.2.2.2.1⟩ y z.1).1,.si .i64 (ndV ⟨x.1.1,x.1.2.1,x.1.2.2.1,x.1.2.2.2.1⟩ y z.1).2)⟩
theorem W0x:ndAll.Kept Tryz.prog 27:=by
 intro x y z hx
 let x':D0j×Unit:=x
 exact M0H (SizeOf.sizeOf (⟨x'.1.1,x'.1.2.1,x'.1.2.2.1,x'.1.2.2.2.1⟩:Trm)+1) x y z ⟨⟨Nat.lt_succ_self _,hx.1⟩,hx.2⟩
def I0k(c:A0n):Bool:=decide (20<(c.args.length:Int))||decide (200<(c.name.size:Int))
def smG:List Srt→Int→Bool
 |[],_=>true
 |s::g,m=>!(s.cases.any I0k)&&(!(decide (60<IntKind.i64.wrap (m+(s.cases.length:Int))))&&(!(decide (5<(s.vec.length:Int)))&&smG g (IntKind.i64.wrap (m+(s.cases.length:Int)))))
def E0f(g:List Srt):Bool:=smG g 0&&!(decide (12<(g.length:Int)))
def E0X(g:List Srt):Prop:=g.length≤maxL∧∀s∈g,s.cases.length≤maxL
abbrev SaX:Type:=List (List Srt)×Int×Int×List Srt×Int×List Srt×Int×Int×Unit×List A0n×Int×Int×Unit
abbrev SaX2:Type:=List (List Srt)×Int×Int×List Srt×Int×List Srt×Int×Int×Unit
abbrev SaX1:Type:=List (List Srt)×Int×Int×Unit
noncomputable abbrev saK:List (Nat×Pt):=[(10,.d Cd.sorts),(11,.i .i64),(12,.i .i64),(4,.d Cd.sort),(5,.i .i64),(16,.d Cd.sort),(17,.i .i64),(18,.i .i64)]
noncomputable def R0s(gs:List (List Srt))(n1 i1:Int)(g:List Srt)(m:Int)(g2:List Srt)(n2 i2:Int)(b1 b2 b3:Bool)(c0:List A0n)(v:List Int)(cs:List A0n)(i3:Int):Dt (AExit×List AVal×List AObj):=
 .ite ((cs.drop i3.toNat).any I0k) (.leaf (.ret,[.sb false],[])) (.leaf (.exit 4,[.dsl (Cd.sorts:Cd) gs,.si .i64 n1,.si .i64 i1,.dsl (Cd.sort:Cd) g,.si .i64 m,.dsl (Cd.sort:Cd) g2,.si .i64 n2,.si .i64 i2,.ptr 0 0],
  [.cells [.sb b1,.sb b2,.sb b3,.dsl (Cd.case:Cd) c0,.dsl (Cd.int:Cd) v] 56 false false 0 0 [(0,0,5)]]))
def sa3V(cs:List A0n)(n i:Int):Prop:=n=(cs.length:Int)∧cs.length≤maxL∧0≤i∧i≤(cs.length:Int)
noncomputable def sa3:PSpec:=
 {body:=B0e Tryz.f25 4,nt:=59,nx:=1,room:=8,keep:=saK++[(7,.p 0 0),(28,.d Cd.case),(29,.i .i64),(30,.i .i64)],objs:=[(0,.cells R0h 56 0 0 [(0,0,5)])]
  keepX:=fun x=>match x with |.ret=>[2]|_=>[10,11,12,4,5,16,17,18,7],objsX:=fun x=>match x with |.ret=>[]|_=>[0]
  inv:=fun(x:SaX)(y:SmY)=>sa3V x.2.2.2.2.2.2.2.2.2.1 x.2.2.2.2.2.2.2.2.2.2.1 x.2.2.2.2.2.2.2.2.2.2.2.1
  res:=fun(x:SaX)(y:SmY)=>R0s x.1 x.2.1 x.2.2.1 x.2.2.2.1 x.2.2.2.2.1 x.2.2.2.2.2.1 x.2.2.2.2.2.2.1 x.2.2.2.2.2.2.2.1 y.1.1 y.1.2.1 y.1.2.2.1 y.1.2.2.2.1 y.1.2.2.2.2.1 x.2.2.2.2.2.2.2.2.2.1 x.2.2.2.2.2.2.2.2.2.2.2.1}
theorem e0A:A0h Tryz.prog (sa3.loop []):=by
 refine G0w ct0 lp0 sa3 (fun(x:SaX) _=>(((show List A0n from x.2.2.2.2.2.2.2.2.2.1).length:Int)-x.2.2.2.2.2.2.2.2.2.2.2.1).toNat) (by kernel_rfl) ?_
 intro xx yy hx
 obtain⟨gs,n1,i1,g,m,g2,n2,i2,u1,cs,n3,i3,u2⟩:SaX:=xx
 obtain⟨⟨b1,b2,b3,c0,v,u3⟩,u4⟩:SmY:=yy
 have hx:sa3V cs n3 i3:=hx
 obtain⟨rfl,hm,h0,h1⟩:=hx
 have hm2:=G0y hm
 let z:A0n:=Univ.dflt (Cd.case:Cd)
 refine A0A (t:=.ite (decide (i3<(cs.length:Int))) (.ite (decide (0≤i3)&&decide (i3<(cs.length:Int))) (.ite (decide (20<((cs.getD i3.toNat z).args.length:Int))) (.leaf (true,.ret,[.sb false],[])) (.ite (decide (200<((cs.getD i3.toNat z).name.size:Int))) (.leaf (true,.ret,[.sb false],[]))
   (.leaf (true,.normal,[.dsl (Cd.sorts:Cd) gs,.si .i64 n1,.si .i64 i1,.dsl (Cd.sort:Cd) g,.si .i64 m,.dsl (Cd.sort:Cd) g2,.si .i64 n2,.si .i64 i2,.ptr 0 0,.dsl (Cd.case:Cd) cs,.si .i64 (cs.length:Int),.si .i64 (IntKind.i64.wrap (i3+1))],
    [.cells [.sb b1,.sb b2,.sb b3,.dsl (Cd.case:Cd) c0,.dsl (Cd.int:Cd) v] 56 false false 0 0 [(0,0,5)]])))) .fail)
  (.leaf (true,.exit 4,[.dsl (Cd.sorts:Cd) gs,.si .i64 n1,.si .i64 i1,.dsl (Cd.sort:Cd) g,.si .i64 m,.dsl (Cd.sort:Cd) g2,.si .i64 n2,.si .i64 i2,.ptr 0 0],[.cells [.sb b1,.sb b2,.sb b3,.dsl (Cd.case:Cd) c0,.dsl (Cd.int:Cd) v] 56 false false 0 0 [(0,0,5)]]))) (by kernel_rfl) ?_
 refine A0b (fun hlt=>?_) (fun hlt=>⟨rfl,?_⟩)
 ·have hlt:=of_decide_eq_true hlt
  have hd:=A0w cs i3 z h0 hlt
  have hw:IntKind.i64.wrap (i3+1)=i3+1:=A0C (by omega) (by omega)
  have hc:(cs.drop i3.toNat).any I0k=(I0k (cs.getD i3.toNat z)||(cs.drop (i3+1).toNat).any I0k):=by rw[hd,List.any_cons]
  have bad:I0k (cs.getD i3.toNat z)=true→(R0s gs n1 i1 g m g2 n2 i2 b1 b2 b3 c0 v cs i3).val=some (.ret,[.sb false],[]):=by
   intro h;unfold R0s;rw[hc,h];rfl
  rw[hw]
  refine A0c (by simp;exact⟨h0,hlt⟩) (A0b (fun h=>⟨rfl,bad (by unfold I0k;rw[h];rfl)⟩) fun h=>A0b (fun h'=>⟨rfl,bad (by unfold I0k;rw[h',Bool.or_true])⟩) fun h'=>⟨rfl,(gs,n1,i1,g,m,g2,n2,i2,(),cs,(cs.length:Int),(i3+1:Int),()),((b1,b2,b3,c0,v,()),()),rfl,rfl,?_,?_,?_⟩)
  ·show sa3V cs (cs.length:Int) (i3+1)
   exact⟨rfl,hm,by omega,by omega⟩
  ·show((cs.length:Int)-(i3+1)).toNat<((cs.length:Int)-i3).toNat
   omega
  ·have hf:I0k (cs.getD i3.toNat z)=false:=by unfold I0k;rw[h,h'];rfl
   show(R0s gs n1 i1 g m g2 n2 i2 b1 b2 b3 c0 v cs (i3+1)).val=(R0s gs n1 i1 g m g2 n2 i2 b1 b2 b3 c0 v cs i3).val
   unfold R0s;rw[hc,hf,Bool.false_or]
 ·have hlt:=of_decide_eq_false hlt
  show(R0s gs n1 i1 g m g2 n2 i2 b1 b2 b3 c0 v cs i3).val=_
  unfold R0s
  rw[A0N cs i3 h1 hlt]
  rfl
noncomputable def Q0y(gs:List (List Srt))(n1 i1:Int)(g:List Srt)(m:Int)(g2:List Srt)(i2:Int):Dt (AExit×List AVal×List AObj):=
 .ite (!smG (g2.drop i2.toNat) m) (.leaf (.ret,[.sb false],[])) (.leaf (.exit 2,[.dsl (Cd.sorts:Cd) gs,.si .i64 n1,.si .i64 i1,.dsl (Cd.sort:Cd) g],[]))
def sa2V(g2:List Srt)(n2 i2:Int):Prop:=E0X g2∧n2=(g2.length:Int)∧0≤i2∧i2≤(g2.length:Int)
noncomputable def sa2:PSpec:=
 {body:=I0r [4] (B0e Tryz.f25 2),nt:=59,nx:=0,room:=32,keep:=saK,objs:=[]
  keepX:=fun x=>match x with |.ret=>[2]|_=>[10,11,12,4],objsX:=fun _=>[]
  inv:=fun(x:SaX2) _=>sa2V x.2.2.2.2.2.1 x.2.2.2.2.2.2.1 x.2.2.2.2.2.2.2.1
  res:=fun(x:SaX2) _=>Q0y x.1 x.2.1 x.2.2.1 x.2.2.2.1 x.2.2.2.2.1 x.2.2.2.2.2.1 x.2.2.2.2.2.2.2.1}
theorem e0v:A0h Tryz.prog (sa2.loop [(4,sa3.loop [])]):=by
 refine G0w ct0 (lpc e0A lp0) sa2 (fun(x:SaX2) _=>(((show List Srt from x.2.2.2.2.2.1).length:Int)-x.2.2.2.2.2.2.2.1).toNat) (by kernel_rfl) ?_
 intro xx yy hx
 obtain⟨gs,n1,i1,g,m,g2,n2,i2,u1⟩:SaX2:=xx
 have hx:sa2V g2 n2 i2:=hx
 obtain⟨⟨hm,hcs⟩,rfl,h0,h1⟩:=hx
 have hm2:=G0y hm
 let z:Srt:=Univ.dflt (Cd.sort:Cd)
 let M:Int:=IntKind.i64.wrap (m+((g2.getD i2.toNat z).cases.length:Int))
 refine A0A (t:=.ite (decide (i2<(g2.length:Int))) (.ite (decide (0≤i2)&&decide (i2<(g2.length:Int))) (.ite (dec (sa3V (g2.getD i2.toNat z).cases ((g2.getD i2.toNat z).cases.length:Int) 0)) (.ite ((g2.getD i2.toNat z).cases.any I0k) (.leaf (true,.ret,[.sb false],[]))
   (.ite (decide (60<M)) (.leaf (true,.ret,[.sb false],[])) (.ite (decide (5<((g2.getD i2.toNat z).vec.length:Int))) (.leaf (true,.ret,[.sb false],[]))
    (.leaf (true,.normal,[.dsl (Cd.sorts:Cd) gs,.si .i64 n1,.si .i64 i1,.dsl (Cd.sort:Cd) g,.si .i64 M,.dsl (Cd.sort:Cd) g2,.si .i64 (g2.length:Int),.si .i64 (IntKind.i64.wrap (i2+1))],[]))))) .fail) .fail)
  (.leaf (true,.exit 2,[.dsl (Cd.sorts:Cd) gs,.si .i64 n1,.si .i64 i1,.dsl (Cd.sort:Cd) g],[]))) (by kernel_rfl) ?_
 refine A0b (fun hlt=>?_) (fun hlt=>⟨rfl,?_⟩)
 ·have hlt:=of_decide_eq_true hlt
  have hd:=A0w g2 i2 z h0 hlt
  have hw:IntKind.i64.wrap (i2+1)=i2+1:=A0C (by omega) (by omega)
  have hcl:=hcs _ (A0H g2 i2 z h0 hlt)
  have hc:smG (g2.drop i2.toNat) m=(!((g2.getD i2.toNat z).cases.any I0k)&&(!(decide (60<M))&&(!(decide (5<((g2.getD i2.toNat z).vec.length:Int)))&&smG (g2.drop (i2+1).toNat) M))):=by
   rw[hd];conv=>lhs;unfold smG
  have bad:smG (g2.drop i2.toNat) m=false→(Q0y gs n1 i1 g m g2 i2).val=some (.ret,[.sb false],[]):=by
   intro h;unfold Q0y;rw[h];rfl
  rw[hw]
  refine A0c (by simp;exact⟨h0,hlt⟩) (A0c (A0g ⟨rfl,hcl,Int.le_refl _,by omega⟩) (A0b (fun h=>⟨rfl,bad (by rw[hc,h];rfl)⟩) fun h=>A0b (fun h'=>⟨rfl,bad (by rw[hc,h'];simp)⟩) fun h'=>A0b (fun h''=>⟨rfl,bad (by rw[hc,h''];simp)⟩) fun h''=>
   ⟨rfl,(gs,n1,i1,g,M,g2,(g2.length:Int),(i2+1:Int),()),(),rfl,rfl,?_,?_,?_⟩))
  ·show sa2V g2 (g2.length:Int) (i2+1)
   exact⟨⟨hm,hcs⟩,rfl,by omega,by omega⟩
  ·show((g2.length:Int)-(i2+1)).toNat<((g2.length:Int)-i2).toNat
   omega
  ·show(Q0y gs n1 i1 g M g2 (i2+1)).val=(Q0y gs n1 i1 g m g2 i2).val
   unfold Q0y;rw[hc,h,h',h''];rfl
 ·have hlt:=of_decide_eq_false hlt
  show(Q0y gs n1 i1 g m g2 i2).val=_
  unfold Q0y
  rw[A0N g2 i2 h1 hlt]
  rfl
noncomputable def Q0k(gs:List (List Srt))(i:Int):Dt (AExit×List AVal×List AObj):=.ite ((gs.drop i.toNat).all E0f) (.leaf (.exit 0,[],[])) (.leaf (.ret,[.sb false],[]))
def sa1V(gs:List (List Srt))(n i:Int):Prop:=(∀g∈gs,E0X g)∧gs.length≤maxL∧n=(gs.length:Int)∧0≤i∧i≤(gs.length:Int)
noncomputable def sa1:PSpec:=
 {body:=I0r [2] (B0e Tryz.f25 0),nt:=59,nx:=0,room:=64,keep:=[(10,.d Cd.sorts),(11,.i .i64),(12,.i .i64)],objs:=[]
  keepX:=fun x=>match x with |.ret=>[2]|_=>[],objsX:=fun _=>[]
  inv:=fun(x:SaX1) _=>sa1V x.1 x.2.1 x.2.2.1
  res:=fun(x:SaX1) _=>Q0k x.1 x.2.2.1}
theorem f0G:A0h Tryz.prog (sa1.loop [(2,sa2.loop [(4,sa3.loop [])])]):=by
 refine G0w ct0 (lpc e0v lp0) sa1 (fun(x:SaX1) _=>(((show List (List Srt) from x.1).length:Int)-x.2.2.1).toNat) (by kernel_rfl) ?_
 intro xx yy hx
 obtain⟨gs,n,i,u1⟩:SaX1:=xx
 have hx:sa1V gs n i:=hx
 obtain⟨hg,hm,rfl,h0,h1⟩:=hx
 have hm2:=G0y hm
 let z:List Srt:=Univ.dflt (Cd.sorts:Cd)
 refine A0A (t:=.ite (decide (i<(gs.length:Int))) (.ite (decide (0≤i)&&decide (i<(gs.length:Int))) (.ite (dec (sa2V (gs.getD i.toNat z) ((gs.getD i.toNat z).length:Int) 0)) (.ite (!smG (gs.getD i.toNat z) 0) (.leaf (true,.ret,[.sb false],[]))
   (.ite (decide (12<((gs.getD i.toNat z).length:Int))) (.leaf (true,.ret,[.sb false],[])) (.leaf (true,.normal,[.dsl (Cd.sorts:Cd) gs,.si .i64 (gs.length:Int),.si .i64 (IntKind.i64.wrap (i+1))],[])))) .fail) .fail)
  (.leaf (true,.exit 0,[],[]))) (by kernel_rfl) ?_
 refine A0b (fun hlt=>?_) (fun hlt=>⟨rfl,?_⟩)
 ·have hlt:=of_decide_eq_true hlt
  have hd:=A0w gs i z h0 hlt
  have hw:IntKind.i64.wrap (i+1)=i+1:=A0C (by omega) (by omega)
  have hgi:=hg _ (A0H gs i z h0 hlt)
  have hc:(gs.drop i.toNat).all E0f=((smG (gs.getD i.toNat z) 0&&!(decide (12<((gs.getD i.toNat z).length:Int))))&&(gs.drop (i+1).toNat).all E0f):=by rw[hd,List.all_cons];rfl
  have bad:(gs.drop i.toNat).all E0f=false→(Q0k gs i).val=some (.ret,[.sb false],[]):=by
   intro h;unfold Q0k;rw[h];rfl
  rw[hw]
  refine A0c (by simp;exact⟨h0,hlt⟩) (A0c (A0g ⟨hgi,rfl,Int.le_refl _,by omega⟩) (A0b (fun h=>⟨rfl,bad ?_⟩) fun h=>A0b (fun h'=>⟨rfl,bad (by rw[hc,h'];simp)⟩) fun h'=>⟨rfl,(gs,(gs.length:Int),(i+1:Int),()),(),rfl,rfl,?_,?_,?_⟩))
  ·have h:smG (gs.getD i.toNat z) 0=false:=by simpa using h
   rw[hc,h];rfl
  ·show sa1V gs (gs.length:Int) (i+1)
   exact⟨hg,hm,rfl,by omega,by omega⟩
  ·show((gs.length:Int)-(i+1)).toNat<((gs.length:Int)-i).toNat
   omega
  ·have h:smG (gs.getD i.toNat z) 0=true:=by simpa using h
   show(Q0k gs (i+1)).val=(Q0k gs i).val
   unfold Q0k;rw[hc,h,h'];rfl
 ·have hlt:=of_decide_eq_false hlt
  show(Q0k gs i).val=_
  unfold Q0k
  rw[A0N gs i h1 hlt]
  rfl
noncomputable def smallC:FSpec:=⟨[.d Cd.sorts],fun(x:List (List Srt)×Unit)=>(∀g∈x.1,E0X g)∧x.1.length≤maxL,fun(x:List (List Srt)×Unit)=>.leaf (.sb (x.1.all E0f))⟩
theorem N0X:smallC.Kept Tryz.prog 25:=by
 have hL:∀p∈[(0,sa1.loop [(2,sa2.loop [(4,sa3.loop [])])])],A0h Tryz.prog p.2:=lpc f0G lp0
 have hmk:mkFn Tryz.prog 25=some (.code (A0u [(0,sa1.loop [(2,sa2.loop [(4,sa3.loop [])])])] (cd Tryz.f25 [0])) Tryz.f25.ntmps Tryz.f25.results.toList):=by kernel_rfl
 refine B0w ct0 hL smallC 25 Tryz.f25 [0] hmk (by kernel_rfl) ?_
 intro xx hx
 obtain⟨gs,u⟩:List (List Srt)×Unit:=xx
 obtain⟨hx,hm⟩:(∀g∈gs,E0X g)∧gs.length≤maxL:=hx
 refine A0A (t:=.ite (dec (sa1V gs (gs.length:Int) 0)) (.ite (gs.all E0f) (.leaf (true,.sb true)) (.leaf (true,.sb false))) .fail) (by kernel_rfl) ?_
 refine A0c (A0g ⟨hx,hm,rfl,Int.le_refl _,by omega⟩) (A0b (fun h=>⟨rfl,?_⟩) (fun h=>⟨rfl,?_⟩))
 ·show some (AVal.sb (gs.all E0f))=_
  rw[h]
 ·show some (AVal.sb (gs.all E0f))=_
  rw[h]
theorem M0E:∀{g:List Srt}{m:Int},smG g m=true→∀s∈g,∀c∈s.cases,I0k c=false
 |[],_,_,s,h=>by cases h
 |
  s::g,m,hb,t,h=>by
  unfold smG at hb
  simp only[Bool.and_eq_true] at hb
  rcases List.mem_cons.1 h with e|e
  ·rw[e]
   intro c hc
   have :=hb.1
   simp only[Bool.not_eq_true',List.any_eq_false] at this
   simpa using this c hc
  ·exact M0E hb.2.2.2 t e
def G0Y(l:List Smp)(n:Int):Int:=l.foldl (fun a x=>min 4001 (a+x.nodes)) n
def F0l(l:List Smp)(d:Int):Int:=l.foldl (fun a x=>max a x.deep) d
def D0n(k n:Int)(s:ByteArray)(l:List Smp):Smp:=⟨⟨k,n,s,l.map (·.t)⟩,G0Y l 1,min 4001 (F0l l 0+1)⟩
def isS(x:Smp):Bool:=decide (x.nodes≤4000)&&decide (x.deep≤600)
def okSm(x:Smp):Prop:=1≤x.nodes∧x.nodes≤4001∧1≤x.deep∧x.deep≤4001
theorem U0d:∀(l:List Smp)(n:Int),(∀x∈l,okSm x)→1≤n→n≤4001→1≤G0Y l n∧G0Y l n≤4001
 |[],n,_,h1,h2=>⟨h1,h2⟩
 |
  x::l,n,h,h1,h2=>by
  have :=h x (by simp)
  obtain⟨a,b,_,_⟩:=this
  exact U0d l (min 4001 (n+x.nodes)) (fun y hy=>h y (by simp[hy])) (by omega) (by omega)
theorem P0m:∀(l:List Smp)(d:Int),(∀x∈l,okSm x)→0≤d→d≤4001→0≤F0l l d∧F0l l d≤4001
 |[],n,_,h1,h2=>⟨h1,h2⟩
 |
  x::l,n,h,h1,h2=>by
  have :=h x (by simp)
  obtain⟨_,_,a,b⟩:=this
  exact P0m l (max n x.deep) (fun y hy=>h y (by simp[hy])) (by omega) (by omega)
theorem K0g{k n:Int}{s:ByteArray}{l:List Smp}(h:∀x∈l,okSm x):okSm (D0n k n s l):=by
 obtain⟨a,b⟩:=U0d l 1 h (by omega) (by omega)
 obtain⟨c,d⟩:=P0m l 0 h (by omega) (by omega)
 refine⟨a,b,?_,?_⟩
 ·show 1≤min 4001 (F0l l 0+1);omega
 ·show min 4001 (F0l l 0+1)≤4001;omega
abbrev Smps:Type:=Int→Option Smp
def A0Y(m:Smps):List Int→Option (List Smp)
 |[]=>some []
 |
  i::l=>match m i with
  |none=>none
  |
   some x=>match A0Y m l with
   |none=>none
   |some r=>some (x::r)
def S0z(c:A0n):Int:=if c.arity=0 then 3 else 5
def b0K(m:Smps)(c:A0n):Option Smp:=match A0Y m c.args with
 |none=>none
 |some l=>some (D0n (S0z c) 0 c.name l)
def D0O:List A0n→Option Smp
 |[]=>none
 |c::l=>if c.arity=0 then some (D0n 3 0 c.name []) else D0O l
def D0l(m:Smps):List A0n→Option Smp
 |[]=>none
 |
  c::l=>match b0K m c with
  |none=>D0l m l
  |some x=>some x
def c0q:ByteArray:=⟨#[97]⟩
def C0G(s:Srt)(m:Smps):Option Smp:=
 if s.int=true then some (D0n 2 0 ⟨#[]⟩ []) else if s.str=true then some (D0n 4 0 ⟨#[]⟩ []) else if s.atom=true then some (D0n 3 0 c0q [])
 else match D0O s.cases with
  |some x=>some x
  |none=>if 0<(s.vec.length:Int) then some (D0n 6 0 ⟨#[]⟩ []) else D0l m s.cases
noncomputable def newS(g:List Srt)(m:Smps):Smps:=fun i=>if(m i).isSome=true then none else if 0≤i∧i<(g.length:Int) then C0G (gAt g i) m else none
noncomputable def exR(g:List Srt)(m:Smps):Smps:=fun i=>match m i with
 |some x=>some x
 |none=>newS g m i
noncomputable def exK(g:List Srt):Nat→Smps→Smps
 |0,m=>m
 |n+1,m=>exK g n (exR g m)
noncomputable def G0N(g:List Srt)(m:Smps):Smps:=exK g g.length m
def lack(g:List Srt)(m:Smps):Nat:=((List.range g.length).filter fun(i:Nat)=>(m (i:Int)).isNone).length
def F0I(g:List Srt)(m:Smps):Prop:=∀i,(m i).isSome=true→inG g i
theorem f0j{g:List Srt}{m:Smps}{i:Int}{x:Smp}(h:m i=some x):exR g m i=some x:=by unfold exR;rw[h]
theorem M0U{g:List Srt}{m:Smps}{i:Int}(h:(newS g m i).isSome=true):inG g i∧m i=none:=by
 unfold newS at h
 split at h
 ·cases h
 ·rename_i hm
  split at h
  ·rename_i hi
   exact⟨hi,by cases hq:m i with |none=>rfl|some x=>rw[hq] at hm;exact absurd rfl hm⟩
  ·cases h
theorem e0h{g:List Srt}{m:Smps}(h:F0I g m):F0I g (exR g m):=by
 intro i hi
 unfold exR at hi
 cases hq:m i with
 |some x=>exact h i (by rw[hq];rfl)
 |none=>rw[hq] at hi;exact(M0U hi).1
theorem R0f{α:Type}{p q:α→Bool}(h:∀x,p x=true→q x=true):∀l:List α,(l.filter p).length≤(l.filter q).length
 |[]=>Nat.le_refl _
 |
  x::l=>by
  have ih:=R0f h l
  rw[List.filter_cons,List.filter_cons]
  cases hp:p x with
  |true=>rw[h x hp];simp;exact ih
  |false=>cases hq:q x<;>simp <;>omega
theorem R0O{α:Type}{p q:α→Bool}(h:∀x,p x=true→q x=true):∀{l:List α}{y:α},y∈l→q y=true→p y=false→(l.filter p).length<(l.filter q).length
 |[],_,hy,_,_=>by cases hy
 |
  x::l,y,hy,h1,h2=>by
  rw[List.filter_cons,List.filter_cons]
  rcases List.mem_cons.1 hy with e|e
  ·subst e
   rw[h1,h2]
   have :=R0f h l
   simp;omega
  ·have ih:=R0O h e h1 h2
   cases hp:p x with
   |true=>rw[h x hp];simp;exact ih
   |false=>cases hq:q x<;>simp <;>omega
theorem c0p{g:List Srt}{m:Smps}:lack g m≤g.length:=by
 unfold lack
 exact Nat.le_trans (List.length_filter_le _ _) (by simp)
theorem S0Y{g:List Srt}{m:Smps}{i:Int}(h:(newS g m i).isSome=true):lack g (exR g m)<lack g m:=by
 obtain⟨hi,hm⟩:=M0U h
 unfold lack
 refine R0O (y:=i.toNat) (fun x hx=>?_) (List.mem_range.2 (by have :=hi.1;have :=hi.2;omega)) ?_ ?_
 ·cases hq:m (x:Int) with
  |none=>rfl
  |some y=>rw[f0j hq] at hx;cases hx
 ·rw[show((i.toNat:Nat):Int)=i from Int.toNat_of_nonneg hi.1,hm];rfl
 ·rw[show((i.toNat:Nat):Int)=i from Int.toNat_of_nonneg hi.1]
  unfold exR
  rw[hm]
  simp only[]
  cases hq:newS g m i with
  |none=>rw[hq] at h;cases h
  |some x=>rfl
theorem P0X{g:List Srt}{m:Smps}(h:∀i,newS g m i=none):exR g m=m:=by
 funext i
 unfold exR
 cases hq:m i with
 |some x=>rfl
 |none=>exact h i
theorem U0n{g:List Srt}{m:Smps}(h:exR g m=m):∀n,exK g n m=m
 |0=>rfl
 |n+1=>by unfold exK;rw[h];exact U0n h n
theorem U0V{g:List Srt}:∀(n:Nat)(m:Smps),lack g m≤n→exK g n (exR g m)=exK g n m
 |
  0,m,h=>by
  have :∀i,newS g m i=none:=by
   intro i
   cases hq:newS g m i with
   |none=>rfl
   |
    some x=>
    have :=S0Y (g:=g) (m:=m) (i:=i) (by rw[hq];rfl)
    omega
  rw[P0X this]
 |
  n+1,m,h=>by
  by_cases c:∃i,(newS g m i).isSome=true
  ·obtain⟨i,hi⟩:=c
   have :=S0Y (g:=g) (m:=m) (i:=i) hi
   have ih:=U0V (g:=g) n (exR g m) (by omega)
   show exK g n (exR g (exR g m))=exK g n (exR g m)
   exact ih
  ·have :∀i,newS g m i=none:=by
    intro i
    cases hq:newS g m i with
    |none=>rfl
    |some x=>exact absurd ⟨i,by rw[hq];rfl⟩ c
   rw[P0X this]
theorem W0C(g:List Srt)(m:Smps):G0N g (exR g m)=G0N g m:=U0V g.length m c0p
theorem V0L{g:List Srt}{m:Smps}(h:∀i,newS g m i=none):G0N g m=m:=U0n (P0X h) _
theorem Z0t{g:List Srt}{P:Smps→Prop}(hs:∀m,P m→P (exR g m)):∀(n:Nat)(m:Smps),P m→P (exK g n m)
 |0,_,h=>h
 |n+1,m,h=>Z0t hs n (exR g m) (hs m h)
theorem J0j{m:Smps}{Q:Smp→Prop}(h:∀i x,m i=some x→Q x):∀{l:List Int}{r:List Smp},A0Y m l=some r→∀x∈r,Q x
 |[],r,e,x,hx=>by cases e;cases hx
 |
  i::l,r,e,x,hx=>by
  unfold A0Y at e
  cases hm:m i with
  |none=>rw[hm] at e;cases e
  |
   some y=>
   rw[hm] at e
   simp only[] at e
   cases hp:A0Y m l with
   |none=>rw[hp] at e;cases e
   |
    some r'=>
    rw[hp] at e
    cases e
    rcases List.mem_cons.1 hx with q|q
    ·rw[q];exact h i y hm
    ·exact J0j h hp x q
theorem N0a{m:Smps}:∀{l:List Int}{r:List Smp},A0Y m l=some r→r.length=l.length
 |[],r,e=>by cases e;rfl
 |
  i::l,r,e=>by
  unfold A0Y at e
  cases hm:m i with
  |none=>rw[hm] at e;cases e
  |
   some y=>
   rw[hm] at e
   simp only[] at e
   cases hp:A0Y m l with
   |none=>rw[hp] at e;cases e
   |
    some r'=>
    rw[hp] at e
    cases e
    simp[N0a hp]
theorem N0E{s:Srt}{m:Smps}{x:Smp}{Q:Smp→Prop}(h:C0G s m=some x)
  (h2:s.int=true→Q (D0n 2 0 ⟨#[]⟩ [])) (h4:s.str=true→Q (D0n 4 0 ⟨#[]⟩ [])) (h3:s.atom=true→Q (D0n 3 0 c0q [])) (h0:∀c∈s.cases,c.arity=0→Q (D0n 3 0 c.name []))
  (h6:0<(s.vec.length:Int)→Q (D0n 6 0 ⟨#[]⟩ [])) (hc:∀c∈s.cases,∀l,A0Y m c.args=some l→Q (D0n (S0z c) 0 c.name l)):Q x:=by
 unfold C0G at h
 split at h
 ·rename_i q;cases h;exact h2 q
 split at h
 ·rename_i q;cases h;exact h4 q
 split at h
 ·rename_i q;cases h;exact h3 q
 split at h
 ·rename_i y hy
  cases h
  clear h2 h4 h3 h6 hc
  generalize s.cases=cs at h0 hy
  induction cs with
  |nil=>cases hy
  |
   cons c cs ih=>
   unfold D0O at hy
   split at hy
   ·rename_i q;cases hy;exact h0 c (by simp) q
   ·exact ih (fun d hd=>h0 d (by simp[hd])) hy
 ·split at h
  ·rename_i q;cases h;exact h6 q
  ·clear h2 h4 h3 h6 h0
   generalize s.cases=cs at h hc
   induction cs with
   |nil=>cases h
   |
    cons c cs ih=>
    unfold D0l at h
    split at h
    ·exact ih h (fun d hd=>hc d (by simp[hd]))
    ·rename_i y hy
     cases h
     unfold b0K at hy
     split at hy
     ·cases hy
     ·rename_i l hl
      cases hy
      exact hc c (by simp) l hl
theorem Y0x{g:List Srt}{m:Smps}{Q:Int→Smp→Prop}(hm:∀i x,m i=some x→Q i x)(hn:∀i x,newS g m i=some x→Q i x):∀i x,exR g m i=some x→Q i x:=by
 intro i x h
 unfold exR at h
 cases hq:m i with
 |some y=>rw[hq] at h;cases h;exact hm i _ hq
 |none=>rw[hq] at h;exact hn i x h
theorem S0j{g:List Srt}{m:Smps}{i:Int}{x:Smp}(h:newS g m i=some x):inG g i∧C0G (gAt g i) m=some x:=by
 have hi:=(M0U (g:=g) (m:=m) (i:=i) (by rw[h];rfl)).1
 unfold newS at h
 split at h
 ·cases h
 ·rw[if_pos (show 0≤i∧i<(g.length:Int) from hi)] at h;exact⟨hi,h⟩
theorem a0p{s:Srt}{m:Smps}{x:Smp}(h:C0G s m=some x)(hm:∀i y,m i=some y→okSm y):okSm x:=by
 have e:∀y∈([]:List Smp),okSm y:=fun _ h=>by cases h
 exact N0E h (fun _=>K0g e) (fun _=>K0g e) (fun _=>K0g e) (fun _ _ _=>K0g e) (fun _=>K0g e) (fun c _ l hl=>K0g (J0j hm hl))
def cntN:Nat→Smps→Nat
 |0,_=>0
 |n+1,m=>cntN n m+cond (m (n:Int)).isSome 1 0
theorem a0g{m:Smps}{a:Int}{n:Nat}:D0M m a n=cond (m a).isSome n (n+1):=by
 unfold D0M;rw[B0v];cases(m a).isSome<;>rfl
theorem V0p{m:Smps}{a:Int}{b:Smp}(h0:0≤a):∀n:Nat,cntN n (updM m a b)=if a<(n:Int) then cond (m a).isSome (cntN n m) (cntN n m+1) else cntN n m
 |0=>by rw[if_neg (by omega)];rfl
 |
  n+1=>by
  have ih:=V0p (m:=m) (b:=b) h0 n
  unfold cntN
  rw[ih]
  by_cases c:(n:Int)=a
  ·rw[c,G0a,if_neg (by omega),if_pos (by omega)]
   cases(m a).isSome<;>simp
  ·rw[E0y c]
   by_cases d:a<(n:Int)
   ·rw[if_pos d,if_pos (by omega)]
    cases(m a).isSome<;>simp <;>omega
   ·rw[if_neg d,if_neg (by omega)]
theorem Z0p{m:Smps}{a:Int}{b:Smp}{n:Nat}(h0:0≤a)(h:a<(n:Int)):D0M m a (cntN n m)=cntN n (updM m a b):=by
 rw[V0p h0,if_pos h,a0g]
theorem U0T{m:Smps}{a:Int}(h0:0≤a)(hs:(m a).isSome=true):∀n:Nat,cntN n m=if a<(n:Int) then cntN n (delM m a)+1 else cntN n (delM m a)
 |0=>by rw[if_neg (by omega)];rfl
 |
  n+1=>by
  have ih:=U0T (m:=m) h0 hs n
  unfold cntN
  rw[ih]
  by_cases c:(n:Int)=a
  ·rw[c,P0q,hs,if_neg (by omega),if_pos (by omega)];rfl
  ·rw[K0q c]
   by_cases d:a<(n:Int)
   ·rw[if_pos d,if_pos (by omega)];omega
   ·rw[if_neg d,if_neg (by omega)]
theorem c0s{m:Smps}{a:Int}{n:Nat}(h0:0≤a)(h:a<(n:Int))(hs:(m a).isSome=true):cntN n (delM m a)<cntN n m:=by
 rw[U0T h0 hs n,if_pos h];omega
theorem V0l{m:Smps}:∀{n:Nat},cntN n m=0→∀i:Int,0≤i→i<(n:Int)→m i=none
 |0,_,i,h0,h=>by omega
 |
  n+1,hc,i,h0,h=>by
  unfold cntN at hc
  by_cases c:i=(n:Int)
  ·rw[c]
   cases hq:m (n:Int) with
   |none=>rfl
   |some x=>rw[hq] at hc;simp at hc
  ·exact V0l (n:=n) (by omega) i h0 (by omega)
theorem L0a{m:Smps}(h:∀i,m i=none):∀n:Nat,cntN n m=0
 |0=>rfl
 |n+1=>by unfold cntN;rw[L0a h n,h];rfl
def K0V(m:Smps)(i:Int):Smps:=fun x=>if x<i then m x else none
theorem V0v{m:Smps}{i:Int}{y:Smp}(h:m i=some y):K0V m (i+1)=updM (K0V m i) i y:=by
 funext x
 unfold K0V
 by_cases c:x=i
 ·rw[c,G0a,if_pos (by omega),h]
 ·rw[E0y c]
  by_cases d:x<i
  ·rw[if_pos d,if_pos (by omega)]
  ·rw[if_neg d,if_neg (by omega)]
theorem O0o{m:Smps}{i:Int}(h:m i=none):K0V m (i+1)=K0V m i:=by
 funext x
 unfold K0V
 by_cases c:x=i
 ·rw[c,if_pos (by omega),if_neg (by omega),h]
 ·by_cases d:x<i
  ·rw[if_pos d,if_pos (by omega)]
  ·rw[if_neg d,if_neg (by omega)]
theorem W0a{g:List Srt}{m:Smps}(h:F0I g m):(fun _=>none)=K0V m 0:=by
 funext x
 unfold K0V
 split
 ·rename_i c
  cases hq:m x with
  |none=>rfl
  |some y=>have :=h x (by rw[hq];rfl);unfold inG at this;omega
 ·rfl
theorem W0d{g:List Srt}{m:Smps}(h:F0I g m):K0V m (g.length:Int)=m:=by
 funext x
 unfold K0V
 split
 ·rfl
 ·rename_i c
  cases hq:m x with
  |none=>rfl
  |some y=>have :=h x (by rw[hq];rfl);unfold inG at this;omega
def D0m(m r:Smps):Smps:=fun x=>match r x with
 |some y=>some y
 |none=>m x
theorem V0P{m r:Smps}{a:Int}{b:Smp}(h:r a=some b):D0m (updM m a b) (delM r a)=D0m m r:=by
 funext x
 unfold D0m
 by_cases c:x=a
 ·rw[c,P0q,G0a,h]
 ·rw[K0q c,E0y c]
theorem Z0k{m r:Smps}(h:∀x,r x=none):D0m m r=m:=by
 funext x
 unfold D0m
 rw[h]
theorem Y0k{g:List Srt}{m:Smps}:D0m m (newS g m)=exR g m:=by
 funext x
 unfold D0m exR
 cases hq:m x with
 |
  some y=>
  have :newS g m x=none:=by unfold newS;rw[hq];rfl
  rw[this]
 |none=>cases newS g m x<;>rfl
theorem J0L{g:List Srt}{m:Smps}:F0I g (newS g m):=fun i h=>(M0U h).1
theorem b0B{g:List Srt}{m:Smps}{i:Int}(h:(m i).isSome=true):newS g m i=none:=by unfold newS;rw[if_pos h]
theorem c0R{g:List Srt}{m:Smps}{i:Int}(h:m i=none)(hi:0≤i∧i<(g.length:Int)):newS g m i=C0G (gAt g i) m:=by unfold newS;rw[h,if_neg (by simp),if_pos hi]
end Go.Proofs.YtibaljifcbpmoaaGreatDoor
namespace Go.Proofs.YtibaljifcbpmoaaGreatDoor
open Go Go.Ev Go.Proofs
structure HdA{α:Type}(r:Da α)(p:α→Prop):Prop where
 out:r.holds p
theorem H0f{α:Type}{r t:Da α}{p:α→Prop}(e:r=t)(h:t.holds p):HdA r p:=⟨by rw[e];exact h⟩
noncomputable abbrev mps0:Mps:=[(93,(Cd.int:Cd),(Cd.smp:Cd)),(211,(Cd.int:Cd),(Cd.bool:Cd))]
theorem H0b{mp:Mps}{ws:List (FuncId×XSpec)}{cs:List (FuncId×List FSpec)}{ls:List (Nat×B0s)}(hw:∀p∈ws,p.2.Kept Tryz.prog p.1)(hc:∀p∈cs,∀S∈p.2,S.Kept Tryz.prog p.1)(hl:∀p∈ls,A0h Tryz.prog p.2)
  (S:FSpec) (f:FuncId) (F:Func) (ids:List Nat) (hmk:mkFn Tryz.prog f=some (.code (A0u ls (cd F ids)) F.ntmps F.results.toList)) (hc':A0M (cd F ids)=true) (k:Pt)
  (h:∀x,S.pre x→Hd (S.run (envX Tryz.prog mp ws cs ls) (cd F ids) F.ntmps F.results.toList 60 x) fun q=>q.1=true∧(S.res x).val=some (k.nz q.2)):S.Kept Tryz.prog f:=
 FSpec.keptX D0N A0T mp ws cs ls hw hc hl S 60 (cd F ids) hmk hc' k fun x hx=>(h x hx).out
theorem G0D{mp:Mps}{ws:List (FuncId×XSpec)}{cs:List (FuncId×List FSpec)}{ls:List (Nat×B0s)}(hw:∀p∈ws,p.2.Kept Tryz.prog p.1)(hc:∀p∈cs,∀S∈p.2,S.Kept Tryz.prog p.1)(hl:∀p∈ls,A0h Tryz.prog p.2)
  (S:PSpec) (μ:Pts (S.keep.map (·.2))→Pos (S.objs.map (·.2))→Nat) (hmk:A0M S.body=true)
  (h:∀x y,S.inv x y→Hd (S.round (envX Tryz.prog mp ws cs ls) 60 x y) fun q=>q.1=true∧match q.2.1 with
   |.normal=>∃x' y',Pts.vals _ x'=q.2.2.1∧Pos.obs _ y'=q.2.2.2∧S.inv x' y'∧μ x' y'<μ x y∧(S.res x' y').val=(S.res x y).val
   |e=>(S.res x y).val=some (e,q.2.2)):A0h Tryz.prog (S.loop ls):=
 PSpec.keptX D0N A0T mp ws cs ls hw hc hl S 60 μ hmk fun x y hx=>(h x y hx).out
theorem W0k{mp:Mps}{ws:List (FuncId×XSpec)}{cs:List (FuncId×List FSpec)}{ls:List (Nat×B0s)}(hw:∀p∈ws,p.2.Kept Tryz.prog p.1)(hc:∀p∈cs,∀S∈p.2,S.Kept Tryz.prog p.1)(hl:∀p∈ls,A0h Tryz.prog p.2)
  (S:GL) (μ:GKs S.ks→Nat) (hmk:A0M S.body=true)
  (h:∀x,S.inv x→HdA (S.round (envX Tryz.prog mp ws cs ls) 60 x) fun q=>q.1=true∧match q.2.1 with
   |.normal=>∃y,GKs.vals S.ks y=q.2.2.1∧GKs.obs S.ks y=q.2.2.2∧S.inv y∧μ y<μ x∧(S.res y).val=(S.res x).val
   |e=>(S.res x).val=some (e,q.2.2)):A0h Tryz.prog (S.loop ls):=
 GL.keptX D0N A0T mp ws cs ls hw hc hl S 60 μ hmk fun x hx=>(h x hx).out
theorem e0m{mp:Mps}{ws:List (FuncId×XSpec)}{cs:List (FuncId×List FSpec)}{ls:List (Nat×B0s)}(hw:∀p∈ws,p.2.Kept Tryz.prog p.1)(hc:∀p∈cs,∀S∈p.2,S.Kept Tryz.prog p.1)(hl:∀p∈ls,A0h Tryz.prog p.2)
  (S:WSpec) (f:FuncId) (F:Func) (ids:List Nat) (hmk:mkFn Tryz.prog f=some (.code (A0u ls (cd F ids)) F.ntmps F.results.toList)) (hc':A0M (cd F ids)=true) (k:Pt)
  (h:∀x y z,S.pre x y z→Hd (S.run (envX Tryz.prog mp ws cs ls) (cd F ids) F.ntmps F.results.toList 60 x y z) fun q=>q.1=true∧∃r,q.2=some r∧(S.res x y z).val=some (k.nz r.1,r.2)):S.Kept Tryz.prog f:=
 WSpec.keptX D0N A0T mp ws cs ls hw hc hl S 60 (cd F ids) hmk hc' k fun x y z hx=>(h x y z hx).out
theorem e0q{mp:Mps}{ws:List (FuncId×XSpec)}{cs:List (FuncId×List FSpec)}{ls:List (Nat×B0s)}(hw:∀p∈ws,p.2.Kept Tryz.prog p.1)(hc:∀p∈cs,∀S∈p.2,S.Kept Tryz.prog p.1)(hl:∀p∈ls,A0h Tryz.prog p.2)
  (S:MSpec) (f:FuncId) (F:Func) (ids:List Nat) (hmk:mkFn Tryz.prog f=some (.code (A0u ls (cd F ids)) F.ntmps F.results.toList)) (hc':A0M (cd F ids)=true)
  (h:∀x y,S.pre x y→Hd (S.run (envX Tryz.prog mp ws cs ls) (cd F ids) F.ntmps F.results.toList 60 x y) fun q=>q.1=true∧∃r,q.2=some r∧(S.res x y).val=some r):S.Kept Tryz.prog f:=
 MSpec.keptX D0N A0T mp ws cs ls hw hc hl S 60 (cd F ids) hmk hc' fun x y hx=>(h x y hx).out
abbrev smpP:List Pt:=[.i .i64,.i .i64,.s,.d Cd.term,.i .i64,.i .i64]
abbrev smp0:List Pt:=[.i .i64,.i .i64,.s,.nl,.i .i64,.i .i64]
abbrev trm0:List Pt:=[.i .i64,.i .i64,.s,.nl]
end Go.Proofs.YtibaljifcbpmoaaGreatDoor

namespace Go.Proofs.YtibaljifcbpmoaaGreatDoor
open Go Go.Ev Go.Proofs
set_option maxRecDepth 100000
def J0Z(a:Int):Int:=if a=0 then 3 else 5
noncomputable def wrC:FSpec:=⟨[symP],fun _=>True,fun(x:SymX×Unit)=>.leaf (.agg [.si .i64 (J0Z x.1.2.1),.si .i64 0,.ss x.1.1,.nils])⟩
theorem X0A:wrC.Kept Tryz.prog 112:=by
 refine B0w ct0 lp0 wrC 112 Tryz.f112 [] (by kernel_rfl) (by kernel_rfl) ?_
 intro(xx:SymX×Unit)_
 obtain⟨⟨s,a,u1⟩,u2⟩:=xx
 refine A0A (t:=.ite (decide (a=0)) (.leaf (true,.agg [.si .i64 3,.si .i64 0,.ss s,.nils])) (.leaf (true,.agg [.si .i64 5,.si .i64 0,.ss s,.nils]))) (by kernel_rfl) ?_
 refine A0b (fun h=>⟨rfl,?_⟩) (fun h=>⟨rfl,?_⟩)
 ·show some (AVal.agg [.si .i64 (J0Z a),.si .i64 0,.ss s,.nils])=_
  rw[show J0Z a=3 from if_pos (of_decide_eq_true h)]
 ·show some (AVal.agg [.si .i64 (J0Z a),.si .i64 0,.ss s,.nils])=_
  rw[show J0Z a=5 from if_neg (of_decide_eq_false h)]
abbrev SmpX:Type:=Int×Int×ByteArray×List Trm×Int×Int×Unit
noncomputable def smpIsC:FSpec:=⟨[.agg smpP],fun _=>True,fun(x:SmpX×Unit)=>.leaf (.sb (isS ⟨⟨x.1.1,x.1.2.1,x.1.2.2.1,x.1.2.2.2.1⟩,x.1.2.2.2.2.1,x.1.2.2.2.2.2.1⟩))⟩
theorem W0b:smpIsC.Kept Tryz.prog 34:=by
 refine B0w ct0 lp0 smpIsC 34 Tryz.f34 [] (by kernel_rfl) (by kernel_rfl) ?_
 intro xx _
 obtain⟨⟨k,n,s,l,a,b,u1⟩,u2⟩:SmpX×Unit:=xx
 refine A0A (t:=.ite (!decide (4000<a)) (.leaf (true,.sb (!decide (600<b)))) (.leaf (true,.sb false))) (by kernel_rfl) ?_
 refine A0b (fun h=>⟨rfl,?_⟩) (fun h=>⟨rfl,?_⟩)
 ·have h:¬4000<a:=by simpa using h
  show some (AVal.sb (decide (a≤4000)&&decide (b≤600)))=some (AVal.sb (!decide (600<b)))
  rw[decide_eq_true (show a≤4000 by omega)]
  congr 2
  by_cases c:b≤600
  ·rw[decide_eq_true c,decide_eq_false (show¬600<b by omega)];rfl
  ·rw[decide_eq_false c,decide_eq_true (show 600<b by omega)];rfl
 ·have h:4000<a:=by simpa using h
  show some (AVal.sb (decide (a≤4000)&&decide (b≤600)))=some (AVal.sb false)
  rw[decide_eq_false (show¬a≤4000 by omega)];rfl
structure JnZ where
 k:Int
 n:Int
 s:ByteArray
 k1:Int
 n1:Int
 s1:ByteArray
 a1:Int
 b1:Int
 k2:Int
 n2:Int
 s2:ByteArray
noncomputable abbrev jnOb(z:JnZ)(L:AVal)(a b:Int)(o:AObj):List AObj:=
 [.cells [.si .i64 z.k,.si .i64 z.n,.ss z.s,L] 25 false false 0 0 [(0,0,4)],.cells [.si .i64 z.k1,.si .i64 z.n1,.ss z.s1,.nils,.si .i64 z.a1,.si .i64 z.b1] 91 false false 1 0 [(1,0,6)],
  .cells [.si .i64 z.k2,.si .i64 z.n2,.ss z.s2,.nils,.si .i64 a,.si .i64 b] 91 false false 2 0 [(2,0,6)],o]
noncomputable abbrev jnPs:List AVal:=[.ptr 0 0,.ptr 1 0,.ptr 2 0]
noncomputable def N0u(z:JnZ)(tot:List Trm)(a b:Int):Dt (AExit×List AVal×List AObj):=
 .ite (decide (tot.length=0)) (.leaf (.exit 0,jnPs,jnOb z .nils a b .done)) (.leaf (.exit 0,jnPs,jnOb z (.asl (Cd.term:Cd) 3 0 tot.length) a b (.arr (Cd.term:Cd) (show List Trm from tot))))
theorem X0w{z:JnZ}{tot:List Trm}{a b:Int}(h:0<tot.length):(N0u z tot a b).val=some (.exit 0,jnPs,jnOb z (.asl (Cd.term:Cd) 3 0 tot.length) a b (.arr (Cd.term:Cd) (show List Trm from tot))):=by
 unfold N0u
 rw[decide_eq_false (by omega)];rfl
abbrev JnS:Type:=Unit×Unit×Unit×List Smp×Int×Int×Unit
abbrev JnO1:Type:=Int×Int×ByteArray×Unit×Int×Int×Unit
abbrev JnA:Type:=JnS×(Int×Int×ByteArray×Unit×Unit)×JnO1×JnO1×Unit×Unit
abbrev JnB:Type:=JnS×(Int×Int×ByteArray×Nat×Unit)×JnO1×JnO1×List Trm×Unit
abbrev JnX:Type:=JnA ⊕ (JnB ⊕ Empty)
noncomputable abbrev jnK:List GK:=[⟨[.p 0 0,.p 1 0,.p 2 0,.d Cd.smp,.i .i64,.i .i64],[.cells trm0 25 0 0 [(0,0,4)],.cells smp0 91 1 0 [(1,0,6)],.cells smp0 91 2 0 [(2,0,6)],.gone]⟩,
   ⟨[.p 0 0,.p 1 0,.p 2 0,.d Cd.smp,.i .i64,.i .i64],[.cells [.i .i64,.i .i64,.s,.al Cd.term 3] 25 0 0 [(0,0,4)],.cells smp0 91 1 0 [(1,0,6)],.cells smp0 91 2 0 [(2,0,6)],.arr Cd.term]⟩]
def jnV(l:List Smp)(len i a b:Int):Prop:=(∀x∈l,okSm x)∧l.length≤1000∧len=(l.length:Int)∧0≤i∧i≤(l.length:Int)∧1≤a∧a≤4001
def jnI:JnX→Prop
 |.inl ⟨⟨_,_,_,l,len,i,_⟩,_,_,⟨_,_,_,_,a,b,_⟩,_,_⟩=>jnV l len i a b
 |.inr (.inl ⟨⟨_,_,_,l,len,i,_⟩,⟨_,_,_,q,_⟩,_,⟨_,_,_,_,a,b,_⟩,ar,_⟩)=>jnV l len i a b∧q=ar.length∧0<q∧(q:Int)≤i
 |.inr (.inr x)=>x.elim
def jnZA(x:JnA):JnZ:=⟨x.2.1.1,x.2.1.2.1,x.2.1.2.2.1,x.2.2.1.1,x.2.2.1.2.1,x.2.2.1.2.2.1,x.2.2.1.2.2.2.2.1,x.2.2.1.2.2.2.2.2.1,x.2.2.2.1.1,x.2.2.2.1.2.1,x.2.2.2.1.2.2.1⟩
def jnZB(x:JnB):JnZ:=⟨x.2.1.1,x.2.1.2.1,x.2.1.2.2.1,x.2.2.1.1,x.2.2.1.2.1,x.2.2.1.2.2.1,x.2.2.1.2.2.2.2.1,x.2.2.1.2.2.2.2.2.1,x.2.2.2.1.1,x.2.2.2.1.2.1,x.2.2.2.1.2.2.1⟩
noncomputable def g0k(x:JnX):Dt (AExit×List AVal×List AObj):=match x with
 |.inl x=>N0u (jnZA x) ((x.1.2.2.2.1.drop x.1.2.2.2.2.2.1.toNat).map (·.t)) (G0Y (x.1.2.2.2.1.drop x.1.2.2.2.2.2.1.toNat) x.2.2.2.1.2.2.2.2.1) (F0l (x.1.2.2.2.1.drop x.1.2.2.2.2.2.1.toNat) x.2.2.2.1.2.2.2.2.2.1)
 |.inr (.inl x)=>N0u (jnZB x) (x.2.2.2.2.1++(x.1.2.2.2.1.drop x.1.2.2.2.2.2.1.toNat).map (·.t)) (G0Y (x.1.2.2.2.1.drop x.1.2.2.2.2.2.1.toNat) x.2.2.2.1.2.2.2.2.1) (F0l (x.1.2.2.2.1.drop x.1.2.2.2.2.2.1.toNat) x.2.2.2.1.2.2.2.2.2.1)
 |.inr (.inr x)=>x.elim
def jnMu:JnX→Nat
 |.inl x=>((x.1.2.2.2.1.length:Int)-x.1.2.2.2.2.2.1).toNat
 |.inr (.inl x)=>((x.1.2.2.2.1.length:Int)-x.1.2.2.2.2.2.1).toNat
 |.inr (.inr x)=>x.elim
noncomputable def jnL:GL:=
 {body:=B0e Tryz.f111 0,nt:=44,nx:=3,nxi:=4,room:=16,gro:=[(.cell 0 3,3)],keep:=[2,4,5,9,10,11],objs:=[0,1,2,3],ks:=jnK
  keepX:=fun _=>[2,4,5],objsX:=fun _=>[0,1,2,3],inv:=fun(x:JnX)=>jnI x,res:=fun(x:JnX)=>g0k x}
theorem e0B:A0h Tryz.prog (jnL.loop []):=by
 refine W0k (mp:=[]) xs0 ct0 lp0 jnL (fun(x:JnX)=>jnMu x) (by kernel_rfl) ?_
 intro(xx:JnX)(hx:jnI xx)
 rcases xx with⟨⟨u1,u2,u3,l,len,i,u4⟩,⟨k,n,s,u5,u6⟩,⟨k1,n1,s1,u7,a1,b1,u8⟩,⟨k2,n2,s2,u9,a,b,u10⟩,u11,u12⟩|⟨⟨u1,u2,u3,l,len,i,u4⟩,⟨k,n,s,q,u6⟩,⟨k1,n1,s1,u7,a1,b1,u8⟩,⟨k2,n2,s2,u9,a,b,u10⟩,ar,u12⟩|x
 ·obtain⟨hok,hm,hl,h0,h1,ha1,ha2⟩:jnV l len i a b:=hx
  subst hl
  let z:Smp:=Univ.dflt (Cd.smp:Cd)
  refine H0f (t:=.ite (decide (i<(l.length:Int))) (.ite (decide (0≤i)&&decide (i<(l.length:Int))) (.ite (decide ([eT (l.getD i.toNat z).t].length≤1000000))
    (.leaf (true,.normal,[.ptr 0 0,.ptr 1 0,.ptr 2 0,.dsl (Cd.smp:Cd) l,.si .i64 (l.length:Int),.si .i64 (IntKind.i64.wrap (i+1))],jnOb ⟨k,n,s,k1,n1,s1,a1,b1,k2,n2,s2⟩ (.asl (Cd.term:Cd) 3 0 ([eT (l.getD i.toNat z).t].length)) (sel true (min 4001 (IntKind.i64.wrap (a+(l.getD i.toNat z).nodes))) (max 4001 (IntKind.i64.wrap (a+(l.getD i.toNat z).nodes)))) (sel false (min b (l.getD i.toNat z).deep) (max b (l.getD i.toNat z).deep)) (.arr (Cd.term:Cd) (show List Trm from[eT (l.getD i.toNat z).t]))))
    .fail) .fail) (.leaf (true,.exit 0,jnPs,jnOb ⟨k,n,s,k1,n1,s1,a1,b1,k2,n2,s2⟩ .nils a b .done))) (by kernel_rfl) ?_
  refine A0Q (fun hlt=>?_) (fun hlt=>?_)
  ·have hlt:=of_decide_eq_true hlt
   have hd:=A0w l i z h0 hlt
   have hx:=hok _ (A0H l i z h0 hlt)
   unfold okSm at hx
   have hs:sel true (min 4001 (IntKind.i64.wrap (a+(l.getD i.toNat z).nodes))) (max 4001 (IntKind.i64.wrap (a+(l.getD i.toNat z).nodes)))=min 4001 (a+(l.getD i.toNat z).nodes):=by
    rw[A0C (by omega) (by omega)];rfl
   rw[hs,D0i,A0C (by omega) (by omega)]
   refine A0t (by simp[h0,hlt]) (A0t (by simp) ⟨rfl,(show JnX from .inr (.inl (((),(),(),l,(l.length:Int),i+1,()),(k,n,s,1,()),(k1,n1,s1,(),a1,b1,()),(k2,n2,s2,(),min 4001 (a+(l.getD i.toNat z).nodes),max b (l.getD i.toNat z).deep,()),[(l.getD i.toNat z).t],()))),rfl,rfl,?_⟩)
   refine⟨⟨⟨hok,hm,rfl,by omega,by omega,by omega,by omega⟩,rfl,by omega,by omega⟩,by show((l.length:Int)-(i+1)).toNat<((l.length:Int)-i).toNat;omega,?_⟩
   show(N0u ⟨k,n,s,k1,n1,s1,a1,b1,k2,n2,s2⟩ ([(l.getD i.toNat z).t]++(l.drop (i+1).toNat).map (·.t)) (G0Y (l.drop (i+1).toNat) _) (F0l (l.drop (i+1).toNat) _)).val=(N0u ⟨k,n,s,k1,n1,s1,a1,b1,k2,n2,s2⟩ ((l.drop i.toNat).map (·.t)) (G0Y (l.drop i.toNat) a) (F0l (l.drop i.toNat) b)).val
   rw[hd];rfl
  ·refine⟨rfl,?_⟩
   have hd:=A0N l i h1 (of_decide_eq_false hlt)
   show(N0u ⟨k,n,s,k1,n1,s1,a1,b1,k2,n2,s2⟩ ((l.drop i.toNat).map (·.t)) (G0Y (l.drop i.toNat) a) (F0l (l.drop i.toNat) b)).val=_
   rw[hd];rfl
 ·obtain⟨⟨hok,hm,hl,h0,h1,ha1,ha2⟩,hq,hq0,hqi⟩:jnV l len i a b∧q=ar.length∧0<q∧(q:Int)≤i:=hx
  subst hl
  let z:Smp:=Univ.dflt (Cd.smp:Cd)
  refine H0f (t:=.ite (decide (i<(l.length:Int))) (.ite (decide (0≤i)&&decide (i<(l.length:Int))) (.ite (decide (q=ar.length)&&decide (q+[eT (l.getD i.toNat z).t].length≤1000000))
    (.leaf (true,.normal,[.ptr 0 0,.ptr 1 0,.ptr 2 0,.dsl (Cd.smp:Cd) l,.si .i64 (l.length:Int),.si .i64 (IntKind.i64.wrap (i+1))],jnOb ⟨k,n,s,k1,n1,s1,a1,b1,k2,n2,s2⟩ (.asl (Cd.term:Cd) 3 0 (q+[eT (l.getD i.toNat z).t].length)) (sel true (min 4001 (IntKind.i64.wrap (a+(l.getD i.toNat z).nodes))) (max 4001 (IntKind.i64.wrap (a+(l.getD i.toNat z).nodes)))) (sel false (min b (l.getD i.toNat z).deep) (max b (l.getD i.toNat z).deep)) (.arr (Cd.term:Cd) (show List Trm from ar++[eT (l.getD i.toNat z).t]))))
    .fail) .fail) (.leaf (true,.exit 0,jnPs,jnOb ⟨k,n,s,k1,n1,s1,a1,b1,k2,n2,s2⟩ (.asl (Cd.term:Cd) 3 0 q) a b (.arr (Cd.term:Cd) (show List Trm from ar))))) (by kernel_rfl) ?_
  refine A0Q (fun hlt=>?_) (fun hlt=>?_)
  ·have hlt:=of_decide_eq_true hlt
   have hd:=A0w l i z h0 hlt
   have hx:=hok _ (A0H l i z h0 hlt)
   unfold okSm at hx
   have hs:sel true (min 4001 (IntKind.i64.wrap (a+(l.getD i.toNat z).nodes))) (max 4001 (IntKind.i64.wrap (a+(l.getD i.toNat z).nodes)))=min 4001 (a+(l.getD i.toNat z).nodes):=by
    rw[A0C (by omega) (by omega)];rfl
   rw[hs,D0i,A0C (by omega) (by omega)]
   refine A0t (by simp[h0,hlt]) (A0t (by simp[←hq];omega) ⟨rfl,(show JnX from .inr (.inl (((),(),(),l,(l.length:Int),i+1,()),(k,n,s,q+1,()),(k1,n1,s1,(),a1,b1,()),(k2,n2,s2,(),min 4001 (a+(l.getD i.toNat z).nodes),max b (l.getD i.toNat z).deep,()),ar++[(l.getD i.toNat z).t],()))),rfl,rfl,?_⟩)
   refine⟨⟨⟨hok,hm,rfl,by omega,by omega,by omega,by omega⟩,by rw[hq];simp,by omega,by omega⟩,by show((l.length:Int)-(i+1)).toNat<((l.length:Int)-i).toNat;omega,?_⟩
   show(N0u ⟨k,n,s,k1,n1,s1,a1,b1,k2,n2,s2⟩ ((ar++[(l.getD i.toNat z).t])++(l.drop (i+1).toNat).map (·.t)) (G0Y (l.drop (i+1).toNat) _) (F0l (l.drop (i+1).toNat) _)).val=(N0u ⟨k,n,s,k1,n1,s1,a1,b1,k2,n2,s2⟩ (ar++(l.drop i.toNat).map (·.t)) (G0Y (l.drop i.toNat) a) (F0l (l.drop i.toNat) b)).val
   rw[hd,List.append_assoc];rfl
  ·refine⟨rfl,?_⟩
   have hd:=A0N l i h1 (of_decide_eq_false hlt)
   show(N0u ⟨k,n,s,k1,n1,s1,a1,b1,k2,n2,s2⟩ (ar++(l.drop i.toNat).map (·.t)) (G0Y (l.drop i.toNat) a) (F0l (l.drop i.toNat) b)).val=_
   rw[hd,List.map_nil,List.append_nil,X0w (by omega),hq];rfl
 ·exact x.elim
noncomputable abbrev smpA(x:Smp):List AVal:=[.si .i64 x.t.kind,.si .i64 x.t.n,.ss x.t.s,.dsl (Cd.term:Cd) x.t.l,.si .i64 x.nodes,.si .i64 x.deep]
noncomputable abbrev smpV(x:Smp):AVal:=.agg (smpA x)
abbrev TrmX:Type:=Int×Int×ByteArray×Unit×Unit
noncomputable def joinedC:FSpec:=⟨[.agg trm0,.d Cd.smp],fun(x:TrmX×List Smp×Unit)=>(∀y∈x.2.1,okSm y)∧x.2.1.length≤1000,fun(x:TrmX×List Smp×Unit)=>.leaf (smpV (D0n x.1.1 x.1.2.1 x.1.2.2.1 x.2.1))⟩
theorem H0X:joinedC.Kept Tryz.prog 111:=by
 have hL:∀p∈[(0,jnL.loop [])],A0h Tryz.prog p.2:=lpc e0B lp0
 have hmk:mkFn Tryz.prog 111=some (.code (A0u [(0,jnL.loop [])] (cd Tryz.f111 [0])) Tryz.f111.ntmps Tryz.f111.results.toList):=by kernel_rfl
 refine H0b (mp:=[]) xs0 ct0 hL joinedC 111 Tryz.f111 [0] hmk (by kernel_rfl) (.agg smpP) ?_
 intro(xx:TrmX×List Smp×Unit)(hx:(∀y∈xx.2.1,okSm y)∧xx.2.1.length≤1000)
 obtain⟨⟨k,n,s,u1,u2⟩,l,u3⟩:=xx
 obtain⟨hok,hm⟩:(∀y∈l,okSm y)∧l.length≤1000:=hx
 have hd:=P0m l 0 hok (by omega) (by omega)
 refine A0A (t:=.ite (dec (jnV l (l.length:Int) 0 1 0)) (.ite (decide ((l.map (·.t)).length=0))
   (.leaf (true,.agg [.si .i64 k,.si .i64 n,.ss s,.nils,.si .i64 (G0Y l 1),.si .i64 (sel true (min 4001 (IntKind.i64.wrap (F0l l 0+1))) (max 4001 (IntKind.i64.wrap (F0l l 0+1))))]))
   (.leaf (true,.agg [.si .i64 k,.si .i64 n,.ss s,.dsl (Cd.term:Cd) (subL (α:=Trm) (l.map (·.t)) 0 (l.map (·.t)).length),.si .i64 (G0Y l 1),.si .i64 (sel true (min 4001 (IntKind.i64.wrap (F0l l 0+1))) (max 4001 (IntKind.i64.wrap (F0l l 0+1))))]))) .fail) (by kernel_rfl) ?_
 rw[A0C (by omega) (by omega)]
 refine A0c (A0g ⟨hok,hm,rfl,by omega,by omega,by omega,by omega⟩) (A0b (fun h=>⟨rfl,?_⟩) fun h=>⟨rfl,?_⟩)
 ·have h:=of_decide_eq_true h
  have :l=[]:=by simpa using h
  subst this;rfl
 ·show some (smpV (D0n k n s l))=some (AVal.agg [.si .i64 k,.si .i64 n,.ss s,.dsl (Cd.term:Cd) (subL (α:=Trm) (l.map (·.t)) 0 (l.map (·.t)).length),.si .i64 (G0Y l 1),.si .i64 (min 4001 (F0l l 0+1))])
  rw[J0i];rfl
abbrev eS(x:Smp):Smp:=⟨eT x.t,x.nodes,x.deep⟩
theorem Z0J(x:Smp):eS x=x:=by cases x with |mk t a b=>show Smp.mk (eT t) a b=_;rw[D0i]
noncomputable def H0c(m:Smps)(tot:List Smp)(l:List Int):Dt (AExit×List AVal×List AObj):=
 .ite (A0Y m l).isSome (.ite (decide ((tot++(A0Y m l).getD []).length=0)) (.leaf (.exit 0,[.nils],[.done]))
  (.leaf (.exit 0,[.asl (Cd.smp:Cd) 0 0 (tot++(A0Y m l).getD []).length],[.arr (Cd.smp:Cd) (show List Smp from tot++(A0Y m l).getD [])]))) (.leaf (.ret,[.nils,.sb false],[]))
theorem N0L{m:Smps}{tot:List Smp}{i:Int}{l:List Int}{x:Smp}(h:m i=some x):(H0c m tot (i::l)).val=(H0c m (tot++[x]) l).val:=by
 unfold H0c
 have :A0Y m (i::l)=(A0Y m l).map (x::·):=by
  conv=>lhs;unfold A0Y
  rw[h]
  cases A0Y m l<;>rfl
 rw[this]
 cases A0Y m l with
 |none=>rfl
 |some r=>simp
theorem N0H{m:Smps}{tot:List Smp}{i:Int}{l:List Int}(h:m i=none):(H0c m tot (i::l)).val=some (.ret,[.nils,.sb false],[]):=by
 unfold H0c A0Y
 rw[h];rfl
theorem Y0N{m:Smps}{tot:List Smp}(h:0<tot.length):(H0c m tot []).val=some (.exit 0,[.asl (Cd.smp:Cd) 0 0 tot.length],[.arr (Cd.smp:Cd) (show List Smp from tot)]):=by
 unfold H0c A0Y
 show(Dt.ite (decide ((tot++[]).length=0)) _ _:Dt (AExit×List AVal×List AObj)).val=_
 rw[List.append_nil,decide_eq_false (by omega)]
 show some (AExit.exit 0,[AVal.asl (Cd.smp:Cd) 0 0 (tot++[]).length],[AObj.arr (Cd.smp:Cd) (show List Smp from(tot++[]))])=_
 rw[List.append_nil]
noncomputable abbrev ptK:List GK:=[⟨[.dm Cd.int Cd.smp,.nl,.d Cd.int,.i .i64,.i .i64],[.gone]⟩,⟨[.dm Cd.int Cd.smp,.al Cd.smp 0,.d Cd.int,.i .i64,.i .i64],[.arr Cd.smp]⟩]
abbrev PtA:Type:=((Smps×Nat)×Unit×List Int×Int×Int×Unit)×Unit×Unit
abbrev PtB:Type:=((Smps×Nat)×Nat×List Int×Int×Int×Unit)×List Smp×Unit
abbrev PtX:Type:=PtA ⊕ (PtB ⊕ Empty)
def ptV(l:List Int)(len i:Int):Prop:=l.length≤1000∧len=(l.length:Int)∧0≤i∧i≤(l.length:Int)
def ptI:PtX→Prop
 |.inl ⟨⟨_,_,l,len,i,_⟩,_,_⟩=>ptV l len i
 |.inr (.inl ⟨⟨_,q,l,len,i,_⟩,ar,_⟩)=>ptV l len i∧q=ar.length∧0<q∧(q:Int)≤i
 |.inr (.inr x)=>x.elim
noncomputable def g0i(x:PtX):Dt (AExit×List AVal×List AObj):=match x with
 |.inl x=>H0c x.1.1.1 [] (x.1.2.2.1.drop x.1.2.2.2.2.1.toNat)
 |.inr (.inl x)=>H0c x.1.1.1 x.2.1 (x.1.2.2.1.drop x.1.2.2.2.2.1.toNat)
 |.inr (.inr x)=>x.elim
def ptMu:PtX→Nat
 |.inl x=>((x.1.2.2.1.length:Int)-x.1.2.2.2.2.1).toNat
 |.inr (.inl x)=>((x.1.2.2.1.length:Int)-x.1.2.2.2.2.1).toNat
 |.inr (.inr x)=>x.elim
noncomputable def ptL:GL:=
 {body:=B0e Tryz.f113 0,nt:=31,nx:=0,nxi:=1,room:=16,gro:=[(.slot 6,0)],keep:=[1,6,11,12,13],objs:=[0]
  ks:=ptK
  keepX:=fun e=>match e with |.ret=>[4,5]|_=>[6],objsX:=fun e=>match e with |.ret=>[]|_=>[0]
  inv:=fun(x:PtX)=>ptI x,res:=fun(x:PtX)=>g0i x}
theorem e0Z:A0h Tryz.prog (ptL.loop []):=by
 refine W0k (mp:=[]) xs0 ct0 lp0 ptL (fun(x:PtX)=>ptMu x) (by kernel_rfl) ?_
 intro(xx:PtX)(hx:ptI xx)
 rcases xx with⟨⟨⟨m,c⟩,u1,l,len,i,u2⟩,u3,u4⟩|⟨⟨⟨m,c⟩,q,l,len,i,u2⟩,ar,u4⟩|x
 ·obtain⟨hm,hl,h0,h1⟩:ptV l len i:=hx
  subst hl
  let z:Int:=Univ.dflt (Cd.int:Cd)
  let y:Smp:=(m (l.getD i.toNat z)).getD (Univ.dflt (Cd.smp:Cd))
  refine H0f (t:=.ite (decide (i<(l.length:Int))) (.ite (decide (0≤i)&&decide (i<(l.length:Int))) (.ite (!(m (l.getD i.toNat z)).isSome) (.leaf (true,.ret,[.nils,.sb false],[])) (.ite (decide ([eS y].length≤1000000))
    (.leaf (true,.normal,[.dmp (Cd.int:Cd) (Cd.smp:Cd) m c,.asl (Cd.smp:Cd) 0 0 [eS y].length,.dsl (Cd.int:Cd) l,.si .i64 (l.length:Int),.si .i64 (IntKind.i64.wrap (i+1))],[.arr (Cd.smp:Cd) (show List Smp from[eS y])]))
    .fail)) .fail) (.leaf (true,.exit 0,[.nils],[.done]))) (by kernel_rfl) ?_
  refine A0Q (fun hlt=>?_) (fun hlt=>?_)
  ·have hlt:=of_decide_eq_true hlt
   have hd:=A0w l i z h0 hlt
   rw[Z0J,A0C (by omega) (by omega)]
   refine A0t (by simp[h0,hlt]) (A0Q (fun hn=>⟨rfl,?_⟩) fun hn=>A0t (by simp) ⟨rfl,(show PtX from .inr (.inl (((m,c),1,l,(l.length:Int),i+1,()),[y],()))),rfl,rfl,?_⟩)
   ·have hn:m (l.getD i.toNat z)=none:=by simpa using hn
    show(H0c m [] (l.drop i.toNat)).val=_
    rw[hd,N0H hn]
   ·have hn:m (l.getD i.toNat z)=some y:=by
     cases hq:m (l.getD i.toNat z) with
     |none=>rw[hq] at hn;cases hn
     |some w=>show some w=some ((m (l.getD i.toNat z)).getD _);rw[hq];rfl
    refine⟨⟨⟨hm,rfl,by omega,by omega⟩,rfl,by omega,by omega⟩,by show((l.length:Int)-(i+1)).toNat<((l.length:Int)-i).toNat;omega,?_⟩
    show(H0c m ([]++[y]) (l.drop (i+1).toNat)).val=(H0c m [] (l.drop i.toNat)).val
    rw[hd,N0L hn]
  ·refine⟨rfl,?_⟩
   have hd:=A0N l i h1 (of_decide_eq_false hlt)
   show(H0c m [] (l.drop i.toNat)).val=_
   rw[hd];rfl
 ·obtain⟨⟨hm,hl,h0,h1⟩,hq,hq0,hqi⟩:ptV l len i∧q=ar.length∧0<q∧(q:Int)≤i:=hx
  subst hl
  let z:Int:=Univ.dflt (Cd.int:Cd)
  let y:Smp:=(m (l.getD i.toNat z)).getD (Univ.dflt (Cd.smp:Cd))
  refine H0f (t:=.ite (decide (i<(l.length:Int))) (.ite (decide (0≤i)&&decide (i<(l.length:Int))) (.ite (!(m (l.getD i.toNat z)).isSome) (.leaf (true,.ret,[.nils,.sb false],[])) (.ite (decide (q=ar.length)&&decide (q+[eS y].length≤1000000))
    (.leaf (true,.normal,[.dmp (Cd.int:Cd) (Cd.smp:Cd) m c,.asl (Cd.smp:Cd) 0 0 (q+[eS y].length),.dsl (Cd.int:Cd) l,.si .i64 (l.length:Int),.si .i64 (IntKind.i64.wrap (i+1))],[.arr (Cd.smp:Cd) (show List Smp from ar++[eS y])]))
    .fail)) .fail) (.leaf (true,.exit 0,[.asl (Cd.smp:Cd) 0 0 q],[.arr (Cd.smp:Cd) (show List Smp from ar)]))) (by kernel_rfl) ?_
  refine A0Q (fun hlt=>?_) (fun hlt=>?_)
  ·have hlt:=of_decide_eq_true hlt
   have hd:=A0w l i z h0 hlt
   rw[Z0J,A0C (by omega) (by omega)]
   refine A0t (by simp[h0,hlt]) (A0Q (fun hn=>⟨rfl,?_⟩) fun hn=>A0t (by simp[←hq];omega) ⟨rfl,(show PtX from .inr (.inl (((m,c),q+1,l,(l.length:Int),i+1,()),ar++[y],()))),rfl,rfl,?_⟩)
   ·have hn:m (l.getD i.toNat z)=none:=by simpa using hn
    show(H0c m ar (l.drop i.toNat)).val=_
    rw[hd,N0H hn]
   ·have hn:m (l.getD i.toNat z)=some y:=by
     cases hq:m (l.getD i.toNat z) with
     |none=>rw[hq] at hn;cases hn
     |some w=>show some w=some ((m (l.getD i.toNat z)).getD _);rw[hq];rfl
    refine⟨⟨⟨hm,rfl,by omega,by omega⟩,by rw[hq];simp,by omega,by omega⟩,by show((l.length:Int)-(i+1)).toNat<((l.length:Int)-i).toNat;omega,?_⟩
    show(H0c m (ar++[y]) (l.drop (i+1).toNat)).val=(H0c m ar (l.drop i.toNat)).val
    rw[hd,N0L hn]
  ·refine⟨rfl,?_⟩
   have hd:=A0N l i h1 (of_decide_eq_false hlt)
   show(H0c m ar (l.drop i.toNat)).val=_
   rw[hd,Y0N (by omega),hq]
 ·exact x.elim
noncomputable def partsC:FSpec:=⟨[.d Cd.int,.dm Cd.int Cd.smp],fun(x:List Int×(Smps×Nat)×Unit)=>x.1.length≤1000,
 fun(x:List Int×(Smps×Nat)×Unit)=>.ite (A0Y x.2.1.1 x.1).isSome (.leaf (.tup [.dsl (Cd.smp:Cd) (show List Smp from(A0Y x.2.1.1 x.1).getD []),.sb true])) (.leaf (.tup [.dsl (Cd.smp:Cd) (show List Smp from[]),.sb false]))⟩
theorem V0K:partsC.Kept Tryz.prog 113:=by
 have hL:∀p∈[(0,ptL.loop [])],A0h Tryz.prog p.2:=lpc e0Z lp0
 have hmk:mkFn Tryz.prog 113=some (.code (A0u [(0,ptL.loop [])] (cd Tryz.f113 [0])) Tryz.f113.ntmps Tryz.f113.results.toList):=by kernel_rfl
 refine H0b (mp:=[]) xs0 ct0 hL partsC 113 Tryz.f113 [0] hmk (by kernel_rfl) (.agg [.d Cd.smp,.b]) ?_
 intro(xx:List Int×(Smps×Nat)×Unit)(hx:xx.1.length≤1000)
 obtain⟨l,⟨m,c⟩,u3⟩:=xx
 have hm:l.length≤1000:=hx
 let r:List Smp:=(A0Y m l).getD []
 refine A0A (t:=.ite (dec (ptV l (l.length:Int) 0)) (.ite (A0Y m l).isSome (.ite (decide (r.length=0)) (.leaf (true,.tup [.nils,.sb true]))
   (.leaf (true,.tup [.dsl (Cd.smp:Cd) (subL (α:=Smp) r 0 r.length),.sb true]))) (.leaf (true,.tup [.nils,.sb false]))) .fail) (by kernel_rfl) ?_
 refine A0c (A0g ⟨hm,rfl,by omega,by omega⟩) (A0b (fun h=>A0b (fun h2=>⟨rfl,?_⟩) fun h2=>⟨rfl,?_⟩) fun h=>⟨rfl,?_⟩)
 ·have h2:=of_decide_eq_true h2
  have :r=[]:=List.eq_nil_of_length_eq_zero h2
  show(Dt.ite (A0Y m l).isSome (.leaf (.tup [.dsl (Cd.smp:Cd) (show List Smp from r),.sb true])) _:Dt AVal).val=_
  rw[h,this];rfl
 ·show(Dt.ite (A0Y m l).isSome (.leaf (.tup [.dsl (Cd.smp:Cd) (show List Smp from r),.sb true])) _:Dt AVal).val=_
  rw[h,J0i];rfl
 ·show(Dt.ite (A0Y m l).isSome _ _:Dt AVal).val=_
  rw[h];rfl
def okMs(m:Smps):Prop:=∀i y,m i=some y→okSm y
def R0U(c:A0n):Prop:=c.args.length≤1000
def Y0n(s:Srt):Prop:=s.cases.length≤maxL∧∀c∈s.cases,R0U c
abbrev SrtX:Type:=Bool×Bool×Bool×List A0n×List Int×Unit
abbrev d0K:Type:=Int×Int×ByteArray×Unit×Int×Int×Unit
noncomputable abbrev srtO(s:SrtX):AObj:=.cells [.sb s.1,.sb s.2.1,.sb s.2.2.1,.dsl (Cd.case:Cd) s.2.2.2.1,.dsl (Cd.int:Cd) s.2.2.2.2.1] 56 false false 0 0 [(0,0,5)]
noncomputable abbrev sm0O(x:d0K):AObj:=.cells [.si .i64 x.1,.si .i64 x.2.1,.ss x.2.2.1,.nils,.si .i64 x.2.2.2.2.1,.si .i64 x.2.2.2.2.2.1] 91 false false 1 0 [(1,0,6)]
noncomputable abbrev smO(x:Smp):AObj:=.cells (smpA x) 91 false false 1 0 [(1,0,6)]
noncomputable def frDt(o:Option Smp)(e:AExit×List AVal×List AObj):Dt (AExit×List AVal×List AObj):=.ite o.isSome (.leaf (.ret,[.ptr 1 0,.sb true],[smO (o.getD (Univ.dflt (Cd.smp:Cd)))])) (.leaf e)
theorem V0A{c:A0n}{l:List A0n}(h:c.arity=0):D0O (c::l)=some (D0n (J0Z c.arity) 0 c.name []):=by
 unfold D0O;rw[if_pos h];unfold J0Z;rw[if_pos h]
theorem X0N{c:A0n}{l:List A0n}(h:¬c.arity=0):D0O (c::l)=D0O l:=by
 conv=>lhs;unfold D0O
 rw[if_neg h]
theorem X0a{m:Smps}{c:A0n}{l:List A0n}{r:List Smp}(h:A0Y m c.args=some r):D0l m (c::l)=some (D0n (J0Z c.arity) 0 c.name r):=by
 unfold D0l b0K;rw[h];rfl
theorem X0S{m:Smps}{c:A0n}{l:List A0n}(h:A0Y m c.args=none):D0l m (c::l)=D0l m l:=by
 conv=>lhs;unfold D0l b0K
 rw[h]
abbrev FaX:Type:=(Smps×Nat)×Unit×Unit×List A0n×Int×Int×Unit
abbrev FaY:Type:=SrtX×d0K×Unit
def faV(l:List A0n)(len i:Int):Prop:=l.length≤maxL∧len=(l.length:Int)∧0≤i∧i≤(l.length:Int)
noncomputable def faL:PSpec:=
 {body:=B0e Tryz.f62 1,nt:=71,nx:=2,room:=8,keep:=[(1,.dm Cd.int Cd.smp),(2,.p 0 0),(4,.p 1 0),(28,.d Cd.case),(29,.i .i64),(30,.i .i64)],objs:=[(0,.cells R0h 56 0 0 [(0,0,5)]),(1,.cells smp0 91 1 0 [(1,0,6)])]
  keepX:=fun e=>match e with |.ret=>[4,5]|_=>[1,2,4],objsX:=fun e=>match e with |.ret=>[1]|_=>[0,1]
  inv:=fun(x:FaX)(_:FaY)=>faV x.2.2.2.1 x.2.2.2.2.1 x.2.2.2.2.2.1
  res:=fun(x:FaX)(y:FaY)=>frDt (D0O (x.2.2.2.1.drop x.2.2.2.2.2.1.toNat)) (.exit 1,[.dmp (Cd.int:Cd) (Cd.smp:Cd) x.1.1 x.1.2,.ptr 0 0,.ptr 1 0],[srtO y.1,sm0O y.2.1])}
theorem f0y:A0h Tryz.prog (faL.loop []):=by
 refine G0D (mp:=[]) xs0 (ctc X0A (ctc H0X ct0)) lp0 faL (fun(x:FaX)(_:FaY)=>((x.2.2.2.1.length:Int)-x.2.2.2.2.2.1).toNat) (by kernel_rfl) ?_
 intro(xx:FaX)(yy:FaY)(hx:faV xx.2.2.2.1 xx.2.2.2.2.1 xx.2.2.2.2.2.1)
 obtain⟨⟨m,c⟩,u1,u2,l,len,i,u3⟩:=xx
 obtain⟨s,x0,u4⟩:=yy
 obtain⟨hm,hl,h0,h1⟩:faV l len i:=hx
 have hm2:=G0y hm
 subst hl
 let z:A0n:=Univ.dflt (Cd.case:Cd)
 let e:A0n:=l.getD i.toNat z
 let t0:TrmX:=(J0Z e.arity,0,e.name,(),())
 refine A0A (t:=.ite (decide (i<(l.length:Int))) (.ite (decide (0≤i)&&decide (i<(l.length:Int))) (.ite (decide (e.arity=0)) (.ite (dec (wrC.pre ((e.name,e.arity,()),())))
   (.ite (dec (joinedC.pre (t0,([]:List Smp),()))) (.leaf (true,.ret,[.ptr 1 0,.sb true],[smO (D0n (J0Z e.arity) 0 e.name [])])) .fail) .fail)
   (.leaf (true,.normal,[.dmp (Cd.int:Cd) (Cd.smp:Cd) m c,.ptr 0 0,.ptr 1 0,.dsl (Cd.case:Cd) l,.si .i64 (l.length:Int),.si .i64 (IntKind.i64.wrap (i+1))],[srtO s,sm0O x0]))) .fail)
   (.leaf (true,.exit 1,[.dmp (Cd.int:Cd) (Cd.smp:Cd) m c,.ptr 0 0,.ptr 1 0],[srtO s,sm0O x0]))) (by kernel_rfl) ?_
 refine A0b (fun hlt=>?_) (fun hlt=>⟨rfl,?_⟩)
 ·have hlt:=of_decide_eq_true hlt
  have hd:=A0w l i z h0 hlt
  refine A0c (by simp[h0,hlt]) (A0b (fun ha=>A0c (A0g trivial) (A0c (A0g ⟨fun y hy=>(List.not_mem_nil hy).elim,Nat.zero_le _⟩) ⟨rfl,?_⟩)) fun ha=>?_)
  ·show(frDt (D0O (l.drop i.toNat)) _).val=_
   rw[hd,V0A (of_decide_eq_true ha)];rfl
  ·rw[A0C (by omega) (by omega)]
   refine⟨rfl,(show FaX from((m,c),(),(),l,(l.length:Int),i+1,())),(show FaY from(s,x0,())),rfl,rfl,(show faV l (l.length:Int) (i+1) from⟨hm,rfl,by omega,by omega⟩),by show((l.length:Int)-(i+1)).toNat<((l.length:Int)-i).toNat;omega,?_⟩
   show(frDt (D0O (l.drop (i+1).toNat)) _).val=(frDt (D0O (l.drop i.toNat)) _).val
   rw[hd,X0N (of_decide_eq_false ha)]
 ·show(frDt (D0O (l.drop i.toNat)) _).val=_
  rw[A0N l i h1 (of_decide_eq_false hlt)];rfl
abbrev FbX:Type:=(Smps×Nat)×Unit×List A0n×Int×Int×Unit
abbrev FbY:Type:=d0K×Unit
def fbV(m:Smps)(l:List A0n)(len i:Int):Prop:=okMs m∧(∀c∈l,R0U c)∧l.length≤maxL∧len=(l.length:Int)∧0≤i∧i≤(l.length:Int)
noncomputable def fbL:PSpec:=
 {body:=B0e Tryz.f62 3,nt:=71,nx:=10,room:=8,keep:=[(1,.dm Cd.int Cd.smp),(4,.p 1 0),(50,.d Cd.case),(51,.i .i64),(52,.i .i64)],objs:=[(1,.cells smp0 91 1 0 [(1,0,6)])]
  keepX:=fun e=>match e with |.ret=>[4,5]|_=>[4],objsX:=fun _=>[1]
  inv:=fun(x:FbX)(_:FbY)=>fbV x.1.1 x.2.2.1 x.2.2.2.1 x.2.2.2.2.1
  res:=fun(x:FbX)(y:FbY)=>frDt (D0l x.1.1 (x.2.2.1.drop x.2.2.2.2.1.toNat)) (.exit 3,[.ptr 1 0],[sm0O y.1])}
theorem e0y:A0h Tryz.prog (fbL.loop []):=by
 refine G0D (mp:=[]) xs0 (ctc X0A (ctc H0X (ctc V0K ct0))) lp0 fbL (fun(x:FbX)(_:FbY)=>((x.2.2.1.length:Int)-x.2.2.2.2.1).toNat) (by kernel_rfl) ?_
 intro(xx:FbX)(yy:FbY)(hx:fbV xx.1.1 xx.2.2.1 xx.2.2.2.1 xx.2.2.2.2.1)
 obtain⟨⟨m,c⟩,u1,l,len,i,u3⟩:=xx
 obtain⟨x0,u4⟩:=yy
 obtain⟨hok,hcs,hm,hl,h0,h1⟩:fbV m l len i:=hx
 have hm2:=G0y hm
 subst hl
 let z:A0n:=Univ.dflt (Cd.case:Cd)
 let e:A0n:=l.getD i.toNat z
 let t0:TrmX:=(J0Z e.arity,0,e.name,(),())
 let r:List Smp:=(A0Y m e.args).getD []
 refine A0A (t:=.ite (decide (i<(l.length:Int))) (.ite (decide (0≤i)&&decide (i<(l.length:Int))) (.ite (dec (partsC.pre (e.args,(m,c),()))) (.ite (A0Y m e.args).isSome
   (.ite true (.ite (dec (wrC.pre ((e.name,e.arity,()),()))) (.ite (dec (joinedC.pre (t0,r,()))) (.leaf (true,.ret,[.ptr 1 0,.sb true],[smO (D0n (J0Z e.arity) 0 e.name r)])) .fail) .fail)
    (.leaf (true,.normal,[.dmp (Cd.int:Cd) (Cd.smp:Cd) m c,.ptr 1 0,.dsl (Cd.case:Cd) l,.si .i64 (l.length:Int),.si .i64 (IntKind.i64.wrap (i+1))],[sm0O x0])))
   (.ite false (.ite (dec (wrC.pre ((e.name,e.arity,()),()))) (.ite (dec (joinedC.pre (t0,([]:List Smp),()))) (.leaf (true,.ret,[.ptr 1 0,.sb true],[smO (D0n (J0Z e.arity) 0 e.name [])])) .fail) .fail)
    (.leaf (true,.normal,[.dmp (Cd.int:Cd) (Cd.smp:Cd) m c,.ptr 1 0,.dsl (Cd.case:Cd) l,.si .i64 (l.length:Int),.si .i64 (IntKind.i64.wrap (i+1))],[sm0O x0])))) .fail) .fail)
   (.leaf (true,.exit 3,[.ptr 1 0],[sm0O x0]))) (by kernel_rfl) ?_
 refine A0b (fun hlt=>?_) (fun hlt=>⟨rfl,?_⟩)
 ·have hlt:=of_decide_eq_true hlt
  have hd:=A0w l i z h0 hlt
  have hc:R0U e:=hcs _ (A0H l i z h0 hlt)
  refine A0c (by simp[h0,hlt]) (A0c (A0g hc) (A0b (fun hp=>A0b (fun _=>?_) fun h=>by cases h) fun hp=>A0b (fun h=>by cases h) fun _=>?_))
  ·have hr:A0Y m e.args=some r:=by
    cases hq:A0Y m e.args with
    |none=>rw[hq] at hp;cases hp
    |some w=>show some w=some ((A0Y m e.args).getD _);rw[hq];rfl
   refine A0c (A0g trivial) (A0c (A0g ⟨J0j hok hr,by rw[N0a hr];exact hc⟩) ⟨rfl,?_⟩)
   show(frDt (D0l m (l.drop i.toNat)) _).val=_
   rw[hd,X0a hr];rfl
  ·have hr:A0Y m e.args=none:=by simpa using hp
   rw[A0C (by omega) (by omega)]
   refine⟨rfl,(show FbX from((m,c),(),l,(l.length:Int),i+1,())),(show FbY from(x0,())),rfl,rfl,(show fbV m l (l.length:Int) (i+1) from⟨hok,hcs,hm,rfl,by omega,by omega⟩),by show((l.length:Int)-(i+1)).toNat<((l.length:Int)-i).toNat;omega,?_⟩
   show(frDt (D0l m (l.drop (i+1).toNat)) _).val=(frDt (D0l m (l.drop i.toNat)) _).val
   rw[hd,X0S hr]
 ·show(frDt (D0l m (l.drop i.toNat)) _).val=_
  rw[A0N l i h1 (of_decide_eq_false hlt)];rfl
def smpZ : Smp := ⟨⟨0, 0, ⟨#[]⟩, []⟩, 0, 0⟩
def S0t (s : SrtX) : Srt := ⟨s.1, s.2.1, s.2.2.1, s.2.2.2.1, s.2.2.2.2.1⟩
noncomputable def frR (o : Option Smp) : Dt AVal := .ite o.isSome (.leaf (.tup [smpV (o.getD (Univ.dflt (Cd.smp : Cd))), .sb true])) (.leaf (.tup [smpV smpZ, .sb false]))
theorem K0i {o : Option Smp} {x : Smp} (h : o = some x) : (frR o).val = some (.tup [smpV x, .sb true]) := by rw [h]; rfl
noncomputable def frC : FSpec := ⟨[.agg R0h, .dm Cd.int Cd.smp], fun (x : SrtX × (Smps × Nat) × Unit) => okMs x.2.1.1 ∧ Y0n (S0t x.1), fun (x : SrtX × (Smps × Nat) × Unit) => frR (C0G (S0t x.1) x.2.1.1)⟩
theorem D0A {α : Type} {o : Option α} {z : α} (h : o.isSome = true) : o = some (o.getD z) := by cases o with | none => cases h | some x => rfl
theorem c0u : frC.Kept Tryz.prog 62 := by
  have hL : ∀ p ∈ [(1, faL.loop []), (3, fbL.loop [])], A0h Tryz.prog p.2 := lpc f0y (lpc e0y lp0)
  have hmk : mkFn Tryz.prog 62 = some (.code (A0u [(1, faL.loop []), (3, fbL.loop [])] (cd Tryz.f62 [1, 3])) Tryz.f62.ntmps Tryz.f62.results.toList) := by kernel_rfl
  refine H0b (mp := []) xs0 (ctc H0X ct0) hL frC 62 Tryz.f62 [1, 3] hmk (by kernel_rfl) (.agg [.agg smpP, .b]) ?_
  intro (xx : SrtX × (Smps × Nat) × Unit) (hx : okMs xx.2.1.1 ∧ Y0n (S0t xx.1))
  obtain ⟨⟨b1, b2, b3, cs, vs, u1⟩, ⟨m, c⟩, u3⟩ := xx
  obtain ⟨hok, hc1, hc3⟩ : okMs m ∧ cs.length ≤ maxL ∧ ∀ c ∈ cs, R0U c := hx
  let t2 : TrmX := (2, 0, ⟨#[]⟩, (), ())
  let t4 : TrmX := (4, 0, ⟨#[]⟩, (), ())
  let t3 : TrmX := (3, 0, ⟨#[97]⟩, (), ())
  let t6 : TrmX := (6, 0, ⟨#[]⟩, (), ())
  have hj : ∀ t : TrmX, dec (joinedC.pre (t, ([] : List Smp), ())) = true := fun t => A0g ⟨fun y hy => (List.not_mem_nil hy).elim, Nat.zero_le _⟩
  refine A0A (t := .ite b1 (.ite (dec (joinedC.pre (t2, ([] : List Smp), ()))) (.leaf (true, .tup [smpV (D0n 2 0 ⟨#[]⟩ []), .sb true])) .fail)
    (.ite b2 (.ite (dec (joinedC.pre (t4, ([] : List Smp), ()))) (.leaf (true, .tup [smpV (D0n 4 0 ⟨#[]⟩ []), .sb true])) .fail)
    (.ite b3 (.ite (dec (joinedC.pre (t3, ([] : List Smp), ()))) (.leaf (true, .tup [smpV (D0n 3 0 ⟨#[97]⟩ []), .sb true])) .fail)
    (.ite (dec (faV cs (cs.length : Int) 0)) (.ite (D0O cs).isSome (.leaf (true, .tup [smpV ((D0O cs).getD (Univ.dflt (Cd.smp : Cd))), .sb true]))
      (.ite (decide (0 < (vs.length : Int))) (.ite (dec (joinedC.pre (t6, ([] : List Smp), ()))) (.leaf (true, .tup [smpV (D0n 6 0 ⟨#[]⟩ []), .sb true])) .fail)
      (.ite (dec (fbV m cs (cs.length : Int) 0)) (.ite (D0l m cs).isSome (.leaf (true, .tup [smpV ((D0l m cs).getD (Univ.dflt (Cd.smp : Cd))), .sb true]))
        (.leaf (true, .tup [.agg [.si .i64 0, .si .i64 0, .ss ⟨#[]⟩, .nils, .si .i64 0, .si .i64 0], .sb false]))) .fail))) .fail)))) (by kernel_rfl) ?_
  refine A0b (fun h => A0c (hj _) ⟨rfl, ?_⟩) fun h => ?_
  · exact K0i (show C0G ⟨b1, b2, b3, cs, vs⟩ m = some _ by unfold C0G; rw [if_pos h])
  refine A0b (fun h2 => A0c (hj _) ⟨rfl, ?_⟩) fun h2 => ?_
  · exact K0i (show C0G ⟨b1, b2, b3, cs, vs⟩ m = some _ by unfold C0G; rw [if_neg (by simp [h]), if_pos h2])
  refine A0b (fun h3 => A0c (hj _) ⟨rfl, ?_⟩) fun h3 => ?_
  · exact K0i (show C0G ⟨b1, b2, b3, cs, vs⟩ m = some _ by unfold C0G; rw [if_neg (by simp [h]), if_neg (by simp [h2]), if_pos h3] <;> rfl)
  have hS : C0G ⟨b1, b2, b3, cs, vs⟩ m = match D0O cs with | some x => some x | none => if 0 < (vs.length : Int) then some (D0n 6 0 ⟨#[]⟩ []) else D0l m cs := by
    unfold C0G
    rw [if_neg (by simp [h]), if_neg (by simp [h2]), if_neg (by simp [h3])] <;> rfl
  refine A0c (A0g ⟨hc1, rfl, by omega, by omega⟩) (A0b (fun h4 => ⟨rfl, ?_⟩) fun h4 => ?_)
  · exact K0i (hS.trans (by rw [D0A (z := Univ.dflt (Cd.smp : Cd)) h4]; rfl))
  have h4 : D0O cs = none := by simpa using h4
  rw [h4] at hS
  refine A0b (fun h5 => A0c (hj _) ⟨rfl, ?_⟩) fun h5 => ?_
  · exact K0i (hS.trans (if_pos (of_decide_eq_true h5)))
  have hS2 : C0G ⟨b1, b2, b3, cs, vs⟩ m = D0l m cs := hS.trans (if_neg (of_decide_eq_false h5))
  refine A0c (A0g ⟨hok, hc3, hc1, rfl, by omega, by omega⟩) (A0b (fun h6 => ⟨rfl, ?_⟩) fun h6 => ⟨rfl, ?_⟩)
  · exact K0i (hS2.trans (D0A h6))
  · have h6 : D0l m cs = none := by simpa using h6
    show (frR (C0G ⟨b1, b2, b3, cs, vs⟩ m)).val = _
    rw [hS2, h6]; rfl
def okG(g:List Srt):Prop:=g.length≤maxL∧∀s∈g,Y0n s
noncomputable abbrev mapO(m:Smps)(n:Nat):AObj:=.dat (.map (Cd.int:Cd) (Cd.smp:Cd) m n)
abbrev MapY:Type:=Smps×Nat
abbrev EaX:Type:=List Srt×Unit×Unit×List Srt×Int×Int×Unit
abbrev EaY:Type:=MapY×MapY×Unit
structure EaV(g l:List Srt)(len i:Int)(m0 m1:Smps)(n1:Nat):Prop where
 ok:okG g
 lg:l=g
 ln:len=(g.length:Int)
 i0:0≤i
 i1:i≤(g.length:Int)
 om:okMs m0
 e1:m1=K0V (newS g m0) i
 c1:n1=cntN g.length m1
noncomputable def eaL:PSpec:=
 {body:=B0e Tryz.f33 2,nt:=54,nx:=2,room:=8,keep:=[(0,.d Cd.sort),(3,.mp 0),(4,.mp 1),(15,.d Cd.sort),(16,.i .i64),(17,.i .i64)],objs:=[(0,.map Cd.int Cd.smp),(1,.map Cd.int Cd.smp)]
  keepX:=fun _=>[0,3,4],objsX:=fun _=>[0,1]
  inv:=fun(x:EaX)(y:EaY)=>EaV x.1 x.2.2.2.1 x.2.2.2.2.1 x.2.2.2.2.2.1 y.1.1 y.2.1.1 y.2.1.2
  res:=fun(x:EaX)(y:EaY)=>.leaf (.exit 2,[.dsl (Cd.sort:Cd) x.1,.map 0,.map 1],[mapO y.1.1 y.1.2,mapO (newS x.1 y.1.1) (cntN x.1.length (newS x.1 y.1.1))])}
theorem f0E:A0h Tryz.prog (eaL.loop []):=by
 refine G0D (mp:=mps0) xs0 (ctc c0u ct0) lp0 eaL (fun(x:EaX)(_:EaY)=>((x.2.2.2.1.length:Int)-x.2.2.2.2.2.1).toNat) (by kernel_rfl) ?_
 intro(xx:EaX)(yy:EaY)(hx:EaV xx.1 xx.2.2.2.1 xx.2.2.2.2.1 xx.2.2.2.2.2.1 yy.1.1 yy.2.1.1 yy.2.1.2)
 obtain⟨g,u1,u2,l,len,i,u3⟩:=xx
 obtain⟨⟨m0,n0⟩,⟨m1,n1⟩,u4⟩:=yy
 obtain⟨ok,lg,ln,h0,h1,om,e1,c1⟩:EaV g l len i m0 m1 n1:=hx
 subst lg ln
 have hm2:=G0y ok.1
 let z:Srt:=Univ.dflt (Cd.sort:Cd)
 let s:Srt:=l.getD i.toNat z
 let sx:SrtX:=(s.int,s.str,s.atom,s.cases,s.vec,())
 let y:Smp:=(C0G (S0t sx) m0).getD (Univ.dflt (Cd.smp:Cd))
 refine A0A (t:=.ite (decide (i<(l.length:Int))) (.ite (decide (0≤i)&&decide (i<(l.length:Int))) (.ite (m0 i).isSome
   (.leaf (true,.normal,[.dsl (Cd.sort:Cd) l,.map 0,.map 1,.dsl (Cd.sort:Cd) l,.si .i64 (l.length:Int),.si .i64 (IntKind.i64.wrap (i+1))],[mapO m0 n0,mapO m1 n1]))
   (.ite (dec (frC.pre (sx,(m0,n0),()))) (.ite (C0G (S0t sx) m0).isSome
    (.ite true (.leaf (true,.normal,[.dsl (Cd.sort:Cd) l,.map 0,.map 1,.dsl (Cd.sort:Cd) l,.si .i64 (l.length:Int),.si .i64 (IntKind.i64.wrap (i+1))],[mapO m0 n0,mapO (updM m1 i (eS y)) (D0M m1 i n1)]))
     (.leaf (true,.normal,[.dsl (Cd.sort:Cd) l,.map 0,.map 1,.dsl (Cd.sort:Cd) l,.si .i64 (l.length:Int),.si .i64 (IntKind.i64.wrap (i+1))],[mapO m0 n0,mapO m1 n1])))
    (.ite false (.leaf (true,.normal,[.dsl (Cd.sort:Cd) l,.map 0,.map 1,.dsl (Cd.sort:Cd) l,.si .i64 (l.length:Int),.si .i64 (IntKind.i64.wrap (i+1))],[mapO m0 n0,mapO (updM m1 i (eS smpZ)) (D0M m1 i n1)]))
     (.leaf (true,.normal,[.dsl (Cd.sort:Cd) l,.map 0,.map 1,.dsl (Cd.sort:Cd) l,.si .i64 (l.length:Int),.si .i64 (IntKind.i64.wrap (i+1))],[mapO m0 n0,mapO m1 n1])))) .fail)) .fail)
   (.leaf (true,.exit 2,[.dsl (Cd.sort:Cd) l,.map 0,.map 1],[mapO m0 n0,mapO m1 n1]))) (by kernel_rfl) ?_
 refine A0b (fun hlt=>?_) (fun hlt=>⟨rfl,?_⟩)
 ·have hlt:=of_decide_eq_true hlt
  have hs:gAt l i=S0t sx:=by
   show l.getD i.toNat Q0g=_
   rw[U0S l i.toNat Q0g z (by omega)]
   show s=⟨s.int,s.str,s.atom,s.cases,s.vec⟩
   cases s;rfl
  have hV:∀(m':Smps)(n':Nat),m'=K0V (newS l m0) (i+1)→n'=cntN l.length m'→EaV l l (l.length:Int) (i+1) m0 m' n':=fun m' n' e c=>⟨ok,rfl,rfl,by omega,by omega,om,e,c⟩
  have hM:((l.length:Int)-(i+1)).toNat<((l.length:Int)-i).toNat:=by omega
  rw[Z0J,A0C (by omega) (by omega)]
  refine A0c (by simp[h0,hlt]) (A0b (fun hp=>⟨rfl,?_⟩) fun hp=>?_)
  ·exact⟨(show EaX from(l,(),(),l,(l.length:Int),i+1,())),(show EaY from((m0,n0),(m1,n1),())),rfl,rfl,hV m1 n1 (by rw[O0o (b0B hp)];exact e1) c1,hM,rfl⟩
  ·have hp:m0 i=none:=by simpa using hp
   have hn:=c0R hp ⟨h0,hlt⟩
   rw[hs] at hn
   have hsk:Y0n (S0t sx):=by
    rw[←hs]
    show Y0n (l.getD i.toNat Q0g)
    rw[U0S l i.toNat Q0g z (by omega)]
    exact ok.2 _ (A0H l i z h0 hlt)
   refine A0c (A0g ⟨om,hsk⟩) (A0b (fun hf=>A0b (fun _=>⟨rfl,?_⟩) fun h=>by cases h) fun hf=>A0b (fun h=>by cases h) fun _=>⟨rfl,?_⟩)
   ·have hy:newS l m0 i=some y:=hn.trans (D0A hf)
    refine⟨(show EaX from(l,(),(),l,(l.length:Int),i+1,())),(show EaY from((m0,n0),(updM m1 i y,D0M m1 i n1),())),rfl,rfl,hV _ _ ?_ ?_,hM,rfl⟩
    ·rw[V0v hy,e1]
    ·rw[c1];exact Z0p h0 hlt
   ·have hf:C0G (S0t sx) m0=none:=by simpa using hf
    exact⟨(show EaX from(l,(),(),l,(l.length:Int),i+1,())),(show EaY from((m0,n0),(m1,n1),())),rfl,rfl,hV m1 n1 (by rw[O0o (hn.trans hf)];exact e1) c1,hM,rfl⟩
 ·have :i=(l.length:Int):=by have :=of_decide_eq_false hlt;omega
  rw[this,W0d J0L] at e1
  subst e1 c1
  rfl
abbrev EbX:Type:=((List Srt×Unit×Unit×Unit)×MapY×(Smps×Option (Int×Smp))×Unit) ⊕ Empty
def ebI:EbX→Prop
 |.inl ⟨⟨g,_⟩,⟨m,n⟩,⟨r,_⟩,_⟩=>F0I g m∧F0I g r∧n=cntN g.length m
 |.inr x=>x.elim
noncomputable def g0j(x:EbX):Dt (AExit×List AVal×List AObj):=match x with
 |.inl x=>.leaf (.exit 4,[.dsl (Cd.sort:Cd) x.1.1,.map 0],[mapO (D0m x.2.1.1 x.2.2.1.1) (cntN x.1.1.length (D0m x.2.1.1 x.2.2.1.1))])
 |.inr x=>x.elim
def ebMu:EbX→Nat
 |.inl x=>cntN x.1.1.length x.2.2.1.1
 |.inr x=>x.elim
noncomputable def ebL:GL:=
 {body:=B0e Tryz.f33 4,nt:=54,nx:=11,nxi:=11,room:=8,gro:=[],keep:=[0,3,45],objs:=[0,10]
  ks:=[⟨[.d Cd.sort,.mp 0,.p 10 0],[.map Cd.int Cd.smp,.iter Cd.int Cd.smp]⟩]
  keepX:=fun _=>[0,3],objsX:=fun _=>[0]
  inv:=fun(x:EbX)=>ebI x,res:=fun(x:EbX)=>g0j x}
theorem f0o:A0h Tryz.prog (ebL.loop []):=by
 refine W0k (mp:=mps0) xs0 ct0 lp0 ebL (fun(x:EbX)=>ebMu x) (by kernel_rfl) ?_
 intro(xx:EbX)(hx:ebI xx)
 rcases xx with⟨⟨g,u1,u2,u3⟩,⟨m,n⟩,⟨r,cur⟩,u4⟩|x
 ·obtain⟨hm,hr,hn⟩:F0I g m∧F0I g r∧n=cntN g.length m:=hx
  refine H0f (t:=.ite (any? fun a:Int=>(r a).isSome) (.each (Cd.int:Cd) (fun a:Int=>(r a).isSome) fun a:Int=>
    .leaf (true,.normal,[.dsl (Cd.sort:Cd) g,.map 0,.ptr 10 0],[mapO (updM m a (eS ((r a).getD (Univ.dflt (Cd.smp:Cd))))) (D0M m a n),.dat (.iter (Cd.int:Cd) (Cd.smp:Cd) (delM r a) (some (a,(r a).getD (Univ.dflt (Cd.smp:Cd)))))]))
   (.leaf (true,.exit 4,[.dsl (Cd.sort:Cd) g,.map 0],[mapO m n]))) (by kernel_rfl) ?_
  refine A0Q (fun h=>T0A (any?_eq.1 h) fun(a:Int) ha=>?_) fun h=>⟨rfl,?_⟩
  ·have hg:=hr a ha
   unfold inG at hg
   obtain⟨b,hb⟩:∃b,r a=some b:=by cases hq:r a with |none=>rw[hq] at ha;cases ha|some b=>exact⟨b,rfl⟩
   have hb2:(r a).getD (Univ.dflt (Cd.smp:Cd))=b:=by rw[hb];rfl
   rw[hb2,Z0J]
   refine⟨rfl,(show EbX from .inl ((g,(),(),()),(updM m a b,D0M m a n),(delM r a,some (a,b)),())),rfl,rfl,⟨?_,?_,?_⟩,c0s hg.1 hg.2 ha,?_⟩
   ·intro x hx
    by_cases c:x=a
    ·rw[c];exact hg
    ·rw[E0y c] at hx;exact hm x hx
   ·intro x hx
    by_cases c:x=a
    ·rw[c];exact hg
    ·rw[K0q c] at hx;exact hr x hx
   ·rw[hn];exact Z0p hg.1 hg.2
   ·show(Dt.leaf (AExit.exit 4,[AVal.dsl (Cd.sort:Cd) g,AVal.map 0],[mapO (D0m (updM m a b) (delM r a)) (cntN g.length (D0m (updM m a b) (delM r a)))])).val=(Dt.leaf (AExit.exit 4,[AVal.dsl (Cd.sort:Cd) g,AVal.map 0],[mapO (D0m m r) (cntN g.length (D0m m r))])).val
    rw[V0P hb]
  ·have he:D0m m r=m:=Z0k fun x=>by have :=O0i h x;simpa using this
   show(Dt.leaf (AExit.exit 4,[AVal.dsl (Cd.sort:Cd) g,AVal.map 0],[mapO (D0m m r) (cntN g.length (D0m m r))])).val=_
   rw[he,←hn];rfl
 ·exact x.elim
abbrev EcX:Type:=List Srt×Unit×Unit
abbrev EcY:Type:=MapY×Unit
structure EcV(g:List Srt)(m:Smps)(n:Nat):Prop where
 ok:okG g
 om:okMs m
 im:F0I g m
 cn:n=cntN g.length m
theorem b0t{g:List Srt}{m:Smps}(h:okMs m):okMs (newS g m):=fun i x e=>by
 obtain⟨_,hf⟩:=S0j e
 exact a0p hf h
noncomputable def ecL:PSpec:=
 {body:=I0r [2,4] (B0e Tryz.f33 0),nt:=54,nx:=1,room:=32,keep:=[(0,.d Cd.sort),(3,.mp 0)],objs:=[(0,.map Cd.int Cd.smp)]
  keepX:=fun _=>[2],objsX:=fun _=>[0]
  inv:=fun(x:EcX)(y:EcY)=>EcV x.1 y.1.1 y.1.2
  res:=fun(x:EcX)(y:EcY)=>.leaf (.ret,[.map 0],[mapO (G0N x.1 y.1.1) (cntN x.1.length (G0N x.1 y.1.1))])}
theorem e0W:A0h Tryz.prog (ecL.loop [(2,eaL.loop []),(4,ebL.loop [])]):=by
 refine G0D (mp:=mps0) xs0 ct0 (lpc f0E (lpc f0o lp0)) ecL (fun(x:EcX)(y:EcY)=>lack x.1 y.1.1) (by kernel_rfl) ?_
 intro(xx:EcX)(yy:EcY)(hx:EcV xx.1 yy.1.1 yy.1.2)
 obtain⟨g,u1,u2⟩:=xx
 obtain⟨⟨m,n⟩,u3⟩:=yy
 obtain⟨ok,om,im,cn⟩:EcV g m n:=hx
 refine A0A (t:=.ite (dec (EaV g g (g.length:Int) 0 m (fun _=>none) 0)) (.ite (decide ((cntN g.length (newS g m):Int)=0)) (.leaf (true,.ret,[.map 0],[mapO m n]))
  (.ite (dec (F0I g m∧F0I g (newS g m)∧n=cntN g.length m)) (.leaf (true,.normal,[.dsl (Cd.sort:Cd) g,.map 0],[mapO (D0m m (newS g m)) (cntN g.length (D0m m (newS g m)))])) .fail)) .fail) (by kernel_rfl) ?_
 refine A0c (A0g ⟨ok,rfl,rfl,by omega,by omega,om,W0a J0L,(L0a (fun _=>rfl) _).symm⟩) (A0b (fun h=>⟨rfl,?_⟩) fun h=>A0c (A0g ⟨im,J0L,cn⟩) ⟨rfl,?_⟩)
 ·have h:cntN g.length (newS g m)=0:=by have :=of_decide_eq_true h;omega
  have hn:∀i,newS g m i=none:=fun i=>by
   cases hq:newS g m i with
   |none=>rfl
   |
    some x=>
    have :=(M0U (g:=g) (m:=m) (i:=i) (by rw[hq];rfl)).1
    rw[V0l h i this.1 this.2] at hq;cases hq
  show(Dt.leaf (AExit.ret,[AVal.map 0],[mapO (G0N g m) (cntN g.length (G0N g m))])).val=_
  rw[V0L hn,←cn];rfl
 ·have h:¬cntN g.length (newS g m)=0:=by have :=of_decide_eq_false h;omega
  have he:∃i,(newS g m i).isSome=true:=by
   refine Classical.byContradiction fun hc=>h (L0a (fun i=>?_) _)
   cases hq:newS g m i with
   |none=>rfl
   |some x=>exact absurd ⟨i,by rw[hq];rfl⟩ hc
  obtain⟨i,hi⟩:=he
  rw[Y0k]
  refine⟨(show EcX from(g,(),())),(show EcY from((exR g m,cntN g.length (exR g m)),())),rfl,rfl,(show EcV g (exR g m) (cntN g.length (exR g m)) from⟨ok,Y0x om (b0t om),e0h im,rfl⟩),S0Y hi,?_⟩
  show(Dt.leaf (AExit.ret,[AVal.map 0],[mapO (G0N g (exR g m)) (cntN g.length (G0N g (exR g m)))])).val=(Dt.leaf (AExit.ret,[AVal.map 0],[mapO (G0N g m) (cntN g.length (G0N g m))])).val
  rw[W0C]
noncomputable def exsC:FSpec:=⟨[.d Cd.sort],fun(x:List Srt×Unit)=>okG x.1,fun(x:List Srt×Unit)=>.leaf (.dmp (Cd.int:Cd) (Cd.smp:Cd) (G0N x.1 fun _=>none) (cntN x.1.length (G0N x.1 fun _=>none)))⟩
theorem a0h:exsC.Kept Tryz.prog 33:=by
 have hL:∀p∈[(0,ecL.loop [(2,eaL.loop []),(4,ebL.loop [])])],A0h Tryz.prog p.2:=lpc e0W lp0
 have hmk:mkFn Tryz.prog 33=some (.code (A0u [(0,ecL.loop [(2,eaL.loop []),(4,ebL.loop [])])] (cd Tryz.f33 [0])) Tryz.f33.ntmps Tryz.f33.results.toList):=by kernel_rfl
 refine H0b (mp:=mps0) xs0 ct0 hL exsC 33 Tryz.f33 [0] hmk (by kernel_rfl) .any ?_
 intro(xx:List Srt×Unit)(hx:okG xx.1)
 obtain⟨g,u⟩:=xx
 refine A0A (t:=.ite (dec (EcV g (fun _=>none) 0)) (.leaf (true,.dmp (Cd.int:Cd) (Cd.smp:Cd) (G0N g fun _=>none) (cntN g.length (G0N g fun _=>none)))) .fail) (by kernel_rfl) ?_
 have h1:okMs fun _=>none:=fun i x h=>by cases h
 have h2:F0I g fun _=>none:=fun i h=>by cases h
 exact A0c (A0g ⟨hx,h1,h2,(L0a (fun _=>rfl) _).symm⟩) ⟨rfl,rfl⟩
noncomputable abbrev trmV (t : Trm) : AVal := .agg [.si .i64 t.kind, .si .i64 t.n, .ss t.s, .dsl (Cd.term : Cd) t.l]
abbrev TrmY : Type := Int × Int × ByteArray × List Trm × Unit
def C0I (x : TrmY) : Trm := ⟨x.1, x.2.1, x.2.2.1, x.2.2.2.1⟩
noncomputable def copC (N : Nat) : FSpec := ⟨[.agg B0O], fun (x : TrmY × Unit) => A0G (C0I x.1) ≤ (N : Int), fun (x : TrmY × Unit) => .leaf (trmV (C0I x.1))⟩
noncomputable abbrev cpOb (a : TrmY) (b : TrmX) (o : AObj) : List AObj := [.cells [.si .i64 a.1, .si .i64 a.2.1, .ss a.2.2.1, .dsl (Cd.term : Cd) a.2.2.2.1] 25 false false 0 0 [(0, 0, 4)], .cells [.si .i64 b.1, .si .i64 b.2.1, .ss b.2.2.1, .nils] 25 false false 1 0 [(1, 0, 4)], o]
noncomputable def N0A (a : TrmY) (b : TrmX) (tot : List Trm) : Dt (AExit × List AVal × List AObj) :=
  .ite (decide (tot.length = 0)) (.leaf (.exit 0, [.ptr 0 0, .ptr 1 0, .nils], cpOb a b .done)) (.leaf (.exit 0, [.ptr 0 0, .ptr 1 0, .asl (Cd.term : Cd) 2 0 tot.length], cpOb a b (.arr (Cd.term : Cd) (show List Trm from tot))))
theorem V0q {a : TrmY} {b : TrmX} {tot : List Trm} (h : 0 < tot.length) : (N0A a b tot).val = some (.exit 0, [.ptr 0 0, .ptr 1 0, .asl (Cd.term : Cd) 2 0 tot.length], cpOb a b (.arr (Cd.term : Cd) (show List Trm from tot))) := by
  unfold N0A
  rw [decide_eq_false (by omega)]; rfl
abbrev CpA : Type := (Unit × Unit × Unit × List Trm × Int × Int × Unit) × TrmY × TrmX × Unit × Unit
abbrev CpB : Type := (Unit × Unit × Nat × List Trm × Int × Int × Unit) × TrmY × TrmX × List Trm × Unit
abbrev CpX : Type := CpA ⊕ (CpB ⊕ Empty)
def cpV (N : Nat) (l : List Trm) (len i : Int) : Prop := B0b l ≤ (N : Int) ∧ N ≤ 4000 ∧ len = (l.length : Int) ∧ 0 ≤ i ∧ i ≤ (l.length : Int)
def cpI (N : Nat) : CpX → Prop
  | .inl ⟨⟨_, _, _, l, len, i, _⟩, _⟩ => cpV N l len i
  | .inr (.inl ⟨⟨_, _, q, l, len, i, _⟩, _, _, ar, _⟩) => cpV N l len i ∧ q = ar.length ∧ 0 < q ∧ (q : Int) ≤ i
  | .inr (.inr x) => x.elim
noncomputable def f0Y (x : CpX) : Dt (AExit × List AVal × List AObj) := match x with
  | .inl x => N0A x.2.1 x.2.2.1 ([] ++ x.1.2.2.2.1.drop x.1.2.2.2.2.2.1.toNat)
  | .inr (.inl x) => N0A x.2.1 x.2.2.1 (x.2.2.2.1 ++ x.1.2.2.2.1.drop x.1.2.2.2.2.2.1.toNat)
  | .inr (.inr x) => x.elim
def cpMu : CpX → Nat
  | .inl x => ((x.1.2.2.2.1.length : Int) - x.1.2.2.2.2.2.1).toNat
  | .inr (.inl x) => ((x.1.2.2.2.1.length : Int) - x.1.2.2.2.2.2.1).toNat
  | .inr (.inr x) => x.elim
abbrev CopF (f : FuncId) (F : Func) : Prop := f = 35 ∧ F = Tryz.f35 ∨ f = 115 ∧ F = Tryz.f115
noncomputable def cpL (F : Func) (N : Nat) : GL :=
  { body := B0e F 0, nt := 22, nx := 2, nxi := 3, room := 16, gro := [(.slot 3, 2)], keep := [1, 2, 3, 7, 8, 9], objs := [0, 1, 2]
    ks := [⟨[.p 0 0, .p 1 0, .nl, .d Cd.term, .i .i64, .i .i64], [.cells B0O 25 0 0 [(0, 0, 4)], .cells trm0 25 1 0 [(1, 0, 4)], .gone]⟩,
      ⟨[.p 0 0, .p 1 0, .al Cd.term 2, .d Cd.term, .i .i64, .i .i64], [.cells B0O 25 0 0 [(0, 0, 4)], .cells trm0 25 1 0 [(1, 0, 4)], .arr Cd.term]⟩]
    keepX := fun _ => [1, 2, 3], objsX := fun _ => [0, 1, 2]
    inv := fun (x : CpX) => cpI N x, res := fun (x : CpX) => f0Y x }
theorem f0N {f : FuncId} {F : Func} (hF : CopF f F) (N : Nat) (hc : (copC N).Kept Tryz.prog f) : A0h Tryz.prog ((cpL F N).loop []) := by
  refine W0k (mp := []) xs0 (ctc hc ct0) lp0 (cpL F N) (fun (x : CpX) => cpMu x) (by rcases hF with ⟨rfl, rfl⟩ | ⟨rfl, rfl⟩ <;> kernel_rfl) ?_
  intro (xx : CpX) (hx : cpI N xx)
  rcases xx with ⟨⟨u1, u2, u3, l, len, i, u4⟩, ⟨k, n, s, l0, u5⟩, ⟨k2, n2, s2, u6, u7⟩, u8, u9⟩ | ⟨⟨u1, u2, q, l, len, i, u4⟩, ⟨k, n, s, l0, u5⟩, ⟨k2, n2, s2, u6, u7⟩, ar, u9⟩ | x
  · obtain ⟨hs, hN, hl, h0, h1⟩ : cpV N l len i := hx
    subst hl
    let z : Trm := Univ.dflt (Cd.term : Cd)
    let e : Trm := eT (l.getD i.toNat z)
    let ex : TrmY := (e.kind, e.n, e.s, e.l, ())
    refine H0f (t := .ite (decide (i < (l.length : Int))) (.ite (decide (0 ≤ i) && decide (i < (l.length : Int))) (.ite (dec ((copC N).pre (ex, ()))) (.ite (decide ([e].length ≤ 1000000))
        (.leaf (true, .normal, [.ptr 0 0, .ptr 1 0, .asl (Cd.term : Cd) 2 0 ([e].length), .dsl (Cd.term : Cd) l, .si .i64 (l.length : Int), .si .i64 (IntKind.i64.wrap (i + 1))], cpOb (k, n, s, l0, ()) (k2, n2, s2, (), ()) (.arr (Cd.term : Cd) (show List Trm from [e]))))
        .fail) .fail) .fail) (.leaf (true, .exit 0, [.ptr 0 0, .ptr 1 0, .nils], cpOb (k, n, s, l0, ()) (k2, n2, s2, (), ()) .done))) (by rcases hF with ⟨rfl, rfl⟩ | ⟨rfl, rfl⟩ <;> kernel_rfl) ?_
    have he : e = l.getD i.toNat z := D0i _
    have hex : (copC N).pre (ex, ()) = (A0G e ≤ (N : Int)) := rfl
    rw [A0C (by have := B0L l; omega) (by have := B0L l; omega), hex, he]
    refine A0Q (fun hlt => ?_) (fun hlt => ?_)
    · have hlt := of_decide_eq_true hlt
      have hd := A0w l i z h0 hlt
      have hm := D0J (A0H l i z h0 hlt)
      have hln := B0L l
      refine A0t (by simp [h0, hlt]) (A0t (A0g (by omega)) (A0t (by simp) ⟨rfl, (show CpX from .inr (.inl (((), (), 1, l, (l.length : Int), i + 1, ()), (k, n, s, l0, ()), (k2, n2, s2, (), ()), [l.getD i.toNat z], ()))), rfl, rfl, ?_⟩))
      refine ⟨⟨⟨hs, hN, rfl, by omega, by omega⟩, rfl, by omega, by omega⟩, by show ((l.length : Int) - (i + 1)).toNat < ((l.length : Int) - i).toNat; omega, ?_⟩
      show (N0A (k, n, s, l0, ()) (k2, n2, s2, (), ()) ([l.getD i.toNat z] ++ l.drop (i + 1).toNat)).val = (N0A (k, n, s, l0, ()) (k2, n2, s2, (), ()) ([] ++ l.drop i.toNat)).val
      rw [hd]; rfl
    · refine ⟨rfl, ?_⟩
      have hd := A0N l i h1 (of_decide_eq_false hlt)
      show (N0A (k, n, s, l0, ()) (k2, n2, s2, (), ()) ([] ++ l.drop i.toNat)).val = _
      rw [hd]; rfl
  · obtain ⟨⟨hs, hN, hl, h0, h1⟩, hq, hq0, hqi⟩ : cpV N l len i ∧ q = ar.length ∧ 0 < q ∧ (q : Int) ≤ i := hx
    subst hl
    let z : Trm := Univ.dflt (Cd.term : Cd)
    let e : Trm := eT (l.getD i.toNat z)
    let ex : TrmY := (e.kind, e.n, e.s, e.l, ())
    refine H0f (t := .ite (decide (i < (l.length : Int))) (.ite (decide (0 ≤ i) && decide (i < (l.length : Int))) (.ite (dec ((copC N).pre (ex, ()))) (.ite (decide (q = ar.length) && decide (q + [e].length ≤ 1000000))
        (.leaf (true, .normal, [.ptr 0 0, .ptr 1 0, .asl (Cd.term : Cd) 2 0 (q + [e].length), .dsl (Cd.term : Cd) l, .si .i64 (l.length : Int), .si .i64 (IntKind.i64.wrap (i + 1))], cpOb (k, n, s, l0, ()) (k2, n2, s2, (), ()) (.arr (Cd.term : Cd) (show List Trm from ar ++ [e]))))
        .fail) .fail) .fail) (.leaf (true, .exit 0, [.ptr 0 0, .ptr 1 0, .asl (Cd.term : Cd) 2 0 q], cpOb (k, n, s, l0, ()) (k2, n2, s2, (), ()) (.arr (Cd.term : Cd) (show List Trm from ar))))) (by rcases hF with ⟨rfl, rfl⟩ | ⟨rfl, rfl⟩ <;> kernel_rfl) ?_
    have he : e = l.getD i.toNat z := D0i _
    have hex : (copC N).pre (ex, ()) = (A0G e ≤ (N : Int)) := rfl
    rw [A0C (by have := B0L l; omega) (by have := B0L l; omega), hex, he]
    refine A0Q (fun hlt => ?_) (fun hlt => ?_)
    · have hlt := of_decide_eq_true hlt
      have hd := A0w l i z h0 hlt
      have hm := D0J (A0H l i z h0 hlt)
      have hln := B0L l
      refine A0t (by simp [h0, hlt]) (A0t (A0g (by omega)) (A0t (by simp [← hq]; omega) ⟨rfl, (show CpX from .inr (.inl (((), (), q + 1, l, (l.length : Int), i + 1, ()), (k, n, s, l0, ()), (k2, n2, s2, (), ()), ar ++ [l.getD i.toNat z], ()))), rfl, rfl, ?_⟩))
      refine ⟨⟨⟨hs, hN, rfl, by omega, by omega⟩, by rw [hq]; simp, by omega, by omega⟩, by show ((l.length : Int) - (i + 1)).toNat < ((l.length : Int) - i).toNat; omega, ?_⟩
      show (N0A (k, n, s, l0, ()) (k2, n2, s2, (), ()) ((ar ++ [l.getD i.toNat z]) ++ l.drop (i + 1).toNat)).val = (N0A (k, n, s, l0, ()) (k2, n2, s2, (), ()) (ar ++ l.drop i.toNat)).val
      rw [hd, List.append_assoc]; rfl
    · refine ⟨rfl, ?_⟩
      have hd := A0N l i h1 (of_decide_eq_false hlt)
      show (N0A (k, n, s, l0, ()) (k2, n2, s2, (), ()) (ar ++ l.drop i.toNat)).val = _
      rw [hd, List.append_nil, V0q (by omega), hq]
  · exact x.elim
theorem P0f {f : FuncId} {F : Func} (hF : CopF f F) : ∀ N : Nat, N ≤ 4000 → (copC N).Kept Tryz.prog f
  |
    0, _ => fun (x : TrmY × Unit) hx r hr => by
    have hx : A0G (C0I x.1) ≤ ((0 : Nat) : Int) := hx
    have := B0f (C0I x.1)
    omega
  |
    N + 1, hN => by
    have hL : ∀ p ∈ [(0, (cpL F N).loop [])], A0h Tryz.prog p.2 := lpc (f0N hF N (P0f hF N (by omega))) lp0
    have hmk : mkFn Tryz.prog f = some (.code (A0u [(0, (cpL F N).loop [])] (cd F [0])) F.ntmps F.results.toList) := by rcases hF with ⟨rfl, rfl⟩ | ⟨rfl, rfl⟩ <;> kernel_rfl
    refine H0b (mp := []) xs0 ct0 hL (copC (N + 1)) f F [0] hmk (by rcases hF with ⟨rfl, rfl⟩ | ⟨rfl, rfl⟩ <;> kernel_rfl) (.agg B0O) ?_
    intro (xx : TrmY × Unit) (hx : A0G (C0I xx.1) ≤ ((N + 1 : Nat) : Int))
    obtain ⟨⟨k, n, s, l, u1⟩, u2⟩ := xx
    have hx : A0G ⟨k, n, s, l⟩ ≤ ((N + 1 : Nat) : Int) := hx
    unfold A0G at hx
    refine A0A (t := .ite (dec (cpV N l (l.length : Int) 0)) (.ite (decide (l.length = 0)) (.leaf (true, .agg [.si .i64 k, .si .i64 n, .ss s, .nils])) (.leaf (true, .agg [.si .i64 k, .si .i64 n, .ss s, .dsl (Cd.term : Cd) (subL (α := Trm) l 0 l.length)]))) .fail) (by rcases hF with ⟨rfl, rfl⟩ | ⟨rfl, rfl⟩ <;> kernel_rfl) ?_
    refine A0c (A0g ⟨by omega, by omega, rfl, by omega, by omega⟩) (A0b (fun h => ⟨rfl, ?_⟩) fun h => ⟨rfl, ?_⟩)
    · have h := of_decide_eq_true h
      have : l = [] := List.eq_nil_of_length_eq_zero h
      subst this; rfl
    · rw [J0i]; rfl
mutual
def B0y:Trm→Bool
 |⟨k,_,_,l⟩=>!decide (k=1)&&E0a l
def E0a:List Trm→Bool
 |[]=>true
 |x::l=>B0y x&&E0a l
end
def N0i(x:Smp):Prop:=x.nodes=min 4001 (A0G x.t)∧x.deep=min 4001 (D0h x.t)
def Z0A(g:List Srt)(i:Int)(x:Smp):Prop:=N0i x∧B0y x.t=true∧C0V x.t=true∧fitT g x.t i=true
theorem N0M:∀(l:List Smp)(a b:Int),(∀x∈l,N0i x)→0≤b→a=min 4001 b→G0Y l a=min 4001 (b+B0b (l.map (·.t)))
 |[],a,b,_,_,h=>by show a=_;rw[h];unfold B0b;simp
 |
  x::l,a,b,h,hb,e=>by
  have h1:=(h x (by simp)).1
  have hp:=B0f x.t
  have :=N0M l (min 4001 (a+x.nodes)) (b+A0G x.t) (fun y hy=>h y (by simp[hy])) (by omega) (by rw[e,h1];omega)
  show G0Y l (min 4001 (a+x.nodes))=_
  rw[this]
  show _=min 4001 (b+(A0G x.t+B0b (l.map (·.t))))
  rw[Int.add_assoc]
theorem O0p:∀(l:List Smp)(a b:Int),(∀x∈l,N0i x)→0≤b→a=min 4001 b→F0l l a=min 4001 (max b (D0K (l.map (·.t))))
 |
  [],a,b,_,hb,h=>by
  show a=min 4001 (max b (D0K []))
  unfold D0K
  rw[h];omega
 |
  x::l,a,b,h,hb,e=>by
  have h1:=(h x (by simp)).2
  have hp:=P0u x.t
  have :=O0p l (max a x.deep) (max b (D0h x.t)) (fun y hy=>h y (by simp[hy])) (by omega) (by rw[e,h1];omega)
  show F0l l (max a x.deep)=_
  rw[this]
  show _=min 4001 (max b (max (D0h x.t) (D0K (l.map (·.t)))))
  omega
theorem R0J{k n:Int}{s:ByteArray}{l:List Smp}(h:∀x∈l,N0i x):N0i (D0n k n s l):=by
 refine⟨?_,?_⟩
 ·show G0Y l 1=min 4001 (A0G ⟨k,n,s,l.map (·.t)⟩)
  rw[N0M l 1 1 h (by omega) (by omega)]
  unfold A0G;rfl
 ·show min 4001 (F0l l 0+1)=min 4001 (D0h ⟨k,n,s,l.map (·.t)⟩)
  have hp:=G0U (l.map (·.t))
  rw[O0p l 0 0 h (Int.le_refl _) (by omega)]
  unfold D0h
  omega
theorem L0T:∀{l:List Smp},(∀x∈l,B0y x.t=true)→E0a (l.map (·.t))=true
 |[],_=>by unfold E0a;rfl
 |
  x::l,h=>by
  show E0a (x.t::l.map (·.t))=true
  unfold E0a
  rw[h x (by simp),L0T fun y hy=>h y (by simp[hy])];rfl
theorem R0M:∀{l:List Smp},(∀x∈l,C0V x.t=true)→E0L (l.map (·.t))=true
 |[],_=>by unfold E0L;rfl
 |
  x::l,h=>by
  show E0L (x.t::l.map (·.t))=true
  unfold E0L
  rw[h x (by simp),R0M fun y hy=>h y (by simp[hy])];rfl
theorem Z0l{l:List A0n}(hs:I0Z l){c:A0n}(hc:c∈l):T0f l c.name c.arity=some c:=by
 unfold T0f
 have hk:keyB c.name c.arity c=true:=by unfold keyB;simp
 induction l with
 |nil=>cases hc
 |
  cons d l ih=>
  obtain⟨h1,h2⟩:=List.pairwise_cons.1 hs
  rw[List.find?_cons]
  rcases List.mem_cons.1 hc with e|e
  ·rw[←e,hk]
  ·have ha:=h1 c e
   cases hd:keyB c.name c.arity d with
   |false=>exact ih h2 e
   |
    true=>
    exfalso
    have h3:=S0U hd
    rw[I0U hk,ha] at h3
    cases h3
theorem R0t{l:List A0n}(hs:I0Z l){c:A0n}(hc:c∈l):C0e l c.name c.arity=true∧F0K l c.name c.arity=c:=by
 have :=O0R hs c.name c.arity
 rw[Z0l hs hc] at this
 cases hf:C0e l c.name c.arity with
 |false=>rw[hf] at this;cases this
 |true=>rw[hf,if_pos rfl] at this;exact⟨rfl,Option.some.inj this⟩
theorem O0G{g:List Srt}{m:Smps}(hm:∀i x,m i=some x→fitT g x.t i=true):∀{ys:List Int}{l:List Smp},A0Y m ys=some l→E0D g (l.map (·.t)) ys=true
 |[],l,e=>by cases e;unfold E0D;rfl
 |
  i::ys,l,e=>by
  unfold A0Y at e
  cases hq:m i with
  |none=>rw[hq] at e;cases e
  |
   some y=>
   rw[hq] at e
   simp only[] at e
   cases hp:A0Y m ys with
   |none=>rw[hp] at e;cases e
   |
    some r'=>
    rw[hp] at e
    cases e
    show E0D g (y.t::r'.map (·.t)) (i::ys)=true
    unfold E0D
    rw[show(i::ys).headD 0=i from rfl,show(i::ys).tail=ys from rfl,hm i y hq,O0G hm hp];rfl
theorem O0v{g:List Srt}{i:Int}(h:B0l g=true)(hi:inG g i){c:A0n}(hc:c∈(gAt g i).cases):F0u c.name=true∧0≤c.arity∧c.arity≤16∧(c.args.length:Int)=c.arity:=by
 have hr:=E0g h hi
 unfold C0x at hr
 have hr:(decide (400<((gAt g i).cases.length:Int))||(decide (1<((gAt g i).vec.length:Int))||((gAt g i).vec.any (outB (g.length:Int))||D0F (g.length:Int) (gAt g i).atom none (gAt g i).cases)))=false:=by simpa using hr
 simp only[Bool.or_eq_false_iff] at hr
 have :=L0l hr.2.2.2 c hc
 unfold C0c at this
 simp only[Bool.or_eq_false_iff] at this
 obtain⟨h1,h2,h3,h4,_,_⟩:=this
 have h1:P0Z c.name=true:=by simpa using h1
 unfold P0Z at h1
 have h1:=d0I (of_decide_eq_true h1)
 have h2:=of_decide_eq_false h2
 have h3:=of_decide_eq_false h3
 refine⟨?_,by omega,by omega,by simpa using h4⟩
 unfold C0V at h1
 rw[Bool.and_eq_true] at h1
 have h1:=h1.1
 unfold C0O at h1
 simp[J0S] at h1
 exact h1.2.2
theorem d0N:F0u c0q=true:=by decide
theorem R0S{g:List Srt}{i:Int}{k:Int}{s:ByteArray}(h:C0O k 0 s []=true)(hk:k≠1)(hf:fitT g ⟨k,0,s,[]⟩ i=true):Z0A g i (D0n k 0 s []):=by
 refine⟨R0J (fun _ h=>by cases h),?_,?_,hf⟩
 ·show B0y ⟨k,0,s,[]⟩=true
  unfold B0y E0a;simp[hk]
 ·show C0V ⟨k,0,s,[]⟩=true
  unfold C0V E0L;rw[h];rfl
theorem Y0o{g:List Srt}{i:Int}{m:Smps}{x:Smp}(hg:B0l g=true)(hi:inG g i)(h:C0G (gAt g i) m=some x)(hm:∀j y,m j=some y→Z0A g j y):Z0A g i x:=by
 have hs:=G0J hg hi
 refine N0E h (fun q=>R0S (by decide) (by decide) ?_) (fun q=>R0S (by decide) (by decide) ?_) (fun q=>R0S ?_ (by decide) ?_) (fun c hc q=>?_) (fun q=>R0S (by decide) (by decide) ?_) (fun c hc l hl=>?_)
 ·unfold fitT;simp[q]
 ·unfold fitT;simp[q]
 ·unfold C0O;simp[J0S,no0,noL,d0N]
 ·unfold fitT
  simp only[show¬((3:Int)=1) by decide,show¬((3:Int)=2) by decide,show¬((3:Int)=4) by decide,show¬((3:Int)=6) by decide,if_false]
  split
  ·unfold E0D;rfl
  ·simp[q]
 ·obtain⟨hn,_,_,_⟩:=O0v hg hi hc
  refine R0S (by unfold C0O;simp[J0S,no0,noL,hn]) (by decide) ?_
  have hf:=(R0t hs hc).1
  rw[q] at hf
  unfold fitT
  simp only[show¬((3:Int)=1) by decide,show¬((3:Int)=2) by decide,show¬((3:Int)=4) by decide,show¬((3:Int)=6) by decide,if_false,List.length_nil,Int.natCast_zero,hf,if_true]
  unfold E0D;rfl
 ·obtain⟨_,hv,_,_⟩:=D0r (E0g hg hi)
  unfold fitT fitA
  simp only[show¬((6:Int)=1) by decide,show¬((6:Int)=2) by decide,show¬((6:Int)=4) by decide,if_false,if_true,Bool.and_true,decide_eq_true_eq]
  omega
 ·obtain⟨hn,h0,h16,hl2⟩:=O0v hg hi hc
  have hlen:=N0a hl
  have hall:=fun(Q:Smp→Prop)(hQ:∀j y,m j=some y→Q y)=>J0j (Q:=Q) hQ hl
  have hfl:=O0G (g:=g) (fun j y hj=>(hm j y hj).2.2.2) hl
  obtain⟨hf1,hf2⟩:=R0t hs hc
  have hlm:((l.map (·.t)).length:Int)=c.arity:=by rw[List.length_map,hlen];exact hl2
  refine⟨R0J (hall _ fun j y hj=>(hm j y hj).1),?_,?_,?_⟩
  ·show B0y ⟨S0z c,0,c.name,l.map (·.t)⟩=true
   unfold B0y
   rw[L0T (hall _ fun j y hj=>(hm j y hj).2.1)]
   unfold S0z;split<;>rfl
  ·show C0V ⟨S0z c,0,c.name,l.map (·.t)⟩=true
   unfold C0V
   rw[R0M (hall _ fun j y hj=>(hm j y hj).2.2.1)]
   unfold S0z
   split
   ·rename_i q
    have :l.map (·.t)=[]:=List.eq_nil_of_length_eq_zero (by omega)
    rw[this]
    unfold C0O;simp[J0S,no0,noL,hn]
   ·rename_i q
    unfold C0O
    simp only[show¬((5:Int)=1) by decide,show¬((5:Int)=2) by decide,show¬((5:Int)=3) by decide,show¬((5:Int)=4) by decide,if_false,if_true]
    unfold T0G
    rw[hlm,hn]
    simp[no0];omega
  ·show fitT g ⟨S0z c,0,c.name,l.map (·.t)⟩ i=true
   unfold fitT
   rw[hlm,hf1,hf2,hfl]
   unfold S0z
   split<;>simp
theorem Q0L{g:List Srt}(hg:B0l g=true):∀i x,G0N g (fun _=>none) i=some x→inG g i∧Z0A g i x:=by
 refine Z0t (P:=fun m=>∀i x,m i=some x→inG g i∧Z0A g i x) (fun m hm=>?_) _ _ (fun i x h=>by cases h)
 refine Y0x hm fun i x h=>?_
 obtain⟨hi,hf⟩:=S0j h
 exact⟨hi,Y0o hg hi hf fun j y hj=>(hm j y hj).2⟩
def zTrm:Trm:=⟨0,0,⟨#[]⟩,[]⟩
noncomputable def exO(g:List Srt)(i:Int):Option Smp:=G0N g (fun _=>none) i
noncomputable def exE(g:List Srt)(i:Int):Int:=if askE g i=0 then(match exO g i with |none=>4|some x=>if isS x=true then 0 else 2) else askE g i
noncomputable def exT(g:List Srt)(i:Int):Trm:=if exE g i=0 then(match exO g i with |none=>zTrm|some x=>x.t) else zTrm
noncomputable def exmC:FSpec:=⟨[.d Cd.sort,.i .i64],fun(x:List Srt×Int×Unit)=>okG x.1,fun(x:List Srt×Int×Unit)=>.leaf (.tup [trmV (exT x.1 x.2.1),.si .i64 (exE x.1 x.2.1)])⟩
theorem a0U{g:List Srt}{i:Int}(h:askE g i=0):B0l g=true∧inG g i:=by
 unfold askE at h
 split at h
 ·rename_i he
  have hg:B0l g=true:=by
   unfold errG at he
   split at he
   ·assumption
   ·omega
  refine⟨hg,?_⟩
  unfold inG
  split at h
  ·omega
  ·split at h
   ·omega
   ·omega
 ·rename_i he;exact absurd h he
theorem b0G{g:List Srt}{i:Int}{x:Smp}(hg:B0l g=true)(h:exO g i=some x)(hs:isS x=true):A0G x.t≤4000:=by
 have :=(Q0L hg i x h).2.1.1
 unfold isS at hs
 rw[Bool.and_eq_true] at hs
 have :=of_decide_eq_true hs.1
 omega
theorem Q0h{g:List Srt}{i:Int}{t:Trm}{e:Int}(he:exE g i=e)(ht:exT g i=t):(Dt.leaf (AVal.tup [trmV (exT g i),.si .i64 (exE g i)])).val=some (.tup [trmV t,.si .i64 e]):=by rw[he,ht];rfl
theorem a0o:exmC.Kept Tryz.prog 10:=by
 refine H0b (mp:=mps0) xs0 (ctc U0H (ctc a0h (ctc W0b (ctc (P0f (.inl ⟨rfl,rfl⟩) 4000 (Nat.le_refl _)) ct0)))) lp0 exmC 10 Tryz.f10 [] (by kernel_rfl) (by kernel_rfl) (.agg [.agg B0O,.i .i64]) ?_
 intro(xx:List Srt×Int×Unit)(hx:okG xx.1)
 obtain⟨g,i,u⟩:=xx
 have hx:okG g:=hx
 let x:Smp:=(exO g i).getD (Univ.dflt (Cd.smp:Cd))
 let sx:SmpX:=(x.t.kind,x.t.n,x.t.s,x.t.l,x.nodes,x.deep,())
 let tx:TrmY:=(x.t.kind,x.t.n,x.t.s,x.t.l,())
 refine A0A (t:=.ite (dec (askC.pre (g,i,()))) (.ite (!decide (askE g i=0)) (.leaf (true,.tup [.agg [.si .i64 0,.si .i64 0,.ss ⟨#[]⟩,.nils],.si .i64 (askE g i)]))
  (.ite (dec (okG g)) (.ite (!(exO g i).isSome) (.leaf (true,.tup [.agg [.si .i64 0,.si .i64 0,.ss ⟨#[]⟩,.nils],.si .i64 4]))
   (.ite (dec (smpIsC.pre (sx,()))) (.ite (!isS (eS x)) (.leaf (true,.tup [.agg [.si .i64 0,.si .i64 0,.ss ⟨#[]⟩,.nils],.si .i64 2]))
    (.ite (dec ((copC 4000).pre (tx,()))) (.leaf (true,.tup [trmV (C0I tx),.si .i64 0])) .fail)) .fail)) .fail)) .fail) (by kernel_rfl) ?_
 have htx:C0I tx=x.t:=D0i _
 rw[Z0J]
 refine A0c (A0g trivial) (A0b (fun ha=>⟨rfl,?_⟩) fun ha=>A0c (A0g hx) (A0b (fun ho=>⟨rfl,?_⟩) fun ho=>A0c (A0g trivial) (A0b (fun hs=>⟨rfl,?_⟩) fun hs=>A0c (A0g ?_) ⟨rfl,?_⟩)))
 ·have ha:¬askE g i=0:=by simpa using ha
  have h1:exE g i=askE g i:=by unfold exE;rw[if_neg ha]
  exact Q0h h1 (by unfold exT;rw[h1,if_neg ha])
 ·have ha:askE g i=0:=by simpa using ha
  have ho:exO g i=none:=by simpa using ho
  have h1:exE g i=4:=by unfold exE;rw[if_pos ha,ho]
  exact Q0h h1 (by unfold exT;rw[h1,if_neg (by omega)])
 ·have ha:askE g i=0:=by simpa using ha
  have ho:exO g i=some x:=D0A (by simpa using ho)
  have h1:exE g i=2:=by unfold exE;rw[if_pos ha,ho];exact if_neg (by simpa using hs)
  exact Q0h h1 (by unfold exT;rw[h1,if_neg (by omega)])
 ·have ha:askE g i=0:=by simpa using ha
  have ho:exO g i=some x:=D0A (by simpa using ho)
  show A0G (C0I tx)≤((4000:Nat):Int)
  rw[htx]
  exact b0G (a0U ha).1 ho (by simpa using hs)
 ·have ha:askE g i=0:=by simpa using ha
  have ho:exO g i=some x:=D0A (by simpa using ho)
  have h1:exE g i=0:=by unfold exE;rw[if_pos ha,ho];exact if_pos (by simpa using hs)
  exact Q0h h1 (by unfold exT;rw[h1,if_pos rfl,ho,htx])
abbrev SpM:Type:=(Int→Option (List Int))×Nat
noncomputable def W0c(y:SpM)(n s:Int):SpM:=(updM y.1 n ((y.1 n).getD []++[s]),D0M y.1 n y.2)
def E0d(k:Int)(s:ByteArray)(len:Int)(cs:List A0n)(args:List Int):List Int:=cs.foldl (fun a c=>if k≠6∧c.name=s∧c.arity=len then c.args else a) args
def spAt(k:Int)(i:Nat):Nat:=if k=6 then 0 else i
mutual
noncomputable def spT(g:List Srt)(s:Int):Trm→SpM→SpM
 |⟨k,n,a,l⟩,y=>if k=1 then W0c y n s else spL g k (E0d k a l.length (gAt g s).cases (gAt g s).vec) l 0 y
noncomputable def spL(g:List Srt)(k:Int)(args:List Int):List Trm→Nat→SpM→SpM
 |[],_,y=>y
 |x::l,i,y=>spL g k args l (i+1) (if spAt k i<args.length then spT g (args.getD (spAt k i) 0) x y else y)
end
def spRoom(y:SpM)(c:Int):Prop:=∀n,(((y.1 n).getD []).length:Int)+c≤1000000
theorem spRoom.mono{y:SpM}{c d:Int}(h:spRoom y c)(hd:d≤c):spRoom y d:=fun n=>by have :=h n;omega
theorem X0q{y:SpM}{n s c:Int}(h:spRoom y (c+1)):spRoom (W0c y n s) c:=by
 intro m
 have h1:=h m
 unfold W0c
 by_cases e:m=n
 ·subst e
  show(((updM y.1 m ((y.1 m).getD []++[s]) m).getD []).length:Int)+c≤1000000
  rw[G0a]
  show(((y.1 m).getD []++[s]).length:Int)+c≤1000000
  rw[List.length_append,List.length_singleton];omega
 ·show(((updM y.1 n ((y.1 n).getD []++[s]) m).getD []).length:Int)+c≤1000000
  rw[E0y e];omega
theorem H0Dx(x:Trm)(l:List Trm):B0b (x::l)=A0G x+B0b l:=by conv=>lhs;unfold B0b
theorem J0e(g:List Srt)(k:Int)(args:List Int)(x:Trm)(l:List Trm)(i:Nat)(y:SpM):spL g k args (x::l) i y=spL g k args l (i+1) (if spAt k i<args.length then spT g (args.getD (spAt k i) 0) x y else y):=by
 conv=>lhs;unfold spL
mutual
theorem O0U(g:List Srt)(s:Int):∀(t:Trm)(y:SpM)(c:Int),spRoom y (c+A0G t)→spRoom (spT g s t y) c
 |
  ⟨k,n,a,l⟩,y,c,h=>by
  unfold A0G at h
  unfold spT
  have :=C0p l
  split
  ·exact X0q (h.mono (by omega))
  ·exact V0e g k _ l 0 y c (h.mono (by omega))
theorem V0e(g:List Srt)(k:Int)(args:List Int):∀(l:List Trm)(i:Nat)(y:SpM)(c:Int),spRoom y (c+B0b l)→spRoom (spL g k args l i y) c
 |[],_,y,c,h=>by unfold spL;unfold B0b at h;exact h.mono (by omega)
 |
  x::l,i,y,c,h=>by
  rw[H0Dx] at h
  rw[J0e]
  refine V0e g k args l (i+1) _ c ?_
  have :=B0f x
  split
  ·exact O0U g _ x y _ (h.mono (by omega))
  ·exact h.mono (by omega)
end
theorem Q0M{g:List Srt}(k:Int)(s:ByteArray)(len:Int):∀(cs:List A0n)(args:List Int),(∀c∈cs,∀x∈c.args,inG g x)→(∀x∈args,inG g x)→∀x∈E0d k s len cs args,inG g x
 |[],_,_,h=>h
 |
  c::cs,args,hc,h=>by
  show∀x∈E0d k s len cs (if k≠6∧c.name=s∧c.arity=len then c.args else args),inG g x
  refine Q0M k s len cs _ (fun d hd=>hc d (by simp[hd])) ?_
  split
  ·exact hc c (by simp)
  ·exact h
abbrev SpX:Type:=List Srt×Int×D0j×Unit
def spP(N:Nat)(g:List Srt)(s:Int)(t:Trm)(y:SpM):Prop:=A0G t≤(N:Int)∧N≤4000∧B0l g=true∧inG g s∧spRoom y (A0G t)
noncomputable def spC(N:Nat):MSpec:=⟨[.d Cd.sort,.i .i64,.agg B0O],Cd.int,Cd.int,fun(x:SpX)(y:SpM)=>spP N x.1 x.2.1 ⟨x.2.2.1.1,x.2.2.1.2.1,x.2.2.1.2.2.1,x.2.2.1.2.2.2.1⟩ y,
 fun(x:SpX)(y:SpM)=>.leaf (spT x.1 x.2.1 ⟨x.2.2.1.1,x.2.2.1.2.1,x.2.2.1.2.2.1,x.2.2.1.2.2.2.1⟩ y)⟩
abbrev Sp1X:Type:=List Srt×Unit×Unit×List Int×List A0n×Int×Int×Unit
abbrev SpY:Type:=SpM×D0j×Unit
def sp1V(cs:List A0n)(len i:Int):Prop:=len=(cs.length:Int)∧0≤i∧i≤(cs.length:Int)∧(cs.length:Int)≤400
noncomputable abbrev spOb(y:SpM)(k n:Int)(s:ByteArray)(l:List Trm):List AObj:=[.mps (Cd.int:Cd) (Cd.int:Cd) y.1 y.2 none,.cells [.si .i64 k,.si .i64 n,.ss s,.dsl (Cd.term:Cd) l] 25 false false 1 0 [(1,0,4)]]
noncomputable def sp1:PSpec:=
 {body:=B0e Tryz.f8 0,nt:=84,nx:=2,room:=2
  keep:=[(0,.d Cd.sort),(3,.mp 0),(6,.p 1 0),(8,.d Cd.int),(36,.d Cd.case),(37,.i .i64),(38,.i .i64)],objs:=[(0,.mps Cd.int Cd.int),(1,.cells B0O 25 1 0 [(1,0,4)])]
  keepX:=fun _=>[0,3,6,8],objsX:=fun _=>[0,1]
  inv:=fun(x:Sp1X)(_:SpY)=>sp1V x.2.2.2.2.1 x.2.2.2.2.2.1 x.2.2.2.2.2.2.1
  res:=fun(x:Sp1X)(y:SpY)=>.leaf (.exit 0,[.dsl (Cd.sort:Cd) x.1,.map 0,.ptr 1 0,.dsl (Cd.int:Cd) (E0d y.2.1.1 y.2.1.2.2.1 y.2.1.2.2.2.1.length (x.2.2.2.2.1.drop x.2.2.2.2.2.2.1.toNat) x.2.2.2.1)],spOb y.1 y.2.1.1 y.2.1.2.1 y.2.1.2.2.1 y.2.1.2.2.2.1)}
theorem f0t:A0h Tryz.prog (sp1.loop []):=by
 refine G0D (mp:=[]) xs0 ct0 lp0 sp1 (fun(x:Sp1X) _=>((x.2.2.2.2.1.length:Int)-x.2.2.2.2.2.2.1).toNat) (by kernel_rfl) ?_
 intro xx yy hx
 obtain⟨g,u1,u2,a,cs,len,i,u3⟩:Sp1X:=xx
 obtain⟨⟨m,q⟩,⟨k,n,s,l,u4⟩,u5⟩:SpY:=yy
 obtain⟨rfl,h0,h1,h400⟩:sp1V cs len i:=hx
 let z:A0n:=Univ.dflt (Cd.case:Cd)
 let c:A0n:=cs.getD i.toNat z
 let L (a':List Int):Dt (Bool×AExit×List AVal×List AObj):=.leaf (true,.normal,[.dsl (Cd.sort:Cd) g,.map 0,.ptr 1 0,.dsl (Cd.int:Cd) a',.dsl (Cd.case:Cd) cs,.si .i64 (cs.length:Int),.si .i64 (IntKind.i64.wrap (i+1))],spOb (m,q) k n s l)
 refine A0A (t:=.ite (decide (i<(cs.length:Int))) (.ite (decide (0≤i)&&decide (i<(cs.length:Int))) (.ite (!decide (k=6)) (.ite (decide (c.name=s)&&(decide (c.arity=(l.length:Int))&&true)) (L c.args) (L a)) (L a)) .fail)
  (.leaf (true,.exit 0,[.dsl (Cd.sort:Cd) g,.map 0,.ptr 1 0,.dsl (Cd.int:Cd) a],spOb (m,q) k n s l))) (by kernel_rfl) ?_
 refine A0b (fun hlt=>?_) (fun hlt=>?_)
 ·have hlt:=of_decide_eq_true hlt
  have hd:=A0w cs i z h0 hlt
  have e5:IntKind.i64.wrap (i+1)=i+1:=A0C (by omega) (by omega)
  have inv':sp1V cs (cs.length:Int) (IntKind.i64.wrap (i+1)):=by rw[e5];exact⟨rfl,by omega,by omega,h400⟩
  have hm:((cs.length:Int)-IntKind.i64.wrap (i+1)).toNat<((cs.length:Int)-i).toNat:=by rw[e5];omega
  have hr:∀a',(if k≠6∧c.name=s∧c.arity=(l.length:Int) then c.args else a)=a'→E0d k s l.length (cs.drop (IntKind.i64.wrap (i+1)).toNat) a'=E0d k s l.length (cs.drop i.toNat) a:=fun a' ha=>by
   rw[e5,hd,←ha];rfl
  have fin:∀a',(if k≠6∧c.name=s∧c.arity=(l.length:Int) then c.args else a)=a'→(sp1.res (show Sp1X from(g,(),(),a',cs,(cs.length:Int),IntKind.i64.wrap (i+1),())) (show SpY from((m,q),(k,n,s,l,()),()))).val=(sp1.res (show Sp1X from(g,u1,u2,a,cs,(cs.length:Int),i,u3)) (show SpY from((m,q),(k,n,s,l,u4),u5))).val:=fun a' ha=>by
   show some (AExit.exit 0,[AVal.dsl (Cd.sort:Cd) g,.map 0,.ptr 1 0,.dsl (Cd.int:Cd) (E0d k s l.length (cs.drop (IntKind.i64.wrap (i+1)).toNat) a')],spOb (m,q) k n s l)=some (AExit.exit 0,[AVal.dsl (Cd.sort:Cd) g,.map 0,.ptr 1 0,.dsl (Cd.int:Cd) (E0d k s l.length (cs.drop i.toNat) a)],spOb (m,q) k n s l)
   rw[hr a' ha]
  have lf:∀a',(if k≠6∧c.name=s∧c.arity=(l.length:Int) then c.args else a)=a'→∃x' y',Pts.vals (sp1.keep.map (·.2)) x'=[AVal.dsl (Cd.sort:Cd) g,.map 0,.ptr 1 0,.dsl (Cd.int:Cd) a',.dsl (Cd.case:Cd) cs,.si .i64 (cs.length:Int),.si .i64 (IntKind.i64.wrap (i+1))]∧Pos.obs (sp1.objs.map (·.2)) y'=spOb (m,q) k n s l∧sp1.inv x' y'∧
    (fun(x:Sp1X)(_:SpY)=>((x.2.2.2.2.1.length:Int)-x.2.2.2.2.2.2.1).toNat) x' y'<((cs.length:Int)-i).toNat∧(sp1.res x' y').val=(sp1.res (show Sp1X from(g,u1,u2,a,cs,(cs.length:Int),i,u3)) (show SpY from((m,q),(k,n,s,l,u4),u5))).val:=fun a' ha=>
   ⟨(show Sp1X from(g,(),(),a',cs,(cs.length:Int),IntKind.i64.wrap (i+1),())),(show SpY from((m,q),(k,n,s,l,()),())),rfl,rfl,inv',hm,fin a' ha⟩
  refine A0c (by simp[h0,hlt]) (A0b (fun hk=>A0b (fun hc=>⟨rfl,lf _ (if_pos ?_)⟩) fun hc=>⟨rfl,lf _ (if_neg ?_)⟩) fun hk=>⟨rfl,lf _ (if_neg ?_)⟩)
  ·simp at hk hc;exact⟨hk,hc⟩
  ·simp at hk hc;exact fun h=>hc h.2.1 h.2.2
  ·simp at hk;exact fun h=>h.1 hk
 ·have hlt:=of_decide_eq_false hlt
  have :cs.drop i.toNat=[]:=List.drop_eq_nil_of_le (by omega)
  refine⟨rfl,?_⟩
  show some (AExit.exit 0,[AVal.dsl (Cd.sort:Cd) g,.map 0,.ptr 1 0,.dsl (Cd.int:Cd) (E0d k s l.length (cs.drop i.toNat) a)],spOb (m,q) k n s l)=_
  rw[this];rfl
abbrev Sp2X:Type:=List Srt×Unit×Unit×List Int×List Trm×Int×Int×Unit
def sp2V(N:Nat)(g:List Srt)(a:List Int)(l2:List Trm)(len i:Int)(y:SpM):Prop:=
 B0l g=true∧(∀e∈a,inG g e)∧B0b l2≤(N:Int)∧N≤4000∧len=(l2.length:Int)∧0≤i∧i≤(l2.length:Int)∧spRoom y (B0b (l2.drop i.toNat))
noncomputable def spR(g:List Srt)(k:Int)(a:List Int)(l2:List Trm)(i:Int)(y:SpM):SpM:=spL g k a (l2.drop i.toNat) i.toNat y
noncomputable def sp2(N:Nat):PSpec:=
 {body:=B0e Tryz.f8 2,nt:=84,nx:=4,room:=8
  keep:=[(0,.d Cd.sort),(3,.mp 0),(6,.p 1 0),(8,.d Cd.int),(60,.d Cd.term),(61,.i .i64),(62,.i .i64)],objs:=[(0,.mps Cd.int Cd.int),(1,.cells B0O 25 1 0 [(1,0,4)])]
  keepX:=fun _=>[],objsX:=fun _=>[0]
  inv:=fun(x:Sp2X)(y:SpY)=>sp2V N x.1 x.2.2.2.1 x.2.2.2.2.1 x.2.2.2.2.2.1 x.2.2.2.2.2.2.1 y.1
  res:=fun(x:Sp2X)(y:SpY)=>.leaf (.exit 2,[],[.mps (Cd.int:Cd) (Cd.int:Cd) (spR x.1 y.2.1.1 x.2.2.2.1 x.2.2.2.2.1 x.2.2.2.2.2.2.1 y.1).1 (spR x.1 y.2.1.1 x.2.2.2.1 x.2.2.2.2.1 x.2.2.2.2.2.2.1 y.1).2 none])}
theorem f0p(N:Nat)(hS:(spC N).Kept Tryz.prog 8):A0h Tryz.prog ((sp2 N).loop []):=by
 refine G0D (mp:=[]) (ws:=[(8,.m (spC N))]) (xsc hS xs0) ct0 lp0 (sp2 N) (fun(x:Sp2X) _=>((x.2.2.2.2.1.length:Int)-x.2.2.2.2.2.2.1).toNat) (by kernel_rfl) ?_
 intro xx yy hx
 obtain⟨g,u1,u2,a,l2,len,i,u3⟩:Sp2X:=xx
 obtain⟨⟨m,q⟩,⟨k,n,s,l,u4⟩,u5⟩:SpY:=yy
 obtain⟨hg,ha,hs,hN,rfl,h0,h1,hr⟩:sp2V N g a l2 len i (m,q):=hx
 let z:Trm:=Univ.dflt (Cd.term:Cd)
 let zi:Int:=Univ.dflt (Cd.int:Cd)
 let e:Trm:=eT (l2.getD i.toNat z)
 let L (y:SpM):Dt (Bool×AExit×List AVal×List AObj):=.leaf (true,.normal,[.dsl (Cd.sort:Cd) g,.map 0,.ptr 1 0,.dsl (Cd.int:Cd) a,.dsl (Cd.term:Cd) l2,.si .i64 (l2.length:Int),.si .i64 (IntKind.i64.wrap (i+1))],spOb y k n s l)
 let K (j:Int):Dt (Bool×AExit×List AVal×List AObj):=.ite (decide (j<(a.length:Int))) (.ite (decide (0≤j)&&decide (j<(a.length:Int))) (.ite (dec (spP N g (a.getD j.toNat zi) e (m,q))) (L (spT g (a.getD j.toNat zi) e (m,q))) .fail) .fail) (L (m,q))
 refine A0A (t:=.ite (decide (i<(l2.length:Int))) (.ite (decide (0≤i)&&decide (i<(l2.length:Int))) (.ite (decide (k=6)) (K 0) (K i)) .fail) (.leaf (true,.exit 2,[],[.mps (Cd.int:Cd) (Cd.int:Cd) m q none]))) (by kernel_rfl) ?_
 refine A0b (fun hlt=>?_) (fun hlt=>?_)
 ·have hlt:=of_decide_eq_true hlt
  have hd:=A0w l2 i z h0 hlt
  have hl:=B0L l2
  have he:e=l2.getD i.toNat z:=D0i _
  have hm:=D0J (A0H l2 i z h0 hlt)
  rw[hd,H0Dx] at hr
  have hp:=B0f (l2.getD i.toNat z)
  have hp2:=C0p (l2.drop (i+1).toNat)
  have e5:IntKind.i64.wrap (i+1)=i+1:=A0C (by omega) (by omega)
  have hmm:((l2.length:Int)-IntKind.i64.wrap (i+1)).toNat<((l2.length:Int)-i).toNat:=by rw[e5];omega
  let nxt:SpM:=if spAt k i.toNat<a.length then spT g (a.getD (spAt k i.toNat) 0) (l2.getD i.toNat z) (m,q) else(m,q)
  have inv':sp2V N g a l2 (l2.length:Int) (IntKind.i64.wrap (i+1)) nxt:=by
   rw[e5]
   refine⟨hg,ha,hs,hN,rfl,by omega,by omega,?_⟩
   show spRoom (if spAt k i.toNat<a.length then _ else _) _
   split
   ·exact O0U g _ _ _ _ (hr.mono (by omega))
   ·exact hr.mono (by omega)
  have hres:spR g k a l2 (IntKind.i64.wrap (i+1)) nxt=spR g k a l2 i (m,q):=by
   unfold spR
   rw[e5,hd,J0e]
   rw[show(i+1).toNat=i.toNat+1 by omega]
  have lf:∀y:SpM,y=nxt→∃x' y',Pts.vals ((sp2 N).keep.map (·.2)) x'=[AVal.dsl (Cd.sort:Cd) g,.map 0,.ptr 1 0,.dsl (Cd.int:Cd) a,.dsl (Cd.term:Cd) l2,.si .i64 (l2.length:Int),.si .i64 (IntKind.i64.wrap (i+1))]∧Pos.obs ((sp2 N).objs.map (·.2)) y'=spOb y k n s l∧(sp2 N).inv x' y'∧
    (fun(x:Sp2X)(_:SpY)=>((x.2.2.2.2.1.length:Int)-x.2.2.2.2.2.2.1).toNat) x' y'<((l2.length:Int)-i).toNat∧
    ((sp2 N).res x' y').val=((sp2 N).res (show Sp2X from(g,u1,u2,a,l2,(l2.length:Int),i,u3)) (show SpY from((m,q),(k,n,s,l,u4),u5))).val:=fun y hy=>
   ⟨(
    show Sp2X from(g,(),(),a,l2,(l2.length:Int),IntKind.i64.wrap (i+1),())),(show SpY from(y,(k,n,s,l,()),())),rfl,rfl,by rw[hy];exact inv',hmm,by
    show some (AExit.exit 2,([]:List AVal),[AObj.mps (Cd.int:Cd) (Cd.int:Cd) (spR g k a l2 (IntKind.i64.wrap (i+1)) y).1 (spR g k a l2 (IntKind.i64.wrap (i+1)) y).2 none])=some (AExit.exit 2,([]:List AVal),[AObj.mps (Cd.int:Cd) (Cd.int:Cd) (spR g k a l2 i (m,q)).1 (spR g k a l2 i (m,q)).2 none])
    rw[hy,hres]⟩
  have hK:∀j:Int,0≤j→j.toNat=spAt k i.toNat→(K j).holds fun w=>w.1=true∧match w.2.1 with
   |
    .normal=>∃x' y',Pts.vals ((sp2 N).keep.map (·.2)) x'=w.2.2.1∧Pos.obs ((sp2 N).objs.map (·.2)) y'=w.2.2.2∧(sp2 N).inv x' y'∧(fun(x:Sp2X)(_:SpY)=>((x.2.2.2.2.1.length:Int)-x.2.2.2.2.2.2.1).toNat) x' y'<((l2.length:Int)-i).toNat∧
    ((sp2 N).res x' y').val=((sp2 N).res (show Sp2X from(g,u1,u2,a,l2,(l2.length:Int),i,u3)) (show SpY from((m,q),(k,n,s,l,u4),u5))).val
   |e=>((sp2 N).res (show Sp2X from(g,u1,u2,a,l2,(l2.length:Int),i,u3)) (show SpY from((m,q),(k,n,s,l,u4),u5))).val=some (e,w.2.2):=fun j hj hjk=>by
   refine A0b (fun h=>?_) fun h=>?_
   ·have h:=of_decide_eq_true h
    have hin:=ha _ (A0H a j zi hj h)
    refine A0c (by simp[hj,h]) (A0c (A0g ?_) ⟨rfl,lf _ ?_⟩)
    ·rw[he];exact⟨by omega,hN,hg,hin,hr.mono (by omega)⟩
    ·show spT g (a.getD j.toNat zi) e (m,q)=if spAt k i.toNat<a.length then spT g (a.getD (spAt k i.toNat) 0) (l2.getD i.toNat z) (m,q) else(m,q)
     rw[if_pos (by omega),←hjk,he];rfl
   ·have h:=of_decide_eq_false h
    refine⟨rfl,lf _ ?_⟩
    show(m,q)=if spAt k i.toNat<a.length then spT g (a.getD (spAt k i.toNat) 0) (l2.getD i.toNat z) (m,q) else(m,q)
    rw[if_neg (by omega)]
  refine A0c (by simp[h0,hlt]) (A0b (fun hk=>hK 0 (by omega) ?_) fun hk=>hK i h0 ?_)
  ·unfold spAt;rw[if_pos (of_decide_eq_true hk)];try rfl
  ·unfold spAt;rw[if_neg (of_decide_eq_false hk)]
 ·have hlt:=of_decide_eq_false hlt
  have :l2.drop i.toNat=[]:=List.drop_eq_nil_of_le (by omega)
  refine⟨rfl,?_⟩
  show some (AExit.exit 2,([]:List AVal),[AObj.mps (Cd.int:Cd) (Cd.int:Cd) (spR g k a l2 i (m,q)).1 (spR g k a l2 i (m,q)).2 none])=_
  unfold spR
  rw[this];unfold spL;rfl
noncomputable abbrev f0I(N:Nat):List (Nat×B0s):=[(0,sp1.loop []),(2,(sp2 N).loop [])]
theorem Z0n:∀N:Nat,N≤4000→(spC N).Kept Tryz.prog 8
 |
  0,_=>fun(x:SpX)(y:SpM) hx r hr=>by
  have hx:A0G _≤((0:Nat):Int):=hx.1
  have :=B0f ⟨x.2.2.1.1,x.2.2.1.2.1,x.2.2.1.2.2.1,x.2.2.1.2.2.2.1⟩
  omega
 |
  N+1,hN=>by
  have hL:∀p∈f0I N,A0h Tryz.prog p.2:=lpc f0t (lpc (f0p N (Z0n N (by omega))) lp0)
  have hmk:mkFn Tryz.prog 8=some (.code (A0u (f0I N) (cd Tryz.f8 [0,2])) Tryz.f8.ntmps Tryz.f8.results.toList):=by kernel_rfl
  refine e0q (mp:=[]) xs0 ct0 hL (spC (N+1)) 8 Tryz.f8 [0,2] hmk (by kernel_rfl) ?_
  intro xx yy hx
  obtain⟨g,s0,⟨k,n,s,l,u1⟩,u2⟩:SpX:=xx
  obtain⟨m,q⟩:SpM:=yy
  obtain⟨hs,_,hg,hi,hr⟩:spP (N+1) g s0 ⟨k,n,s,l⟩ (m,q):=hx
  unfold A0G at hs hr
  let z:Srt:=Univ.dflt (Cd.sort:Cd)
  let e:Srt:=g.getD s0.toNat z
  let a:List Int:=E0d k s l.length (e.cases.drop (0:Int).toNat) e.vec
  let old:List Int:=(m n).getD []
  refine A0A (t:=.ite (decide (k=1)) (.ite (m n).isSome
    (.ite (decide (old.length=old.length)&&decide (old.length+[s0].length≤1000000)) (.ite (K0p n n) (.ite (decide (old.length+[s0].length=(old++[s0]).length)&&decide (0<old.length+[s0].length)) (.leaf (true,some (updM m n (old++[s0]),D0M m n q))) .fail) .fail) .fail)
    (.ite (decide ([s0].length≤1000000)) (.ite (K0p n n) (.ite (decide ([s0].length=[s0].length)&&decide (0<[s0].length)) (.leaf (true,some (updM m n [s0],D0M m n q))) .fail) .fail) .fail))
   (.ite (decide (0≤s0)&&decide (s0<(g.length:Int))) (.ite (decide (0≤s0)&&decide (s0<(g.length:Int))) (.ite (dec (sp1V e.cases (e.cases.length:Int) 0)) (.ite (dec (sp2V N g a l (l.length:Int) 0 (m,q))) (.leaf (true,some (spR g k a l 0 (m,q)))) .fail) .fail) .fail) .fail)) (by kernel_rfl) ?_
  obtain⟨g1,g2,g3,g4⟩:=D0r (E0g hg hi)
  have hle:=C0p l
  have hb:=hi
  obtain⟨hi0,hi1⟩:=hi
  have hold:=hr n
  have hsn:K0p n n=true:=by unfold K0p;exact@decide_eq_true _ (Classical.propDecidable _) rfl
  have put:∀l',l'=old++[s0]→k=1→(spC (N+1)).res (show SpX from(g,s0,(k,n,s,l,u1),u2)) (show SpM from(m,q))=.leaf (show SpM from(updM m n l',D0M m n q)):=fun l' hl' hk=>by
   show Dt.leaf (spT g s0 ⟨k,n,s,l⟩ (m,q))=_
   unfold spT
   rw[if_pos hk,hl'];rfl
  refine A0b (fun hk=>A0b (fun h1=>?_) fun h1=>?_) fun hk=>?_
  ·have hk:=of_decide_eq_true hk
   refine A0c ?_ (A0c hsn (A0c ?_ ⟨rfl,_,rfl,?_⟩))
   ·have :((old.length:Nat):Int)+(1+B0b l)≤1000000:=hold
    simp;omega
   ·simp
   ·rw[put _ rfl hk];rfl
  ·have hk:=of_decide_eq_true hk
   refine A0c (by simp) (A0c hsn (A0c (by simp) ⟨rfl,_,rfl,?_⟩))
   rw[put [s0] ?_ hk]
   ·rfl
   ·show[s0]=(m n).getD []++[s0]
    cases hm:m n with
    |none=>rfl
    |some l'=>rw[hm] at h1;cases h1
  ·have hk:=of_decide_eq_false hk
   refine A0c (by simp[hi0,hi1]) (A0c (by simp[hi0,hi1]) (A0c (A0g ⟨rfl,by omega,by omega,g1⟩) (A0c (A0g ⟨hg,?_,by omega,by omega,rfl,by omega,by omega,hr.mono ?_⟩) ⟨rfl,_,rfl,?_⟩)))
   ·exact Q0M k s _ _ _ (fun c hc=>(g4 c hc).2) g3
   ·show B0b l≤_;omega
   ·show some (spT g s0 ⟨k,n,s,l⟩ (m,q))=some (spR g k a l 0 (m,q))
    unfold spT
    rw[if_neg hk];rfl
theorem S0V{g:List Srt}(hl:E0X g)(h:E0f g=true):J0R g:=by
 unfold E0f at h
 rw[Bool.and_eq_true] at h
 refine⟨hl.1,fun s hs c hc=>?_⟩
 have hw:=M0E h.1 s hs c hc
 unfold I0k at hw
 simp only[Bool.or_eq_false_iff,decide_eq_false_iff_not] at hw
 have e:c.name.size=c.name.data.toList.length:=by cases c.name;simp[ByteArray.size]
 have :=hw.2
 unfold maxL;omega
noncomputable def rgB(g:List Srt)(s:Int):Bool:=E0f g&&(isB g&&(!decide (s<0)&&decide (s<(g.length:Int))))
noncomputable def M0l:List (List Srt)→List Int→Bool
 |g::gs,s::ss=>rgB g s&&M0l gs ss
 |_,_=>true
abbrev RgX:Type:=List Int×List (List Srt)×Int×Int×Unit
def rgV(ss:List Int)(gs:List (List Srt))(len i:Int):Prop:=(∀g∈gs,E0X g)∧gs.length≤maxL∧ss.length=gs.length∧len=(gs.length:Int)∧0≤i∧i≤(gs.length:Int)
noncomputable def rgDt(ss:List Int)(gs:List (List Srt))(i:Int):Dt (AExit×List AVal×List AObj):=.ite (M0l (gs.drop i.toNat) (ss.drop i.toNat)) (.leaf (.exit 0,[],[])) (.leaf (.ret,[.sb false],[]))
noncomputable def rg:PSpec:=
 {body:=B0e Tryz.f5 0,nt:=40,nx:=0,room:=8,keep:=[(1,.d Cd.int),(7,.d Cd.sorts),(8,.i .i64),(9,.i .i64)],objs:=[]
  keepX:=fun x=>match x with |.ret=>[4]|_=>[],objsX:=fun _=>[]
  inv:=fun(x:RgX) _=>rgV x.1 x.2.1 x.2.2.1 x.2.2.2.1
  res:=fun(x:RgX) _=>rgDt x.1 x.2.1 x.2.2.2.1}
theorem g0f:A0h Tryz.prog (rg.loop []):=by
 refine G0D (mp:=[]) xs0 (ctc N0X (ctc Y0f ct0)) lp0 rg (fun(x:RgX) _=>(((show List (List Srt) from x.2.1).length:Int)-x.2.2.2.1).toNat) (by kernel_rfl) ?_
 intro xx yy hx
 obtain⟨ss,gs,len,i,u⟩:RgX:=xx
 obtain⟨hl,hm,hss,rfl,h0,h1⟩:rgV ss gs len i:=hx
 have hm2:=G0y hm
 let z:List Srt:=Univ.dflt (Cd.sorts:Cd)
 let zi:Int:=Univ.dflt (Cd.int:Cd)
 let g:List Srt:=gs.getD i.toNat z
 let s:Int:=ss.getD i.toNat zi
 let F:Dt (Bool×AExit×List AVal×List AObj):=.leaf (true,.ret,[.sb false],[])
 refine A0A (t:=.ite (decide (i<(gs.length:Int))) (.ite (decide (0≤i)&&decide (i<(gs.length:Int))) (.ite (dec ((∀x∈[g],E0X x)∧[g].length≤maxL)) (.ite (![g].all E0f) F (.ite (dec (J0R g)) (.ite (!isB g) F
   (.ite (decide (0≤i)&&decide (i<(ss.length:Int))) (.ite (decide (s<0)) F (.ite (decide (0≤i)&&decide (i<(ss.length:Int))) (.ite (!decide (s<(g.length:Int))) F
    (.leaf (true,.normal,[.dsl (Cd.int:Cd) ss,.dsl (Cd.sorts:Cd) gs,.si .i64 (gs.length:Int),.si .i64 (IntKind.i64.wrap (i+1))],[]))) .fail)) .fail)) .fail)) .fail) .fail) (.leaf (true,.exit 0,[],[]))) (by kernel_rfl) ?_
 refine A0b (fun hlt=>?_) (fun hlt=>?_)
 ·have hlt:=of_decide_eq_true hlt
  have hd:=A0w gs i z h0 hlt
  have hd2:=A0w ss i zi h0 (by omega)
  have hg:=hl _ (A0H gs i z h0 hlt)
  have e5:IntKind.i64.wrap (i+1)=i+1:=A0C (by omega) (by omega)
  have hc:M0l (gs.drop i.toNat) (ss.drop i.toNat)=(rgB g s&&M0l (gs.drop (i+1).toNat) (ss.drop (i+1).toNat)):=by rw[hd,hd2];rfl
  have bad:rgB g s=false→(rg.res (show RgX from(ss,gs,(gs.length:Int),i,u)) yy).val=some (.ret,[.sb false],[]):=fun h=>by
   show(rgDt ss gs i).val=_
   unfold rgDt;rw[hc,h];rfl
  rw[e5]
  refine A0c (by simp;exact⟨h0,hlt⟩) (A0c (A0g ⟨fun x hx=>by rw[List.mem_singleton] at hx;rw[hx];exact hg,by unfold maxL;simp⟩) (A0b (fun h=>⟨rfl,bad ?_⟩) fun h=>?_))
  ·have h:E0f g=false:=by simpa using h
   unfold rgB;rw[h];rfl
  ·have hs:E0f g=true:=by simpa using h
   refine A0c (A0g (S0V hg hs)) (A0b (fun h=>⟨rfl,bad ?_⟩) fun h=>A0c (by simp[hss];exact⟨h0,hlt⟩) (A0b (fun h2=>⟨rfl,bad ?_⟩) fun h2=>A0c (by simp[hss];exact⟨h0,hlt⟩) (A0b (fun h3=>⟨rfl,bad ?_⟩) fun h3=>?_)))
   ·have h:isB g=false:=by simpa using h
    unfold rgB;rw[h];simp
   ·unfold rgB;rw[h2];simp
   ·have h3:decide (s<(g.length:Int))=false:=by simpa using h3
    unfold rgB;rw[h3];simp
   ·have h:isB g=true:=by simpa using h
    have h3:decide (s<(g.length:Int))=true:=by simpa using h3
    have hb:rgB g s=true:=by unfold rgB;rw[hs,h,h2,h3];rfl
    refine⟨rfl,(show RgX from(ss,gs,(gs.length:Int),i+1,())),(),rfl,rfl,(show rgV ss gs (gs.length:Int) (i+1) from⟨hl,hm,hss,rfl,by omega,by omega⟩),by show((gs.length:Int)-(i+1)).toNat<((gs.length:Int)-i).toNat;omega,?_⟩
    show(rgDt ss gs (i+1)).val=(rgDt ss gs i).val
    unfold rgDt;rw[hc,hb];rfl
 ·have hlt:=of_decide_eq_false hlt
  refine⟨rfl,?_⟩
  show(rgDt ss gs i).val=_
  unfold rgDt
  rw[A0N gs i h1 hlt]
  rfl
noncomputable def rgC:FSpec:=⟨[.d Cd.sorts,.d Cd.int],fun(x:List (List Srt)×List Int×Unit)=>(∀g∈x.1,E0X g)∧x.1.length≤maxL∧x.2.1.length=x.1.length,fun(x:List (List Srt)×List Int×Unit)=>.leaf (.sb (M0l x.1 x.2.1))⟩
theorem d0E:rgC.Kept Tryz.prog 5:=by
 have hL:∀p∈[(0,rg.loop [])],A0h Tryz.prog p.2:=lpc g0f lp0
 have hmk:mkFn Tryz.prog 5=some (.code (A0u [(0,rg.loop [])] (cd Tryz.f5 [0])) Tryz.f5.ntmps Tryz.f5.results.toList):=by kernel_rfl
 refine H0b (mp:=[]) xs0 (ctc N0X (ctc Y0f ct0)) hL rgC 5 Tryz.f5 [0] hmk (by kernel_rfl) .b ?_
 intro xx hx
 obtain⟨gs,ss,u⟩:List (List Srt)×List Int×Unit:=xx
 obtain⟨hx,hm,hs⟩:(∀g∈gs,E0X g)∧gs.length≤maxL∧ss.length=gs.length:=hx
 refine A0A (t:=.ite (dec (rgV ss gs (gs.length:Int) 0)) (.ite (M0l gs ss) (.leaf (true,.sb true)) (.leaf (true,.sb false))) .fail) (by kernel_rfl) ?_
 refine A0c (A0g ⟨hx,hm,hs,rfl,Int.le_refl _,by omega⟩) (A0b (fun h=>⟨rfl,?_⟩) (fun h=>⟨rfl,?_⟩))
 ·show some (AVal.sb (M0l gs ss))=_
  rw[h];rfl
 ·show some (AVal.sb (M0l gs ss))=_
  rw[h];rfl
def fewL:List (List Trm)→Int→Bool×Int
 |[],left=>(true,left)
 |l::ls,left=>if(ndLV l left 1).1=true then fewL ls (ndLV l left 1).2 else(false,(ndLV l left 1).2)
def P0V(l:List Trm):Prop:=l.length≤maxL∧∀x∈l,lenT x
abbrev Fw2X:Type:=Unit×List (List Trm)×Int×Int×List Trm×Int×Int×Unit
def fw2V(l:List Trm)(n i left:Int):Prop:=P0V l∧n=(l.length:Int)∧0≤i∧i≤(l.length:Int)∧0≤left∧left≤1000000000
noncomputable def R0b(ls:List (List Trm))(n1 i1:Int)(l:List Trm)(i left:Int):Dt (AExit×List AVal×List AObj):=
 .ite (!(ndLV (l.drop i.toNat) left 1).1) (.leaf (.ret,[.sb false],[]))
  (.leaf (.exit 2,[.ptr 0 0,.dsl (Cd.terms:Cd) ls,.si .i64 n1,.si .i64 i1],[.cells [.si .i64 (ndLV (l.drop i.toNat) left 1).2] 3 false false 0 0 [(0,0,1)]]))
noncomputable def fw2:PSpec:=
 {body:=B0e Tryz.f6 2,nt:=26,nx:=1,room:=8,keep:=[(2,.p 0 0),(9,.d Cd.terms),(10,.i .i64),(11,.i .i64),(15,.d Cd.term),(16,.i .i64),(17,.i .i64)],objs:=[(0,.cells [.i .i64] 3 0 0 [(0,0,1)])]
  keepX:=fun x=>match x with |.ret=>[4]|_=>[2,9,10,11],objsX:=fun x=>match x with |.ret=>[]|_=>[0]
  inv:=fun(x:Fw2X)(y:NdY)=>fw2V x.2.2.2.2.1 x.2.2.2.2.2.1 x.2.2.2.2.2.2.1 y.1.1
  res:=fun(x:Fw2X)(y:NdY)=>R0b x.2.1 x.2.2.1 x.2.2.2.1 x.2.2.2.2.1 x.2.2.2.2.2.2.1 y.1.1}
abbrev Fw1X:Type:=Unit×List (List Trm)×Int×Int×Unit
def fw1V(ls:List (List Trm))(n i left:Int):Prop:=(∀l∈ls,P0V l)∧ls.length≤maxL∧n=(ls.length:Int)∧0≤i∧i≤(ls.length:Int)∧0≤left∧left≤1000000000
noncomputable def Q0G(ls:List (List Trm))(i left:Int):Dt (AExit×List AVal×List AObj):=.ite (fewL (ls.drop i.toNat) left).1 (.leaf (.exit 0,[],[])) (.leaf (.ret,[.sb false],[]))
noncomputable def fw1:PSpec:=
 {body:=I0r [2] (B0e Tryz.f6 0),nt:=26,nx:=1,room:=64,keep:=[(2,.p 0 0),(9,.d Cd.terms),(10,.i .i64),(11,.i .i64)],objs:=[(0,.cells [.i .i64] 3 0 0 [(0,0,1)])]
  keepX:=fun x=>match x with |.ret=>[4]|_=>[],objsX:=fun _=>[]
  inv:=fun(x:Fw1X)(y:NdY)=>fw1V x.2.1 x.2.2.1 x.2.2.2.1 y.1.1
  res:=fun(x:Fw1X)(y:NdY)=>Q0G x.2.1 x.2.2.2.1 y.1.1}
noncomputable def fwC:FSpec:=⟨[.i .i64,.d Cd.terms],fun(x:Int×List (List Trm)×Unit)=>(∀l∈x.2.1,P0V l)∧x.2.1.length≤maxL∧0≤x.1∧x.1≤1000000000,fun(x:Int×List (List Trm)×Unit)=>.leaf (.sb (fewL x.2.1 x.1).1)⟩
theorem e0n:A0h Tryz.prog (fw2.loop []):=by
 refine G0D (mp:=[]) (ws:=[(27,.w ndAll)]) (xsc (X:=.w ndAll) W0x xs0) ct0 lp0 fw2 (fun(x:Fw2X) _=>(((show List Trm from x.2.2.2.2.1).length:Int)-x.2.2.2.2.2.2.1).toNat) (by kernel_rfl) ?_
 intro xx yy hx
 obtain⟨u1,ls,n1,i1,l,len,i,u2⟩:Fw2X:=xx
 obtain⟨⟨left,u3⟩,u4⟩:NdY:=yy
 obtain⟨⟨hm,hl⟩,rfl,h0,h1,hl0,hl1⟩:fw2V l len i left:=hx
 have hm2:=G0y hm
 let z:Trm:=Univ.dflt (Cd.term:Cd)
 let e:Trm:=eT (l.getD i.toNat z)
 refine A0A (t:=.ite (decide (i<(l.length:Int))) (.ite (decide (0≤i)&&decide (i<(l.length:Int))) (.ite (dec (lenT e∧0≤left∧left≤1000000000∧(0:Int)≤1∧(1:Int)≤1000000)) (.ite (!(ndV e left 1).1) (.leaf (true,.ret,[.sb false],[]))
   (.leaf (true,.normal,[.ptr 0 0,.dsl (Cd.terms:Cd) ls,.si .i64 n1,.si .i64 i1,.dsl (Cd.term:Cd) l,.si .i64 (l.length:Int),.si .i64 (IntKind.i64.wrap (i+1))],[.cells [.si .i64 (ndV e left 1).2] 3 false false 0 0 [(0,0,1)]]))) .fail) .fail)
  (.leaf (true,.exit 2,[.ptr 0 0,.dsl (Cd.terms:Cd) ls,.si .i64 n1,.si .i64 i1],[.cells [.si .i64 left] 3 false false 0 0 [(0,0,1)]]))) (by kernel_rfl) ?_
 refine A0b (fun hlt=>?_) (fun hlt=>?_)
 ·have hlt:=of_decide_eq_true hlt
  have he:e=l.getD i.toNat z:=D0i _
  have hd:l.drop i.toNat=e::l.drop (i+1).toNat:=by rw[he];exact A0w l i z h0 hlt
  have hmem:e∈l:=by rw[he];exact A0H l i z h0 hlt
  have hw:IntKind.i64.wrap (i+1)=i+1:=A0C (by omega) (by omega)
  have hc:ndLV (l.drop i.toNat) left 1=if(ndV e left 1).1=true then ndLV (l.drop (i+1).toNat) (ndV e left 1).2 1 else(false,(ndV e left 1).2):=by
   rw[hd];conv=>lhs;unfold ndLV
  rw[hw]
  refine A0c (by simp[h0,hlt]) (A0c (A0g ⟨hl e hmem,hl0,hl1,by omega,by omega⟩) (A0b (fun h=>⟨rfl,?_⟩) fun h=>⟨rfl,(show Fw2X from((),ls,n1,i1,l,(l.length:Int),i+1,())),(show NdY from(((ndV e left 1).2,()),())),rfl,rfl,?_,?_,?_⟩))
  ·have h:(ndV e left 1).1=false:=by simpa using h
   rw[if_neg (by rw[h];simp)] at hc
   show(R0b ls n1 i1 l i left).val=_
   unfold R0b;rw[hc];rfl
  ·have h:(ndV e left 1).1=true:=by simpa using h
   obtain⟨a1,a2,_⟩:=S0K _ _ _ hl1 h
   have :=B0f e
   show fw2V l (l.length:Int) (i+1) (ndV e left 1).2
   exact⟨⟨hm,hl⟩,rfl,by omega,by omega,a1,by omega⟩
  ·show((l.length:Int)-(i+1)).toNat<((l.length:Int)-i).toNat
   omega
  ·have h:(ndV e left 1).1=true:=by simpa using h
   rw[if_pos h] at hc
   show(R0b ls n1 i1 l (i+1) (ndV e left 1).2).val=(R0b ls n1 i1 l i left).val
   unfold R0b;rw[hc]
 ·have hlt:=of_decide_eq_false hlt
  refine⟨rfl,?_⟩
  show(R0b ls n1 i1 l i left).val=_
  unfold R0b
  rw[A0N l i h1 hlt]
  unfold ndLV
  rfl
theorem e0U:A0h Tryz.prog (fw1.loop [(2,fw2.loop [])]):=by
 refine G0D (mp:=[]) xs0 ct0 (lpc e0n lp0) fw1 (fun(x:Fw1X) _=>(((show List (List Trm) from x.2.1).length:Int)-x.2.2.2.1).toNat) (by kernel_rfl) ?_
 intro xx yy hx
 obtain⟨u1,ls,n,i,u2⟩:Fw1X:=xx
 obtain⟨⟨left,u3⟩,u4⟩:NdY:=yy
 obtain⟨hl,hm,rfl,h0,h1,hl0,hl1⟩:fw1V ls n i left:=hx
 have hm2:=G0y hm
 let z:List Trm:=Univ.dflt (Cd.terms:Cd)
 let e:List Trm:=ls.getD i.toNat z
 refine A0A (t:=.ite (decide (i<(ls.length:Int))) (.ite (decide (0≤i)&&decide (i<(ls.length:Int))) (.ite (dec (fw2V e (e.length:Int) 0 left)) (.ite (!(ndLV e left 1).1) (.leaf (true,.ret,[.sb false],[]))
   (.leaf (true,.normal,[.ptr 0 0,.dsl (Cd.terms:Cd) ls,.si .i64 (ls.length:Int),.si .i64 (IntKind.i64.wrap (i+1))],[.cells [.si .i64 (ndLV e left 1).2] 3 false false 0 0 [(0,0,1)]]))) .fail) .fail)
  (.leaf (true,.exit 0,[],[]))) (by kernel_rfl) ?_
 refine A0b (fun hlt=>?_) (fun hlt=>?_)
 ·have hlt:=of_decide_eq_true hlt
  have hd:ls.drop i.toNat=e::ls.drop (i+1).toNat:=A0w ls i z h0 hlt
  have hmem:e∈ls:=A0H ls i z h0 hlt
  have hw:IntKind.i64.wrap (i+1)=i+1:=A0C (by omega) (by omega)
  have hc:fewL (ls.drop i.toNat) left=if(ndLV e left 1).1=true then fewL (ls.drop (i+1).toNat) (ndLV e left 1).2 else(false,(ndLV e left 1).2):=by
   rw[hd];conv=>lhs;unfold fewL
  rw[hw]
  refine A0c (by simp;exact⟨h0,hlt⟩) (A0c (A0g ⟨hl e hmem,rfl,by omega,by omega,hl0,hl1⟩) (A0b (fun h=>⟨rfl,?_⟩) fun h=>⟨rfl,(show Fw1X from((),ls,(ls.length:Int),i+1,())),(show NdY from(((ndLV e left 1).2,()),())),rfl,rfl,?_,?_,?_⟩))
  ·have h:(ndLV e left 1).1=false:=by simpa using h
   rw[if_neg (by rw[h];simp)] at hc
   show(Q0G ls i left).val=_
   unfold Q0G;rw[hc];rfl
  ·have h:(ndLV e left 1).1=true:=by simpa using h
   obtain⟨a1,a2,_⟩:=O0O _ _ _ hl1 hl0 h
   have :=C0p e
   show fw1V ls (ls.length:Int) (i+1) (ndLV e left 1).2
   exact⟨hl,hm,rfl,by omega,by omega,a1,by omega⟩
  ·show((ls.length:Int)-(i+1)).toNat<((ls.length:Int)-i).toNat
   omega
  ·have h:(ndLV e left 1).1=true:=by simpa using h
   rw[if_pos h] at hc
   show(Q0G ls (i+1) (ndLV e left 1).2).val=(Q0G ls i left).val
   unfold Q0G;rw[hc]
 ·have hlt:=of_decide_eq_false hlt
  refine⟨rfl,?_⟩
  show(Q0G ls i left).val=_
  unfold Q0G
  rw[A0N ls i h1 hlt]
  rfl
theorem d0A:fwC.Kept Tryz.prog 6:=by
 have hL:∀p∈[(0,fw1.loop [(2,fw2.loop [])])],A0h Tryz.prog p.2:=lpc e0U lp0
 have hmk:mkFn Tryz.prog 6=some (.code (A0u [(0,fw1.loop [(2,fw2.loop [])])] (cd Tryz.f6 [0])) Tryz.f6.ntmps Tryz.f6.results.toList):=by kernel_rfl
 refine H0b (mp:=[]) xs0 ct0 hL fwC 6 Tryz.f6 [0] hmk (by kernel_rfl) .b ?_
 intro xx hx
 obtain⟨left,ls,u⟩:Int×List (List Trm)×Unit:=xx
 obtain⟨hl,hm,h0,h1⟩:(∀l∈ls,P0V l)∧ls.length≤maxL∧0≤left∧left≤1000000000:=hx
 refine A0A (t:=.ite (dec (fw1V ls (ls.length:Int) 0 left)) (.ite (fewL ls left).1 (.leaf (true,.sb true)) (.leaf (true,.sb false))) .fail) (by kernel_rfl) ?_
 refine A0c (A0g ⟨hl,hm,rfl,Int.le_refl _,by omega,h0,h1⟩) (A0b (fun h=>⟨rfl,?_⟩) (fun h=>⟨rfl,?_⟩))
 ·show some (AVal.sb (fewL ls left).1)=_
  rw[h];rfl
 ·show some (AVal.sb (fewL ls left).1)=_
  rw[h];rfl
noncomputable def caE:List Trm→Int→Int
 |[],_=>0
 |x::l,left=>if left<A0R x left 600 then 3 else caE l (left-A0R x left 600)
noncomputable def caDt(e:Int):Dt (AExit×List AVal×List AObj):=.ite (decide (e=0)) (.leaf (.exit 0,[],[])) (.leaf (.ret,[.si .i64 e],[]))
abbrev e0z:List Pt:=[.nf,.fn 150 [.p 1 0],.fn 151 [.p 1 0],.fn 152 [.p 1 0],.fn 154 [.p 1 0],.fn 155 [.p 1 0],.fn 156 [.p 1 0]]
abbrev CaX:Type:=Int×Unit×List Trm×Int×Int×Unit
def caV(left:Int)(l:List Trm)(len i:Int):Prop:=0≤left∧left≤4000∧l.length≤maxL∧len=(l.length:Int)∧0≤i∧i≤(l.length:Int)
noncomputable def caL:PSpec:=
 {body:=B0e Tryz.f57 0,nt:=26,nx:=3,room:=8,keep:=[(3,.i .i64),(4,.p 2 0),(9,.d Cd.term),(10,.i .i64),(11,.i .i64)],objs:=[(1,.cells [.fn 149 []] 256 1 0 [(1,0,1)]),(2,.cells e0z 205 2 0 [(2,0,7)])]
  keepX:=fun e=>match e with |.ret=>[2]|_=>[],objsX:=fun _=>[]
  inv:=fun(x:CaX) _=>caV x.1 x.2.2.1 x.2.2.2.1 x.2.2.2.2.1,res:=fun(x:CaX) _=>caDt (caE (x.2.2.1.drop x.2.2.2.2.1.toNat) x.1)}
theorem Q0F(t:Trm){left deep:Int}(h:0≤left):0≤A0R t left deep:=by
 rw[J0C t left deep h]
 have :=B0f t
 split<;>omega
theorem e0C:A0h Tryz.prog (caL.loop []):=by
 refine G0w (ctc S0k ct0) lp0 caL (fun(x:CaX) _=>((x.2.2.1.length:Int)-x.2.2.2.2.1).toNat) (by kernel_rfl) ?_
 intro(xx:CaX)yy(hx:caV xx.1 xx.2.2.1 xx.2.2.2.1 xx.2.2.2.2.1)
 obtain⟨left,u1,l,len,i,u2⟩:=xx
 obtain⟨⟨v1,v2⟩,⟨v3,⟨v4,v5⟩,⟨v6,v7⟩,⟨v8,v9⟩,⟨w1,w2⟩,⟨w3,w4⟩,⟨w5,w6⟩,w7⟩,w8⟩:(Unit×Unit)×(Unit×(Unit×Unit)×(Unit×Unit)×(Unit×Unit)×(Unit×Unit)×(Unit×Unit)×(Unit×Unit)×Unit)×Unit:=yy
 obtain⟨hl0,hl1,hm,hn,h0,h1⟩:caV left l len i:=hx
 have hm2:=G0y hm
 subst hn
 let z:Trm:=Univ.dflt (Cd.term:Cd)
 let e:Trm:=eT (l.getD i.toNat z)
 refine A0A (t:=.ite (decide (i<(l.length:Int))) (.ite (decide (0≤i)&&decide (i<(l.length:Int))) (.ite (dec (0≤left∧left≤1000000000∧(0:Int)≤600∧(600:Int)≤1000000000)) (.ite (decide (left<A0R e left 600)) (.leaf (true,.ret,[.si .i64 3],[]))
   (.leaf (true,.normal,[.si .i64 (IntKind.i64.wrap (left-A0R e left 600)),.ptr 2 0,.dsl (Cd.term:Cd) l,.si .i64 (l.length:Int),.si .i64 (IntKind.i64.wrap (i+1))],[.cells [.fn 149 [] []] 256 false false 1 0 [(1,0,1)],
    .cells [.nilf,.fn 150 [] [.ptr 1 0],.fn 151 [] [.ptr 1 0],.fn 152 [] [.ptr 1 0],.fn 154 [] [.ptr 1 0],.fn 155 [] [.ptr 1 0],.fn 156 [] [.ptr 1 0]] 205 false false 2 0 [(2,0,7)]]))) .fail) .fail)
   (.leaf (true,.exit 0,[],[]))) (by kernel_rfl) ?_
 have he:e=l.getD i.toNat z:=D0i _
 have hc0:=Q0F (l.getD i.toNat z) (left:=left) (deep:=600) hl0
 rw[he]
 refine A0b (fun hlt=>?_) (fun hlt=>⟨rfl,?_⟩)
 ·have hlt:=of_decide_eq_true hlt
  have hd:=A0w l i z h0 hlt
  refine A0c (by simp[h0,hlt]) (A0c (A0g (by omega)) (A0b (fun hc=>⟨rfl,?_⟩) fun hc=>?_))
  ·have hc:=of_decide_eq_true hc
   show(caDt (caE (l.drop i.toNat) left)).val=_
   rw[hd]
   unfold caE
   rw[if_pos hc];rfl
  ·have hc:=of_decide_eq_false hc
   rw[A0C (by omega) (by omega),A0C (by omega) (by omega)]
   refine⟨rfl,(show CaX from(left-A0R (l.getD i.toNat z) left 600,(),l,(l.length:Int),i+1,())),(((),()),((),((),()),((),()),((),()),((),()),((),()),((),()),()),()),rfl,rfl,(show caV (left-A0R (l.getD i.toNat z) left 600) l (l.length:Int) (i+1) from⟨by omega,by omega,hm,rfl,by omega,by omega⟩),
    by show((l.length:Int)-(i+1)).toNat<((l.length:Int)-i).toNat;omega,?_⟩
   show(caDt (caE (l.drop (i+1).toNat) (left-A0R (l.getD i.toNat z) left 600))).val=(caDt (caE (l.drop i.toNat) left)).val
   rw[hd]
   conv=>rhs;unfold caE
   rw[if_neg hc]
 ·show(caDt (caE (l.drop i.toNat) left)).val=_
  rw[A0N l i h1 (of_decide_eq_false hlt)];rfl
noncomputable def caC:FSpec:=⟨[.d Cd.term],fun(x:List Trm×Unit)=>x.1.length≤maxL,fun(x:List Trm×Unit)=>.leaf (.si .i64 (caE x.1 4000))⟩
theorem c0P:caC.Kept Tryz.prog 57:=by
 have hL:∀p∈[(0,caL.loop [])],A0h Tryz.prog p.2:=lpc e0C lp0
 have hmk:mkFn Tryz.prog 57=some (.code (A0u [(0,caL.loop [])] (cd Tryz.f57 [0])) Tryz.f57.ntmps Tryz.f57.results.toList):=by kernel_rfl
 refine B0w ct0 hL caC 57 Tryz.f57 [0] hmk (by kernel_rfl) ?_
 intro(xx:List Trm×Unit)(hx:xx.1.length≤maxL)
 obtain⟨l,u⟩:=xx
 have hx:l.length≤maxL:=hx
 refine A0A (t:=.ite (dec (caV 4000 l (l.length:Int) 0)) (.ite (decide (caE l 4000=0)) (.leaf (true,.si .i64 0)) (.leaf (true,.si .i64 (caE l 4000)))) .fail) (by kernel_rfl) ?_
 refine A0c (A0g ⟨by omega,by omega,hx,rfl,by omega,by omega⟩) (A0b (fun h=>⟨rfl,?_⟩) fun h=>⟨rfl,rfl⟩)
 show some (AVal.si .i64 (caE l 4000))=some (AVal.si .i64 0)
 rw[of_decide_eq_true h]
theorem X0x:∀{l:List Trm}{left:Int},0≤left→caE l left=0→B0b l≤left∧∀x∈l,C0V x=true∧D0h x≤600
 |[],left,h0,_=>⟨by unfold B0b;omega,fun x h=>by cases h⟩
 |
  x::l,left,h0,h=>by
  unfold caE at h
  split at h
  ·omega
  ·rename_i hc
   have he:=J0C x left 600 h0
   by_cases d:D0h x≤600∧A0G x≤left∧C0V x=true
   ·rw[if_pos d] at he
    rw[he] at h hc
    obtain⟨q1,q2⟩:=X0x (l:=l) (left:=left-A0G x) (by omega) h
    refine⟨by unfold B0b;omega,fun y hy=>?_⟩
    rcases List.mem_cons.1 hy with rfl|hy
    ·exact⟨d.2.2,d.1⟩
    ·exact q2 y hy
   ·rw[if_neg d] at he;omega
mutual
def varT:Trm→List Int→List Int
 |⟨k,n,_,l⟩,a=>Y0B l (if k=1∧¬n∈a then a++[n] else a)
def Y0B:List Trm→List Int→List Int
 |[],a=>a
 |x::l,a=>Y0B l (varT x a)
end
mutual
theorem W0g:∀(t:Trm)(a:List Int),B0y t=true→varT t a=a
 |
  ⟨k,n,s,l⟩,a,h=>by
  unfold B0y at h
  rw[Bool.and_eq_true] at h
  have hk:¬k=1:=by simpa using h.1
  unfold varT
  rw[if_neg (fun q=>hk q.1)]
  exact L0B l a h.2
theorem L0B:∀(l:List Trm)(a:List Int),E0a l=true→Y0B l a=a
 |[],a,_=>by unfold Y0B;rfl
 |
  x::l,a,h=>by
  unfold E0a at h
  rw[Bool.and_eq_true] at h
  unfold Y0B
  rw[W0g x a h.1]
  exact L0B l a h.2
end
def V0O (t : Trm) : Bool := decide (t.kind = 0) && (decide (t.n = 0) && (decide (t.s = sStr []) && decide ((t.l.length : Int) = 0)))
noncomputable def freeC : FSpec := ⟨[.agg B0O], fun _ => True, fun (x : TrmY × Unit) => .leaf (.sb (V0O (C0I x.1)))⟩
theorem R0D : freeC.Kept Tryz.prog 64 := by
  refine B0w ct0 lp0 freeC 64 Tryz.f64 [] (by kernel_rfl) (by kernel_rfl) ?_
  intro (xx : TrmY × Unit) _
  obtain ⟨⟨k, n, s, l, u1⟩, u2⟩ := xx
  refine A0A (t := .ite (decide (k = 0)) (.ite (decide (n = 0)) (.ite (decide (s = sStr [])) (.leaf (true, .sb (decide ((l.length : Int) = 0)))) (.leaf (true, .sb false))) (.leaf (true, .sb false))) (.leaf (true, .sb false))) (by kernel_rfl) ?_
  exact A0U (A0U (A0U E0k))
noncomputable def pickC : FSpec := ⟨[.d Cd.term], fun _ => True, fun (x : List Trm × Unit) => .leaf (.fn 67 [] [.dptr (Cd.terms : Cd) [(show List Trm from x.1)] 0 0])⟩
theorem Z0g : pickC.Kept Tryz.prog 38 := by
  refine B0w ct0 lp0 pickC 38 Tryz.f38 [] (by kernel_rfl) (by kernel_rfl) ?_
  intro (xx : List Trm × Unit) _
  obtain ⟨l, u⟩ := xx
  exact A0A (t := .leaf (true, .fn 67 [] [.dptr (Cd.terms : Cd) [l] 0 0])) (by kernel_rfl) ⟨rfl, rfl⟩
def B0u : Trm := ⟨0, 0, ⟨#[]⟩, []⟩
def putV (l : List Trm) (v : Int) : Option Trm := if v < (l.length : Int) ∧ V0O (l.getD v.toNat B0u) = false then some (l.getD v.toNat B0u) else none
noncomputable abbrev putN : AVal := .tup [.agg [.si .i64 0, .si .i64 0, .ss ⟨#[]⟩, .nils], .sb false]
noncomputable def putD (o : Option Trm) : Dt AVal := .ite o.isSome (.leaf (.tup [trmV (o.getD B0u), .sb true])) (.leaf putN)
noncomputable def pick1C : FSpec := ⟨[.i .i64, .box Cd.terms], fun (x : Int × List Trm × Unit) => 0 ≤ x.1, fun (x : Int × List Trm × Unit) => putD (putV x.2.1 x.1)⟩
theorem X0b : pick1C.Kept Tryz.prog 67 := by
  refine B0w (ctc R0D ct0) lp0 pick1C 67 Tryz.f67 [] (by kernel_rfl) (by kernel_rfl) ?_
  intro (xx : Int × List Trm × Unit) (hx : 0 ≤ xx.1)
  obtain ⟨v, l, u⟩ := xx
  have hx : 0 ≤ v := hx
  let e : Trm := eT (l.getD v.toNat B0u)
  refine A0A (t := .ite (!decide (v < (l.length : Int))) (.leaf (true, putN)) (.ite (decide (0 ≤ v) && decide (v < (l.length : Int))) (.ite (dec True) (.ite (V0O e) (.leaf (true, putN))
    (.ite (decide (0 ≤ v) && decide (v < (l.length : Int))) (.leaf (true, .tup [trmV e, .sb true])) .fail)) .fail) .fail)) (by kernel_rfl) ?_
  have he : e = l.getD v.toNat B0u := D0i _
  rw [he]
  refine A0b (fun h => ⟨rfl, ?_⟩) fun h => ?_
  · have h : ¬ v < (l.length : Int) := by simpa using h
    show (putD (putV l v)).val = _
    unfold putV; rw [if_neg (fun q => h q.1)]; rfl
  · have h : v < (l.length : Int) := by simpa using h
    refine A0c (by simp [hx, h]) (A0c (A0g trivial) (A0b (fun h2 => ⟨rfl, ?_⟩) fun h2 => A0c (by simp [hx, h]) ⟨rfl, ?_⟩))
    · show (putD (putV l v)).val = _
      unfold putV; rw [if_neg (fun q => by rw [h2] at q; cases q.2)]; rfl
    · show (putD (putV l v)).val = _
      unfold putV; rw [if_pos ⟨h, h2⟩]; rfl
theorem H0D (x : Trm) (l : List Trm) : B0b (x :: l) = A0G x + B0b l := by conv => lhs; unfold B0b
theorem W0P (x : Trm) (l : List Trm) : D0K (x :: l) = max (D0h x) (D0K l) := by conv => lhs; unfold D0K
noncomputable def d0Z (N : Nat) : FSpec := ⟨[.agg B0O], fun (x : TrmY × Unit) => A0G (C0I x.1) ≤ (N : Int), fun (x : TrmY × Unit) => .leaf (.tup [.si .i64 (A0G (C0I x.1)), .si .i64 (D0h (C0I x.1))])⟩
abbrev SziX : Type := Int × Int × List Trm × Int × Int × Unit
def sziV (N : Nat) (n d : Int) (l : List Trm) (len i : Int) : Prop := B0b l ≤ (N : Int) ∧ N ≤ 1000000 ∧ len = (l.length : Int) ∧ 0 ≤ i ∧ i ≤ (l.length : Int) ∧ 0 ≤ d ∧ d ≤ 1000000 ∧ 0 ≤ n ∧ n + B0b (l.drop i.toNat) ≤ 1000001
noncomputable def sziL (N : Nat) : PSpec :=
  { body := B0e Tryz.f114 0, nt := 32, nx := 1, room := 8, keep := [(4, .i .i64), (5, .i .i64), (11, .d Cd.term), (12, .i .i64), (13, .i .i64)], objs := []
    keepX := fun _ => [4, 5], objsX := fun _ => []
    inv := fun (x : SziX) _ => sziV N x.1 x.2.1 x.2.2.1 x.2.2.2.1 x.2.2.2.2.1
    res := fun (x : SziX) _ => .leaf (.exit 0, [.si .i64 (x.1 + B0b (x.2.2.1.drop x.2.2.2.2.1.toNat)), .si .i64 (max x.2.1 (D0K (x.2.2.1.drop x.2.2.2.2.1.toNat)))], []) }
theorem c0B (N : Nat) (hc : (d0Z N).Kept Tryz.prog 114) : A0h Tryz.prog ((sziL N).loop []) := by
  refine G0w (ctc hc ct0) lp0 (sziL N) (fun (x : SziX) _ => ((x.2.2.1.length : Int) - x.2.2.2.2.1).toNat) (by kernel_rfl) ?_
  intro (xx : SziX) yy (hx : sziV N xx.1 xx.2.1 xx.2.2.1 xx.2.2.2.1 xx.2.2.2.2.1)
  obtain ⟨n, d, l, len, i, u⟩ := xx
  obtain ⟨hs, hN, hl, h0, h1, hd0, hd1, hn0, hn1⟩ : sziV N n d l len i := hx
  subst hl
  let z : Trm := Univ.dflt (Cd.term : Cd)
  let e : Trm := eT (l.getD i.toNat z)
  refine A0A (t := .ite (decide (i < (l.length : Int))) (.ite (decide (0 ≤ i) && decide (i < (l.length : Int))) (.ite (dec (A0G e ≤ (N : Int)))
      (.leaf (true, .normal, [.si .i64 (IntKind.i64.wrap (n + A0G e)), .si .i64 (max d (D0h e)), .dsl (Cd.term : Cd) l, .si .i64 (l.length : Int), .si .i64 (IntKind.i64.wrap (i + 1))], [])) .fail) .fail)
      (.leaf (true, .exit 0, [.si .i64 n, .si .i64 d], []))) (by kernel_rfl) ?_
  have he : e = l.getD i.toNat z := D0i _
  have hln := B0L l
  rw [he]
  refine A0b (fun hlt => ?_) (fun hlt => ⟨rfl, ?_⟩)
  · have hlt := of_decide_eq_true hlt
    have hd := A0w l i z h0 hlt
    have hm := D0J (A0H l i z h0 hlt)
    have hds := S0g (l.getD i.toNat z)
    have hdp := P0u (l.getD i.toNat z)
    have hsp := B0f (l.getD i.toNat z)
    have hsr := C0p (l.drop (i + 1).toNat)
    rw [hd] at hn1
    unfold B0b at hn1
    rw [A0C (by omega) (by omega), A0C (by omega) (by omega)]
    refine A0c (by simp [h0, hlt]) (A0c (A0g (by omega)) ⟨rfl, (show SziX from (n + A0G (l.getD i.toNat z), max d (D0h (l.getD i.toNat z)), l, (l.length : Int), i + 1, ())), (), rfl, rfl,
      (show sziV N (n + A0G (l.getD i.toNat z)) (max d (D0h (l.getD i.toNat z))) l (l.length : Int) (i + 1) from ⟨hs, hN, rfl, by omega, by omega, by omega, by omega, by omega, by omega⟩), by show ((l.length : Int) - (i + 1)).toNat < ((l.length : Int) - i).toNat; omega, ?_⟩)
    show some ((AExit.exit 0), [AVal.si .i64 (n + A0G (l.getD i.toNat z) + B0b (l.drop (i + 1).toNat)), .si .i64 (max (max d (D0h (l.getD i.toNat z))) (D0K (l.drop (i + 1).toNat)))], ([] : List AObj)) = some ((AExit.exit 0), [AVal.si .i64 (n + B0b (l.drop i.toNat)), .si .i64 (max d (D0K (l.drop i.toNat)))], [])
    rw [hd, H0D, W0P, Int.add_assoc, Int.max_assoc]
  · have hd := A0N l i h1 (of_decide_eq_false hlt)
    show some ((AExit.exit 0), [AVal.si .i64 (n + B0b (l.drop i.toNat)), .si .i64 (max d (D0K (l.drop i.toNat)))], ([] : List AObj)) = _
    rw [hd]
    unfold B0b D0K
    rw [Int.add_zero, Int.max_eq_left hd0]
theorem S0s : ∀ N : Nat, N ≤ 1000000 → (d0Z N).Kept Tryz.prog 114
  |
    0, _ => fun (x : TrmY × Unit) hx r hr => by
    have hx : A0G (C0I x.1) ≤ ((0 : Nat) : Int) := hx
    have := B0f (C0I x.1)
    omega
  |
    N + 1, hN => by
    have hL : ∀ p ∈ [(0, (sziL N).loop [])], A0h Tryz.prog p.2 := lpc (c0B N (S0s N (by omega))) lp0
    have hmk : mkFn Tryz.prog 114 = some (.code (A0u [(0, (sziL N).loop [])] (cd Tryz.f114 [0])) Tryz.f114.ntmps Tryz.f114.results.toList) := by kernel_rfl
    refine B0w ct0 hL (d0Z (N + 1)) 114 Tryz.f114 [0] hmk (by kernel_rfl) ?_
    intro (xx : TrmY × Unit) (hx : A0G (C0I xx.1) ≤ ((N + 1 : Nat) : Int))
    obtain ⟨⟨k, n, s, l, u1⟩, u2⟩ := xx
    have hx : A0G ⟨k, n, s, l⟩ ≤ ((N + 1 : Nat) : Int) := hx
    unfold A0G at hx
    have hdl := K0t l
    have hdp := G0U l
    refine A0A (t := .ite (dec (sziV N 1 0 l (l.length : Int) 0)) (.leaf (true, .tup [.si .i64 (1 + B0b l), .si .i64 (IntKind.i64.wrap (max 0 (D0K l) + 1))])) .fail) (by kernel_rfl) ?_
    refine A0c (A0g ⟨by omega, by omega, rfl, by omega, by omega, by omega, by omega, by omega, by show 1 + B0b l ≤ 1000001; omega⟩) ⟨rfl, ?_⟩
    rw [A0C (by omega) (by omega), Int.max_eq_right hdp]
    show some (AVal.tup [.si .i64 (A0G ⟨k, n, s, l⟩), .si .i64 (D0h ⟨k, n, s, l⟩)]) = _
    unfold A0G D0h; rfl
end Go.Proofs.YtibaljifcbpmoaaGreatDoor
