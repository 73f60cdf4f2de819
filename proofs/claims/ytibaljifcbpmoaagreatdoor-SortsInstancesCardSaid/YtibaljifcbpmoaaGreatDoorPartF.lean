/- A part of the proof of the statement: no conditions. -/
import Derived.Test.YtibaljifcbpmoaaGreatDoorPartE
import Derived.Test.YtibaljifcbpmoaaGreatDoorTryzSaneB
import Derived.Carry
import Derived.OpenShut
import Derived.RangeFuncKeeps
import Derived.RangeFuncBound
import Derived.RangeFuncFrom
import Derived.RangeFuncLeaves
import Derived.Shelf.Abstract
import Derived.WalkKit
import Derived.OwnWalkIn
import Derived.TacticsInMore
import Derived.LoopNIn
import Derived.LoopIn
import Derived.MapKept
import Derived.Maps.AppendAt
set_option linter.unusedSectionVars false
set_option linter.unusedVariables false
set_option linter.unusedSimpArgs false
namespace Go.Proofs.YtibaljifcbpmoaaGreatDoor
open Go Go.Ev Go.Proofs
set_option maxRecDepth 100000
mutual
def rplT(f:Int→Option Trm):Trm→Int→Trm×Int
 |
  ⟨k,n,s,l⟩,left=>match(if k=1 then f n else none) with
  |some x=>(x,left-A0G x)
  |none=>(⟨k,n,s,(rplL f l (left-1)).1⟩,(rplL f l (left-1)).2)
def rplL(f:Int→Option Trm):List Trm→Int→List Trm×Int
 |[],left=>([],left)
 |x::l,left=>if left<0 then([],left) else((rplT f x left).1::(rplL f l (rplT f x left).2).1,(rplL f l (rplT f x left).2).2)
end
def T0n(l:List Trm):Prop:=∀v x,putV l v=some x→A0G x≤4000
abbrev RpZ:Type:=TrmY×(List Trm×Unit)×Unit
def rpP(N:Nat)(t:Trm)(l:List Trm)(y:Int):Prop:=A0G t≤(N:Int)∧N≤4000∧C0V t=true∧T0n l∧0≤y∧y≤4000
noncomputable def rpC(N:Nat):WSpec:=⟨[],[.agg B0O,.fn 67 [.box Cd.terms]],.i .i64,136,fun _ (y:Int)(z:RpZ)=>rpP N (C0I z.1) z.2.1.1 y,
 fun _ (y:Int)(z:RpZ)=>.leaf (trmV (rplT (putV z.2.1.1) (C0I z.1) y).1,.si .i64 (rplT (putV z.2.1.1) (C0I z.1) y).2)⟩
noncomputable abbrev rpOb(left:Int)(a:TrmY)(b:TrmX)(o:AObj):List AObj:=[.cells [.si .i64 left] 136 false false 0 0 [(0,0,1)],.cells [.si .i64 a.1,.si .i64 a.2.1,.ss a.2.2.1,.dsl (Cd.term:Cd) a.2.2.2.1] 25 false false 1 0 [(1,0,4)],
 .cells [.si .i64 b.1,.si .i64 b.2.1,.ss b.2.2.1,.nils] 25 false false 2 0 [(2,0,4)],o]
noncomputable def c0A(nx:Nat)(left:Int)(a:TrmY)(b:TrmX)(tot:List Trm):Dt (AExit×List AVal×List AObj):=
 .ite (decide (tot.length=0)) (.leaf (.exit 0,[.ptr 0 0,.ptr 1 0,.ptr 2 0,.nils],rpOb left a b .done)) (.leaf (.exit 0,[.ptr 0 0,.ptr 1 0,.ptr 2 0,.asl (Cd.term:Cd) nx 0 tot.length],rpOb left a b (.arr (Cd.term:Cd) (show List Trm from tot))))
abbrev RpC:Type:=(Int×Unit)×TrmY×TrmX×Unit×Unit
abbrev RpD:Type:=(Int×Unit)×TrmY×TrmX×List Trm×Unit
abbrev RpA:Type:=(Unit×(List Trm×Unit)×Unit×Unit×Unit×List Trm×Int×Int×Unit)×RpC
abbrev RpB:Type:=(Unit×(List Trm×Unit)×Unit×Unit×Nat×List Trm×Int×Int×Unit)×RpD
abbrev RpX:Type:=RpA ⊕ (RpB ⊕ Empty)
def rpV(N:Nat)(p l:List Trm)(len i left:Int):Prop:=B0b l≤(N:Int)∧N≤4000∧E0L l=true∧T0n p∧len=(l.length:Int)∧0≤i∧i≤(l.length:Int)∧ -4001≤left∧left≤4000
def rpI(N:Nat):RpX→Prop
 |.inl ⟨⟨_,p,_,_,_,l,len,i,_⟩,⟨left,_⟩,_⟩=>rpV N p.1 l len i left
 |.inr (.inl ⟨⟨_,p,_,_,q,l,len,i,_⟩,⟨left,_⟩,_,_,ar,_⟩)=>rpV N p.1 l len i left∧q=ar.length∧0<q∧(q:Int)≤i
 |.inr (.inr x)=>x.elim
noncomputable def rpDt(nx:Nat)(a:TrmY)(b:TrmX)(p:List Trm)(ar l:List Trm)(left:Int):Dt (AExit×List AVal×List AObj):=c0A nx (rplL (putV p) l left).2 a b (ar++(rplL (putV p) l left).1)
noncomputable def f0U(nx:Nat)(x:RpX):Dt (AExit×List AVal×List AObj):=match x with
 |.inl ⟨⟨_,p,_,_,_,l,_,i,_⟩,⟨left,_⟩,a,b,_⟩=>rpDt nx a b p.1 [] (l.drop i.toNat) left
 |.inr (.inl ⟨⟨_,p,_,_,_,l,_,i,_⟩,⟨left,_⟩,a,b,ar,_⟩)=>rpDt nx a b p.1 ar (l.drop i.toNat) left
 |.inr (.inr x)=>x.elim
def rpMu:RpX→Nat
 |.inl ⟨⟨_,_,_,_,_,l,_,i,_⟩,_⟩=>((l.length:Int)-i).toNat
 |.inr (.inl ⟨⟨_,_,_,_,_,l,_,i,_⟩,_⟩)=>((l.length:Int)-i).toNat
 |.inr (.inr x)=>x.elim
noncomputable def rpL(nx0 N:Nat):GL:=
 {body:=B0e Tryz.f65 0,nt:=69,nx:=nx0,nxi:=nx0+1,room:=20,gro:=[(.slot 11,nx0)],keep:=[0,2,4,6,11,47,48,49],objs:=[0,1,2,nx0]
  ks:=[⟨[.p 0 0,.fn 67 [.box Cd.terms],.p 1 0,.p 2 0,.nl,.d Cd.term,.i .i64,.i .i64],[.cells [.i .i64] 136 0 0 [(0,0,1)],.cells B0O 25 1 0 [(1,0,4)],.cells trm0 25 2 0 [(2,0,4)],.gone]⟩,
   ⟨[.p 0 0,.fn 67 [.box Cd.terms],.p 1 0,.p 2 0,.al Cd.term nx0,.d Cd.term,.i .i64,.i .i64],[.cells [.i .i64] 136 0 0 [(0,0,1)],.cells B0O 25 1 0 [(1,0,4)],.cells trm0 25 2 0 [(2,0,4)],.arr Cd.term]⟩]
  keepX:=fun _=>[0,4,6,11],objsX:=fun _=>[0,1,2,nx0]
  inv:=fun(x:RpX)=>rpI N x,res:=fun(x:RpX)=>f0U nx0 x}
theorem G0Q(f:Int→Option Trm)(x:Trm)(l:List Trm){left:Int}(h:¬left<0):rplL f (x::l) left=((rplT f x left).1::(rplL f l (rplT f x left).2).1,(rplL f l (rplT f x left).2).2):=by
 conv=>lhs;unfold rplL
 rw[if_neg h]
theorem E0J(f:Int→Option Trm)(l:List Trm){left:Int}(h:left<0):rplL f l left=([],left):=by
 cases l with
 |nil=>unfold rplL;rfl
 |cons x l=>unfold rplL;rw[if_pos h]
theorem I0I(f:Int→Option Trm)(left:Int):rplL f [] left=([],left):=by unfold rplL;rfl
mutual
theorem T0R(f:Int→Option Trm)(hf:∀v x,f v=some x→A0G x≤4000):∀(t:Trm)(left:Int),0≤left→ -4001≤(rplT f t left).2∧(rplT f t left).2≤left
 |
  ⟨k,n,s,l⟩,left,h=>by
  unfold rplT
  split
  ·rename_i x hx
   have :f n=some x:=by
    by_cases c:k=1
    ·rwa[if_pos c] at hx
    ·rw[if_neg c] at hx;cases hx
   have :=hf _ _ this
   have :=B0f x
   simp only[];omega
  ·have :=X0D f hf l (left-1) (by omega)
   simp only[];omega
theorem X0D(f:Int→Option Trm)(hf:∀v x,f v=some x→A0G x≤4000):∀(l:List Trm)(left:Int), -4001≤left→ -4001≤(rplL f l left).2∧(rplL f l left).2≤left
 |[],left,h=>by unfold rplL;simp only[];omega
 |
  x::l,left,h=>by
  by_cases c:left<0
  ·rw[E0J f _ c];simp only[];omega
  ·rw[G0Q f x l c]
   have h1:=T0R f hf x left (by omega)
   have h2:=X0D f hf l _ h1.1
   simp only[];omega
end
theorem M0s:∀{l:List Trm},E0L l=true→∀x∈l,C0V x=true
 |[],_,x,h=>by cases h
 |
  y::l,h,x,hx=>by
  unfold E0L at h
  rw[Bool.and_eq_true] at h
  rcases List.mem_cons.1 hx with rfl|q
  ·exact h.1
  ·exact M0s h.2 x q
theorem O0j{nx:Nat}{left:Int}{a:TrmY}{b:TrmX}{tot:List Trm}(h:0<tot.length):(c0A nx left a b tot).val=some (.exit 0,[.ptr 0 0,.ptr 1 0,.ptr 2 0,.asl (Cd.term:Cd) nx 0 tot.length],rpOb left a b (.arr (Cd.term:Cd) (show List Trm from tot))):=by
 unfold c0A;rw[decide_eq_false (by omega)];rfl
theorem b0X(nx0:Nat)(hnx:nx0=3∨nx0=4)(N:Nat)(hc:(rpC N).Kept Tryz.prog 65):A0h Tryz.prog ((rpL nx0 N).loop []):=by
 refine W0k (mp:=[]) (xsc (X:=.w (rpC N)) hc xs0) ct0 lp0 (rpL nx0 N) (fun(x:RpX)=>rpMu x) (by kernel_rfl) ?_
 intro(xx:RpX)(hx:rpI N xx)
 rcases xx with⟨⟨u1,⟨p,u2⟩,u3,u4,u5,l,len,i,u6⟩,⟨left,u7⟩,⟨k,n,s,l0,u8⟩,⟨k2,n2,s2,u9,u10⟩,u11,u12⟩|⟨⟨u1,⟨p,u2⟩,u3,u4,q,l,len,i,u6⟩,⟨left,u7⟩,⟨k,n,s,l0,u8⟩,⟨k2,n2,s2,u9,u10⟩,ar,u12⟩|x
 ·obtain⟨hs,hN,hw,hp,hl,h0,h1,hl0,hl1⟩:rpV N p l len i left:=hx
  subst hl
  let z:Trm:=Univ.dflt (Cd.term:Cd)
  let e:Trm:=eT (l.getD i.toNat z)
  let r:Trm:=eT (rplT (putV p) e left).1
  refine H0f (t:=.ite (decide (i<(l.length:Int))) (.ite (decide (0≤i)&&decide (i<(l.length:Int))) (.ite (decide (left<0)) (.leaf (true,.exit 0,[.ptr 0 0,.ptr 1 0,.ptr 2 0,.nils],rpOb left (k,n,s,l0,()) (k2,n2,s2,(),()) .done))
    (.ite (dec (rpP N e p left)) (.ite (decide ([r].length≤1000000)) (.leaf (true,.normal,[.ptr 0 0,.fn 67 [] [.dptr (Cd.terms:Cd) [p] 0 0],.ptr 1 0,.ptr 2 0,.asl (Cd.term:Cd) nx0 0 ([r].length),.dsl (Cd.term:Cd) l,.si .i64 (l.length:Int),.si .i64 (IntKind.i64.wrap (i+1))],
     rpOb (rplT (putV p) e left).2 (k,n,s,l0,()) (k2,n2,s2,(),()) (.arr (Cd.term:Cd) (show List Trm from[r])))) .fail) .fail)) .fail) (.leaf (true,.exit 0,[.ptr 0 0,.ptr 1 0,.ptr 2 0,.nils],rpOb left (k,n,s,l0,()) (k2,n2,s2,(),()) .done)))
   (by rcases hnx with rfl|rfl<;>kernel_rfl) ?_
  have he:e=l.getD i.toNat z:=D0i _
  have hr:r=(rplT (putV p) e left).1:=D0i _
  have hln:=B0L l
  rw[A0C (by omega) (by omega),hr,he]
  refine A0Q (fun hlt=>?_) (fun hlt=>⟨rfl,?_⟩)
  ·have hlt:=of_decide_eq_true hlt
   have hd:=A0w l i z h0 hlt
   have hm:=D0J (A0H l i z h0 hlt)
   refine A0t (by simp[h0,hlt]) (A0Q (fun hneg=>⟨rfl,?_⟩) fun hneg=>?_)
   ·show(rpDt nx0 (k,n,s,l0,()) (k2,n2,s2,(),()) p [] (l.drop i.toNat) left).val=_
    unfold rpDt;rw[E0J _ _ (of_decide_eq_true hneg)];rfl
   ·have hneg:=of_decide_eq_false hneg
    have hbd:=T0R (putV p) hp (l.getD i.toNat z) left (by omega)
    refine A0t (A0g ⟨by omega,hN,M0s hw _ (A0H l i z h0 hlt),hp,by omega,hl1⟩) (A0t (by simp) ⟨rfl,(show RpX from .inr (.inl (((),(p,()),(),(),1,l,(l.length:Int),i+1,()),((rplT (putV p) (l.getD i.toNat z) left).2,()),(k,n,s,l0,()),(k2,n2,s2,(),()),[(rplT (putV p) (l.getD i.toNat z) left).1],()))),rfl,rfl,
     ⟨⟨hs,hN,hw,hp,rfl,by omega,by omega,by omega,by omega⟩,rfl,by omega,by omega⟩,by show((l.length:Int)-(i+1)).toNat<((l.length:Int)-i).toNat;omega,?_⟩)
    show(rpDt nx0 (k,n,s,l0,()) (k2,n2,s2,(),()) p [(rplT (putV p) (l.getD i.toNat z) left).1] (l.drop (i+1).toNat) (rplT (putV p) (l.getD i.toNat z) left).2).val=(rpDt nx0 (k,n,s,l0,()) (k2,n2,s2,(),()) p [] (l.drop i.toNat) left).val
    unfold rpDt;rw[hd,G0Q _ _ _ hneg];rfl
  ·show(rpDt nx0 (k,n,s,l0,()) (k2,n2,s2,(),()) p [] (l.drop i.toNat) left).val=_
   unfold rpDt;rw[A0N l i h1 (of_decide_eq_false hlt),I0I];rfl
 ·obtain⟨⟨hs,hN,hw,hp,hl,h0,h1,hl0,hl1⟩,hq,hq0,hqi⟩:rpV N p l len i left∧q=ar.length∧0<q∧(q:Int)≤i:=hx
  subst hl
  let z:Trm:=Univ.dflt (Cd.term:Cd)
  let e:Trm:=eT (l.getD i.toNat z)
  let r:Trm:=eT (rplT (putV p) e left).1
  refine H0f (t:=.ite (decide (i<(l.length:Int))) (.ite (decide (0≤i)&&decide (i<(l.length:Int))) (.ite (decide (left<0)) (.leaf (true,.exit 0,[.ptr 0 0,.ptr 1 0,.ptr 2 0,.asl (Cd.term:Cd) nx0 0 q],rpOb left (k,n,s,l0,()) (k2,n2,s2,(),()) (.arr (Cd.term:Cd) (show List Trm from ar))))
    (.ite (dec (rpP N e p left)) (.ite (decide (q=ar.length)&&decide (q+[r].length≤1000000)) (.leaf (true,.normal,[.ptr 0 0,.fn 67 [] [.dptr (Cd.terms:Cd) [p] 0 0],.ptr 1 0,.ptr 2 0,.asl (Cd.term:Cd) nx0 0 (q+[r].length),.dsl (Cd.term:Cd) l,.si .i64 (l.length:Int),.si .i64 (IntKind.i64.wrap (i+1))],
     rpOb (rplT (putV p) e left).2 (k,n,s,l0,()) (k2,n2,s2,(),()) (.arr (Cd.term:Cd) (show List Trm from ar++[r])))) .fail) .fail)) .fail) (.leaf (true,.exit 0,[.ptr 0 0,.ptr 1 0,.ptr 2 0,.asl (Cd.term:Cd) nx0 0 q],rpOb left (k,n,s,l0,()) (k2,n2,s2,(),()) (.arr (Cd.term:Cd) (show List Trm from ar)))))
   (by rcases hnx with rfl|rfl<;>kernel_rfl) ?_
  have he:e=l.getD i.toNat z:=D0i _
  have hr:r=(rplT (putV p) e left).1:=D0i _
  have hln:=B0L l
  rw[A0C (by omega) (by omega),hr,he]
  refine A0Q (fun hlt=>?_) (fun hlt=>⟨rfl,?_⟩)
  ·have hlt:=of_decide_eq_true hlt
   have hd:=A0w l i z h0 hlt
   have hm:=D0J (A0H l i z h0 hlt)
   refine A0t (by simp[h0,hlt]) (A0Q (fun hneg=>⟨rfl,?_⟩) fun hneg=>?_)
   ·show(rpDt nx0 (k,n,s,l0,()) (k2,n2,s2,(),()) p ar (l.drop i.toNat) left).val=_
    unfold rpDt;rw[E0J _ _ (of_decide_eq_true hneg),List.append_nil,O0j (by omega),hq]
   ·have hneg:=of_decide_eq_false hneg
    have hbd:=T0R (putV p) hp (l.getD i.toNat z) left (by omega)
    refine A0t (A0g ⟨by omega,hN,M0s hw _ (A0H l i z h0 hlt),hp,by omega,hl1⟩) (A0t (by simp[←hq];omega) ⟨rfl,(show RpX from .inr (.inl (((),(p,()),(),(),q+1,l,(l.length:Int),i+1,()),((rplT (putV p) (l.getD i.toNat z) left).2,()),(k,n,s,l0,()),(k2,n2,s2,(),()),ar++[(rplT (putV p) (l.getD i.toNat z) left).1],()))),rfl,rfl,
     ⟨⟨hs,hN,hw,hp,rfl,by omega,by omega,by omega,by omega⟩,by rw[hq];simp,by omega,by omega⟩,by show((l.length:Int)-(i+1)).toNat<((l.length:Int)-i).toNat;omega,?_⟩)
    show(rpDt nx0 (k,n,s,l0,()) (k2,n2,s2,(),()) p (ar++[(rplT (putV p) (l.getD i.toNat z) left).1]) (l.drop (i+1).toNat) (rplT (putV p) (l.getD i.toNat z) left).2).val=(rpDt nx0 (k,n,s,l0,()) (k2,n2,s2,(),()) p ar (l.drop i.toNat) left).val
    unfold rpDt;rw[hd,G0Q _ _ _ hneg,List.append_assoc];rfl
  ·show(rpDt nx0 (k,n,s,l0,()) (k2,n2,s2,(),()) p ar (l.drop i.toNat) left).val=_
   unfold rpDt;rw[A0N l i h1 (of_decide_eq_false hlt),I0I,List.append_nil,O0j (by omega),hq]
 ·exact x.elim
end Go.Proofs.YtibaljifcbpmoaaGreatDoor

namespace Go.Ev
open Go
variable[Univ]
noncomputable def d0Q(n:Nat)(p q:B0s):B0s:=⟨p.body,fun T s=>sel (Nat.beq s.nx n) (p.run T s) (q.run T s),fun T s r t h=>by
 cases hb:Nat.beq s.nx n with
 |true=>rw[hb,A0e] at h;exact p.up T s r t h
 |false=>rw[hb,A0f] at h;exact q.up T s r t h⟩
theorem Z0D{P:Program}{n:Nat}{p q:B0s}(hb:q.body=p.body)(hp:A0h P p)(hq:A0h P q):A0h P (d0Q n p q):=by
 intro E base w0 Γ s w T ro a N m hty R hT g hN hF hLH
 have e:(d0Q n p q).run T s=sel (Nat.beq s.nx n) (p.run T s) (q.run T s):=rfl
 rw[e] at g hN⊢
 show(Code.loop p.body).wpIn _ _ _ _ _ _
 cases hc:Nat.beq s.nx n with
 |true=>rw[hc,A0e] at g hN;rw[A0e];exact hp E base w0 Γ s w T ro a N m hty R hT g hN hF hLH
 |false=>rw[hc,A0f] at g hN;rw[A0f,←hb];exact hq E base w0 Γ s w T ro a N m hty R hT g hN hF hLH
end Go.Ev
namespace Go.Proofs.YtibaljifcbpmoaaGreatDoor
open Go Go.Ev Go.Proofs
set_option maxRecDepth 100000
noncomputable abbrev f0H(N:Nat):List (Nat×B0s):=[(0,d0Q 3 ((rpL 3 N).loop []) ((rpL 4 N).loop []))]
theorem T0U:∀N:Nat,N≤4000→(rpC N).Kept Tryz.prog 65
 |
  0,_=>fun _ _ (z:RpZ) hx r hr=>by
  have hx:A0G (C0I z.1)≤((0:Nat):Int):=hx.1
  have :=B0f (C0I z.1)
  omega
 |
  N+1,hN=>by
  have hL:∀p∈f0H N,A0h Tryz.prog p.2:=lpc (Z0D rfl (b0X 3 (.inl rfl) N (T0U N (by omega))) (b0X 4 (.inr rfl) N (T0U N (by omega)))) lp0
  have hmk:mkFn Tryz.prog 65=some (.code (A0u (f0H N) (cd Tryz.f65 [0])) Tryz.f65.ntmps Tryz.f65.results.toList):=by kernel_rfl
  refine e0m (mp:=[]) xs0 (ctc X0b (ctc (S0s 4000 (by omega)) ct0)) hL (rpC (N+1)) 65 Tryz.f65 [0] hmk (by kernel_rfl) (.agg B0O) ?_
  intro uu yy zz hx
  obtain⟨⟨k,n,s,l,u1⟩,⟨p,u2⟩,u3⟩:RpZ:=zz
  let left:Int:=yy
  obtain⟨hs,_,hw,hp,h0,h1⟩:rpP (N+1) ⟨k,n,s,l⟩ p left:=hx
  unfold A0G at hs
  unfold C0V at hw
  rw[Bool.and_eq_true] at hw
  let x:Trm:=eT ((putV p n).getD B0u)
  let rr:List Trm×Int:=rplL (putV p) l (IntKind.i64.wrap (left-1))
  let LA:Dt (Bool×Option (AVal×AVal)):=.ite (dec (rpV N p l (l.length:Int) 0 (IntKind.i64.wrap (left-1)))) (.ite (decide (rr.1.length=0)) (.leaf (true,some (.agg [.si .i64 k,.si .i64 n,.ss s,.nils],.si .i64 rr.2)))
   (.leaf (true,some (.agg [.si .i64 k,.si .i64 n,.ss s,.dsl (Cd.term:Cd) (subL (α:=Trm) rr.1 0 rr.1.length)],.si .i64 rr.2)))) .fail
  refine A0A (t:=.ite (decide (k=1)) (.ite (dec (0≤n)) (.ite (putV p n).isSome (.ite true (.ite (dec (A0G x≤4000)) (.leaf (true,some (trmV x,.si .i64 (IntKind.i64.wrap (left-A0G x))))) .fail) LA)
   (.ite false (.ite (dec (A0G B0u≤4000)) (.leaf (true,some (.agg [.si .i64 0,.si .i64 0,.ss ⟨#[]⟩,.nils],.si .i64 (IntKind.i64.wrap (left-A0G B0u))))) .fail) LA)) .fail) LA) (by kernel_rfl) ?_
  have hw1:IntKind.i64.wrap (left-1)=left-1:=A0C (by omega) (by omega)
  have hLA:(if k=1 then putV p n else none)=none→LA.holds fun q=>q.1=true∧∃r,q.2=some r∧some (trmV (rplT (putV p) ⟨k,n,s,l⟩ left).1,AVal.si .i64 (rplT (putV p) ⟨k,n,s,l⟩ left).2)=some (Pt.nz (.agg B0O) r.1,r.2):=by
   intro hno
   have e:rplT (putV p) ⟨k,n,s,l⟩ left=(⟨k,n,s,(rplL (putV p) l (left-1)).1⟩,(rplL (putV p) l (left-1)).2):=by
    unfold rplT;rw[hno]
   rw[e]
   show Dt.holds _ (Dt.ite (dec (rpV N p l (l.length:Int) 0 (IntKind.i64.wrap (left-1)))) (.ite (decide ((rplL (putV p) l (IntKind.i64.wrap (left-1))).1.length=0)) (.leaf (true,some (AVal.agg [.si .i64 k,.si .i64 n,.ss s,.nils],AVal.si .i64 (rplL (putV p) l (IntKind.i64.wrap (left-1))).2)))
    (.leaf (true,some (AVal.agg [.si .i64 k,.si .i64 n,.ss s,.dsl (Cd.term:Cd) (subL (α:=Trm) (rplL (putV p) l (IntKind.i64.wrap (left-1))).1 0 (rplL (putV p) l (IntKind.i64.wrap (left-1))).1.length)],AVal.si .i64 (rplL (putV p) l (IntKind.i64.wrap (left-1))).2)))) .fail)
   rw[hw1]
   refine A0c (A0g ⟨by omega,by omega,hw.2,hp,rfl,by omega,by omega,by omega,by omega⟩) (A0b (fun h=>⟨rfl,_,rfl,?_⟩) fun h=>⟨rfl,_,rfl,?_⟩)
   ·rw[List.eq_nil_of_length_eq_zero (of_decide_eq_true h)];rfl
   ·rw[J0i];rfl
  have hx4:=B0f B0u
  refine A0b (fun hk=>?_) (fun hk=>hLA (if_neg (of_decide_eq_false hk)))
  have hk:=of_decide_eq_true hk
  have hn0:0≤n:=by
   have :=hw.1
   unfold C0O at this
   rw[if_pos hk] at this
   unfold Q0Z at this
   simp only[Bool.and_eq_true,Bool.not_eq_true',decide_eq_false_iff_not] at this
   omega
  refine A0c (A0g hn0) (A0b (fun hp1=>A0b (fun _=>?_) fun e=>by cases e) fun hp1=>A0b (fun e=>by cases e) fun _=>hLA ?_)
  ·obtain⟨y,hy⟩:=Option.isSome_iff_exists.1 hp1
   have hxy:x=y:=by show eT ((putV p n).getD B0u)=y;rw[D0i,hy];rfl
   have hsy:=hp _ _ hy
   have hsy2:=B0f y
   have e:rplT (putV p) ⟨k,n,s,l⟩ left=(y,left-A0G y):=by
    unfold rplT;rw[if_pos hk,hy]
   rw[hxy]
   refine A0c (A0g hsy) ⟨rfl,_,rfl,?_⟩
   rw[A0C (by omega) (by omega)]
   show some (trmV (rplT (putV p) ⟨k,n,s,l⟩ left).1,AVal.si .i64 (rplT (putV p) ⟨k,n,s,l⟩ left).2)=_
   rw[e];rfl
  ·rw[if_pos hk]
   cases q:putV p n with
   |none=>rfl
   |some y=>rw[q] at hp1;cases hp1
end Go.Proofs.YtibaljifcbpmoaaGreatDoor

namespace Go.Proofs.YtibaljifcbpmoaaGreatDoor
open Go Go.Ev Go.Proofs
set_option maxRecDepth 100000
def G0H (_ : Pts []) (t : Trm) : Bool := !V0O t && !decide (errT t = 0)
noncomputable def sub1C : FSpec := ⟨[.agg B0O], fun _ => True, fun (x : TrmY × Unit) => .leaf (.sb (G0H () (C0I x.1)))⟩
theorem X0X : sub1C.Kept Tryz.prog 63 := by
  refine B0w (ctc R0D (ctc J0u ct0)) lp0 sub1C 63 Tryz.f63 [] (by kernel_rfl) (by kernel_rfl) ?_
  intro (xx : TrmY × Unit) _
  obtain ⟨⟨k, n, s, l, u1⟩, u2⟩ := xx
  refine A0A (t := .ite (dec True) (.ite (!V0O ⟨k, n, s, l⟩) (.ite (dec True) (.leaf (true, .sb (!decide (errT ⟨k, n, s, l⟩ = 0)))) .fail) (.leaf (true, .sb false))) .fail) (by kernel_rfl) ?_
  exact B0N trivial (A0U (B0N trivial E0k))
def f0e (l : List Trm) (c : Pts []) (n i : Int) : Prop := (∀ e ∈ l, noQ e c) ∧ l.length ≤ maxL ∧ n = (l.length : Int) ∧ 0 ≤ i ∧ i ≤ (l.length : Int)
noncomputable def a0q : PSpec :=
  { body := B0e Tryz.f107 0, nt := 19, nx := 0, room := 8, keep := [(0, .d .term), (1, .fn 63 []), (7, .i .i64), (8, .i .i64)], objs := []
    keepX := fun x => match x with | .ret => [4] | _ => [], objsX := fun _ => []
    inv := fun (x : List Trm × Pts [] × Int × Int × Unit) _ => f0e x.1 x.2.1 x.2.2.1 x.2.2.2.1
    res := fun (x : List Trm × Pts [] × Int × Int × Unit) _ => L0V (G0H x.2.1) x.1 x.2.2.2.1 }
theorem b0J : A0h Tryz.prog ((a0q).loop []) := by
  refine G0w (ctc (X0X) ct0) lp0 (a0q) (fun (x : List Trm × Pts [] × Int × Int × Unit) _ => ((x.1.length : Int) - x.2.2.2.1).toNat) (by kernel_rfl) ?_
  intro xx y hx
  obtain ⟨l, c, n, i, u⟩ : List Trm × Pts [] × Int × Int × Unit := xx
  obtain ⟨hQ, hm, hn, h4, h5⟩ : (∀ e ∈ l, noQ e c) ∧ l.length ≤ maxL ∧ n = (l.length : Int) ∧ 0 ≤ i ∧ i ≤ (l.length : Int) := hx
  have hm2 := G0y hm
  subst hn
  let z : Trm := Univ.dflt (.term : Cd)
  refine A0A (t := .ite (decide (i < (l.length : Int)))
      (.ite (decide (0 ≤ i) && decide (i < (l.length : Int)))
        (.ite (dec (noQ (eT (l.getD i.toNat z)) c))
          (.ite (G0H c (eT (l.getD i.toNat z))) (.leaf (true, .ret, [.si .i64 i], []))
            (.leaf (true, .normal, [AVal.dsl (.term : Cd) l, .fn 63 [] (Pts.vals [] c), .si .i64 (l.length : Int), .si .i64 (IntKind.i64.wrap (i + 1))], [])))
          .fail) .fail)
      (.leaf (true, .exit 0, [], []))) (by kernel_rfl) ?_
  rw [D0i]
  refine A0b (fun hlt => ?_) (fun hlt => ?_)
  · have hlt := of_decide_eq_true hlt
    refine A0c (by simp [h4, hlt]) (A0c (A0g (hQ _ (A0H l i z h4 hlt))) (A0b (fun hp => ⟨rfl, P0l z h4 hlt hp⟩) (fun hp => ⟨rfl, (l, c, (l.length : Int), IntKind.i64.wrap (i + 1), ()), (), rfl, rfl, ?_⟩)))
    rw [A0C (by omega) (by omega)]
    refine ⟨⟨hQ, hm, rfl, by show (0 : Int) ≤ i + 1; omega, by show i + 1 ≤ (l.length : Int); omega⟩, by show ((l.length : Int) - (i + 1)).toNat < ((l.length : Int) - i).toNat; omega, ?_⟩
    exact V0k z h4 hlt hp
  · exact ⟨rfl, P0F h5 (of_decide_eq_false hlt)⟩
noncomputable def e0l : FSpec := ⟨[.d .term, .fn 63 []], fun (x : List Trm × Pts [] × Unit) => (∀ e ∈ x.1, noQ e x.2.1) ∧ x.1.length ≤ maxL,
  fun (x : List Trm × Pts [] × Unit) => .ite (x.1.any (G0H x.2.1)) (.leaf (.si .i64 ((x.1.findIdx (G0H x.2.1) : Nat) : Int))) (.leaf (.si .i64 (-1)))⟩
theorem V0V : (e0l).Kept Tryz.prog 107 := by
  have hL : ∀ p ∈ [(0, (a0q).loop [])], A0h Tryz.prog p.2 := lpc (b0J) lp0
  have hmk : mkFn Tryz.prog 107 = some (.code (A0u [(0, (a0q).loop [])] (cd Tryz.f107 [0])) Tryz.f107.ntmps Tryz.f107.results.toList) := by kernel_rfl
  refine B0w ct0 hL (e0l) 107 Tryz.f107 [0] hmk (by kernel_rfl) ?_
  intro xx hx
  obtain ⟨l, c, u⟩ : List Trm × Pts [] × Unit := xx
  have hx : (∀ e ∈ l, noQ e c) ∧ l.length ≤ maxL := hx
  have hQ := hx.1
  have hm := hx.2
  refine A0A (t := .ite (dec (f0e l c (l.length : Int) 0)) (.ite (l.any (G0H c)) (.leaf (true, .si .i64 (0 + (l.findIdx (G0H c) : Nat)))) (.leaf (true, .si .i64 (-1)))) .fail) (by kernel_rfl) ?_
  refine A0c (A0g ⟨hQ, hm, rfl, by show (0 : Int) ≤ 0; omega, by show (0 : Int) ≤ l.length; omega⟩) (A0b (fun hp => ⟨rfl, ?_⟩) fun hp => ⟨rfl, ?_⟩)
  · show (Dt.ite (l.any (G0H c)) _ _ : Dt AVal).val = _
    rw [hp]; simp [Dt.val]
  · show (Dt.ite (l.any (G0H c)) _ _ : Dt AVal).val = _
    rw [hp]; simp [Dt.val]
noncomputable def f0z : FSpec := ⟨[.d .term, .fn 63 []], fun (x : List Trm × Pts [] × Unit) => (∀ e ∈ x.1, noQ e x.2.1) ∧ x.1.length ≤ maxL,
  fun (x : List Trm × Pts [] × Unit) => .leaf (.sb (x.1.any (G0H x.2.1)))⟩
theorem W0N : (f0z).Kept Tryz.prog 58 := by
  refine B0w (ctc (V0V) ct0) lp0 (f0z) 58 Tryz.f58 [] (by kernel_rfl) (by kernel_rfl) ?_
  intro xx hx
  obtain ⟨l, c, u⟩ : List Trm × Pts [] × Unit := xx
  have hx : (∀ e ∈ l, noQ e c) ∧ l.length ≤ maxL := hx
  refine A0A (t := .ite (dec ((∀ e ∈ l, noQ e c) ∧ l.length ≤ maxL)) (.ite (l.any (G0H c)) (.leaf (true, .sb (!decide ((l.findIdx (G0H c) : Int) < 0)))) (.leaf (true, .sb (!decide ((-1 : Int) < 0))))) .fail) (by kernel_rfl) ?_
  refine A0c (A0g hx) (A0b (fun hp => ⟨rfl, ?_⟩) fun hp => ⟨rfl, ?_⟩)
  · show some (AVal.sb (l.any (G0H c))) = some (AVal.sb _)
    rw [hp]; simp
  · show some (AVal.sb (l.any (G0H c))) = some (AVal.sb _)
    rw [hp]; simp
def P0h (l : List Trm) : Bool := !decide (100000 < (l.length : Int)) && !l.any (G0H ())
noncomputable def subsC : FSpec := ⟨[.d Cd.term], fun (x : List Trm × Unit) => x.1.length ≤ maxL, fun (x : List Trm × Unit) => .leaf (.sb (P0h x.1))⟩
theorem Z0d : subsC.Kept Tryz.prog 36 := by
  refine B0w (ctc W0N ct0) lp0 subsC 36 Tryz.f36 [] (by kernel_rfl) (by kernel_rfl) ?_
  intro (xx : List Trm × Unit) (hx : xx.1.length ≤ maxL)
  obtain ⟨l, u⟩ := xx
  have hx : l.length ≤ maxL := hx
  refine A0A (t := .ite (!decide (100000 < (l.length : Int))) (.ite (dec ((∀ e ∈ l, noQ e ()) ∧ l.length ≤ maxL)) (.leaf (true, .sb (!l.any (G0H ())))) .fail) (.leaf (true, .sb false))) (by kernel_rfl) ?_
  exact A0U (B0N ⟨fun _ _ => trivial, hx⟩ E0k)
theorem N0K {t : Trm} (h : errT t = 0) : A0G t ≤ 4000 ∧ C0V t = true ∧ D0h t ≤ 600 := by
  unfold errT at h
  split at h
  · cases h
  · rename_i hb
    unfold badT at hb
    have hb : ¬ 4000 < A0R t 4000 600 := by simpa using hb
    rw [J0C t 4000 600 (by omega)] at hb
    split at hb
    · rename_i q; exact ⟨q.2.1, q.2.2, q.1⟩
    · omega
theorem b0L {l : List Trm} (h : P0h l = true) : T0n l := by
  intro v x hv
  unfold putV at hv
  split at hv
  · rename_i q
    cases hv
    unfold P0h at h
    rw [Bool.and_eq_true] at h
    by_cases hm : l.getD v.toNat B0u ∈ l
    · have := List.any_eq_false.1 (by simpa using h.2) _ hm
      unfold G0H at this
      rw [q.2] at this
      exact (N0K (by simpa using this)).1
    · exfalso
      by_cases c : v.toNat < l.length
      · apply hm
        rw [List.getD_eq_getElem?_getD, List.getElem?_eq_getElem c]
        exact List.getElem_mem c
      · have e : l.getD v.toNat B0u = B0u := by rw [List.getD_eq_getElem?_getD, List.getElem?_eq_none (by omega)]; rfl
        have := q.2
        rw [e] at this
        revert this; unfold V0O B0u; decide
  · cases hv
def limV (t : Trm) : Trm × Int := if errT t = 0 then (t, 0) else (B0u, 2)
noncomputable abbrev limA (r : Trm × Int) : AVal := .tup [trmV r.1, .si .i64 r.2]
noncomputable def limC : FSpec := ⟨[.agg B0O], fun _ => True, fun (x : TrmY × Unit) => .leaf (limA (limV (C0I x.1)))⟩
theorem a0V : limC.Kept Tryz.prog 66 := by
  refine H0b (mp := []) xs0 (ctc J0u (ctc (P0f (.inr ⟨rfl, rfl⟩) 4000 (Nat.le_refl _)) ct0)) lp0 limC 66 Tryz.f66 [] (by kernel_rfl) (by kernel_rfl) (.agg [.agg B0O, .i .i64]) ?_
  intro (xx : TrmY × Unit) _
  obtain ⟨⟨k, n, s, l, u1⟩, u2⟩ := xx
  refine A0A (t := .ite (dec True) (.ite (!decide (errT ⟨k, n, s, l⟩ = 0)) (.leaf (true, .tup [.agg [.si .i64 0, .si .i64 0, .ss ⟨#[]⟩, .nils], .si .i64 2])) (.ite (dec (A0G ⟨k, n, s, l⟩ ≤ (4000 : Nat))) (.leaf (true, limA (⟨k, n, s, l⟩, 0))) .fail)) .fail) (by kernel_rfl) ?_
  refine B0N trivial (A0b (fun h => ⟨rfl, ?_⟩) fun h => ?_)
  · have h : ¬ errT ⟨k, n, s, l⟩ = 0 := by simpa using h
    show some (limA (limV ⟨k, n, s, l⟩)) = _
    unfold limV; rw [if_neg h]; rfl
  · have h : errT ⟨k, n, s, l⟩ = 0 := by simpa using h
    refine A0c (A0g (N0K h).1) ⟨rfl, ?_⟩
    show some (limA (limV ⟨k, n, s, l⟩)) = _
    unfold limV; rw [if_pos h]; rfl
def rpdV (p : List Trm) (t : Trm) : Trm × Int := if (rplT (putV p) t 4000).2 < 0 then (B0u, 2) else limV (rplT (putV p) t 4000).1
abbrev RpdX : Type := TrmY × (List Trm × Unit) × Unit
noncomputable def rpdC : FSpec := ⟨[.agg B0O, .fn 67 [.box Cd.terms]], fun (x : RpdX) => A0G (C0I x.1) ≤ 4000 ∧ C0V (C0I x.1) = true ∧ T0n x.2.1.1, fun (x : RpdX) => .leaf (limA (rpdV x.2.1.1 (C0I x.1)))⟩
theorem b0b : rpdC.Kept Tryz.prog 37 := by
  refine H0b (mp := []) (xsc (X := .w (rpC 4000)) (T0U 4000 (Nat.le_refl _)) xs0) (ctc a0V ct0) lp0 rpdC 37 Tryz.f37 [] (by kernel_rfl) (by kernel_rfl) (.agg [.agg B0O, .i .i64]) ?_
  intro (xx : RpdX) (hx : A0G (C0I xx.1) ≤ 4000 ∧ C0V (C0I xx.1) = true ∧ T0n xx.2.1.1)
  obtain ⟨⟨k, n, s, l, u1⟩, ⟨p, u2⟩, u3⟩ := xx
  obtain ⟨h1, h2, h3⟩ : A0G ⟨k, n, s, l⟩ ≤ 4000 ∧ C0V ⟨k, n, s, l⟩ = true ∧ T0n p := hx
  let r : Trm × Int := rplT (putV p) ⟨k, n, s, l⟩ 4000
  refine A0A (t := .ite (dec (rpP 4000 ⟨k, n, s, l⟩ p 4000)) (.ite (decide (r.2 < 0)) (.leaf (true, .tup [.agg [.si .i64 0, .si .i64 0, .ss ⟨#[]⟩, .nils], .si .i64 2])) (.ite (dec True) (.leaf (true, limA (eT (limV (eT r.1)).1, (limV (eT r.1)).2))) .fail)) .fail) (by kernel_rfl) ?_
  refine A0c (A0g ⟨h1, Nat.le_refl _, h2, h3, by omega, by omega⟩) (A0b (fun h => ⟨rfl, ?_⟩) fun h => B0N trivial ⟨rfl, ?_⟩)
  · have h := of_decide_eq_true h
    show some (limA (rpdV p ⟨k, n, s, l⟩)) = _
    unfold rpdV; rw [if_pos h]; rfl
  · have h := of_decide_eq_false h
    rw [D0i, D0i]
    show some (limA (rpdV p ⟨k, n, s, l⟩)) = _
    unfold rpdV; rw [if_neg h]; rfl
def sbsV (t : Trm) (p : List Trm) : Trm × Int := if errT t = 0 then (if P0h p = true then rpdV p t else (B0u, 1)) else (B0u, errT t)
abbrev SbsX : Type := TrmY × List Trm × Unit
noncomputable def sbsC : FSpec := ⟨[.agg B0O, .d Cd.term], fun (x : SbsX) => x.2.1.length ≤ maxL, fun (x : SbsX) => .leaf (limA (sbsV (C0I x.1) x.2.1))⟩
theorem a0P : sbsC.Kept Tryz.prog 11 := by
  refine H0b (mp := []) xs0 (ctc J0u (ctc Z0d (ctc Z0g (ctc b0b ct0)))) lp0 sbsC 11 Tryz.f11 [] (by kernel_rfl) (by kernel_rfl) (.agg [.agg B0O, .i .i64]) ?_
  intro (xx : SbsX) (hx : xx.2.1.length ≤ maxL)
  obtain ⟨⟨k, n, s, l, u1⟩, p, u2⟩ := xx
  have hx : p.length ≤ maxL := hx
  let t : Trm := ⟨k, n, s, l⟩
  refine A0A (t := .ite (dec True) (.ite (!decide (errT t = 0)) (.leaf (true, .tup [.agg [.si .i64 0, .si .i64 0, .ss ⟨#[]⟩, .nils], .si .i64 (errT t)])) (.ite (dec (p.length ≤ maxL)) (.ite (!P0h p) (.leaf (true, .tup [.agg [.si .i64 0, .si .i64 0, .ss ⟨#[]⟩, .nils], .si .i64 1]))
    (.ite (dec True) (.ite (dec (A0G t ≤ 4000 ∧ C0V t = true ∧ T0n p)) (.leaf (true, limA (eT (rpdV p t).1, (rpdV p t).2))) .fail) .fail)) .fail)) .fail) (by kernel_rfl) ?_
  refine B0N trivial (A0b (fun h => ⟨rfl, ?_⟩) fun h => A0c (A0g hx) (A0b (fun h2 => ⟨rfl, ?_⟩) fun h2 => B0N trivial (A0c (A0g ?_) ⟨rfl, ?_⟩)))
  · have h : ¬ errT t = 0 := by simpa using h
    show some (limA (sbsV t p)) = _
    unfold sbsV; rw [if_neg h]; rfl
  · have h : errT t = 0 := by simpa using h
    have h2 : ¬ P0h p = true := by simpa using h2
    show some (limA (sbsV t p)) = _
    unfold sbsV; rw [if_pos h, if_neg h2]; rfl
  · have h : errT t = 0 := by simpa using h
    have h2 : P0h p = true := by simpa using h2
    exact ⟨(N0K h).1, (N0K h).2.1, b0L h2⟩
  · have h : errT t = 0 := by simpa using h
    have h2 : P0h p = true := by simpa using h2
    rw [D0i]
    show some (limA (sbsV t p)) = _
    unfold sbsV; rw [if_pos h, if_pos h2]; rfl
end Go.Proofs.YtibaljifcbpmoaaGreatDoor

namespace Go.Proofs.YtibaljifcbpmoaaGreatDoor
open Go Go.Ev Go.Proofs Go.RowKit
set_option maxRecDepth 100000
theorem d0z(W:World)(m:Nat):CallsIn (FW none) m Tryz.prog 4 #[] W fun e w'=>e=.returned (.bool true)∧Bel (W.heap.size:Bs) W w':=by
 refine callsIn_of_wp_marks (F:=FW none) (n:=m) (fn:=Tryz.f4) (c:=d0J) (by kernel_rfl) (by kernel_rfl) trivial ?_ rfl
 refine D0v (d:=c0Z) D0N A0T (E0b _) rfl (by kernel_rfl) (by kernel_rfl) e0w (f0m W 205 (by decide)) fun a1 w1 h1=>?_
 refine D0v (d:=d0v) D0N A0T (E0b _) rfl (by kernel_rfl) (by kernel_rfl) e0O h1 fun a2 w2 h2=>?_
 refine D0v (d:=d0x) D0N A0T (E0b _) rfl (by kernel_rfl) (by kernel_rfl) f0b h2 fun a3 w3 h3=>?_
 refine D0v (d:=d0o) D0N A0T (E0b _) rfl (by kernel_rfl) (by kernel_rfl) e0o h3 fun a4 w4 h4=>?_
 refine D0v (d:=d0d) D0N A0T (E0b _) rfl (by kernel_rfl) (by kernel_rfl) e0k h4 fun a5 w5 h5=>?_
 refine D0v (d:=f0h) D0N A0T (E0b _) rfl (by kernel_rfl) (by kernel_rfl) f0s h5 fun a6 w6 h6=>?_
 exact X0p (t:=0) D0N A0T (E0b _) rfl (by kernel_rfl) (by kernel_rfl) e0D h6
noncomputable def saneC:FSpec:=⟨[],fun _=>True,fun _=>.leaf (.sb true)⟩
theorem Z0G:saneC.Kept Tryz.prog 4:=by
 intro x _ r hr
 cases hr
 refine⟨rfl,fun Γ w vs hst hno hlo hv=>?_⟩
 have hvs:vs=#[]:=by
  have :=hv.nil_inv
  exact Array.toList_eq_nil_iff.1 this
 subst hvs
 have hmk:mkFn Tryz.prog 4=some (.code (Y0y Tryz.f4) Tryz.f4.ntmps Tryz.f4.results.toList):=by kernel_rfl
 obtain⟨_,_,_,_,_,_,hrun⟩:=C0X hmk
 refine⟨hrun _ _,fun m=>CallsIn.mono (d0z w m) ?_⟩
 rintro e w'⟨rfl,hb⟩
 have hb:=hb.down
 refine⟨.bool true,Γ,rfl,by unfold VRel;rfl,hno,Ext.refl Γ,fun b ob e=>?_,hb⟩
 have h1:=hst b ob e
 have :b<w.heap.size:=(Array.getElem?_eq_some_iff.1 h1).1
 rw[hb.block b this];exact h1
end Go.Proofs.YtibaljifcbpmoaaGreatDoor

namespace Go.Proofs.YtibaljifcbpmoaaGreatDoor
open Go Go.Ev Go.Proofs
set_option maxRecDepth 100000
noncomputable def spTop:TSpec:=⟨spC 4000,Cd.ints,fun l=>(l:List Int)⟩
theorem W0f:spTop.Kept Tryz.prog 8:=⟨Z0n 4000 (Nat.le_refl _),fun fz l v h=>by
 show LRel fz [Cell.sl (Cd.int:Cd) l] [v]
 refine⟨rfl,fun i cl e=>?_⟩
 cases i with
 |zero=>cases e;exact⟨v,rfl,h⟩
 |succ i=>cases e⟩
noncomputable abbrev mpsI:Mps:=[(34,(Cd.int:Cd),(Cd.ints:Cd)),(23,(Cd.term:Cd),(Cd.term:Cd))]
noncomputable def grd2C:FSpec:=⟨[.agg B0O],fun _=>True,fun(x:TrmY×Unit)=>.leaf (.tup [.sb (decide (caE [C0I x.1] 4000=0)&&B0y (C0I x.1)),.si .i64 (caE [C0I x.1] 4000)])⟩
abbrev IntM:Type:=Int→Option (List Int)
noncomputable def D0c(g:List Srt)(y:Trm)(zs:List Int):Bool:=zs.all fun z=>decide (E0o g z y=0)&&F0P g z y
abbrev W4X:Type:=List Srt×Int×List Trm×Unit×Unit×Nat×Int×Unit×Bool×Int×List Trm×Int×Int×List Int×Int×Int×Unit
abbrev W4Y:Type:=D0j×(IntM×Nat)×List Trm×D0j×Unit
def w4V(zs:List Int)(n i:Int):Prop:=n=(zs.length:Int)∧0≤i∧i≤(zs.length:Int)∧(zs.length:Int)≤1000000
noncomputable abbrev tmO(n:Nat)(t:D0j):AObj:=.cells [.si .i64 t.1,.si .i64 t.2.1,.ss t.2.2.1,.dsl (Cd.term:Cd) t.2.2.2.1] 25 false false n 0 [(n,0,4)]
noncomputable abbrev mpO(m:IntM×Nat):AObj:=.dat (.map (Cd.int:Cd) (Cd.ints:Cd) m.1 m.2)
noncomputable abbrev w4Vs(a:Nat)(g:List Srt)(s0:Int)(own:List Trm)(ka:Nat)(x:Int)(b:Bool)(x1:Int)(ow:List Trm)(n j:Int):List AVal:=
 [.dsl (Cd.sort:Cd) g,.si .i64 s0,.dsl (Cd.term:Cd) own,.ptr 0 0,.map 6,.asl (Cd.term:Cd) a 0 ka,.si .i64 x,.ptr (a+1) 0,.sb b,.si .i64 x1,.dsl (Cd.term:Cd) ow,.si .i64 n,.si .i64 j]
noncomputable def w4(a:Nat):PSpec:=
 {body:=B0e Tryz.f3 4,nt:=183,nx:=a+2,room:=8
  keep:=[(0,.d Cd.sort),(1,.i .i64),(3,.d Cd.term),(6,.p 0 0),(11,.mp 6),(12,.al Cd.term a),(13,.i .i64),(15,.p (a+1) 0),(18,.b),(73,.i .i64),(80,.d Cd.term),(81,.i .i64),(82,.i .i64),(105,.d Cd.int),(106,.i .i64),(107,.i .i64)]
  objs:=[(0,.cells B0O 25 0 0 [(0,0,4)]),(6,.map Cd.int Cd.ints),(a,.arr Cd.term),(a+1,.cells B0O 25 (a+1) 0 [(a+1,0,4)])]
  keepX:=fun _=>[0,1,3,6,11,12,13,15,18,73,80,81,82],objsX:=fun _=>[0,6,a,a+1]
  inv:=fun(x:W4X) _=>w4V x.2.2.2.2.2.2.2.2.2.2.2.2.2.1 x.2.2.2.2.2.2.2.2.2.2.2.2.2.2.1 x.2.2.2.2.2.2.2.2.2.2.2.2.2.2.2.1
  res
    :=fun(x:W4X)(y:W4Y)=>.leaf (.exit 4,w4Vs a x.1 x.2.1 x.2.2.1 x.2.2.2.2.2.1 x.2.2.2.2.2.2.1
    (x.2.2.2.2.2.2.2.2.1&&D0c x.1 ⟨y.2.2.2.1.1,y.2.2.2.1.2.1,y.2.2.2.1.2.2.1,y.2.2.2.1.2.2.2.1⟩ (x.2.2.2.2.2.2.2.2.2.2.2.2.2.1.drop x.2.2.2.2.2.2.2.2.2.2.2.2.2.2.2.1.toNat))
    x.2.2.2.2.2.2.2.2.2.1 x.2.2.2.2.2.2.2.2.2.2.1 x.2.2.2.2.2.2.2.2.2.2.2.1 x.2.2.2.2.2.2.2.2.2.2.2.2.1,
   [tmO 0 y.1,mpO y.2.1,.arr (Cd.term:Cd) y.2.2.1,tmO (a+1) y.2.2.2.1])}
theorem g0g(a:Nat)(ha:a=9):A0h Tryz.prog ((w4 a).loop []):=by
 refine G0D (mp:=mpsI) xs0 (ctc M0y ct0) lp0 (w4 a) (fun(x:W4X) _=>((x.2.2.2.2.2.2.2.2.2.2.2.2.2.1.length:Int)-x.2.2.2.2.2.2.2.2.2.2.2.2.2.2.2.1).toNat) (by kernel_rfl) ?_
 intro xx yy hx
 obtain⟨g,s0,own,u1,u2,ka,x,u3,b,x1,ow,n,j,zs,nz,i,u4⟩:W4X:=xx
 obtain⟨⟨k1,n1,s1,l1,u5⟩,⟨m,q⟩,tt,⟨k2,n2,s2,l2,u6⟩,u7⟩:W4Y:=yy
 obtain⟨rfl,h0,h1,hm⟩:w4V zs nz i:=hx
 let zi:Int:=Univ.dflt (Cd.int:Cd)
 let z:Int:=zs.getD i.toNat zi
 let y:Trm:=⟨k2,n2,s2,l2⟩
 let
   L (b':Bool):Dt (Bool×AExit×List AVal×List AObj):=.leaf (true,.normal,[.dsl (Cd.sort:Cd) g,.si .i64 s0,.dsl (Cd.term:Cd) own,.ptr 0 0,.map 6,.asl (Cd.term:Cd) a 0 ka,.si .i64 x,.ptr (a+1) 0,.sb b',.si .i64 x1,.dsl (Cd.term:Cd) ow,.si .i64 n,.si .i64 j,
   .dsl (Cd.int:Cd) zs,.si .i64 (zs.length:Int),.si .i64 (IntKind.i64.wrap (i+1))],[tmO 0 (k1,n1,s1,l1,()),mpO (m,q),.arr (Cd.term:Cd) tt,tmO (a+1) (k2,n2,s2,l2,())])
 refine A0A (t:=.ite (decide (i<(zs.length:Int))) (.ite (decide (0≤i)&&decide (i<(zs.length:Int))) (.ite (dec True) (.ite b (.ite (decide (E0o g z y=0)) (L (F0P g z y)) (L false)) (L false)) .fail) .fail)
  (.leaf (true,.exit 4,w4Vs a g s0 own ka x b x1 ow n j,[tmO 0 (k1,n1,s1,l1,()),mpO (m,q),.arr (Cd.term:Cd) tt,tmO (a+1) (k2,n2,s2,l2,())]))) (by subst ha;kernel_rfl) ?_
 refine A0b (fun hlt=>?_) (fun hlt=>?_)
 ·have hlt:=of_decide_eq_true hlt
  have hd:zs.drop i.toNat=z::zs.drop (i+1).toNat:=A0w zs i zi h0 hlt
  have e5:IntKind.i64.wrap (i+1)=i+1:=A0C (by omega) (by omega)
  have lf:∀b':Bool,b'=(b&&(decide (E0o g z y=0)&&F0P g z y))→∃x' y',Pts.vals ((w4 a).keep.map (·.2)) x'=[AVal.dsl (Cd.sort:Cd) g,.si .i64 s0,.dsl (Cd.term:Cd) own,.ptr 0 0,.map 6,.asl (Cd.term:Cd) a 0 ka,.si .i64 x,.ptr (a+1) 0,.sb b',.si .i64 x1,.dsl (Cd.term:Cd) ow,.si .i64 n,.si .i64 j,
    .dsl (Cd.int:Cd) zs,.si .i64 (zs.length:Int),.si .i64 (IntKind.i64.wrap (i+1))]∧Pos.obs ((w4 a).objs.map (·.2)) y'=[tmO 0 (k1,n1,s1,l1,()),mpO (m,q),.arr (Cd.term:Cd) tt,tmO (a+1) (k2,n2,s2,l2,())]∧(w4 a).inv x' y'∧
    (fun(x:W4X)(_:W4Y)=>((x.2.2.2.2.2.2.2.2.2.2.2.2.2.1.length:Int)-x.2.2.2.2.2.2.2.2.2.2.2.2.2.2.2.1).toNat) x' y'<((zs.length:Int)-i).toNat∧
    ((w4 a).res x' y').val=((w4 a).res (show W4X from(g,s0,own,u1,u2,ka,x,u3,b,x1,ow,n,j,zs,(zs.length:Int),i,u4)) (show W4Y from((k1,n1,s1,l1,u5),(m,q),tt,(k2,n2,s2,l2,u6),u7))).val:=fun b' hb=>
   ⟨(
    show W4X from(g,s0,own,(),(),ka,x,(),b',x1,ow,n,j,zs,(zs.length:Int),IntKind.i64.wrap (i+1),())),(show W4Y from((k1,n1,s1,l1,()),(m,q),tt,(k2,n2,s2,l2,()),())),rfl,rfl,
    (show w4V zs (zs.length:Int) (IntKind.i64.wrap (i+1)) by rw[e5];exact⟨rfl,by omega,by omega,hm⟩),(show((zs.length:Int)-IntKind.i64.wrap (i+1)).toNat<((zs.length:Int)-i).toNat by rw[e5];omega),by
    show some (AExit.exit 4,w4Vs a g s0 own ka x (b'&&D0c g y (zs.drop (IntKind.i64.wrap (i+1)).toNat)) x1 ow n j,[tmO 0 (k1,n1,s1,l1,()),mpO (m,q),.arr (Cd.term:Cd) tt,tmO (a+1) (k2,n2,s2,l2,())])=
     some (AExit.exit 4,w4Vs a g s0 own ka x (b&&D0c g y (zs.drop i.toNat)) x1 ow n j,[tmO 0 (k1,n1,s1,l1,()),mpO (m,q),.arr (Cd.term:Cd) tt,tmO (a+1) (k2,n2,s2,l2,())])
    have :D0c g y (zs.drop i.toNat)=((decide (E0o g z y=0)&&F0P g z y)&&D0c g y (zs.drop (i+1).toNat)):=by unfold D0c;rw[hd,List.all_cons]
    rw[e5,this,hb,Bool.and_assoc]⟩
  refine A0c (by simp[h0,hlt]) (A0c (A0g trivial) (A0b (fun hb=>A0b (fun he=>⟨rfl,lf _ ?_⟩) fun he=>⟨rfl,lf _ ?_⟩) fun hb=>⟨rfl,lf _ ?_⟩))
  ·rw[hb,he];rfl
  ·rw[he];simp
  ·rw[hb];rfl
 ·have hlt:=of_decide_eq_false hlt
  refine⟨rfl,?_⟩
  show some (AExit.exit 4,w4Vs a g s0 own ka x (b&&D0c g y (zs.drop i.toNat)) x1 ow n j,[tmO 0 (k1,n1,s1,l1,()),mpO (m,q),.arr (Cd.term:Cd) tt,tmO (a+1) (k2,n2,s2,l2,())])=_
  rw[A0N zs i h1 hlt]
  show some (AExit.exit 4,w4Vs a g s0 own ka x (b&&true) x1 ow n j,_)=_
  rw[Bool.and_true]
abbrev W2X:Type:=List Srt×Int×List Trm×Unit×Unit×Nat×Int×Int×List Trm×Int×Int×Unit
abbrev W2Y:Type:=D0j×(IntM×Nat)×List Trm×Unit
noncomputable def okY(g:List Srt)(zs:List Int)(y:Trm):Bool:=(decide (caE [y] 4000=0)&&(B0y y&&decide (0<(zs.length:Int))))&&D0c g y zs
noncomputable def ownL(g:List Srt)(zs:List Int)(x:Int):List Trm→List Trm→List Trm
 |[],tt=>tt
 |y::l,tt=>ownL g zs x l (if okY g zs y=true then tt.set x.toNat y else tt)
def w2V(m:IntM)(ow tt:List Trm)(ka:Nat)(x n j:Int):Prop:=n=(ow.length:Int)∧0≤j∧j≤(ow.length:Int)∧(ow.length:Int)≤1000∧ka=tt.length∧0≤x∧x<(tt.length:Int)∧(((m x).getD []).length:Int)≤1000000
noncomputable def w2(a:Nat):PSpec:=
 {body:=I0r [4] (B0e Tryz.f3 2),nt:=183,nx:=a+1,room:=64
  keep:=[(0,.d Cd.sort),(1,.i .i64),(3,.d Cd.term),(6,.p 0 0),(11,.mp 6),(12,.al Cd.term a),(13,.i .i64),(73,.i .i64),(80,.d Cd.term),(81,.i .i64),(82,.i .i64)]
  objs:=[(0,.cells B0O 25 0 0 [(0,0,4)]),(6,.map Cd.int Cd.ints),(a,.arr Cd.term)]
  keepX:=fun _=>[0,1,3,6,11,12,13,73],objsX:=fun _=>[0,6,a]
  inv:=fun(x:W2X)(y:W2Y)=>w2V y.2.1.1 x.2.2.2.2.2.2.2.2.1 y.2.2.1 x.2.2.2.2.2.1 x.2.2.2.2.2.2.1 x.2.2.2.2.2.2.2.2.2.1 x.2.2.2.2.2.2.2.2.2.2.1
  res:=fun(x:W2X)(y:W2Y)=>.leaf (.exit 2,[.dsl (Cd.sort:Cd) x.1,.si .i64 x.2.1,.dsl (Cd.term:Cd) x.2.2.1,.ptr 0 0,.map 6,.asl (Cd.term:Cd) a 0 x.2.2.2.2.2.1,.si .i64 x.2.2.2.2.2.2.1,.si .i64 x.2.2.2.2.2.2.2.1],
   [tmO 0 y.1,mpO y.2.1,.arr (Cd.term:Cd) (ownL x.1 ((y.2.1.1 x.2.2.2.2.2.2.1).getD []) x.2.2.2.2.2.2.1 (x.2.2.2.2.2.2.2.2.1.drop x.2.2.2.2.2.2.2.2.2.2.1.toNat) y.2.2.1)])}
noncomputable abbrev w2Vs(a:Nat)(g:List Srt)(s0:Int)(own:List Trm)(ka:Nat)(x x1:Int):List AVal:=[.dsl (Cd.sort:Cd) g,.si .i64 s0,.dsl (Cd.term:Cd) own,.ptr 0 0,.map 6,.asl (Cd.term:Cd) a 0 ka,.si .i64 x,.si .i64 x1]
theorem L0q(g:List Srt)(zs:List Int)(x:Int):∀(l tt:List Trm),(ownL g zs x l tt).length=tt.length
 |[],_=>rfl
 |
  y::l,tt=>by
  unfold ownL
  rw[L0q]
  split
  ·rw[List.length_set]
  ·rfl
theorem g0c(hG:grd2C.Kept Tryz.prog 9)(a:Nat)(ha:a=9):A0h Tryz.prog ((w2 a).loop [(4,(w4 a).loop [])]):=by
 refine G0D (mp:=mpsI) xs0 (ctc M0y (ctc hG ct0)) (lpc (g0g a ha) lp0) (w2 a) (fun(x:W2X) _=>((x.2.2.2.2.2.2.2.2.1.length:Int)-x.2.2.2.2.2.2.2.2.2.2.1).toNat) (by kernel_rfl) ?_
 intro xx yy hx
 obtain⟨g,s0,own,u1,u2,ka,x,x1,ow,n,j,u3⟩:W2X:=xx
 obtain⟨⟨k1,n1,s1,l1,u4⟩,⟨m,q⟩,tt,u5⟩:W2Y:=yy
 obtain⟨rfl,h0,h1,hm,rfl,hx0,hx1,hz⟩:w2V m ow tt ka x n j:=hx
 let z:Trm:=Univ.dflt (Cd.term:Cd)
 let y:Trm:=eT (ow.getD j.toNat z)
 let zs:List Int:=(m x).getD []
 let L (t':List Trm):Dt (Bool×AExit×List AVal×List AObj):=.leaf (true,.normal,[.dsl (Cd.sort:Cd) g,.si .i64 s0,.dsl (Cd.term:Cd) own,.ptr 0 0,.map 6,.asl (Cd.term:Cd) a 0 tt.length,.si .i64 x,.si .i64 x1,.dsl (Cd.term:Cd) ow,.si .i64 (ow.length:Int),.si .i64 (IntKind.i64.wrap (j+1))],
  [tmO 0 (k1,n1,s1,l1,()),mpO (m,q),.arr (Cd.term:Cd) t'])
 let K (b:Bool):Dt (Bool×AExit×List AVal×List AObj):=.ite (dec (w4V zs (zs.length:Int) 0)) (.ite (b&&D0c g y zs) (.ite (decide (0≤x)&&decide (x<(tt.length:Int))) (L (tt.set x.toNat y)) .fail) (L tt)) .fail
 refine A0A (t:=.ite (decide (j<(ow.length:Int))) (.ite (decide (0≤j)&&decide (j<(ow.length:Int))) (.ite (dec True) (.ite (decide (caE [y] 4000=0)) (.ite (decide (caE [y] 4000=0)&&B0y y) (K (decide (0<(zs.length:Int)))) (K false)) (K false)) .fail) .fail)
  (.leaf (true,.exit 2,w2Vs a g s0 own tt.length x x1,[tmO 0 (k1,n1,s1,l1,()),mpO (m,q),.arr (Cd.term:Cd) tt]))) (by subst ha;kernel_rfl) ?_
 refine A0b (fun hlt=>?_) (fun hlt=>?_)
 ·have hlt:=of_decide_eq_true hlt
  have hd:ow.drop j.toNat=y::ow.drop (j+1).toNat:=by
   show _=eT (ow.getD j.toNat z)::_
   rw[D0i];exact A0w ow j z h0 hlt
  have e5:IntKind.i64.wrap (j+1)=j+1:=A0C (by omega) (by omega)
  have lf:∀t':List Trm,t'=(if okY g zs y=true then tt.set x.toNat y else tt)→∃x' y',Pts.vals ((w2 a).keep.map (·.2)) x'=[AVal.dsl (Cd.sort:Cd) g,.si .i64 s0,.dsl (Cd.term:Cd) own,.ptr 0 0,.map 6,.asl (Cd.term:Cd) a 0 tt.length,.si .i64 x,.si .i64 x1,.dsl (Cd.term:Cd) ow,.si .i64 (ow.length:Int),.si .i64 (IntKind.i64.wrap (j+1))]∧
    Pos.obs ((w2 a).objs.map (·.2)) y'=[tmO 0 (k1,n1,s1,l1,()),mpO (m,q),.arr (Cd.term:Cd) t']∧(w2 a).inv x' y'∧(fun(x:W2X)(_:W2Y)=>((x.2.2.2.2.2.2.2.2.1.length:Int)-x.2.2.2.2.2.2.2.2.2.2.1).toNat) x' y'<((ow.length:Int)-j).toNat∧
    ((w2 a).res x' y').val=((w2 a).res (show W2X from(g,s0,own,u1,u2,tt.length,x,x1,ow,(ow.length:Int),j,u3)) (show W2Y from((k1,n1,s1,l1,u4),(m,q),tt,u5))).val:=fun t' ht=>
   have hlen:t'.length=tt.length:=by
    rw[ht];split
    ·rw[List.length_set]
    ·rfl
   ⟨(
    show W2X from(g,s0,own,(),(),tt.length,x,x1,ow,(ow.length:Int),IntKind.i64.wrap (j+1),())),(show W2Y from((k1,n1,s1,l1,()),(m,q),t',())),rfl,rfl,
    (show w2V m ow t' tt.length x (ow.length:Int) (IntKind.i64.wrap (j+1)) by rw[e5];exact⟨rfl,by omega,by omega,hm,hlen.symm,hx0,by omega,hz⟩),(show((ow.length:Int)-IntKind.i64.wrap (j+1)).toNat<((ow.length:Int)-j).toNat by rw[e5];omega),by
    show some (AExit.exit 2,w2Vs a g s0 own tt.length x x1,[tmO 0 (k1,n1,s1,l1,()),mpO (m,q),.arr (Cd.term:Cd) (ownL g zs x (ow.drop (IntKind.i64.wrap (j+1)).toNat) t')])=
     some (AExit.exit 2,w2Vs a g s0 own tt.length x x1,[tmO 0 (k1,n1,s1,l1,()),mpO (m,q),.arr (Cd.term:Cd) (ownL g zs x (ow.drop j.toNat) tt)])
    have :ownL g zs x (ow.drop j.toNat) tt=ownL g zs x (ow.drop (j+1).toNat) (if okY g zs y=true then tt.set x.toNat y else tt):=by rw[hd];rfl
    rw[e5,this,ht]⟩
  have hK:∀b:Bool,(b&&D0c g y zs)=okY g zs y→(K b).holds fun w=>w.1=true∧match w.2.1 with
   |
    .normal=>∃x' y',Pts.vals ((w2 a).keep.map (·.2)) x'=w.2.2.1∧Pos.obs ((w2 a).objs.map (·.2)) y'=w.2.2.2∧(w2 a).inv x' y'∧(fun(x:W2X)(_:W2Y)=>((x.2.2.2.2.2.2.2.2.1.length:Int)-x.2.2.2.2.2.2.2.2.2.2.1).toNat) x' y'<((ow.length:Int)-j).toNat∧
    ((w2 a).res x' y').val=((w2 a).res (show W2X from(g,s0,own,u1,u2,tt.length,x,x1,ow,(ow.length:Int),j,u3)) (show W2Y from((k1,n1,s1,l1,u4),(m,q),tt,u5))).val
   |e=>((w2 a).res (show W2X from(g,s0,own,u1,u2,tt.length,x,x1,ow,(ow.length:Int),j,u3)) (show W2Y from((k1,n1,s1,l1,u4),(m,q),tt,u5))).val=some (e,w.2.2):=fun b hb=>by
   refine A0c (A0g ⟨rfl,by omega,by omega,hz⟩) (A0b (fun h=>A0c (by simp[hx0,hx1]) ⟨rfl,lf _ ?_⟩) fun h=>⟨rfl,lf _ ?_⟩)
   ·rw[if_pos (by rw[←hb];exact h)]
   ·rw[if_neg (by rw[←hb,h];simp)]
  refine A0c (by simp[h0,hlt]) (A0c (A0g trivial) (A0b (fun hc=>A0b (fun hg=>hK _ ?_) fun hg=>hK _ ?_) fun hc=>hK _ ?_))
  ·rw[hc] at hg
   unfold okY;rw[hc,show B0y y=true by simpa using hg];rfl
  ·rw[hc] at hg
   unfold okY;rw[hc,show B0y y=false by simpa using hg];rfl
  ·unfold okY;rw[hc];rfl
 ·have hlt:=of_decide_eq_false hlt
  refine⟨rfl,?_⟩
  show some (AExit.exit 2,w2Vs a g s0 own tt.length x x1,[tmO 0 (k1,n1,s1,l1,()),mpO (m,q),.arr (Cd.term:Cd) (ownL g zs x (ow.drop j.toNat) tt)])=_
  rw[A0N ow j h1 hlt]
  rfl
noncomputable def toX(g:List Srt)(own:List Trm)(zs:List Int)(x:Int)(tt:List Trm):List Trm:=
 if((ownL g zs x own (tt++[B0u])).getD x.toNat B0u).kind=0∧(zs.length:Int)=1∧exE g (zs.getD 0 0)=0 then(ownL g zs x own (tt++[B0u])).set x.toNat (exT g (zs.getD 0 0)) else ownL g zs x own (tt++[B0u])
noncomputable def toL(g:List Srt)(own:List Trm)(m:IntM):Nat→Int→List Trm→List Trm
 |0,_,tt=>tt
 |k+1,x,tt=>toL g own m k (x+1) (toX g own ((m x).getD []) x tt)
theorem T0S(g:List Srt)(own:List Trm)(zs:List Int)(x:Int)(tt:List Trm):(toX g own zs x tt).length=tt.length+1:=by
 unfold toX
 split
 ·rw[List.length_set,L0q,List.length_append];rfl
 ·rw[L0q,List.length_append];rfl
abbrev W0A:Type:=(List Srt×Int×List Trm×Unit×Unit×Unit×Int×Unit)×(D0j×(IntM×Nat)×Unit×Unit)
abbrev W0B:Type:=(List Srt×Int×List Trm×Unit×Unit×Nat×Int×Unit)×(D0j×(IntM×Nat)×List Trm×Unit)
abbrev W0X:Type:=W0A ⊕ (W0B ⊕ Empty)
def w0V(g:List Srt)(own:List Trm)(m:IntM)(x:Int)(tt:List Trm):Prop:=okG g∧(own.length:Int)≤1000∧(∀z,(((m z).getD []).length:Int)≤1000000)∧x=(tt.length:Int)∧x≤20
def w0I:W0X→Prop
 |.inl ⟨⟨g,_,own,_,_,_,x,_⟩,_,⟨m,_⟩,_⟩=>w0V g own m x []
 |.inr (.inl ⟨⟨g,_,own,_,_,ka,x,_⟩,_,⟨m,_⟩,tt,_⟩)=>w0V g own m x tt∧ka=tt.length
 |.inr (.inr x)=>x.elim
noncomputable def w0Dt(g:List Srt)(s0:Int)(own:List Trm)(t:D0j)(m:IntM)(x:Int)(tt:List Trm):Dt (AExit×List AVal×List AObj):=
 .leaf (.exit 0,[.dsl (Cd.sort:Cd) g,.si .i64 s0,.ptr 0 0,.asl (Cd.term:Cd) 7 0 (toL g own m (20-x).toNat x tt).length],[tmO 0 t,.arr (Cd.term:Cd) (show List Trm from toL g own m (20-x).toNat x tt)])
noncomputable def f0W(x:W0X):Dt (AExit×List AVal×List AObj):=match x with
 |.inl ⟨⟨g,s0,own,_,_,_,x,_⟩,t,⟨m,_⟩,_⟩=>w0Dt g s0 own t m x []
 |.inr (.inl ⟨⟨g,s0,own,_,_,_,x,_⟩,t,⟨m,_⟩,tt,_⟩)=>w0Dt g s0 own t m x tt
 |.inr (.inr x)=>x.elim
def w0Mu:W0X→Nat
 |.inl ⟨⟨_,_,_,_,_,_,x,_⟩,_⟩=>(20-x).toNat
 |.inr (.inl ⟨⟨_,_,_,_,_,_,x,_⟩,_⟩)=>(20-x).toNat
 |.inr (.inr x)=>x.elim
noncomputable def w0:GL:=
 {body:=I0r [2] (B0e Tryz.f3 0),nt:=183,nx:=7,nxi:=8,room:=200,gro:=[(.slot 12,7)],keep:=[0,1,3,6,11,12,73],objs:=[0,6,7]
  ks:=[⟨[.d Cd.sort,.i .i64,.d Cd.term,.p 0 0,.mp 6,.nl,.i .i64],[.cells B0O 25 0 0 [(0,0,4)],.map Cd.int Cd.ints,.gone]⟩,
   ⟨[.d Cd.sort,.i .i64,.d Cd.term,.p 0 0,.mp 6,.al Cd.term 7,.i .i64],[.cells B0O 25 0 0 [(0,0,4)],.map Cd.int Cd.ints,.arr Cd.term]⟩]
  keepX:=fun _=>[0,1,6,12],objsX:=fun _=>[0,7]
  inv:=fun(x:W0X)=>w0I x,res:=fun(x:W0X)=>f0W x}
section
variable(g:List Srt)(s0:Int)(own:List Trm)(x:Int)(m:IntM)(q:Nat)(k1 n1:Int)(s1:ByteArray)(l1:List Trm)
noncomputable def w0L(ka:Nat)(t':List Trm):Da (Bool×AExit×List AVal×List AObj):=.leaf (true,.normal,[.dsl (Cd.sort:Cd) g,.si .i64 s0,.dsl (Cd.term:Cd) own,.ptr 0 0,.map 6,.asl (Cd.term:Cd) 7 0 ka,.si .i64 (IntKind.i64.wrap (x+1))],
 [tmO 0 (k1,n1,s1,l1,()),mpO (m,q),.arr (Cd.term:Cd) t'])
noncomputable def w0R(ka:Nat)(t1:List Trm):Da (Bool×AExit×List AVal×List AObj):=
 let zs:List Int:=(m x).getD []
 let o:List Trm:=ownL g zs x own t1
 .ite (dec (w2V m own t1 ka x (own.length:Int) 0)) (.ite (decide (0≤x)&&decide (x<(ka:Int))) (.ite (decide ((o.getD x.toNat B0u).kind=0)) (.ite (decide ((zs.length:Int)=1)) (.ite (decide ((0:Int)≤0)&&decide ((0:Int)<(zs.length:Int)))
  (.ite (dec (okG g)) (.ite (decide (exE g (zs.getD 0 0)=0)) (.ite (decide (0≤x)&&decide (x<(ka:Int))) (w0L g s0 own x m q k1 n1 s1 l1 ka (o.set x.toNat (eT (exT g (zs.getD 0 0))))) .fail) (w0L g s0 own x m q k1 n1 s1 l1 ka o)) .fail) .fail)
  (w0L g s0 own x m q k1 n1 s1 l1 ka o)) (w0L g s0 own x m q k1 n1 s1 l1 ka o)) .fail) .fail
def w0G(r:W0X)(w:Bool×AExit×List AVal×List AObj):Prop:=w.1=true∧match w.2.1 with
 |.normal=>∃y,GKs.vals w0.ks y=w.2.2.1∧GKs.obs w0.ks y=w.2.2.2∧w0.inv y∧w0Mu y<w0Mu r∧(w0.res y).val=(w0.res r).val
 |e=>(w0.res r).val=some (e,w.2.2)
theorem c0d(r:W0X)(tt:List Trm)(hV:w0V g own m x tt)(hlt:x<20)(hmu:w0Mu r=(20-x).toNat)(hres:(w0.res r).val=(w0Dt g s0 own (k1,n1,s1,l1,()) m x tt).val):
  (w0R g s0 own x m q k1 n1 s1 l1 (tt.length+1) (tt++[B0u])).holds (w0G r):=by
 obtain⟨hg,ho,hm,hx,_⟩:=hV
 have e5:IntKind.i64.wrap (x+1)=x+1:=A0C (by omega) (by omega)
 have hn:(20-x).toNat=(20-(x+1)).toNat+1:=by omega
 have lf:∀t':List Trm,t'=toX g own ((m x).getD []) x tt→(w0L g s0 own x m q k1 n1 s1 l1 (tt.length+1) t').holds (w0G r):=by
  intro t' ht
  have hl:t'.length=tt.length+1:=by rw[ht,T0S]
  refine⟨rfl,(show W0X from .inr (.inl ((g,s0,own,(),(),tt.length+1,IntKind.i64.wrap (x+1),()),(k1,n1,s1,l1,()),(m,q),t',()))),rfl,rfl,?_,?_,?_⟩
  ·show w0V g own m (IntKind.i64.wrap (x+1)) t'∧tt.length+1=t'.length
   rw[e5]
   exact⟨⟨hg,ho,hm,by omega,by omega⟩,hl.symm⟩
  ·show(20-IntKind.i64.wrap (x+1)).toNat<w0Mu r
   rw[e5,hmu];omega
  ·rw[hres]
   show(w0Dt g s0 own (k1,n1,s1,l1,()) m (IntKind.i64.wrap (x+1)) t').val=(w0Dt g s0 own (k1,n1,s1,l1,()) m x tt).val
   have :toL g own m (20-x).toNat x tt=toL g own m (20-(x+1)).toNat (x+1) t':=by rw[hn,ht];rfl
   unfold w0Dt
   rw[e5,this]
 unfold w0R
 have hka:((tt.length+1:Nat):Int)=x+1:=by omega
 refine A0t (A0g ⟨rfl,by omega,by omega,ho,by simp,by omega,by simp;omega,hm x⟩) (A0t (by simp;omega) (A0Q (fun h1=>A0Q (fun h2=>?_) fun h2=>lf _ ?_) fun h1=>lf _ ?_))
 ·have h2:=of_decide_eq_true h2
  refine A0t (by simp;omega) (A0t (A0g hg) (A0Q (fun h3=>A0t (by simp;omega) (lf _ ?_)) fun h3=>lf _ ?_))
  ·rw[D0i]
   unfold toX;rw[if_pos ⟨of_decide_eq_true h1,h2,of_decide_eq_true h3⟩]
  ·unfold toX;rw[if_neg fun h=>of_decide_eq_false h3 h.2.2]
 ·unfold toX;rw[if_neg fun h=>of_decide_eq_false h2 h.2.1]
 ·unfold toX;rw[if_neg fun h=>of_decide_eq_false h1 h.1]
end
theorem g0n(hG:grd2C.Kept Tryz.prog 9):A0h Tryz.prog (w0.loop [(2,(w2 9).loop [(4,(w4 9).loop [])])]):=by
 refine W0k (mp:=mpsI) xs0 (ctc a0o ct0) (lpc (g0c hG 9 rfl) lp0) w0 w0Mu (by kernel_rfl) ?_
 intro(xx:W0X)(hx:w0I xx)
 rcases xx with⟨⟨g,s0,own,u1,u2,u3,x,u4⟩,⟨k1,n1,s1,l1,u5⟩,⟨m,q⟩,u6,u7⟩|⟨⟨g,s0,own,u1,u2,ka,x,u4⟩,⟨k1,n1,s1,l1,u5⟩,⟨m,q⟩,tt,u7⟩|xx
 ·have hV:w0V g own m x []:=hx
  have hx0:x=0:=hV.2.2.2.1
  refine H0f (t:=.ite (decide (x<20)) (.ite (decide ([B0u].length≤1000000)) (w0R g s0 own x m q k1 n1 s1 l1 1 [B0u]) .fail) (.leaf (true,.exit 0,[.dsl (Cd.sort:Cd) g,.si .i64 s0,.ptr 0 0,.nils],[tmO 0 (k1,n1,s1,l1,()),.done]))) (by kernel_rfl) ?_
  refine A0Q (fun h=>A0t (by simp) ?_) fun h=>?_
  ·exact c0d g s0 own x m q k1 n1 s1 l1 _ [] hV (of_decide_eq_true h) rfl rfl
  ·have :=of_decide_eq_false h;omega
 ·obtain⟨hV,rfl⟩:w0V g own m x tt∧ka=tt.length:=hx
  have hx1:=hV.2.2.2.1
  have hx2:=hV.2.2.2.2
  refine H0f (t:=.ite (decide (x<20)) (.ite (decide (tt.length=tt.length)&&decide (tt.length+[B0u].length≤1000000)) (w0R g s0 own x m q k1 n1 s1 l1 (tt.length+1) (tt++[B0u])) .fail)
   (.leaf (true,.exit 0,[.dsl (Cd.sort:Cd) g,.si .i64 s0,.ptr 0 0,.asl (Cd.term:Cd) 7 0 tt.length],[tmO 0 (k1,n1,s1,l1,()),.arr (Cd.term:Cd) tt]))) (by kernel_rfl) ?_
  refine A0Q (fun h=>A0t (by simp;omega) ?_) fun h=>?_
  ·exact c0d g s0 own x m q k1 n1 s1 l1 _ tt hV (of_decide_eq_true h) rfl rfl
  ·have :=of_decide_eq_false h
   refine⟨rfl,?_⟩
   show(w0Dt g s0 own (k1,n1,s1,l1,()) m x tt).val=_
   unfold w0Dt
   rw[show(20-x).toNat=0 by omega]
   rfl
 ·exact xx.elim
end Go.Proofs.YtibaljifcbpmoaaGreatDoor
namespace Go.Proofs.YtibaljifcbpmoaaGreatDoor
open Go Go.Ev Go.Proofs
set_option maxRecDepth 100000
theorem e0N{g:List Srt}{i:Int}(hg:B0l g=true)(hi:inG g i):askE g i=0:=by
 unfold askE errG inG at *
 rw[if_pos hg,if_pos rfl,if_neg (by omega),if_pos (by omega)]
theorem d0m{g:List Srt}{i:Int}(h:exE g i=0):fitT g (exT g i) i=true:=by
 have ha:askE g i=0:=by
  by_cases q:askE g i=0
  ·exact q
  ·unfold exE at h;rw[if_neg q] at h;exact h
 obtain⟨hg,hi⟩:=V0c ha
 unfold exT
 rw[if_pos h]
 unfold exE at h
 rw[if_pos ha] at h
 cases hq:exO g i with
 |none=>rw[hq] at h;simp at h
 |
  some x=>
  obtain⟨_,⟨s1,s2⟩,s3,s4,s5⟩:=Q0L hg i x hq
  exact s5
theorem X0T{n:Int}{a:ByteArray}{l:List Trm}(h:C0O 1 n a l=true):0≤n:=by
 unfold C0O at h
 rw[if_pos rfl] at h
 unfold Q0Z at h
 simp at h;omega
theorem Z0E{n:Int}{a:ByteArray}{l:List Trm}(h:C0O 3 n a l=true):l=[]:=by
 unfold C0O at h
 rw[if_neg (by decide),if_neg (by decide),if_pos rfl] at h
 unfold J0S at h
 rw[Bool.and_eq_true,Bool.and_eq_true] at h
 have :=h.2.1
 unfold noL at this
 have :=of_decide_eq_true this
 exact List.length_eq_zero_iff.1 (by omega)
theorem M0e(k:Int)(s:ByteArray)(len:Int):∀(cs:List A0n)(args:List Int),(∀d∈cs,keyB s len d=false)→E0d k s len cs args=args
 |[],_,_=>rfl
 |
  c::cs,args,h=>by
  show E0d k s len cs (if k≠6∧c.name=s∧c.arity=len then c.args else args)=args
  have :=h c (by simp)
  rw[if_neg (fun q=>by unfold keyB at this;simp[q.2.1,q.2.2] at this)]
  exact M0e k s len cs args fun d hd=>h d (by simp[hd])
theorem O0F(s:ByteArray)(len:Int):∀(cs:List A0n)(args:List Int),E0d 6 s len cs args=args
 |[],_=>rfl
 |
  c::cs,args=>by
  show E0d 6 s len cs (if(6:Int)≠6∧c.name=s∧c.arity=len then c.args else args)=args
  rw[if_neg (fun q=>q.1 rfl)]
  exact O0F s len cs args
theorem N0d{k:Int}(hk:k≠6)(s:ByteArray)(len:Int):∀(cs:List A0n)(args:List Int)(c:A0n),I0Z cs→T0f cs s len=some c→E0d k s len cs args=c.args
 |[],_,_,_,h=>by cases h
 |
  d::cs,args,c,hs,h=>by
  unfold T0f at h
  rw[List.find?_cons] at h
  obtain⟨h1,h2⟩:=List.pairwise_cons.1 hs
  show E0d k s len cs (if k≠6∧d.name=s∧d.arity=len then d.args else args)=c.args
  cases hd:keyB s len d with
  |
   true=>
   rw[hd] at h
   cases h
   have hd':=hd
   unfold keyB at hd'
   simp at hd'
   rw[if_pos ⟨hk,hd'.1,hd'.2⟩]
   refine M0e k s len cs _ fun e he=>?_
   cases q:keyB s len e with
   |false=>rfl
   |
    true=>
    have h3:=h1 e he
    rw[←I0U q,S0U hd] at h3;cases h3
  |
   false=>
   rw[hd] at h
   rw[if_neg (fun q=>by unfold keyB at hd;simp[q.2.1,q.2.2] at hd)]
   exact N0d hk s len cs args c h2 h
def d0F(y:SpM)(M:IntM):Prop:=∀v z,z∈(y.1 v).getD []→z∈(M v).getD []
theorem W0D{y:SpM}{n s v z:Int}(h:z∈(y.1 v).getD []):z∈((W0c y n s).1 v).getD []:=by
 unfold W0c
 show z∈(updM y.1 n ((y.1 n).getD []++[s]) v).getD []
 by_cases e:v=n
 ·subst e;rw[G0a];show z∈(y.1 v).getD []++[s];simp[h]
 ·rw[E0y e];exact h
mutual
theorem a0J(g:List Srt)(s:Int):∀(t:Trm)(y:SpM)(v z:Int),z∈(y.1 v).getD []→z∈((spT g s t y).1 v).getD []
 |
  ⟨k,n,a,l⟩,y,v,z,h=>by
  unfold spT
  split
  ·exact W0D h
  ·exact L0g g k _ l 0 y v z h
theorem L0g(g:List Srt)(k:Int)(args:List Int):∀(l:List Trm)(i:Nat)(y:SpM)(v z:Int),z∈(y.1 v).getD []→z∈((spL g k args l i y).1 v).getD []
 |[],_,y,v,z,h=>by unfold spL;exact h
 |
  x::l,i,y,v,z,h=>by
  rw[J0e]
  refine L0g g k args l (i+1) _ v z ?_
  split
  ·exact a0J g _ x y v z h
  ·exact h
end
theorem Q0l(ys:List Int)(i:Nat):(ys.drop i).headD 0=ys.getD i 0:=by
 rw[List.headD_eq_head?_getD,List.head?_drop,List.getD_eq_getElem?_getD]
theorem O0H(ys:List Int)(i:Nat):(ys.drop i).tail=ys.drop (i+1):=by rw[List.tail_drop]
section
variable{g:List Srt}{M:IntM}{f:Int→Option Trm}
mutual
theorem X0Y(hg:B0l g=true)(H:∀v z x,0≤v→z∈(M v).getD []→f v=some x→fitT g x z=true):
  ∀(t:Trm)(s:Int)(y:SpM)(left:Int),inG g s→C0V t=true→d0F (spT g s t y) M→fitT g t s=true→0≤(rplT f t left).2→fitT g (rplT f t left).1 s=true
 |
  ⟨k,n,a,l⟩,s,y,left,hs,hw,hy,hfit,hl=>by
  unfold C0V at hw
  rw[Bool.and_eq_true] at hw
  have hr:=E0g hg hs
  obtain⟨_,_,r3,r4⟩:=D0r hr
  by_cases hk:k=1
  ·subst hk
   have hn:0≤n:=X0T hw.1
   unfold rplT at hl⊢
   rw[if_pos rfl] at hl⊢
   cases hx:f n with
   |
    some x=>
    refine H n s x hn (hy n s ?_) hx
    unfold spT
    rw[if_pos rfl]
    unfold W0c
    show s∈(updM y.1 n ((y.1 n).getD []++[s]) n).getD []
    rw[G0a];show s∈(y.1 n).getD []++[s];simp
   |
    none=>
    show fitT g ⟨1,n,a,_⟩ s=true
    unfold fitT;rw[if_pos rfl]
  ·have e:rplT f ⟨k,n,a,l⟩ left=(⟨k,n,a,(rplL f l (left-1)).1⟩,(rplL f l (left-1)).2):=by
    conv=>lhs;unfold rplT
    rw[if_neg hk]
   rw[e] at hl⊢
   unfold spT at hy
   rw[if_neg hk] at hy
   have hl:0≤(rplL f l (left-1)).2:=hl
   show fitT g ⟨k,n,a,(rplL f l (left-1)).1⟩ s=true
   unfold fitT at hfit⊢
   rw[if_neg hk] at hfit⊢
   by_cases h2:k=2
   ·rw[if_pos h2] at hfit⊢;exact hfit
   rw[if_neg h2] at hfit⊢
   by_cases h4:k=4
   ·rw[if_pos h4] at hfit⊢;exact hfit
   rw[if_neg h4] at hfit⊢
   by_cases h6:k=6
   ·rw[if_pos h6] at hfit⊢
    rw[Bool.and_eq_true] at hfit⊢
    subst h6
    rw[O0F] at hy
    have h1:(gAt g s).vec.length=1:=by have :=of_decide_eq_true hfit.1;omega
    have hv:inG g ((gAt g s).vec.getD 0 0):=by
     refine r3 _ ?_
     rw[List.getD_eq_getElem?_getD,List.getElem?_eq_getElem (by omega)]
     exact List.getElem_mem _
    exact⟨hfit.1,b0U hg H l _ 0 y (left-1) h1 hv hw.2 hy hfit.2 hl⟩
   rw[if_neg h6] at hfit⊢
   have hso:=G0J hg hs
   have hfe:=O0R hso a (l.length:Int)
   by_cases hfd:C0e (gAt g s).cases a (l.length:Int)=true
   ·rw[if_pos hfd] at hfit hfe
    have hc:=hfe.symm
    have hmem:F0K (gAt g s).cases a (l.length:Int)∈(gAt g s).cases:=List.mem_of_find?_eq_some hc
    have hkey:=List.find?_some hc
    have hkey:decide ((F0K (gAt g s).cases a (l.length:Int)).name=a)=true∧decide ((F0K (gAt g s).cases a (l.length:Int)).arity=(l.length:Int))=true:=by
     unfold keyB at hkey;rw[Bool.and_eq_true] at hkey;exact hkey
    have har:=of_decide_eq_true hkey.2
    obtain⟨ha1,ha2⟩:=r4 _ hmem
    rw[N0d h6 a (l.length:Int) (gAt g s).cases _ _ hso hc] at hy
    generalize hca:F0K (gAt g s).cases a (l.length:Int)=c at *
    obtain⟨q1,q2⟩:=Z0R hg H h6 c.args ha2 l 0 y (left-1) (by omega) hw.2 hy (by simpa using hfit) hl
    rw[q2,if_pos hfd,hca]
    simpa using q1
   ·rw[if_neg hfd] at hfit
    have h3:k=3:=by rw[Bool.and_eq_true] at hfit;exact of_decide_eq_true hfit.1
    subst h3
    have :=Z0E hw.1
    subst this
    rw[I0I]
    show(if C0e (gAt g s).cases a (([]:List Trm).length:Int)=true then _ else _)=true
    rw[if_neg hfd];exact hfit
theorem b0U(hg:B0l g=true)(H:∀v z x,0≤v→z∈(M v).getD []→f v=some x→fitT g x z=true):
  ∀(l:List Trm)(args:List Int)(i:Nat)(y:SpM)(left:Int),args.length=1→inG g (args.getD 0 0)→E0L l=true→d0F (spL g 6 args l i y) M→fitA g l (args.getD 0 0)=true→0≤(rplL f l left).2→fitA g (rplL f l left).1 (args.getD 0 0)=true
 |[],args,i,y,left,h1,hv,hw,hy,hfit,hl=>by rw[I0I];exact hfit
 |
  x::l,args,i,y,left,h1,hv,hw,hy,hfit,hl=>by
  unfold E0L at hw
  rw[Bool.and_eq_true] at hw
  unfold fitA at hfit
  rw[Bool.and_eq_true] at hfit
  rw[J0e,if_pos (by show(if(6:Int)=6 then 0 else i)<args.length;rw[if_pos rfl];omega),show spAt 6 i=0 from if_pos rfl] at hy
  by_cases c:left<0
  ·rw[E0J f _ c] at hl
   have hl:0≤left:=hl
   omega
  rw[G0Q f x l c] at hl⊢
  have hl:0≤(rplL f l (rplT f x left).2).2:=hl
  have hx:0≤(rplT f x left).2:=by
   by_cases d:(rplT f x left).2<0
   ·rw[E0J f _ d] at hl;exact hl
   ·omega
  have t1:=X0Y hg H x (args.getD 0 0) y left hv hw.1 (fun v z hz=>hy v z (L0g g 6 args l (i+1) _ v z hz)) hfit.1 hx
  have t2:=b0U hg H l args (i+1) _ (rplT f x left).2 h1 hv hw.2 hy hfit.2 hl
  show fitA g ((rplT f x left).1::(rplL f l (rplT f x left).2).1) _=true
  unfold fitA
  rw[t1,t2];rfl
theorem Z0R(hg:B0l g=true)(H:∀v z x,0≤v→z∈(M v).getD []→f v=some x→fitT g x z=true){k:Int}(h6:k≠6)(args:List Int)(ha:∀z∈args,inG g z):
  ∀
   (l:List Trm) (i:Nat) (y:SpM) (left:Int),(i:Int)+(l.length:Int)=(args.length:Int)→E0L l=true→d0F (spL g k args l i y) M→E0D g l (args.drop i)=true→0≤(rplL f l left).2→
   E0D g (rplL f l left).1 (args.drop i)=true∧(rplL f l left).1.length=l.length
 |[],i,y,left,hi,hw,hy,hfit,hl=>by rw[I0I];exact⟨hfit,rfl⟩
 |
  x::l,i,y,left,hi,hw,hy,hfit,hl=>by
  unfold E0L at hw
  rw[Bool.and_eq_true] at hw
  unfold E0D at hfit
  rw[Bool.and_eq_true,Q0l,O0H] at hfit
  have hlen:((x::l).length:Int)=(l.length:Int)+1:=by simp
  rw[hlen] at hi
  have hat:spAt k i=i:=if_neg h6
  rw[J0e,hat,if_pos (by omega)] at hy
  have hin:inG g (args.getD i 0):=by
   refine ha _ ?_
   rw[List.getD_eq_getElem?_getD,List.getElem?_eq_getElem (by omega)]
   exact List.getElem_mem _
  by_cases c:left<0
  ·rw[E0J f _ c] at hl
   have hl:0≤left:=hl
   omega
  rw[G0Q f x l c] at hl⊢
  have hl:0≤(rplL f l (rplT f x left).2).2:=hl
  have hx:0≤(rplT f x left).2:=by
   by_cases d:(rplT f x left).2<0
   ·rw[E0J f _ d] at hl;exact hl
   ·omega
  have t1:=X0Y hg H x (args.getD i 0) y left hin hw.1 (fun v z hz=>hy v z (L0g g k args l (i+1) _ v z hz)) hfit.1 hx
  obtain⟨t2,t3⟩:=Z0R hg H h6 args ha l (i+1) _ (rplT f x left).2 (by omega) hw.2 hy hfit.2 hl
  refine⟨?_,?_⟩
  ·show E0D g ((rplT f x left).1::(rplL f l (rplT f x left).2).1) _=true
   unfold E0D
   rw[Q0l,O0H,t1,t2];rfl
  ·show((rplT f x left).1::(rplL f l (rplT f x left).2).1).length=_
   rw[List.length_cons,t3,List.length_cons]
end
end
def X0l(g:List Srt)(zs:List Int)(u:Trm):Prop:=u=B0u∨∀z∈zs,fitT g u z=true
theorem a0F{g:List Srt}{zs:List Int}{y:Trm}(h:okY g zs y=true):X0l g zs y:=by
 right
 intro z hz
 unfold okY D0c at h
 rw[Bool.and_eq_true,List.all_eq_true] at h
 have :=h.2 z hz
 rw[Bool.and_eq_true] at this
 have :=this.2
 unfold F0P at this
 rw[Bool.and_eq_true] at this
 exact this.2
theorem I0M(l:List Trm)(n:Nat)(y d:Trm)(h:n<l.length):(l.set n y).getD n d=y:=by
 rw[List.getD_eq_getElem?_getD,List.getElem?_set,if_pos rfl,if_pos h];rfl
theorem getD_set_ne(l:List Trm)(n j:Nat)(y d:Trm)(h:j≠n):(l.set n y).getD j d=l.getD j d:=by
 rw[List.getD_eq_getElem?_getD,List.getElem?_set,if_neg (fun q=>h q.symm),List.getD_eq_getElem?_getD]
theorem L0R(g:List Srt)(zs:List Int)(x:Int):∀(l tt:List Trm),x.toNat<tt.length→X0l g zs (tt.getD x.toNat B0u)→X0l g zs ((ownL g zs x l tt).getD x.toNat B0u)∧∀j,j≠x.toNat→(ownL g zs x l tt).getD j B0u=tt.getD j B0u
 |[],tt,_,h=>⟨h,fun _ _=>rfl⟩
 |
  y::l,tt,hx,h=>by
  unfold ownL
  by_cases c:okY g zs y=true
  ·rw[if_pos c]
   obtain⟨h1,h2⟩:=L0R g zs x l (tt.set x.toNat y) (by rw[List.length_set];exact hx) (by rw[I0M _ _ _ _ hx];exact a0F c)
   exact⟨h1,fun j hj=>by rw[h2 j hj,getD_set_ne _ _ _ _ _ hj]⟩
  ·rw[if_neg c]
   exact L0R g zs x l tt hx h
theorem a0w(g:List Srt)(own:List Trm)(zs:List Int)(x:Int)(tt:List Trm)(hx:x=(tt.length:Int)):X0l g zs ((toX g own zs x tt).getD x.toNat B0u)∧∀j,j<tt.length→(toX g own zs x tt).getD j B0u=tt.getD j B0u:=by
 have hn:x.toNat=tt.length:=by omega
 have hl:x.toNat<(tt++[B0u]).length:=by rw[List.length_append,hn];simp
 have hlast:(tt++[B0u]).getD x.toNat B0u=B0u:=by
  rw[List.getD_eq_getElem?_getD,hn,List.getElem?_append_right (Nat.le_refl _)];simp
 obtain⟨h1,h2⟩:=L0R g zs x own (tt++[B0u]) hl (.inl hlast)
 have hold:∀j,j<tt.length→(ownL g zs x own (tt++[B0u])).getD j B0u=tt.getD j B0u:=fun j hj=>by
  rw[h2 j (by omega),List.getD_eq_getElem?_getD,List.getElem?_append_left hj,List.getD_eq_getElem?_getD]
 unfold toX
 split
 ·rename_i c
  obtain⟨_,c2,c3⟩:=c
  refine⟨?_,fun j hj=>by rw[getD_set_ne _ _ _ _ _ (by omega)];exact hold j hj⟩
  rw[I0M _ _ _ _ (by rw[L0q];exact hl)]
  right
  intro z hz
  have hz1:zs.length=1:=by omega
  obtain⟨a,rfl⟩:=List.length_eq_one_iff.1 hz1
  rw[List.mem_singleton.1 hz]
  exact d0m c3
 ·exact⟨h1,hold⟩
theorem U0X(g:List Srt)(own:List Trm)(m:IntM):∀(k:Nat)(x:Int)(tt:List Trm),x=(tt.length:Int)→(∀j:Nat,j<tt.length→X0l g ((m (j:Int)).getD []) (tt.getD j B0u))→
  ∀j:Nat,j<(toL g own m k x tt).length→X0l g ((m (j:Int)).getD []) ((toL g own m k x tt).getD j B0u)
 |0,x,tt,_,h=>h
 |
  k+1,x,tt,hx,h=>by
  have hlen:=T0S g own ((m x).getD []) x tt
  obtain⟨h1,h2⟩:=a0w g own ((m x).getD []) x tt hx
  refine U0X g own m k (x+1) (toX g own ((m x).getD []) x tt) (by rw[hlen];omega) fun j hj=>?_
  rw[hlen] at hj
  by_cases c:j=tt.length
  ·have e1:x.toNat=j:=by omega
   have e2:(j:Int)=x:=by omega
   rw[e1] at h1
   rw[e2];exact h1
  ·rw[h2 j (by omega)]
   exact h j (by omega)
theorem U0c{g:List Srt}{s:Int}{t:Trm}{own:List Trm}(hf:F0P g s t=true)(he:(sbsV t (toL g own (spT g s t (fun _=>none,0)).1 20 0 [])).2=0):
  E0o g s (sbsV t (toL g own (spT g s t (fun _=>none,0)).1 20 0 [])).1=0∧F0P g s (sbsV t (toL g own (spT g s t (fun _=>none,0)).1 20 0 [])).1=true:=by
 have hgood:=U0X g own (spT g s t (fun _=>none,0)).1 20 0 [] rfl fun j hj=>by cases hj
 generalize hto:toL g own (spT g s t (fun _=>none,0)).1 20 0 []=to at *
 unfold F0P at hf
 rw[Bool.and_eq_true] at hf
 have hE:=of_decide_eq_true hf.1
 have hT:=hf.2
 have ha:askE g s=0:=by
  by_cases q:askE g s=0
  ·exact q
  ·unfold E0o at hE;rw[if_neg q] at hE;exact hE
 obtain⟨hg,hi⟩:=V0c ha
 have ht:errT t=0:=by unfold E0o at hE;rw[if_pos ha] at hE;exact hE
 obtain⟨_,hwell,_⟩:=N0K ht
 unfold sbsV at he⊢
 rw[if_pos ht] at he⊢
 by_cases hs:P0h to=true
 case neg=>
  rw[if_neg hs] at he
  exact absurd he (by decide)
 rw[if_pos hs] at he⊢
 unfold rpdV at he⊢
 by_cases hn:(rplT (putV to) t 4000).2<0
 ·rw[if_pos hn] at he
  exact absurd he (by decide)
 rw[if_neg hn] at he⊢
 unfold limV at he⊢
 by_cases hr:errT (rplT (putV to) t 4000).1=0
 case neg=>
  rw[if_neg hr] at he
  exact absurd he (by decide)
 rw[if_pos hr]
 have hfin:fitT g (rplT (putV to) t 4000).1 s=true:=by
  refine X0Y (M:=(spT g s t (fun _=>none,0)).1) hg (fun v z x hv hz hx=>?_) t s (fun _=>none,0) 4000 hi hwell (fun v z h=>h) hT (by omega)
  unfold putV at hx
  split at hx
  ·rename_i c
   cases hx
   rcases hgood v.toNat (by omega) with q|q
   ·rw[q] at c;exact absurd c.2 (by decide)
   ·refine q z ?_
    rw[show((v.toNat:Nat):Int)=v by omega];exact hz
  ·cases hx
 have h1:E0o g s (rplT (putV to) t 4000).1=0:=by unfold E0o;rw[if_pos ha];exact hr
 exact⟨h1,by unfold F0P;rw[h1,hfin];rfl⟩
end Go.Proofs.YtibaljifcbpmoaaGreatDoor

namespace Go.Proofs.YtibaljifcbpmoaaGreatDoor
open Go Go.Ev Go.Proofs
theorem ks0:∀p∈([]:List (FuncId×FSpec)),p.2.Kept Tryz.prog p.1:=fun _ h=>by cases h
theorem ksc{f:FuncId}{S:FSpec}{ks:List (FuncId×FSpec)}(h:S.Kept Tryz.prog f)(t:∀p∈ks,p.2.Kept Tryz.prog p.1):∀p∈(f,S)::ks,p.2.Kept Tryz.prog p.1:=fun p hp=>by
 rcases List.mem_cons.1 hp with e|e
 ·subst e;exact h
 ·exact t p e
theorem e0I{mp:Mps}{ks:List (FuncId×FSpec)}{ws:List (FuncId×XSpec)}{cs:List (FuncId×List FSpec)}{ls:List (Nat×B0s)}(hk:∀p∈ks,p.2.Kept Tryz.prog p.1)(hw:∀p∈ws,p.2.Kept Tryz.prog p.1)(hc:∀p∈cs,∀S∈p.2,S.Kept Tryz.prog p.1)(hl:∀p∈ls,A0h Tryz.prog p.2)
  (S:FSpec) (f:FuncId) (F:Func) (ids:List Nat) (hmk:mkFn Tryz.prog f=some (.code (A0u ls (cd F ids)) F.ntmps F.results.toList)) (hc':A0M (cd F ids)=true) (k:Pt)
  (h:∀x,S.pre x→Hd (S.run (envS Tryz.prog mp ks ws cs ls) (cd F ids) F.ntmps F.results.toList 60 x) fun q=>q.1=true∧(S.res x).val=some (k.nz q.2)):S.Kept Tryz.prog f:=
 FSpec.keptS D0N A0T mp ks ws cs ls hk hw hc hl S 60 (cd F ids) hmk hc' k fun x hx=>(h x hx).out
end Go.Proofs.YtibaljifcbpmoaaGreatDoor

namespace Go.Proofs.YtibaljifcbpmoaaGreatDoor
open Go Go.Ev Go.Proofs
set_option maxRecDepth 100000
theorem Z0j(g:List Srt)(own:List Trm)(m:IntM):∀(k:Nat)(x:Int)(tt:List Trm),(toL g own m k x tt).length=tt.length+k
 |0,_,tt=>rfl
 |
  k+1,x,tt=>by
  show(toL g own m k (x+1) (toX g own ((m x).getD []) x tt)).length=_
  rw[Z0j g own m k,T0S];omega
theorem Z0X{g:List Srt}(hl:E0X g)(h:E0f g=true):okG g:=by
 unfold E0f at h
 rw[Bool.and_eq_true] at h
 refine⟨hl.1,fun s hs=>⟨hl.2 s hs,fun c hc=>?_⟩⟩
 have hw:=M0E h.1 s hs c hc
 unfold I0k at hw
 simp only[Bool.or_eq_false_iff,decide_eq_false_iff_not] at hw
 unfold R0U
 omega
theorem c0K(o:Option (List Int)):Option.map spTop.emb o=o:=by cases o<;>rfl
noncomputable def lawI:FSpec:=⟨[.d Cd.sort,.i .i64,.agg B0O,.d Cd.term],fun(x:List Srt×Int×TrmY×List Trm×Unit)=>E0X x.1∧lenT (C0I x.2.2.1)∧P0V x.2.2.2.1,fun _=>.leaf (.sb true)⟩
theorem X0L(hG:grd2C.Kept Tryz.prog 9):lawI.Kept Tryz.prog 3:=by
 have hL:∀p∈[(0,w0.loop [(2,(w2 9).loop [(4,(w4 9).loop [])])])],A0h Tryz.prog p.2:=lpc (g0n hG) lp0
 have hmk:mkFn Tryz.prog 3=some (.code (A0u [(0,w0.loop [(2,(w2 9).loop [(4,(w4 9).loop [])])])] (cd Tryz.f3 [0])) Tryz.f3.ntmps Tryz.f3.results.toList):=by kernel_rfl
 refine e0I (mp:=mpsI) (ksc a0P ks0) (xsc (X:=.t spTop) W0f xs0) (ctc Z0G (ctc d0E (ctc d0A (ctc M0y ct0)))) hL lawI 3 Tryz.f3 [0] hmk (by kernel_rfl) .b ?_
 intro(xx:List Srt×Int×TrmY×List Trm×Unit)hx
 obtain⟨g,s0,⟨k,n,s,l,u1⟩,own,u2⟩:=xx
 let t:Trm:=⟨k,n,s,l⟩
 obtain⟨hg,ht,ho⟩:E0X g∧lenT t∧P0V own:=hx
 let m:IntM:=fun q=>Option.map spTop.emb ((spT g s0 t (fun _=>none,0)).1 q)
 let to:List Trm:=subL (toL g own m 20 0 []) 0 (toL g own m 20 0 []).length
 let y:Trm:=(sbsV t to).1
 let yes:Dt (Bool×AVal):=.leaf (true,.sb true)
 refine A0A (t:=.ite (dec True) (.ite (!true) (.leaf (true,.sb false)) (.ite (dec ((∀h∈[g],E0X h)∧[g].length≤maxL∧[s0].length=[g].length)) (.ite (!M0l [g] [s0]) yes
  (.ite (dec ((∀h∈[[t]],P0V h)∧[[t]].length≤maxL∧(0:Int)≤500∧(500:Int)≤1000000000)) (.ite (!(fewL [[t]] 500).1) yes (.ite (decide (20<(own.length:Int))) yes
   (.ite (dec ((∀h∈[own],P0V h)∧[own].length≤maxL∧(0:Int)≤500∧(500:Int)≤1000000000)) (.ite (!(fewL [own] 500).1) yes
    (.ite (dec True) (.ite (!decide (E0o g s0 t=0)) yes (.ite (!F0P g s0 t) yes (.ite (dec (spP 4000 g s0 t (fun _=>none,0))) (.ite (dec (w0V g own m 0 [])) (.ite (dec (to.length≤maxL))
     (.ite (!decide ((sbsV t to).2=0)) yes (.ite (dec True) (.ite (decide (E0o g s0 (eT y)=0)) (.leaf (true,.sb (F0P g s0 (eT y)))) (.leaf (true,.sb false))) .fail)) .fail) .fail) .fail))) .fail)) .fail))) .fail)) .fail)) .fail) (by kernel_rfl) ?_
 have hy:yes.holds fun q=>q.1=true∧(lawI.res (show List Srt×Int×TrmY×List Trm×Unit from(g,s0,(k,n,s,l,u1),own,u2))).val=some (Pt.b.nz q.2):=⟨rfl,rfl⟩
 have hm:m=(spT g s0 t (fun _=>none,0)).1:=funext fun q=>c0K _
 have hto:to=toL g own (spT g s0 t (fun _=>none,0)).1 20 0 []:=by rw[show to=toL g own m 20 0 [] from J0i _,hm]
 have h1:(1:Nat)≤maxL:=by unfold maxL;omega
 refine A0c (A0g trivial) (A0b (fun h=>by cases h) fun _=>A0c (A0g ⟨fun h hh=>by rw[List.mem_singleton.1 hh];exact hg,h1,rfl⟩) (A0b (fun _=>hy) fun hr=>A0c (A0g ⟨fun h hh=>?_,h1,by omega,by omega⟩)
  (A0b (fun _=>hy) fun _=>A0b (fun _=>hy) fun hn=>A0c (A0g ⟨fun h hh=>by rw[List.mem_singleton.1 hh];exact ho,h1,by omega,by omega⟩) (A0b (fun _=>hy) fun _=>A0c (A0g trivial) (A0b (fun _=>hy) fun he=>A0b (fun _=>hy) fun hf=>?_)))))
 ·rw[List.mem_singleton.1 hh];exact⟨h1,fun x hx=>by rw[List.mem_singleton.1 hx];exact ht⟩
 have hr:M0l [g] [s0]=true:=by simpa using hr
 have he:E0o g s0 t=0:=by simpa using he
 have hf:F0P g s0 t=true:=by simpa using hf
 have hn:¬(20<(own.length:Int)):=of_decide_eq_false hn
 unfold M0l at hr
 rw[Bool.and_eq_true] at hr
 have hr:=hr.1
 unfold rgB at hr
 simp only[Bool.and_eq_true,Bool.not_eq_true',decide_eq_false_iff_not,decide_eq_true_eq] at hr
 obtain⟨hs,hi,hs0,hs1⟩:=hr
 have hgr:B0l g=true:=by rw[b0l];exact hi
 have hin:inG g s0:=⟨by omega,hs1⟩
 have hE:errT t=0:=by unfold E0o at he;rw[if_pos (e0N hgr hin)] at he;exact he
 have hsz:=(N0K hE).1
 have hroom:spRoom (fun _=>none,0) (0+A0G t):=fun q=>by show((([]:List Int).length:Nat):Int)+(0+A0G t)≤1000000;simp;omega
 refine A0c (A0g ⟨hsz,Nat.le_refl _,hgr,hin,hroom.mono (by omega)⟩) (A0c (A0g ⟨Z0X hg hs,by omega,fun z=>?_,rfl,by omega⟩) (A0c (A0g ?_) (A0b (fun _=>hy) fun hb=>A0c (A0g trivial) (A0b (fun h=>⟨rfl,?_⟩) fun h=>?_))))
 ·have :=O0U g s0 t (fun _=>none,0) 0 hroom z
  rw[hm]
  omega
 ·rw[hto,Z0j];unfold maxL;simp
 ·have hb:(sbsV t to).2=0:=by simpa using hb
  have hlaw:=U0c (own:=own) hf (by rw[←hto];exact hb)
  rw[←hto] at hlaw
  rw[D0i]
  show some (AVal.sb true)=some (AVal.sb (F0P g s0 y))
  rw[hlaw.2]
 ·have hb:(sbsV t to).2=0:=by simpa using hb
  have hlaw:=U0c (own:=own) hf (by rw[←hto];exact hb)
  rw[←hto] at hlaw
  have h:=of_decide_eq_false h
  rw[D0i] at h
  exact absurd hlaw.1 h
end Go.Proofs.YtibaljifcbpmoaaGreatDoor

namespace Go.Proofs.YtibaljifcbpmoaaGreatDoor
open Go Go.Ev Go.Proofs Go.RowKit
set_option maxRecDepth 100000
theorem R0Z{α:Type}(d:α){n:Nat}{p:Nat→α→Prop}(h:∀i,i<n→∃a,p i a):∃f:Nat→α,∀i,i<n→p i (f i):=
 ⟨fun i=>if hi:i<n then(h i hi).choose else d,fun i hi=>by simp only[dif_pos hi];exact(h i hi).choose_spec⟩
section
variable{H:Type}{enc:TypeId×Value→H}{W:World}{sp:Nat→Bool}{hd:Bool}
def J0D(W:World)(c:Cd)(cs:List Value)(z:c.S):Prop:=
 cs.length=c.esz∧∀(k:Nat)(cl:Cell Univ.C Univ.S),(c.cells z)[k]?=some cl→∃v,cs[k]?=some v∧CRel (fun b=>W.heap[b]?) cl v
theorem I0S{t e:TypeId}(ht:Tryz.prog.underlying t=some (.slice e))(c:Cd)(hc:Tryz.prog.cellsOf e=c.esz)(Q:c.S→Prop){fuel:Nat}{cs:List Value}{x:DataW H×List MemPlace}
  (h:DataW.trod enc Tryz.prog W 0 sp hd fuel t cs=some x) (ih:∀n cs' y,n<fuel→DataW.trod enc Tryz.prog W 0 sp hd n e cs'=some y→∃z,J0D W c cs' z∧Q z):
  ∃(v:Value)(l:List c.S),cs=[v]∧CRel (fun b=>W.heap[b]?) (.sl c l:Cell Univ.C Univ.S) v∧l.length≤maxL∧∀z∈l,Q z:=by
 rcases DataW.trod_slice ht h with⟨rfl,_⟩|⟨a,len,cap,elems,rest,n,rfl,rfl,_,_,hl,hm,hlen,hel,_,_⟩
 ·exact⟨_,[],rfl,.nil c none 0,Nat.zero_le _,fun _ h=>by cases h⟩
 have hx:∀i,i<len→∃q:List Value×c.S,W.cells? 0 (a.add (i*c.esz)) c.esz=some q.1∧J0D W c q.1 q.2∧Q q.2:=by
  intro i hi
  have e1:=hel i hi
  have hi':i<elems.length:=by omega
  rw[List.getElem?_eq_getElem hi',hc] at e1
  obtain⟨cs',h1,h2⟩:=Option.bind_eq_some_iff.1 e1
  obtain⟨z,hz,hq⟩:=ih n cs' _ (Nat.lt_succ_self n) h2
  exact⟨(cs',z),h1,hz,hq⟩
 by_cases h0:len=0
 ·subst h0
  exact⟨_,[],rfl,.nil c (some a) cap,Nat.zero_le _,fun _ h=>by cases h⟩
 obtain⟨F,hF⟩:=R0Z (α:=List Value×c.S) ([],c.dflt) hx
 have hpos:0<c.esz:=Univ.pos (self:=univ) c
 have hcell:∀i,i<len→∀k,k<c.esz→W.cell? ((a.add (i*c.esz)).add k)=(F i).1[k]?:=fun i hi=>(World.cells?_some (hF i hi).1).2.2
 have hlenF:∀i,i<len→(F i).1.length=c.esz:=fun i hi=>(hF i hi).2.1.1
 have hv:∀i,i<len→∀k,k<c.esz→(F i).1[k]?=some ((F i).1.getD k (.bool false)):=by
  intro i hi k hk
  rw[←hlenF i hi] at hk
  simp[List.getD,List.getElem?_eq_getElem hk]
 obtain⟨C,e',z,hb,hsp⟩:∃C e' z,W.heap[a.block]?=some (.cells C e' z)∧a.spot=none:=by
  have :=hcell 0 (by omega) 0 hpos
  rw[hv 0 (by omega) 0 hpos,Nat.zero_mul] at this
  have e0:(a.add 0).add 0=a:=by simp[Addr.add]
  rw[e0] at this
  unfold World.cell? at this
  split at this
  ·rename_i C e' z hb
   split at this
   ·cases this
   ·rename_i hs
    exact⟨C,e',z,hb,by simpa using hs⟩
  ·cases this
 have hadd:∀i k,(a.add i).add k=⟨a.block,a.off+i+k,none⟩:=by
  intro i k
  cases a with
  |
   mk b o s=>
   obtain rfl:s=none:=hsp
   unfold Addr.add
   by_cases hi:i=0<;>by_cases hk:k=0<;>simp[hi,hk]
 have hC:∀i,i<len→∀k,k<c.esz→C[a.off+i*c.esz+k]?=some ((F i).1.getD k (.bool false)):=by
  intro i hi k hk
  have :=hcell i hi k hk
  rw[hadd,hv i hi k hk] at this
  unfold World.cell? at this
  rw[show(⟨a.block,a.off+i*c.esz+k,none⟩:Addr).block=a.block from rfl,hb] at this
  simpa using this
 let l:List c.S:=(List.range len).map fun i=>(F i).2
 have hll:l.length=len:=by simp[l]
 have hget:∀(j:Nat)(y:c.S),l[j]?=some y→j<len∧y=(F j).2:=by
  intro j y hy
  have hj:j<len:=by
   have :=(List.getElem?_eq_some_iff.1 hy).1
   omega
  refine⟨hj,?_⟩
  simp only[l,List.getElem?_map,List.getElem?_range hj,Option.map_some,Option.some.injEq] at hy
  exact hy.symm
 refine⟨.slice (some a) len cap,l,rfl,?_,?_,?_⟩
 ·have ea:a=⟨a.block,a.off,none⟩:=by cases a;simp_all
  have key:CRel (fun b=>W.heap[b]?) (.sl c l:Cell Univ.C Univ.S) (.slice (some ⟨a.block,a.off,none⟩) l.length cap):=by
   refine CRel.sl c l a.block a.off cap C e' z (fun j k=>(F j).1.getD k (.bool false)) hb (by omega) ?_ ?_
   ·intro j y hy k hk
    exact hC j (hget j y hy).1 k hk
   ·intro j y hy k cl hk
    obtain⟨hj,rfl⟩:=hget j y hy
    obtain⟨v,h1,h2⟩:=(hF j hj).2.1.2 k cl hk
    have :(F j).1.getD k (.bool false)=v:=by simp[List.getD,h1]
    rw[this]
    exact h2
  rw[hll,←ea] at key
  exact key
 ·have :maxLen=maxL:=by unfold maxLen maxL;rfl
  omega
 ·intro y hy
  obtain⟨i,hi,rfl⟩:=List.mem_map.1 hy
  exact(hF i (by simpa using hi)).2.2
theorem J0x{t:TypeId}{fs:Array Field}(ht:Tryz.prog.underlying t=some (.struct fs)){ks:List (TypeId×Nat×Nat)}(hk:fs.toList.map (fun f=>(f.type,f.offset,Tryz.prog.cellsOf f.type))=ks)
  {fuel:Nat} {cs:List Value} {x:DataW H×List MemPlace} (h:DataW.trod enc Tryz.prog W 0 sp hd fuel t cs=some x):
  ∃n,fuel=n+1∧cs.length=Tryz.prog.cellsOf t∧∀k∈ks,∃y,DataW.trod enc Tryz.prog W 0 sp hd n k.1 ((cs.drop k.2.1).take k.2.2)=some y:=by
 obtain⟨xs,n,h1,_,h2,h3,h4⟩:=DataW.trod_struct ht h
 refine⟨n,h1,h2,fun k hkk=>?_⟩
 rw[←hk] at hkk
 obtain⟨f,hf,rfl⟩:=List.mem_map.1 hkk
 obtain⟨i,hi,e⟩:=List.getElem_of_mem hf
 have hi2:i<xs.length:=by rw[h3];simpa using hi
 have :=h4 i f (by rw[←e];simp)
 exact⟨xs[i],by rw[this,List.getElem?_eq_getElem hi2]⟩
noncomputable def fieldsOf(t:TypeId):Array Field:=match Tryz.prog.underlying t with
 |some (.struct fs)=>fs
 |_=>#[]
theorem T0K{fuel:Nat}{cs:List Value}{x:DataW H×List MemPlace}(h:DataW.trod enc Tryz.prog W 0 sp hd fuel 4 cs=some x):∃b,cs=[.bool b]:=by
 obtain⟨b,h,_⟩:=DataW.trod_bool (by kernel_rfl) h;exact⟨b,h⟩
theorem U0M{fuel:Nat}{cs:List Value}{x:DataW H×List MemPlace}(h:DataW.trod enc Tryz.prog W 0 sp hd fuel 3 cs=some x):∃b,cs=[.int .i64 b]:=by
 obtain⟨b,h,_⟩:=DataW.trod_int (k:=.i64) (by kernel_rfl) h;exact⟨b,h⟩
theorem b0Z{fuel:Nat}{cs:List Value}{x:DataW H×List MemPlace}(h:DataW.trod enc Tryz.prog W 0 sp hd fuel 9 cs=some x):∃b,cs=[.string b]:=by
 obtain⟨b,h,_⟩:=DataW.trod_string (by kernel_rfl) h;exact⟨b,h⟩
theorem Y0S{fuel:Nat}{cs:List Value}{x:DataW H×List MemPlace}(h:DataW.trod enc Tryz.prog W 0 sp hd fuel 29 cs=some x):
  ∃(v:Value)(l:List Int),cs=[v]∧CRel (fun b=>W.heap[b]?) (.sl Cd.int l:Cell Univ.C Univ.S) v:=by
 obtain⟨v,l,h1,h2,_⟩:=I0S (t:=29) (e:=3) (by kernel_rfl) .int (by kernel_rfl) (fun _=>True) h fun n cs' y _ hy=>by
  obtain⟨b,rfl⟩:=U0M hy
  refine⟨b,⟨rfl,fun k cl hk=>?_⟩,trivial⟩
  match k,hk with
  |0,hk=>cases hk;exact⟨_,rfl,.i _ _⟩
 exact⟨v,l,h1,h2⟩
theorem Z0S{fuel:Nat}{cs:List Value}{x:DataW H×List MemPlace}(h:DataW.trod enc Tryz.prog W 0 sp hd fuel 51 cs=some x):∃s n,cs=[.string s,.int .i64 n]:=by
 obtain⟨n,rfl,hl,hk⟩:=J0x (t:=51) (fs:=fieldsOf 51) (ks:=[(9,0,1),(3,1,1)]) (by kernel_rfl) (by kernel_rfl) h
 have hl:cs.length=2:=hl
 match cs,hl with
 |
  [a,b],_=>
  obtain⟨_,h0⟩:=hk (9,0,1) (by simp)
  obtain⟨_,h1⟩:=hk (3,1,1) (by simp)
  obtain⟨s,e0⟩:=b0Z h0
  obtain⟨m,e1⟩:=U0M h1
  simp only[List.drop_zero,List.take_succ_cons,List.take_zero,List.cons.injEq,and_true,List.drop_succ_cons] at e0 e1
  exact⟨s,m,by rw[e0,e1]⟩
theorem c0w{fuel:Nat}{cs:List Value}{x:DataW H×List MemPlace}(h:DataW.trod enc Tryz.prog W 0 sp hd fuel 53 cs=some x):∃z,J0D W .case cs z∧True:=by
 obtain⟨n,rfl,hl,hk⟩:=J0x (t:=53) (fs:=fieldsOf 53) (ks:=[(51,0,2),(29,2,1)]) (by kernel_rfl) (by kernel_rfl) h
 have hl:cs.length=3:=hl
 match cs,hl with
 |
  [a,b,c],_=>
  obtain⟨_,h0⟩:=hk (51,0,2) (by simp)
  obtain⟨_,h1⟩:=hk (29,2,1) (by simp)
  obtain⟨s,m,e0⟩:=Z0S h0
  obtain⟨v,l,e1,hv⟩:=Y0S h1
  simp only[List.drop_zero,List.take_succ_cons,List.take_zero,List.cons.injEq,and_true,List.drop_succ_cons] at e0 e1
  obtain⟨rfl,rfl⟩:=e0
  subst e1
  refine⟨⟨s,m,l⟩,⟨rfl,fun k cl hk=>?_⟩,trivial⟩
  match k,hk with
  |0,hk=>cases hk;exact⟨_,rfl,.s _⟩
  |1,hk=>cases hk;exact⟨_,rfl,.i _ _⟩
  |2,hk=>cases hk;exact⟨_,rfl,hv⟩
theorem d0q{fuel:Nat}{cs:List Value}{x:DataW H×List MemPlace}(h:DataW.trod enc Tryz.prog W 0 sp hd fuel 56 cs=some x):∃z:Srt,J0D W .sort cs z∧z.cases.length≤maxL:=by
 obtain⟨n,rfl,hl,hk⟩:=J0x (t:=56) (fs:=fieldsOf 56) (ks:=[(4,0,1),(4,1,1),(4,2,1),(54,3,1),(29,4,1)]) (by kernel_rfl) (by kernel_rfl) h
 have hl:cs.length=5:=hl
 match cs,hl with
 |
  [a,b,c,d,e],_=>
  obtain⟨_,h0⟩:=hk (4,0,1) (by simp)
  obtain⟨_,h1⟩:=hk (4,1,1) (by simp)
  obtain⟨_,h2⟩:=hk (4,2,1) (by simp)
  obtain⟨_,h3⟩:=hk (54,3,1) (by simp)
  obtain⟨_,h4⟩:=hk (29,4,1) (by simp)
  obtain⟨i,e0⟩:=T0K h0
  obtain⟨s,e1⟩:=T0K h1
  obtain⟨t,e2⟩:=T0K h2
  obtain⟨v,l,e3,hv,hvl,_⟩:=I0S (t:=54) (e:=53) (by kernel_rfl) .case (by kernel_rfl) (fun _=>True) h3 fun _ _ _ _ hy=>c0w hy
  obtain⟨u,m,e4,hu⟩:=Y0S h4
  simp only[List.drop_zero,List.take_succ_cons,List.take_zero,List.cons.injEq,and_true,List.drop_succ_cons] at e0 e1 e2 e3 e4
  subst e0 e1 e2 e3 e4
  refine⟨⟨i,s,t,l,m⟩,⟨rfl,fun k cl hk=>?_⟩,hvl⟩
  match k,hk with
  |0,hk=>cases hk;exact⟨_,rfl,.b _⟩
  |1,hk=>cases hk;exact⟨_,rfl,.b _⟩
  |2,hk=>cases hk;exact⟨_,rfl,.b _⟩
  |3,hk=>cases hk;exact⟨_,rfl,hv⟩
  |4,hk=>cases hk;exact⟨_,rfl,hu⟩
theorem b0e{fuel:Nat}{cs:List Value}{x:DataW H×List MemPlace}(h:DataW.trod enc Tryz.prog W 0 sp hd fuel 22 cs=some x):
  ∃(v:Value)(g:List Srt),cs=[v]∧CRel (fun b=>W.heap[b]?) (.sl Cd.sort g:Cell Univ.C Univ.S) v∧E0X g:=by
 obtain⟨v,l,h1,h2,h3,h4⟩:=I0S (t:=22) (e:=56) (by kernel_rfl) .sort (by kernel_rfl) (fun(z:Srt)=>z.cases.length≤maxL) h fun _ _ _ _ hy=>d0q hy
 exact⟨v,l,h1,h2,h3,h4⟩
theorem X0W:∀{l:List Trm},(∀x∈l,lenT x)→lenL l
 |[],_=>by unfold lenL;trivial
 |x::l,h=>by unfold lenL;exact⟨h x (by simp),X0W fun y hy=>h y (by simp[hy])⟩
theorem Y0g:∀{fuel:Nat}{cs:List Value}{x:DataW H×List MemPlace},DataW.trod enc Tryz.prog W 0 sp hd fuel 25 cs=some x→∃z:Trm,J0D W .term cs z∧lenT z:=by
 intro fuel
 induction fuel using Nat.strongRecOn with
 |
  _ fuel ih=>
  intro cs x h
  obtain⟨n,rfl,hl,hk⟩:=J0x (t:=25) (fs:=fieldsOf 25) (ks:=[(3,0,1),(3,1,1),(9,2,1),(23,3,1)]) (by kernel_rfl) (by kernel_rfl) h
  have hl:cs.length=4:=hl
  match cs,hl with
  |
   [a,b,c,d],_=>
   obtain⟨_,h0⟩:=hk (3,0,1) (by simp)
   obtain⟨_,h1⟩:=hk (3,1,1) (by simp)
   obtain⟨_,h2⟩:=hk (9,2,1) (by simp)
   obtain⟨_,h3⟩:=hk (23,3,1) (by simp)
   obtain⟨i,e0⟩:=U0M h0
   obtain⟨m,e1⟩:=U0M h1
   obtain⟨s,e2⟩:=b0Z h2
   obtain⟨v,l,e3,hv,hvl,hq⟩:=I0S (t:=23) (e:=25) (by kernel_rfl) .term (by kernel_rfl) (fun(z:Trm)=>lenT z) h3 fun n' cs' y hn hy=>ih n' (by omega) hy
   simp only[List.drop_zero,List.take_succ_cons,List.take_zero,List.cons.injEq,and_true,List.drop_succ_cons] at e0 e1 e2 e3
   subst e0 e1 e2 e3
   refine⟨⟨i,m,s,l⟩,⟨rfl,fun k cl hk=>?_⟩,by unfold lenT;exact⟨hvl,X0W hq⟩⟩
   match k,hk with
   |0,hk=>cases hk;exact⟨_,rfl,.i _ _⟩
   |1,hk=>cases hk;exact⟨_,rfl,.i _ _⟩
   |2,hk=>cases hk;exact⟨_,rfl,.s _⟩
   |3,hk=>cases hk;exact⟨_,rfl,hv⟩
theorem b0j{fuel:Nat}{cs:List Value}{x:DataW H×List MemPlace}(h:DataW.trod enc Tryz.prog W 0 sp hd fuel 23 cs=some x):
  ∃(v:Value)(l:List Trm),cs=[v]∧CRel (fun b=>W.heap[b]?) (.sl Cd.term l:Cell Univ.C Univ.S) v∧P0V l:=by
 obtain⟨v,l,h1,h2,h3,h4⟩:=I0S (t:=23) (e:=25) (by kernel_rfl) .term (by kernel_rfl) (fun(z:Trm)=>lenT z) h fun _ _ _ _ hy=>Y0g hy
 exact⟨v,l,h1,h2,h3,h4⟩
end
end Go.Proofs.YtibaljifcbpmoaaGreatDoor

namespace Go.Proofs.YtibaljifcbpmoaaGreatDoor
open Go Go.Ev Go.Proofs Go.RowKit Go.Shelf
set_option maxRecDepth 100000
attribute [local go_sem] Oper.semAt_some
def Dat(fz:Nat→Option Obj)(W:World):Prop:=∀b o,fz b=some o→W.heap[b]?=some o
def TrV(fz:Nat→Option Obj)(t:Trm)(v:Value):Prop:=VRel ⟨fun _=>none,fz,0⟩ (trmV t) v
theorem Dat.grow{fz:Nat→Option Obj}{W W':World}(h:Dat fz W)(hb:Below W.heap.size W W'):Dat fz W':=fun b o e=>by
 have :=h b o e
 have hl:b<W.heap.size:=(Array.getElem?_eq_some_iff.1 this).1
 exact(hb.block b hl).trans this
theorem V0R{fz:Nat→Option Obj}{t:Trm}{g:Nat→Value}(h:∀k cl,(Univ.cells (Cd.term:Cd) t)[k]?=some cl→CRel fz cl (g k)):
  g 0=.int .i64 t.kind∧g 1=.int .i64 t.n∧g 2=.string t.s∧CRel fz (.sl (Cd.term:Cd) t.l) (g 3):=by
 have h0:=h 0 (.i .i64 t.kind) rfl
 have h1:=h 1 (.i .i64 t.n) rfl
 have h2:=h 2 (.s t.s) rfl
 have h3:=h 3 (.sl (Cd.term:Cd) t.l) rfl
 generalize g 0=v0 at h0⊢
 generalize g 1=v1 at h1⊢
 generalize g 2=v2 at h2⊢
 cases h0;cases h1;cases h2
 exact⟨rfl,rfl,rfl,h3⟩
theorem C0N{fz:Nat→Option Obj}{l:List Trm}{v:Value}(h:CRel fz (.sl (Cd.term:Cd) l) v):∃A cap,v=.slice A l.length cap∧∀j x,l[j]?=some x→∃b o C e z sv,A=some ⟨b,o,none⟩∧fz b=some (.cells C e z)∧
  C[o+j*4+0]?=some (.int .i64 x.kind)∧C[o+j*4+1]?=some (.int .i64 x.n)∧C[o+j*4+2]?=some (.string x.s)∧C[o+j*4+3]?=some sv∧CRel fz (.sl (Cd.term:Cd) x.l) sv:=by
 generalize hc:(Cell.sl (Cd.term:Cd) l:Cell Univ.C Univ.S)=cl at h
 cases h<;>try (cases hc;done)
 ·rename_i c A cap
  cases hc
  exact⟨A,cap,rfl,fun j x hj=>by cases hj⟩
 ·rename_i c l' b o cap C e z g hb hcap hg hh
  cases hc
  refine⟨some ⟨b,o,none⟩,cap,rfl,fun j x hj=>?_⟩
  obtain⟨q0,q1,q2,q3⟩:=V0R (hh j x hj)
  have e4:Univ.esz (Cd.term:Cd)=4:=rfl
  have hg:=hg j x hj
  rw[e4] at hg
  refine⟨b,o,C,e,z,g j 3,rfl,hb,?_,?_,?_,hg 3 (by omega),q3⟩
  ·rw[hg 0 (by omega),q0]
  ·rw[hg 1 (by omega),q1]
  ·rw[hg 2 (by omega),q2]
end Go.Proofs.YtibaljifcbpmoaaGreatDoor

namespace Go.Proofs.YtibaljifcbpmoaaGreatDoor
open Go Go.Ev Go.Proofs Go.RowKit Go.Shelf
set_option maxRecDepth 100000
attribute [local go_sem] Oper.semAt_some
set_option maxHeartbeats 1000000 in
theorem a0f(F:Fence)(m:Nat)(hro:F.round=none)(hF:∀f,F.fn f)(v0 v1 v2 v3:Value)(w:World):
  CallsIn F m Tryz.prog 110 #[.agg #[v0,v1,v2,v3]] w fun e w'=>e=.returned (.func (.func 157) #[] #[.pointer (some ⟨w.heap.size,0,none⟩)])∧w'=w.alloc (.cells #[v0,v1,v2,v3] 25):=by
 refine callsIn_of_wp Tryz.func110 rfl (hF _) ?_ hro
 simp only[Tryz.ntmps110,List.size_toArray,List.length_cons,List.length_nil,Nat.reduceAdd,Nat.reduceSub,Array.replicate_succ,Array.replicate_zero,List.push_toArray,List.append_toArray,List.nil_append,List.cons_append]
 gi_wp2
 go_ret
 exact⟨rfl,rfl⟩
theorem Z0U:∀(args:Array Value)(w:World),(callFunc 157 args).run Tryz.prog w=.ok (.enter 157 args) w:=enters_of Tryz.func157 (by kernel_rfl) rfl
theorem Y0v(l B:Nat){w:World}:(invoke (.fn (.func 157) #[.pointer (some ⟨B,0,none⟩)]) #[.func (.yield l) #[] #[]]).run Tryz.prog w=.ok (.enter 157 #[.func (.yield l) #[] #[],.pointer (some ⟨B,0,none⟩)]) w:=by
 simp only[invoke]
 exact Z0U _ _
theorem V0Z{a:Act}{g:Operand}{B:Nat}(hgv:a.eval g=.func (.func 157) #[] #[.pointer (some ⟨B,0,none⟩)])(l:Nat)(w:World):
  (resolve a.eval (rangeCall g l) 0).run Tryz.prog w=.ok {target:=.fn (.func 157) #[.pointer (some ⟨B,0,none⟩)],args:=#[.func (.yield l) #[] #[]]} w:=by
 simp only[resolve,hgv]
 simp[go_sem]
theorem S0u{fz:Nat→Option Obj}{t:Trm}{v:Value}(h:TrV fz t v):∃A cap,v=.agg #[.int .i64 t.kind,.int .i64 t.n,.string t.s,.slice A t.l.length cap]:=by
 unfold TrV trmV VRel at h
 obtain⟨vs,rfl,h⟩:=h
 obtain⟨v0,ws,e0,h0,h⟩:=h.cons_inv
 obtain⟨v1,ws1,e1,h1,h⟩:=h.cons_inv
 obtain⟨v2,ws2,e2,h2,h⟩:=h.cons_inv
 obtain⟨v3,ws3,e3,h3,h⟩:=h.cons_inv
 have :=h.nil_inv
 subst this e3 e2 e1
 unfold VRel at h0 h1 h2 h3
 subst h0 h1 h2
 obtain⟨A,cap,rfl,_⟩:=C0N h3
 refine⟨A,cap,?_⟩
 rw[←Array.toArray_toList (xs:=vs),e0]
end Go.Proofs.YtibaljifcbpmoaaGreatDoor

namespace Go.Proofs.YtibaljifcbpmoaaGreatDoor
open Go Go.Ev Go.Proofs Go.RowKit Go.Shelf
set_option maxRecDepth 100000
attribute [local go_sem] Oper.semAt_some
def stays(o:Obj):Prop:=match o with
 |.cells _ e _=>e=25
 |.loop _=>True
 |.deferred _=>True
 |_=>False
structure Keep(B0:Nat)(W W':World):Prop where
 os:W'.os=W.os
 tape:W'.tape=W.tape
 output:W'.output=W.output
 size:W.heap.size≤W'.heap.size
 block:∀k o,W.heap[k]?=some o→(k<B0∨stays o)→W'.heap[k]?=some o
theorem Keep.refl(B0:Nat)(W:World):Keep B0 W W:=⟨rfl,rfl,rfl,Nat.le_refl _,fun _ _ h _=>h⟩
theorem Keep.trans{B0:Nat}{A B C:World}(h:Keep B0 A B)(k:Keep B0 B C):Keep B0 A C:=
 ⟨k.os.trans h.os,k.tape.trans h.tape,k.output.trans h.output,Nat.le_trans h.size k.size,fun i o e q=>k.block i o (h.block i o e q) q⟩
theorem Keep.of{B0:Nat}{W W':World}(h:Below W.heap.size W W'):Keep B0 W W':=⟨h.os,h.tape,h.output,h.size,fun k o e _=>(h.block k (Array.getElem?_eq_some_iff.1 e).1).trans e⟩
def DatB(fz:Nat→Option Obj)(B0:Nat)(W:World):Prop:=∀b o,fz b=some o→b<B0∧W.heap[b]?=some o
theorem DatB.grow{fz:Nat→Option Obj}{B0:Nat}{W W':World}(h:DatB fz B0 W)(k:Keep B0 W W'):DatB fz B0 W':=fun b o e=>⟨(h b o e).1,k.block b o (h b o e).2 (.inl (h b o e).1)⟩
def vk(k:Int):Nat:=if k=1 then 1 else 0
mutual
def vn:Trm→Nat
 |⟨k,_,_,l⟩=>vk k+vns l
def vns:List Trm→Nat
 |[]=>0
 |x::l=>vn x+vns l
end
theorem M0j:∀(l:List Trm)(j:Nat),vns (l.take j)≤vns l
 |[],j=>by simp
 |x::l,0=>by simp[vns]
 |
  x::l,j+1=>by
  have :=M0j l j
  rw[List.take_succ_cons]
  conv=>lhs;unfold vns
  conv=>rhs;unfold vns
  omega
theorem U0j:∀{l:List Trm}{j:Nat}{x:Trm},l[j]?=some x→vns (l.take (j+1))=vns (l.take j)+vn x
 |[],_,_,h=>by cases h
 |
  y::l,0,x,h=>by
  have :y=x:=by simpa using h
  subst this
  simp[vns]
 |
  y::l,j+1,x,h=>by
  have :=U0j (l:=l) (j:=j) (x:=x) (by simpa using h)
  rw[List.take_succ_cons,List.take_succ_cons]
  conv=>lhs;unfold vns
  conv=>rhs;unfold vns
  rw[this];omega
mutual
theorem Q0o:∀t:Trm,decide (vn t=0)=B0y t
 |
  ⟨k,n,s,l⟩=>by
  have :=O0d l
  unfold vn B0y vk
  rw[←this]
  by_cases h:k=1
  ·rw[if_pos h,decide_eq_false (by omega)];simp[h]
  ·rw[if_neg h];simp[h]
theorem O0d:∀l:List Trm,decide (vns l=0)=E0a l
 |[]=>by unfold vns E0a;rfl
 |
  x::l=>by
  have h1:=Q0o x
  have h2:=O0d l
  unfold vns E0a
  rw[←h1,←h2]
  by_cases a:vn x=0
  ·by_cases b:vns l=0
   ·simp[a,b]
   ·simp[a,b]
  ·simp[a]
end
mutual
theorem Y0A:∀t:Trm,(vn t:Int)≤A0G t
 |
  ⟨k,n,s,l⟩=>by
  have :=U0A l
  unfold vn A0G vk
  split<;>omega
theorem U0A:∀l:List Trm,(vns l:Int)≤B0b l
 |[]=>by unfold vns B0b;omega
 |
  x::l=>by
  have h1:=Y0A x
  have h2:=U0A l
  unfold vns B0b
  omega
end
def T0X(F:Fence)(l:Nat)(lp:Loop)(B0:Nat)(J:Nat→World→Prop):Prop:=∀(fz:Nat→Option Obj)(m:Nat)(t:Trm)(v:Value)(W:World)(b:Nat),b+vk t.kind≤4000→TrV fz t v→DatB fz B0 W→W.heap[l]?=some (.loop lp)→J b W→
 YieldAt F m Tryz.prog l #[v] W fun e W'=>e=.returned (.bool true)∧Keep B0 W W'∧J (b+vk t.kind) W'
set_option maxHeartbeats 2000000 in
theorem W0E(F:Fence)(hd:F.depth=none)(hro:F.round=none)(hF:∀f,F.fn f)(l:Nat)(lp:Loop)(B0:Nat)(J:Nat→World→Prop)(hJ:∀b W W',J b W→Below W.heap.size W W'→J b W')(hY:T0X F l lp B0 J)(fz:Nat→Option Obj):
  ∀
   (k n:Int) (s:ByteArray) (kids:List Trm) (m:Nat) (sv:Value) (W:World) (b0:Nat),b0+vn ⟨k,n,s,kids⟩≤4000→kids.length≤4000→CRel fz (.sl (Cd.term:Cd) kids) sv→DatB fz B0 W→W.heap[l]?=some (.loop lp)→J b0 W→
   (∀x∈kids,∀(m:Nat)(sv:Value)(W:World)(b0:Nat),b0+vn x≤4000→CRel fz (.sl (Cd.term:Cd) x.l) sv→DatB fz B0 W→W.heap[l]?=some (.loop lp)→J b0 W→
    CallsIn F m Tryz.prog 158 #[.agg #[.int .i64 x.kind,.int .i64 x.n,.string x.s,sv],.func (.yield l) #[] #[]] W fun e W'=>e=.returned (.bool true)∧Keep B0 W W'∧J (b0+vn x) W')→
   CallsIn F m Tryz.prog 158 #[.agg #[.int .i64 k,.int .i64 n,.string s,sv],.func (.yield l) #[] #[]] W fun e W'=>e=.returned (.bool true)∧Keep B0 W W'∧J (b0+vn ⟨k,n,s,kids⟩) W':=by
 intro k n s kids m sv W b0 hbd hkl hsv hdt hl hj0 ih
 have hbd':b0+(vk k+vns kids)≤4000:=by unfold vn at hbd;exact hbd
 have hlt:l<W.heap.size:=(Array.getElem?_eq_some_iff.1 hl).1
 have htv:TrV fz ⟨k,n,s,kids⟩ (.agg #[.int .i64 k,.int .i64 n,.string s,sv]):=by
  unfold TrV trmV
  unfold VRel
  refine⟨_,rfl,?_⟩
  refine .cons (by unfold VRel;rfl) (.cons (by unfold VRel;rfl) (.cons (by unfold VRel;rfl) (.cons (by unfold VRel;exact hsv) .nil)))
 have hdd:∀k:Nat,(F.depth.isSome=true→1≤k):=fun k h=>by rw[hd] at h;cases h
 obtain⟨W0,hW0⟩:∃W0,W.alloc (.cells #[.int .i64 k,.int .i64 n,.string s,sv] 25)=W0:=⟨_,rfl⟩
 have hbl0:Below W.heap.size W W0:=by rw[←hW0];exact(Below.refl _ W).alloc (Nat.le_refl _) _
 have hb0:Keep B0 W W0:=.of hbl0
 have hbox:W0.heap[W.heap.size]?=some (.cells #[.int .i64 k,.int .i64 n,.string s,sv] 25 (0,0)):=by rw[←hW0];exact World.alloc_heap_new W _
 have hl0:W0.heap[l]?=some (.loop lp):=(hbl0.block l hlt).trans hl
 have hd0:DatB fz B0 W0:=hdt.grow hb0
 obtain⟨fn,tmps,assign,body,hy,hR⟩:=hY fz (m-1) _ _ W0 b0 (show b0+vk k≤4000 by omega) htv hd0 hl0 (hJ _ _ _ hj0 hbl0)
 refine callsIn_of_wp Tryz.func158 rfl (hF _) ?_ hro
 simp only[Tryz.ntmps158,List.size_toArray,List.length_cons,List.length_nil,Nat.reduceAdd,Nat.reduceSub,Array.replicate_succ,Array.replicate_zero,List.push_toArray,List.append_toArray,List.nil_append,List.cons_append]
 have hc0:W0.cell? ⟨W.heap.size,0,none⟩=some (.int .i64 k):=by simp[World.cell?,hbox]
 have hc1:W0.cell? ⟨W.heap.size,1,none⟩=some (.int .i64 n):=by simp[World.cell?,hbox]
 have hc2:W0.cell? ⟨W.heap.size,2,none⟩=some (.string s):=by simp[World.cell?,hbox]
 have hc3:W0.cell? ⟨W.heap.size,3,none⟩=some sv:=by simp[World.cell?,hbox]
 have hz0:W.heap.size<W0.heap.size:=(Array.getElem?_eq_some_iff.1 hbox).1
 gi_wp2
 refine hR.mono ?_
 rintro e W1⟨rfl,hb1,hj1⟩
 have hd1:=hd0.grow hb1
 have hl1:W1.heap[l]?=some (.loop lp):=hb1.block l _ hl0 (.inr trivial)
 have hbox1:=hb1.block _ _ hbox (.inr rfl)
 have hc4:W1.cell? ⟨W.heap.size,3,none⟩=some sv:=by simp[World.cell?,hbox1]
 have hB1:Keep B0 W W1:=hb0.trans hb1
 obtain⟨A,cap,rfl,hkids⟩:=C0N hsv
 gi_wp2
 gi_loopw [14] (fun i wr=>∃j:Nat,j≤kids.length∧i=.int .i64 j∧Keep B0 W wr∧J ((b0+vk k)+vns (kids.take j)) wr)
  (fun i _=>kids.length-(intOf i).toNat)
 case atStart=>exact⟨0,Nat.zero_le _,rfl,hB1,by simpa [vns] using hj1⟩
 case round=>
  obtain⟨j,hj,rfl,hB,hjj⟩:=hrel
  have hdr:=hdt.grow hB
  have hlr:wr.heap[l]?=some (.loop lp):=hB.block l _ hl (.inr trivial)
  by_cases hjl:j<kids.length
  ·obtain⟨x,hx⟩:∃x,kids[j]?=some x:=⟨_,List.getElem?_eq_getElem hjl⟩
   obtain⟨b,o,C,e,z,sx,rfl,hb,hC0,hC1,hC2,hC3,hsx⟩:=hkids j x hx
   have hbw:=(hdr b _ hb).2
   have hx0:wr.cell? ⟨b,o+j*4,none⟩=some (.int .i64 x.kind):=by simp[World.cell?,hbw];exact hC0
   have hx1:wr.cell? ⟨b,o+j*4+1,none⟩=some (.int .i64 x.n):=by simp[World.cell?,hbw];exact hC1
   have hx2:wr.cell? ⟨b,o+j*4+2,none⟩=some (.string x.s):=by simp[World.cell?,hbw];exact hC2
   have hx3:wr.cell? ⟨b,o+j*4+3,none⟩=some sx:=by simp[World.cell?,hbw];exact hC3
   have hxm:x∈kids:=List.mem_of_getElem? hx
   have hsx':=hsx
   obtain⟨Ax,capx,rfl,_⟩:=C0N hsx
   obtain⟨W2,hW2⟩:∃W2,wr.alloc (.cells #[.int .i64 x.kind,.int .i64 x.n,.string x.s,.slice Ax x.l.length capx] 25)=W2:=⟨_,rfl⟩
   have hbl2:Below wr.heap.size wr W2:=by rw[←hW2];exact(Below.refl _ wr).alloc (Nat.le_refl _) _
   have hb2:Keep B0 wr W2:=.of hbl2
   have hbox2:W2.heap[wr.heap.size]?=some (.cells #[.int .i64 x.kind,.int .i64 x.n,.string x.s,.slice Ax x.l.length capx] 25 (0,0)):=by rw[←hW2];exact World.alloc_heap_new wr _
   have hy0:W2.cell? ⟨wr.heap.size,0,none⟩=some (.int .i64 x.kind):=by simp[World.cell?,hbox2]
   have hy1:W2.cell? ⟨wr.heap.size,1,none⟩=some (.int .i64 x.n):=by simp[World.cell?,hbox2]
   have hy2:W2.cell? ⟨wr.heap.size,2,none⟩=some (.string x.s):=by simp[World.cell?,hbox2]
   have hy3:W2.cell? ⟨wr.heap.size,3,none⟩=some (.slice Ax x.l.length capx):=by simp[World.cell?,hbox2]
   have hl2:W2.heap[l]?=some (.loop lp):=hb2.block l _ hlr (.inr trivial)
   have htk:=U0j hx
   have htl:=M0j kids (j+1)
   have ihx:=ih x hxm (m-1) _ W2 _ (by omega) hsx' (hdr.grow hb2) hl2 (hJ _ _ _ hjj hbl2)
   gi_wp2_with ((try refine⟨hdd _,?_⟩);gi_at_call 158;refine ihx.mono ?_;clear ihx;rintro e W3⟨rfl,hb3,hj3⟩)
   exact⟨⟨j+1,by omega,by simp,(hB.trans hb2).trans hb3,by rw[htk,←Nat.add_assoc];exact hj3⟩,by simp only[intOf];omega⟩
  ·obtain rfl:j=kids.length:=by omega
   gi_wp2
   go_ret
   refine⟨rfl,hB,?_⟩
   unfold vn
   rw[←Nat.add_assoc]
   simpa using hjj
theorem T0Z(F:Fence)(hd:F.depth=none)(hro:F.round=none)(hF:∀f,F.fn f)(l:Nat)(lp:Loop)(B0:Nat)(J:Nat→World→Prop)(hJ:∀b W W',J b W→Below W.heap.size W W'→J b W')(hY:T0X F l lp B0 J)(fz:Nat→Option Obj):∀(N:Nat)(t:Trm),A0G t≤(N:Int)→N≤4000→
  ∀
   (m:Nat) (sv:Value) (W:World) (b0:Nat),b0+vn t≤4000→CRel fz (.sl (Cd.term:Cd) t.l) sv→DatB fz B0 W→W.heap[l]?=some (.loop lp)→J b0 W→
   CallsIn F m Tryz.prog 158 #[.agg #[.int .i64 t.kind,.int .i64 t.n,.string t.s,sv],.func (.yield l) #[] #[]] W fun e W'=>e=.returned (.bool true)∧Keep B0 W W'∧J (b0+vn t) W'
 |0,t,h,_=>by have :=B0f t;omega
 |
  N+1,⟨k,n,s,kids⟩,h,hN=>fun m sv W b0 hbd hsv hdt hl hj=>by
  unfold A0G at h
  have hlen:=B0L kids
  refine W0E F hd hro hF l lp B0 J hJ hY fz k n s kids m sv W b0 hbd (by omega) hsv hdt hl hj (fun x hx=>?_)
  have hm:=D0J hx
  exact T0Z F hd hro hF l lp B0 J hJ hY fz N x (by omega) (by omega)
end Go.Proofs.YtibaljifcbpmoaaGreatDoor

namespace Go.Proofs.YtibaljifcbpmoaaGreatDoor
open Go Go.Ev Go.Proofs Go.RowKit Go.Shelf
set_option maxRecDepth 100000
attribute [local go_sem] Oper.semAt_some
structure Still(W W':World):Prop where
 size:W.heap.size≤W'.heap.size
 block:∀(k:Nat)(o:Obj),W.heap[k]?=some o→¬stays o→W'.heap[k]?=some o
theorem Still.of{W W':World}(h:Below W.heap.size W W'):Still W W':=⟨h.size,fun k o e _=>(h.block k (Array.getElem?_eq_some_iff.1 e).1).trans e⟩
theorem Still.put{W:World}{l:Nat}{o o':Obj}(h:W.heap[l]?=some o)(hs:stays o):Still W (W.putObj l o'):=⟨by simp,fun k p e q=>by
 by_cases c:k=l
 ·subst c;rw[h] at e;cases e;exact absurd hs q
 ·rw[World.putObj_heap_other c];exact e⟩
theorem Still.trans{A B C:World}(h:Still A B)(k:Still B C):Still A C:=⟨Nat.le_trans h.size k.size,fun i o e q=>k.block i o (h.block i o e q) q⟩
def Deaf(J:Nat→World→Prop):Prop:=∀b W W',J b W→Still W W'→J b W'
theorem Deaf.below{J:Nat→World→Prop}(h:Deaf J):∀b W W',J b W→Below W.heap.size W W'→J b W':=fun b W W' hj hb=>h b W W' hj (.of hb)
set_option maxHeartbeats 2000000 in
theorem X0h(F:Fence)(hd:F.depth=none)(hro:F.round=none)(hF:∀f,F.fn f)(l:Nat)(lp:Loop)(B0:Nat)(J:Nat→World→Prop)(hJ:Deaf J)(hY:T0X F l lp B0 J)(fz:Nat→Option Obj)(t:Trm)(hs:A0G t≤4000)
  (m B:Nat) (sv:Value) (W:World) (b0:Nat) (hbd:b0+vn t≤4000) (hsv:CRel fz (.sl (Cd.term:Cd) t.l) sv) (hdt:DatB fz B0 W) (hl:W.heap[l]?=some (.loop lp)) (hj:J b0 W)
  (hbox:W.heap[B]?=some (.cells #[.int .i64 t.kind,.int .i64 t.n,.string t.s,sv] 25 (0,0))):
  CallsIn F m Tryz.prog 157 #[.func (.yield l) #[] #[],.pointer (some ⟨B,0,none⟩)] W fun e W'=>(∃v,e=.returned v)∧Keep B0 W W'∧J (b0+vn t) W':=by
 have hdd:∀k:Nat,(F.depth.isSome=true→1≤k):=fun k h=>by rw[hd] at h;cases h
 have hc0:W.cell? ⟨B,0,none⟩=some (.int .i64 t.kind):=by simp[World.cell?,hbox]
 have hc1:W.cell? ⟨B,1,none⟩=some (.int .i64 t.n):=by simp[World.cell?,hbox]
 have hc2:W.cell? ⟨B,2,none⟩=some (.string t.s):=by simp[World.cell?,hbox]
 have hc3:W.cell? ⟨B,3,none⟩=some sv:=by simp[World.cell?,hbox]
 have hw:=T0Z F hd hro hF l lp B0 J hJ.below hY fz 4000 t (by omega) (Nat.le_refl _) (m-1) sv W b0 hbd hsv hdt hl hj
 refine callsIn_of_wp Tryz.func157 rfl (hF _) ?_ hro
 simp only[Tryz.ntmps157,List.size_toArray,List.length_cons,List.length_nil,Nat.reduceAdd,Nat.reduceSub,Array.replicate_succ,Array.replicate_zero,List.push_toArray,List.append_toArray,List.nil_append,List.cons_append]
 gi_wp2_with ((try refine⟨hdd _,?_⟩);gi_at_call 158;refine hw.mono ?_;clear hw;rintro e W1⟨rfl,hb1⟩)
 go_end0
 exact⟨⟨_,rfl⟩,hb1⟩
theorem S0T{F:Fence}(hF:∀f,F.fn f){l:Nat}{fn:FuncId}{tmps:Array Value}{p:Tmp}{ac bd:Code}{D:Nat}{B0:Nat}{J:Nat→World→Prop}(hJ:Deaf J)(hlB:B0≤l)(a₁:Value→World→Act)(O:Value→Obj)
  (hassign:∀(fz:Nat→Option Obj)(m:Nat)(v:Value)(t:Trm)(W:World)(K:Act→World→Prop),TrV fz t v→K (a₁ v W) (W.alloc (O v))→ac.wpIn (F.inRound l) m Tryz.prog (Exit.then K (fun _ _ _=>False)) {tmps:=(#[p].zip #[v]).foldl (fun t (p,v)=>t.setIfInBounds p v) tmps,defers:=[]} W)
  (hbody:∀(fz:Nat→Option Obj)(m:Nat)(v:Value)(t:Trm)(W W2:World)(b:Nat),b+vk t.kind≤4000→TrV fz t v→W2.heap[W.heap.size]?=some (O v)→J b W2→bd.wpIn (F.inRound l) m Tryz.prog (fun e _ W3=>e=.normal∧Keep B0 W2 W3∧J (b+vk t.kind) W3) (a₁ v W) W2):
  T0X F l {state:=.ready,pending:=none,fn,tmps,params:=#[p],assign:=ac,body:=bd,defers:=D} B0 J:=by
 intro fz m t v W b hbd ht hdt hl hj
 have hlt:l<W.heap.size:=(Array.getElem?_eq_some_iff.1 hl).1
 have hb1:Below W.heap.size W (W.alloc (O v)):=(Below.refl _ W).alloc (Nat.le_refl _) _
 have hl1:=(hb1.block l hlt).trans hl
 have hz:W.heap.size<(W.alloc (O v)).heap.size:=by simp
 refine⟨_,_,_,_,run_yield (P:=Tryz.prog) (args:=#[v]) hl rfl,roundIn_of_wpIn (hF _) ?_⟩
 refine hassign fz m v t W _ ht ?_
 refine⟨_,run_beginRound hl1 rfl,?_⟩
 have hO:((W.alloc (O v)).putObj l (.loop {state:=.busy,pending:=none,fn,tmps,params:=#[p],assign:=ac,body:=bd,defers:=D})).heap[W.heap.size]?=some (O v):=
  (World.putObj_heap_other (by omega)).trans (World.alloc_heap_new W _)
 have hj2:J b ((W.alloc (O v)).putObj l (.loop {state:=.busy,pending:=none,fn,tmps,params:=#[p],assign:=ac,body:=bd,defers:=D})):=hJ _ _ _ hj ((Still.of hb1).trans (Still.put hl1 trivial))
 refine wpIn_mono (hbody fz m v t W _ b hbd ht hO hj2) ?_
 rintro e a W3⟨rfl,hb3,hj3⟩
 have hl2:((W.alloc (O v)).putObj l (.loop {state:=.busy,pending:=none,fn,tmps,params:=#[p],assign:=ac,body:=bd,defers:=D})).heap[l]?=some (.loop {state:=.busy,pending:=none,fn,tmps,params:=#[p],assign:=ac,body:=bd,defers:=D}):=
  World.putObj_heap_same (by omega)
 have hsz:((W.alloc (O v)).putObj l (.loop {state:=.busy,pending:=none,fn,tmps,params:=#[p],assign:=ac,body:=bd,defers:=D})).heap.size=W.heap.size+1:=by simp
 have hl3:=hb3.block l _ hl2 (.inr trivial)
 have hsz3:=hb3.size
 rw[hsz] at hsz3
 refine⟨_,_,run_endRound (P:=Tryz.prog) none hl3,rfl,⟨hb3.os,hb3.tape,hb3.output,by simp;omega,fun k o e q=>?_⟩,hJ _ _ _ hj3 (Still.put hl3 trivial)⟩
 by_cases c:k=l
 ·subst c
  rw[hl] at e
  rw[World.putObj_heap_same (by omega),←e];rfl
 ·rw[World.putObj_heap_other c]
  refine hb3.block k o ?_ q
  rw[World.putObj_heap_other c]
  exact(hb1.block k (Array.getElem?_eq_some_iff.1 e).1).trans e
theorem d0e{F:Fence}(hd:F.depth=none)(hro:F.round=none)(hF:∀f,F.fn f){g:Operand}{p:Tmp}{ac bd:Code}{Q:Exit→Act→World→Prop}{a:Act}{w:World}{m:Nat}{B0:Nat}{J:Nat→World→Prop}(hJ:Deaf J)(hB0:B0≤w.heap.size)(fz:Nat→Option Obj)(t:Trm)
  (hs:A0G t≤4000) (B:Nat) (sv:Value) (hgv:a.eval g=.func (.func 157) #[] #[.pointer (some ⟨B,0,none⟩)]) (hbox:w.heap[B]?=some (.cells #[.int .i64 t.kind,.int .i64 t.n,.string t.s,sv] 25 (0,0)))
  (hsv:CRel fz (.sl (Cd.term:Cd) t.l) sv) (hdt:DatB fz B0 w) (b0:Nat) (hbd:b0+vn t≤4000) (hj:J b0 w) (a₁:Value→World→Act) (O:Value→Obj)
  (hassign:∀(l:Nat)(fz:Nat→Option Obj)(m:Nat)(v:Value)(t:Trm)(W:World)(K:Act→World→Prop),TrV fz t v→K (a₁ v W) (W.alloc (O v))→ac.wpIn (F.inRound l) m Tryz.prog (Exit.then K (fun _ _ _=>False)) {tmps:=(#[p].zip #[v]).foldl (fun t (p,v)=>t.setIfInBounds p v) a.tmps,defers:=[]} W)
  (hbody:∀(l:Nat)(fz:Nat→Option Obj)(m:Nat)(v:Value)(t:Trm)(W W2:World)(b:Nat),b+vk t.kind≤4000→TrV fz t v→W2.heap[W.heap.size]?=some (O v)→J b W2→bd.wpIn (F.inRound l) m Tryz.prog (fun e _ W3=>e=.normal∧Keep B0 W2 W3∧J (b+vk t.kind) W3) (a₁ v W) W2)
  (hdone:∀W2,Keep B0 w W2→W2.heap[w.heap.size]?=some (.deferred (some []))→J (b0+vn t) W2→Q .normal {a with defers:={target:=.collected w.heap.size,args:=#[]}::a.defers} W2):
  (Code.rangeFunc g #[p] ac bd).wpIn F m Tryz.prog Q a w:=by
 refine wpIn_rangeFunc ?_
 intro fn hfn
 rw[hro]
 have hdd:∀k:Nat,(F.depth.isSome=true→1≤k):=fun k h=>by rw[hd] at h;cases h
 let lp:Loop:={state:=.ready,pending:=none,fn,tmps:=a.tmps,params:=#[p],assign:=ac,body:=bd,defers:=w.heap.size}
 obtain⟨W1,hW1⟩:∃W1,(w.alloc (.deferred (some []))).alloc (.loop lp)=W1:=⟨_,rfl⟩
 have hL1:W1.heap[w.heap.size+1]?=some (.loop lp):=by
  rw[←hW1]
  have :=World.alloc_heap_new (w.alloc (.deferred (some []))) (.loop lp);rwa[World.size_alloc] at this
 have hK1:W1.heap[w.heap.size]?=some (.deferred (some [])):=by
  rw[←hW1];exact(Below.heap_alloc _ _ _ (by simp)).trans (World.alloc_heap_new w _)
 have hb1:Below w.heap.size w W1:=by rw[←hW1];exact((Below.refl _ w).alloc (Nat.le_refl _) _).alloc (by simp) _
 have hk1:Keep B0 w W1:=.of hb1
 have hsz:W1.heap.size=w.heap.size+2:=by rw[←hW1];simp
 have hd1:=hdt.grow hk1
 have hcall:=X0h F hd hro hF (w.heap.size+1) lp B0 J hJ (S0T hF hJ (by omega) a₁ O (hassign _) (hbody _)) fz t hs (m-1) B sv W1 b0 hbd hsv hd1 hL1 (hJ _ _ _ hj (.of hb1)) (hk1.block B _ hbox (.inr rfl))
 have hent:(Instr.enterLoop fn a.tmps #[p] ac bd none).run Tryz.prog w=.ok (w.heap.size+1,[{target:=.collected w.heap.size,args:=#[]}]) W1:=by rw[←hW1];exact run_enterLoop_outer _ _ _ _ _
 refine⟨w.heap.size+1,[{target:=.collected w.heap.size,args:=#[]}],W1,{target:=.fn (.func 157) #[.pointer (some ⟨B,0,none⟩)],args:=#[.func (.yield (w.heap.size+1)) #[] #[]]},W1,157,
  #[.func (.yield (w.heap.size+1)) #[] #[],.pointer (some ⟨B,0,none⟩)],W1,hent,V0Z hgv _ _,fun f' _=>hF f',Y0v _ _,hdd m,hcall.mono ?_⟩
 rintro e W2⟨⟨v,rfl⟩,hk2,hj2⟩
 have hl2:=hk2.block (w.heap.size+1) _ hL1 (.inr trivial)
 have hd2:=hk2.block w.heap.size _ hK1 (.inr trivial)
 have hk3:Keep B0 w (W2.putObj (w.heap.size+1) (.loop {lp with state:=.exhausted})):=by
  have hk:=hk1.trans hk2
  refine⟨hk.os,hk.tape,hk.output,by simp;exact hk.size,fun k o e q=>?_⟩
  have :=(Array.getElem?_eq_some_iff.1 e).1
  rw[World.putObj_heap_other (by omega)]
  exact hk.block k o e q
 exact⟨none,_,run_endLoop (P:=Tryz.prog) hl2 (by simp[lp]),hdone _ hk3 ((World.putObj_heap_other (by omega)).trans hd2) (hJ _ _ _ hj2 (Still.put hl2 trivial))⟩
end Go.Proofs.YtibaljifcbpmoaaGreatDoor

namespace Go.Proofs.YtibaljifcbpmoaaGreatDoor
open Go Go.Ev Go.Proofs Go.RowKit
set_option maxRecDepth 100000
abbrev BMR(m:Int→Option Bool)(n:Nat)(ents:List MapEntry)(clock:Nat):Prop:=MRel (fun _=>none) (Cd.int:Cd) (Cd.bool:Cd) m n ents clock
noncomputable abbrev EV:Env:=G0x Tryz.prog
theorem evOk:EnvOk EV Tryz.prog:=(E0b Tryz.prog).ty
theorem d0Y(x:Int):DRel (fun _=>none) (Cd.int:Cd) x (.int .i64 x):=by
 show LRel _ [Cell.i .i64 x] [Value.int .i64 x]
 refine⟨rfl,fun i cl e=>?_⟩
 cases i with
 |zero=>cases e;exact⟨_,rfl,.i .i64 x⟩
 |succ i=>cases e
theorem U0x(x:Bool):DRel (fun _=>none) (Cd.bool:Cd) x (.bool x):=by
 show LRel _ [Cell.b x] [Value.bool x]
 refine⟨rfl,fun i cl e=>?_⟩
 cases i with
 |zero=>cases e;exact⟨_,rfl,.b x⟩
 |succ i=>cases e
theorem b0S:P0Y EV 3 (Cd.int:Cd)=true:=by kernel_rfl
theorem e0J:Tryz.prog.underlying 211=some (.map 3 4):=by kernel_rfl
theorem und3:∃d,Tryz.prog.underlying 3=some d:=⟨.int .i64,by kernel_rfl⟩
theorem g0m{W:World}{b n clock:Nat}{m:Int→Option Bool}{ents:Array MapEntry}(hb:W.heap[b]?=some (.map ents clock))(H:BMR m n ents.toList clock)(x:Int):
  (Instr.lookup 211 (.map (some b)) (.int .i64 x) false).run Tryz.prog W=.ok (.bool ((m x).getD false)) W:=by
 let Γ:Gam:=⟨fun _=>none,fun _=>none,0⟩
 have hv:VRel Γ (.si .i64 x) (.int .i64 x):=by unfold VRel;rfl
 have e:D0P EV 211 false (Cd.int:Cd) (Cd.bool:Cd) m (.si .i64 x) St.new=.ok (.sb ((m x).getD false)) St.new:=by kernel_rfl
 obtain⟨a,s',v,h1,_,h3,h4⟩:=E0B (E:=EV) (P:=Tryz.prog) (Γ:=Γ) evOk hb H hv false (t:=211) (s:=St.new) (by rw[e];trivial)
 rw[e] at h1
 cases h1
 unfold VRel at h4
 subst h4
 exact h3
theorem updB{W:World}{b n clock:Nat}{m:Int→Option Bool}{ents:Array MapEntry}(hb:W.heap[b]?=some (.map ents clock))(H:BMR m n ents.toList clock)(x:Int):
  ∃ents' clock',(Instr.mapUpdate 211 (.map (some b)) (.int .i64 x) (.bool true)).run Tryz.prog W=.ok () {W with heap:=W.heap.setIfInBounds b (.map ents' clock')}∧BMR (updM m x true) (D0M m x n) ents'.toList clock':=by
 let Γ:Gam:=⟨fun _=>none,fun _=>none,0⟩
 obtain⟨d,hd⟩:=und3
 have hy:DRel Γ.fz (Cd.int:Cd) x (.int .i64 x):=d0Y x
 have hfits:=F0a b0S x
 have hck:∀em w,(Instr.checkKey em 10000 3 (.int .i64 x)).run Tryz.prog w=.ok () w:=fun em w=>E0P evOk (C0v hy) hfits em 9998
 have hu:∀w,(Sem.run Tryz.prog (underlying 211) w)=.ok (.map 3 4) w:=fun w=>by simp[go_sem,e0J]
 have hget:=MapKept.run_getObj_map (P:=Tryz.prog) hb
 rcases H.find (w:=W) (Γ:=Γ) evOk hd b0S hy with⟨f1,f2⟩|⟨b0,j,xe,f1,f2,f3,f4,f5⟩
 ·refine⟨_,_,?_,H.push hy (U0x true) f1⟩
  simp only[Instr.mapUpdate,Sem.run_bind,hu,Result.andThen_ok,hget,hck,f2,MapKept.run_setObj_map (P:=Tryz.prog) _ hb]
 ·have f3':ents[j]?=some xe:=by simpa using f3
  refine⟨_,_,?_,H.modify hy (U0x true) f1 f3' f5⟩
  simp only[Instr.mapUpdate,Sem.run_bind,hu,Result.andThen_ok,hget,hck,f2,f3',Option.map_some,Option.getD_some,f5,I0P evOk hfits (C0v hy),MapKept.run_setObj_map (P:=Tryz.prog) _ hb]
end Go.Proofs.YtibaljifcbpmoaaGreatDoor

namespace Go.Proofs.YtibaljifcbpmoaaGreatDoor
open Go Go.Ev Go.Proofs Go.RowKit Go.Shelf
set_option maxRecDepth 100000
attribute [local go_sem] Oper.semAt_some
def VJ(B0:Nat)(c:Nat)(W:World):Prop:=∃(v:Value)(n:Nat)(xs:List Value)(m:Int→Option Bool)(q:Nat)(ents:Array MapEntry)(clock:Nat),
 W.heap[B0]?=some (.cells #[v] 29 (0,0))∧W.heap[B0+1]?=some (.map ents clock)∧W.heap[B0+2]?=some (.cells #[.map (some (B0+1))] 211 (0,0))∧BMR m q ents.toList clock∧
 W.ownsRow (B0+3) 3 1 v n xs∧n≤c∧(n=0↔c=0)∧(c=0→∀x,m x=none)
theorem Y0E(B0:Nat):Deaf (VJ B0):=by
 rintro c W W'⟨v,n,xs,m,q,ents,clock,h1,h2,h3,h4,h5,h6⟩hs
 refine⟨v,n,xs,m,q,ents,clock,hs.block _ _ h1 (show¬((29:Nat)=25) by decide),hs.block _ _ h2 (show¬False from id),hs.block _ _ h3 (show¬((211:Nat)=25) by decide),h4,⟨h5.1,?_⟩,h6⟩
 rcases h5.2 with k|⟨g,cap,cur,k1,k2,k3,k4⟩
 ·exact .inl k
 ·exact .inr ⟨g,cap,cur,k1,k2,hs.block _ _ k3 (show¬((3:Nat)=25) by decide),k4⟩
theorem g0l:Tryz.prog.underlying 29=some (.slice 3):=by kernel_rfl
theorem inf3:∃i,Tryz.prog.info? 3=some i∧i.zero=some (.int .i64 0)∧i.size=1∧i.bytes=8:=⟨_,rfl,by kernel_rfl,by kernel_rfl,by kernel_rfl⟩
theorem d0l{B0 c:Nat}{W2 W4 W5:World}{v:Value}{n g cap:Nat}{xs xs':List Value}{m':Int→Option Bool}{q' clock clock':Nat}{ents ents':Array MapEntry}
  (j1:W2.heap[B0]?=some (.cells #[v] 29 (0,0))) (j2:W2.heap[B0+1]?=some (.map ents clock)) (j3:W2.heap[B0+2]?=some (.cells #[.map (some (B0+1))] 211 (0,0))) (j5:W2.ownsRow (B0+3) 3 1 v n xs)
  (hold:∀k,k<W2.heap.size→k≠B0+1→W4.heap[k]?=W2.heap[k]?) (hmap4:W4.heap[B0+1]?=some (.map ents' clock')) (hq:W4.os=W2.os∧W4.tape=W2.tape∧W4.output=W2.output∧W2.heap.size≤W4.heap.size)
  (j4:BMR m' q' ents'.toList clock') (hgr:W4.grownBy W5 v.ownBlock) (hh5:W5.heap[B0]?=some (.cells #[v] 29 (0,0))) (ho5:W5.ownsRow (B0+3) 3 1 (.slice (some ⟨g,0,none⟩) (n+1) cap) (n+1) xs') (hgB:B0+3≤g) (hn:n≤c):
  Keep B0 W2 (W5.setCell ⟨B0,0,none⟩ (.slice (some ⟨g,0,none⟩) (n+1) cap))∧VJ B0 (c+vk 1) (W5.setCell ⟨B0,0,none⟩ (.slice (some ⟨g,0,none⟩) (n+1) cap)):=by
 have hvk:vk 1=1:=if_pos rfl
 have hne:∀k,k<B0+3→some k≠v.ownBlock:=fun k hk e=>by have :=(j5.lt k e.symm).1;omega
 have l1:=(Array.getElem?_eq_some_iff.1 j2).1
 have l2:=(Array.getElem?_eq_some_iff.1 j3).1
 have oth:∀k,k≠B0→(W5.setCell ⟨B0,0,none⟩ (.slice (some ⟨g,0,none⟩) (n+1) cap)).heap[k]?=W5.heap[k]?:=fun k hk=>heap_setCell_other W5 ⟨B0,0,none⟩ k _ hk
 have hs5:(W5.setCell ⟨B0,0,none⟩ (.slice (some ⟨g,0,none⟩) (n+1) cap)).heap.size=W5.heap.size:=by simp[World.setCell]
 constructor
 ·refine⟨hgr.os.trans hq.1,hgr.tape.trans hq.2.1,hgr.output.trans hq.2.2.1,by rw[hs5];exact Nat.le_trans hq.2.2.2 hgr.size,fun k o ho hk=>?_⟩
  have hkl:=(Array.getElem?_eq_some_iff.1 ho).1
  have k0:k≠B0:=fun e=>by
   subst e
   rcases hk with hk|hk
   ·omega
   ·rw[j1] at ho;cases ho;exact absurd hk (show¬((29:Nat)=25) by decide)
  have k1:k≠B0+1:=fun e=>by
   subst e
   rcases hk with hk|hk
   ·omega
   ·rw[j2] at ho;cases ho;exact hk
  have k2:some k≠v.ownBlock:=fun e=>by
   rcases hk with hk|hk
   ·exact hne k (by omega) e
   ·rcases j5.2 with⟨rfl,_⟩|⟨g0,cap0,cur0,rfl,_,q1,_⟩
    ·cases e
    ·simp[Value.ownBlock] at e
     subst e
     rw[q1] at ho;cases ho;exact absurd hk (show¬((3:Nat)=25) by decide)
  rw[oth k k0,hgr.block k (Nat.lt_of_lt_of_le hkl hq.2.2.2) k2,hold k hkl k1]
  exact ho
 ·refine⟨.slice (some ⟨g,0,none⟩) (n+1) cap,n+1,xs',m',q',ents',clock',?_,?_,?_,j4,⟨ho5.1,?_⟩,by omega,by omega,by omega⟩
  ·exact(heap_setCell_same W5 B0 0 #[v] 29 _ hh5).trans rfl
  ·rw[oth _ (by omega),hgr.block _ (by omega) (hne _ (by omega))];exact hmap4
  ·rw[oth _ (by omega),hgr.block _ (by omega) (hne _ (by omega)),hold _ l2 (by omega)];exact j3
  ·rcases ho5.2 with⟨_,k⟩|⟨g1,cap1,cur1,k1,k2,k3,k4⟩
   ·omega
   ·exact .inr ⟨g1,cap1,cur1,k1,k2,(oth g1 (by omega)).trans k3,k4⟩
theorem W0e{W:World}{base e size n:Nat}{v:Value}{xs:List Value}(h:W.ownsRow base e size v n xs):∃A cap,v=.slice A n cap:=by
 rcases h.2 with⟨rfl,rfl⟩|⟨g,cap,cur,k1,k2,_⟩
 ·exact⟨none,0,rfl⟩
 ·exact⟨_,cap,k1⟩
theorem X0Q{W:World}{base e size n:Nat}{v:Value}{xs:List Value}(h:W.ownsRow base e size v (n+1) xs):∃g cap,v=.slice (some ⟨g,0,none⟩) (n+1) cap∧base≤g:=by
 rcases h.2 with⟨_,k⟩|⟨g,cap,cur,k1,k2,_⟩
 ·omega
 ·exact⟨g,cap,k1,k2⟩
set_option maxHeartbeats 4000000 in
theorem a0G(F:Fence)(hd:F.depth=none)(hro:F.round=none)(hF:∀f,F.fn f)(fz:Nat→Option Obj)(t:Trm)(hs:A0G t≤4000)
  (m:Nat) (v:Value) (w:World) (hv:CRel fz (.sl (Cd.term:Cd) [t]) v) (hdt:Dat fz w):
  CallsIn F m Tryz.prog 61 #[v] w fun e W'=>(∃A n cap,e=.returned (.slice A n cap)∧decide (n=0)=B0y t)∧Keep w.heap.size w W':=by
 have hdd:∀k:Nat,(F.depth.isSome=true→1≤k):=fun k h=>by rw[hd] at h;cases h
 obtain⟨A,cap,rfl,hk⟩:=C0N hv
 obtain⟨b,o,C,e,z,sx,rfl,hb,hC0,hC1,hC2,hC3,hsx⟩:=hk 0 t rfl
 have hsx':=hsx
 obtain⟨Ax,capx,rfl,_⟩:=C0N hsx
 have hbw:=hdt b _ hb
 have hdtB:DatB fz w.heap.size w:=fun b o e=>⟨(Array.getElem?_eq_some_iff.1 (hdt b o e)).1,hdt b o e⟩
 obtain⟨W3,hW3⟩:∃W3,((w.alloc (.cells #[.slice none 0 0] 29)).alloc (.map #[] 0)).alloc (.cells #[.map (some (w.heap.size+1))] 211)=W3:=⟨_,rfl⟩
 have hb3:Below w.heap.size w W3:=by rw[←hW3];exact(((Below.refl _ w).alloc (Nat.le_refl _) _).alloc (by simp) _).alloc (by simp;omega) _
 have hsz3:W3.heap.size=w.heap.size+3:=by rw[←hW3];simp
 have hout:W3.heap[w.heap.size]?=some (.cells #[.slice none 0 0] 29 (0,0)):=by
  rw[←hW3]
  exact(Below.heap_alloc _ _ _ (by simp;omega)).trans ((Below.heap_alloc _ _ _ (by simp)).trans (World.alloc_heap_new w _))
 have hmp:W3.heap[w.heap.size+1]?=some (.map #[] 0):=by
  rw[←hW3]
  have :=World.alloc_heap_new (w.alloc (.cells #[.slice none 0 0] 29)) (.map #[] 0)
  rw[World.size_alloc] at this
  exact(Below.heap_alloc _ _ _ (by simp)).trans this
 have hmb:W3.heap[w.heap.size+2]?=some (.cells #[.map (some (w.heap.size+1))] 211 (0,0)):=by
  rw[←hW3]
  have :=World.alloc_heap_new ((w.alloc (.cells #[.slice none 0 0] 29)).alloc (.map #[] 0)) (.cells #[.map (some (w.heap.size+1))] 211)
  rw[World.size_alloc,World.size_alloc] at this
  exact this
 have hJ3:VJ w.heap.size 0 W3:=⟨_,0,[],fun _=>none,0,_,_,hout,hmp,hmb,MRel.start rfl,World.ownsRow_nil _ _ _ _,Nat.le_refl _,Iff.rfl,fun _ _=>rfl⟩
 have hd3:=hdt.grow hb3
 have hbw:=hd3 b _ hb
 have hx0:W3.cell? ⟨b,o,none⟩=some (.int .i64 t.kind):=by simp[World.cell?,hbw];simpa using hC0
 have hx1:W3.cell? ⟨b,o+1,none⟩=some (.int .i64 t.n):=by simp[World.cell?,hbw];simpa using hC1
 have hx2:W3.cell? ⟨b,o+2,none⟩=some (.string t.s):=by simp[World.cell?,hbw];simpa using hC2
 have hx3:W3.cell? ⟨b,o+3,none⟩=some (.slice Ax t.l.length capx):=by simp[World.cell?,hbw];simpa using hC3
 obtain⟨W4,hW4⟩:∃W4,W3.alloc (.cells #[.int .i64 t.kind,.int .i64 t.n,.string t.s,.slice Ax t.l.length capx] 25)=W4:=⟨_,rfl⟩
 have hb4:Below W3.heap.size W3 W4:=by rw[←hW4];exact(Below.refl _ W3).alloc (Nat.le_refl _) _
 have hbox4:W4.heap[w.heap.size+3]?=some (.cells #[.int .i64 t.kind,.int .i64 t.n,.string t.s,.slice Ax t.l.length capx] 25 (0,0)):=by rw[←hW4,←hsz3];exact World.alloc_heap_new W3 _
 have hy0:W4.cell? ⟨w.heap.size+3,0,none⟩=some (.int .i64 t.kind):=by simp[World.cell?,hbox4]
 have hy1:W4.cell? ⟨w.heap.size+3,1,none⟩=some (.int .i64 t.n):=by simp[World.cell?,hbox4]
 have hy2:W4.cell? ⟨w.heap.size+3,2,none⟩=some (.string t.s):=by simp[World.cell?,hbox4]
 have hy3:W4.cell? ⟨w.heap.size+3,3,none⟩=some (.slice Ax t.l.length capx):=by simp[World.cell?,hbox4]
 obtain⟨W5,hW5⟩:∃W5,W4.alloc (.cells #[.int .i64 t.kind,.int .i64 t.n,.string t.s,.slice Ax t.l.length capx] 25)=W5:=⟨_,rfl⟩
 have hsz4:W4.heap.size=w.heap.size+4:=by rw[←hW4];simp[hsz3]
 have hb5:Below W4.heap.size W4 W5:=by rw[←hW5];exact(Below.refl _ W4).alloc (Nat.le_refl _) _
 have hbox5:W5.heap[w.heap.size+4]?=some (.cells #[.int .i64 t.kind,.int .i64 t.n,.string t.s,.slice Ax t.l.length capx] 25 (0,0)):=by rw[←hW5,←hsz4];exact World.alloc_heap_new W4 _
 have hsz5:W5.heap.size=w.heap.size+5:=by rw[←hW5];simp[hsz4]
 have hB5:Below W3.heap.size W3 W5:=hb4.trans (hb5.mono hb4.size)
 have hJ5:VJ w.heap.size 0 W5:=Y0E _ _ _ _ hJ3 (.of hB5)
 have hmm:=@run_makeMap Tryz.prog
 change CallsIn F m Tryz.prog 61 #[Value.slice (some ⟨b,o,none⟩) 1 cap] w _
 refine callsIn_of_wp_marks Tryz.func61 rfl (hF _) ?_ hro
 simp only[Tryz.ntmps61,List.size_toArray,List.length_cons,List.length_nil,Nat.reduceAdd,Nat.reduceSub,Array.replicate_succ,Array.replicate_zero,List.push_toArray,List.append_toArray,List.nil_append,List.cons_append]
 gi_wp2
 refine wpIn_loop_rounds 2 ?_
 rw[roundsIn_succ]
 gi_wp2_with ((try refine⟨hdd _,?_⟩);gi_at_call 110;refine(a0f F (m-1) hro hF _ _ _ _ _).mono ?_;rintro e W5⟨rfl,rfl⟩)
 refine d0e hd hro hF (Y0E w.heap.size) (by omega) fz t hs (w.heap.size+4) _ rfl hbox5 hsx' ((hdtB.grow (.of hb3)).grow (.of hB5)) 0 (by have :=Y0A t;omega) hJ5 (fun v W=>{tmps:=#[.slice (some ⟨b,o,none⟩) 1 cap,undef,.slice none 0 0,.pointer (some ⟨w.heap.size,0,none⟩),.pointer (some ⟨w.heap.size+1+1,0,none⟩),undef,.pointer (some ⟨w.heap.size+3,0,none⟩),.pointer (some ⟨W.heap.size,0,none⟩),.map (some (w.heap.size+1)),
   .slice (some ⟨b,o,none⟩) 1 cap,.int .i64 1,.int .i64 0,.bool true,.pointer (some ⟨b,o,none⟩),.agg #[.int .i64 t.kind,.int .i64 t.n,.string t.s,.slice Ax t.l.length capx],.agg #[.int .i64 t.kind,.int .i64 t.n,.string t.s,.slice Ax t.l.length capx],
   .func (.func 157) #[] #[.pointer (some ⟨w.heap.size+4,0,none⟩)],v,undef,undef,undef,undef,undef,undef,undef,undef,undef,undef,undef,undef,undef,undef,undef,undef,undef,undef,undef,undef],defers:=[]}) (fun v=>.cells v.cells 25) ?assign ?body ?done
 case assign=>
  intro l fz' m' v t' W K ht' hK
  obtain⟨A',cap',rfl⟩:=S0u ht'
  gi_wp2
  exact hK
 case body=>
  intro l fz' m' v t' W W2 b hbd ht' hO hJ
  obtain⟨A',cap',rfl⟩:=S0u ht'
  have hO:W2.heap[W.heap.size]?=some (.cells #[.int .i64 t'.kind,.int .i64 t'.n,.string t'.s,.slice A' t'.l.length cap'] 25 (0,0)):=hO
  have hz0:W2.cell? ⟨W.heap.size,0,none⟩=some (.int .i64 t'.kind):=by simp[World.cell?,hO]
  have hz1:W2.cell? ⟨W.heap.size,1,none⟩=some (.int .i64 t'.n):=by simp[World.cell?,hO]
  by_cases hk:t'.kind=1
  ·obtain⟨vo,n,xs,mm,q,ents,clock,j1,j2,j3,j4,j5,j6,j7,j8⟩:=hJ
   rw[hk] at hz0
   have hmc:W2.cell? ⟨w.heap.size+1+1,0,none⟩=some (.map (some (w.heap.size+1))):=by simp[World.cell?,j3]
   have hlk:=g0m j2 j4 t'.n
   cases hq:(mm t'.n).getD false with
   |
    true=>
    rw[hq] at hlk
    gi_wp2
    have hb0:b≠0:=fun e=>by rw[j8 e t'.n] at hq;cases hq
    refine⟨Keep.refl _ _,vo,n,xs,mm,q,ents,clock,j1,j2,j3,j4,j5,by omega,?_,fun e=>by omega⟩
    constructor
    ·intro e;exact absurd (j7.1 e) hb0
    ·intro e;omega
   |
    false=>
    rw[hq] at hlk
    obtain⟨ents',clock',hup,j4'⟩:=updB j2 j4 t'.n
    have hset:=MapKept.heap_set (o':=.map ents' clock') j2
    obtain⟨W3',hW3'⟩:∃W3',({W2 with heap:=W2.heap.setIfInBounds (w.heap.size+1) (.map ents' clock')}:World)=W3':=⟨_,rfl⟩
    rw[hW3'] at hup
    have k0:W3'.heap[w.heap.size+1]?=some (.map ents' clock'):=by rw[←hW3'];exact hset.1
    have k1:∀k,k≠w.heap.size+1→W3'.heap[k]?=W2.heap[k]?:=fun k hk=>by rw[←hW3'];exact hset.2 k hk
    have k2:W3'.heap.size=W2.heap.size:=by rw[←hW3'];simp
    have hneW:W.heap.size≠w.heap.size+1:=fun e=>by rw[e,j2] at hO;cases hO
    have j1':=(k1 w.heap.size (by omega)).trans j1
    have j3':=(k1 (w.heap.size+2) (by omega)).trans j3
    have hO':=(k1 _ hneW).trans hO
    have c0:W3'.cell? ⟨w.heap.size,0,none⟩=some vo:=by simp[World.cell?,j1']
    have c1:W3'.cell? ⟨W.heap.size,1,none⟩=some (.int .i64 t'.n):=by simp[World.cell?,hO']
    have j5':W3'.ownsRow (w.heap.size+3) 3 1 vo n xs:=⟨j5.1,by
     rcases j5.2 with k|⟨g,cap,cur,k3,k4,k5,k6⟩
     ·exact .inl k
     ·exact .inr ⟨g,cap,cur,k3,k4,(k1 g (by omega)).trans k5,k6⟩⟩
    obtain⟨W4',hW4'⟩:∃W4',W3'.alloc (.cells #[.int .i64 t'.n] 3)=W4':=⟨_,rfl⟩
    have j5'':W4'.ownsRow (w.heap.size+3) 3 1 vo n xs:=by rw[←hW4'];exact j5'.alloc _
    have hnb:n≤4000:=by omega
    obtain⟨i0,hi0,hi1,hi2,hi3⟩:=inf3
    have hnew:W4'.heap[W2.heap.size]?=some (.cells #[.int .i64 t'.n] 3 (0,0)):=by rw[←hW4',←k2];exact World.alloc_heap_new W3' _
    have hsz4:W4'.heap.size=W2.heap.size+1:=by rw[←hW4'];simp[k2]
    have hwz:w.heap.size+2<W2.heap.size:=(Array.getElem?_eq_some_iff.1 j3).1
    have hold:∀k,k<W2.heap.size→k≠w.heap.size+1→W4'.heap[k]?=W2.heap[k]?:=fun k hk1 hk2=>by rw[←hW4'];exact(Below.heap_alloc _ _ _ (by rw[k2];exact hk1)).trans (k1 k hk2)
    have hmap4:W4'.heap[w.heap.size+1]?=some (.map ents' clock'):=by rw[←hW4'];exact(Below.heap_alloc _ _ _ (by rw[k2];omega)).trans k0
    have q1:∀(j:Nat)(u:Value),[Value.int .i64 t'.n][j]?=some u→W4'.cell? ((⟨W2.heap.size,0,none⟩:Addr).add j)=some u:=by
     rw[←hW4',←k2];exact cell_one_new _ _ _
    have q2:∀u∈[Value.int .i64 t'.n],u.oneCell'=true:=by intro u hu;rw[List.mem_singleton.1 hu];rfl
    have q3:n+1≤maxLen:=by unfold maxLen;omega
    have q4:(n+1)*8≤140737488355328:=by omega
    have q5:w.heap.size+3≤W4'.heap.size:=by omega
    have c0':W4'.cell? ⟨w.heap.size,0,none⟩=some vo:=by simp[World.cell?,hold w.heap.size (by omega) (by omega),j1]
    have hne:∀k,k<w.heap.size+3→some k≠vo.ownBlock:=fun k hk e=>by have :=(j5.lt k e.symm).1;omega
    have hneb:=hne w.heap.size (by omega)
    have hlt4:w.heap.size<W4'.heap.size:=by omega
    have h40:=(hold w.heap.size (by omega) (by omega)).trans j1
    gi_wp2_with (gi_at_builtin;refine wpListIn_append_own _ rfl (.tmp 31) (.tmp 34) 29 rfl (w.heap.size+3) 3 i0 (.int .i64 0) 1 8 g0l hi0 hi1 hi2 hi3 rfl (by decide) vo n xs rfl j5'' ⟨W2.heap.size,0,none⟩ 1 1 [.int .i64 t'.n] rfl rfl q1 q2 q3 q4 q5 ?_;intro v' W5' ho5 hgr hnil;obtain⟨g,cap2,rfl,hgB⟩:=X0Q ho5;have hh5:=(hgr.block w.heap.size hlt4 hneb).trans h40;have hc5:=(hgr.cell c0' hneb);have hf5:W5'.frozen? ⟨w.heap.size,0,none⟩=false:=by simp[World.frozen?,hh5])
    exact d0l (v:=vo) j1 j2 j3 j5 hold hmap4 (by rw[←hW4',←hW3'];exact⟨rfl,rfl,rfl,by simp⟩) j4' hgr hh5 ho5 hgB j6
  ·have hvk:vk t'.kind=0:=if_neg hk
   gi_wp2
   all_goals first|exact Keep.refl _ _|(rw[hvk];exact hJ)
 case done=>
  intro W6 hb6 hK hJ6
  obtain⟨vo,n,xs,mm,q,ents,clock,j1,j2,j3,j4,j5,j6,j7,j8⟩:=hJ6
  obtain⟨Av,capv,rfl⟩:=W0e j5
  have hout6:W6.cell? ⟨w.heap.size,0,none⟩=some (.slice Av n capv):=by simp[World.cell?,j1]
  gi_wp2
  rw[roundsIn_succ]
  gi_wp2
  refine⟨by simp,.inl ⟨_,_,rfl,run_takeDeferred hK,?_⟩⟩
  refine⟨_,results_tmp rfl _ _ _,⟨_,_,_,rfl,?_⟩,?_⟩
  ·rw[←Q0o t]
   have :(n=0)↔(vn t=0):=by rw[j7];omega
   exact decide_eq_decide.2 this
  ·have hB6:Keep w.heap.size w W6:=(Keep.trans (.of hb3) (.of hB5)).trans hb6
   refine⟨hB6.os,hB6.tape,hB6.output,by simp;exact hB6.size,fun k o e q=>?_⟩
   rw[World.putObj_heap_other (by have :=(Array.getElem?_eq_some_iff.1 e).1;omega)]
   exact hB6.block k o e q
end Go.Proofs.YtibaljifcbpmoaaGreatDoor

namespace Go.Proofs.YtibaljifcbpmoaaGreatDoor
open Go Go.Ev Go.Proofs Go.RowKit Go.Shelf
set_option maxRecDepth 100000
attribute [local go_sem] Oper.semAt_some
def Ca57(F:Fence)(t:Trm):Prop:=∀(fz:Nat→Option Obj)(v:Value)(m:Nat)(W:World),CRel fz (.sl (Cd.term:Cd) [t]) v→Dat fz W→
 CallsIn F m Tryz.prog 57 #[v] W fun e W'=>e=.returned (.int .i64 (caE [t] 4000))∧Below W.heap.size W W'
set_option maxHeartbeats 2000000 in
theorem c0V(F:Fence)(hd:F.depth=none)(hro:F.round=none)(hF:∀f,F.fn f)(t:Trm)(h57:Ca57 F t)(fz:Nat→Option Obj)
  (m:Nat) (v:Value) (w:World) (hv:CRel fz (.sl (Cd.term:Cd) [t]) v) (hdt:Dat fz w):
  CallsIn F m Tryz.prog 32 #[v] w fun e W'=>(∃A n cap,e=.returned (.tuple #[.slice A n cap,.int .i64 (caE [t] 4000)])∧(decide (n=0)&&decide (caE [t] 4000=0))=(decide (caE [t] 4000=0)&&B0y t))∧Keep w.heap.size w W':=by
 have hdd:∀k:Nat,(F.depth.isSome=true→1≤k):=fun k h=>by rw[hd] at h;cases h
 have hc:=h57 fz v (m-1) w hv hdt
 have hvv:=fun W1 hb1 (h:caE [t] 4000=0)=>a0G F hd hro hF fz t (by have hz:=(X0x (by omega) h).1;unfold B0b B0b at hz;omega) (m-1) v W1 hv (hdt.grow hb1)
 obtain⟨A,cap,rfl,_⟩:=C0N hv
 change CallsIn F m Tryz.prog 32 #[Value.slice A 1 cap] w _
 change CallsIn F (m-1) Tryz.prog 57 #[Value.slice A 1 cap] w _ at hc
 change∀W1 hb1 h,CallsIn F (m-1) Tryz.prog 61 #[Value.slice A 1 cap] W1 _ at hvv
 refine callsIn_of_wp Tryz.func32 rfl (hF _) ?_ hro
 simp only[Tryz.ntmps32,List.size_toArray,List.length_cons,List.length_nil,Nat.reduceAdd,Nat.reduceSub,Array.replicate_succ,Array.replicate_zero,List.push_toArray,List.append_toArray,List.nil_append,List.cons_append]
 by_cases h0:caE [t] 4000=0
 ·rw[h0] at hc⊢
  gi_wp2_with ((try refine⟨hdd _,?_⟩);first|(gi_at_call 57;refine hc.mono ?_;clear hc;rintro e W1⟨rfl,hb1⟩)|(gi_at_call 61;refine(hvv W1 hb1 h0).mono ?_;rintro e W2⟨⟨A2,n2,cap2,rfl,hg⟩,hk2⟩))
  go_ret2
  refine⟨⟨A2,n2,⟨cap2,rfl⟩,by simp[hg]⟩,?_⟩
  have hk:=Keep.trans (B0:=w.heap.size) (.of hb1) ⟨hk2.os,hk2.tape,hk2.output,hk2.size,fun k o e q=>hk2.block k o e (q.imp (fun q=>Nat.lt_of_lt_of_le q hb1.size) id)⟩
  exact hk
 ·have h1:(caE [t] 4000 != 0)=true:=by simpa using h0
  gi_wp2_with ((try refine⟨hdd _,?_⟩);gi_at_call 57;refine hc.mono ?_;clear hc;rintro e W1⟨rfl,hb1⟩)
  go_ret2
  exact⟨⟨none,0,0,rfl,by simp[h0]⟩,.of hb1⟩
set_option maxHeartbeats 2000000 in
theorem c0W(F:Fence)(hd:F.depth=none)(hro:F.round=none)(hF:∀f,F.fn f)(t:Trm)(h57:Ca57 F t)(fz:Nat→Option Obj)
  (m:Nat) (sv:Value) (w:World) (hv:CRel fz (.sl (Cd.term:Cd) t.l) sv) (hdt:Dat fz w):
  CallsIn F m Tryz.prog 9 #[.agg #[.int .i64 t.kind,.int .i64 t.n,.string t.s,sv]] w fun e W'=>e=.returned (.tuple #[.bool (decide (caE [t] 4000=0)&&B0y t),.int .i64 (caE [t] 4000)])∧Keep w.heap.size w W':=by
 have hdd:∀k:Nat,(F.depth.isSome=true→1≤k):=fun k h=>by rw[hd] at h;cases h
 obtain⟨W0,hW0⟩:∃W0,w.alloc (.cells #[.int .i64 t.kind,.int .i64 t.n,.string t.s,sv] 25)=W0:=⟨_,rfl⟩
 have hb0:Below w.heap.size w W0:=by rw[←hW0];exact(Below.refl _ w).alloc (Nat.le_refl _) _
 have hbox:W0.heap[w.heap.size]?=some (.cells #[.int .i64 t.kind,.int .i64 t.n,.string t.s,sv] 25 (0,0)):=by rw[←hW0];exact World.alloc_heap_new w _
 have hsz0:W0.heap.size=w.heap.size+1:=by rw[←hW0];simp
 obtain⟨W1,hW1⟩:∃W1,W0.alloc (.cells #[.int .i64 t.kind,.int .i64 t.n,.string t.s,sv] 25)=W1:=⟨_,rfl⟩
 have hb1:Below W0.heap.size W0 W1:=by rw[←hW1];exact(Below.refl _ W0).alloc (Nat.le_refl _) _
 have harr:W1.heap[w.heap.size+1]?=some (.cells #[.int .i64 t.kind,.int .i64 t.n,.string t.s,sv] 25 (0,0)):=by rw[←hW1,←hsz0];exact World.alloc_heap_new W0 _
 have hB:Below w.heap.size w W1:=hb0.trans (hb1.mono hb0.size)
 let fz':Nat→Option Obj:=fun b=>if b=w.heap.size+1 then some (.cells #[.int .i64 t.kind,.int .i64 t.n,.string t.s,sv] 25 (0,0)) else fz b
 have hup:∀b o,fz b=some o→fz' b=some o:=fun b o e=>by
  have :=(Array.getElem?_eq_some_iff.1 (hdt b o e)).1
  show(if b=w.heap.size+1 then _ else fz b)=some o
  rw[if_neg (by omega)];exact e
 have hd1:Dat fz' W1:=fun b o e=>by
  have e:(if b=w.heap.size+1 then some (.cells #[.int .i64 t.kind,.int .i64 t.n,.string t.s,sv] 25 (0,0)) else fz b)=some o:=e
  by_cases c:b=w.heap.size+1
  ·rw[if_pos c] at e;cases e;rw[c];exact harr
  ·rw[if_neg c] at e;exact hdt.grow hB b o e
 have hsl:CRel fz' (.sl (Cd.term:Cd) [t]) (.slice (some ⟨w.heap.size+1,0,none⟩) 1 1):=by
  refine CRel.sl (Cd.term:Cd) [t] (w.heap.size+1) 0 1 #[.int .i64 t.kind,.int .i64 t.n,.string t.s,sv] 25 (0,0) (fun _ k=>(#[Value.int .i64 t.kind,.int .i64 t.n,.string t.s,sv][k]?).getD undef) (if_pos rfl) (Nat.le_refl _) (fun j x hj k hk=>?_) (fun j x hj k cl hk=>?_)
  ·cases j with
   |succ j=>cases hj
   |
    zero=>
    have hk:k<4:=hk
    rw[show 0+0*Univ.esz (Cd.term:Cd)+k=k by omega]
    rcases k with _|_|_|_|k
    ·rfl
    ·rfl
    ·rfl
    ·rfl
    ·omega
  ·cases j with
   |succ j=>cases hj
   |
    zero=>
    cases hj
    rcases k with _|_|_|_|k
    ·cases hk;exact .i .i64 t.kind
    ·cases hk;exact .i .i64 t.n
    ·cases hk;exact .s t.s
    ·cases hk;exact hv.mono hup
    ·cases hk
 have hc:=c0V F hd hro hF t h57 fz' (m-1) _ W1 hsl hd1
 have hc0:W0.cell? ⟨w.heap.size,0,none⟩=some (.int .i64 t.kind):=by simp[World.cell?,hbox]
 have hc1:W0.cell? ⟨w.heap.size,1,none⟩=some (.int .i64 t.n):=by simp[World.cell?,hbox]
 have hc2:W0.cell? ⟨w.heap.size,2,none⟩=some (.string t.s):=by simp[World.cell?,hbox]
 have hc3:W0.cell? ⟨w.heap.size,3,none⟩=some sv:=by simp[World.cell?,hbox]
 have hsv:∃A n cap,sv=.slice A n cap:=let⟨A,cap,e,_⟩:=C0N hv;⟨A,_,cap,e⟩
 obtain⟨A,q,cap,rfl⟩:=hsv
 refine callsIn_of_wp Tryz.func9 rfl (hF _) ?_ hro
 simp only[Tryz.ntmps9,List.size_toArray,List.length_cons,List.length_nil,Nat.reduceAdd,Nat.reduceSub,Array.replicate_succ,Array.replicate_zero,List.push_toArray,List.append_toArray,List.nil_append,List.cons_append]
 gi_wp2_with ((try refine⟨hdd _,?_⟩);gi_at_call 32;refine hc.mono ?_;clear hc;rintro e W2⟨⟨A2,n2,cap2,rfl,hg⟩,hk2⟩)
 ·go_ret2
  refine⟨?_,Keep.trans (.of hB) ⟨hk2.os,hk2.tape,hk2.output,hk2.size,fun k o e q=>hk2.block k o e (q.imp (fun q=>Nat.lt_of_lt_of_le q hB.size) id)⟩⟩
  have :(caE [t] 4000==0)=(decide (caE [t] 4000=0)&&B0y t):=by rw[←hg];by_cases c:caE [t] 4000=0<;>simp_all
  rw[←this];rfl
 ·go_ret2
  refine⟨?_,Keep.trans (.of hB) ⟨hk2.os,hk2.tape,hk2.output,hk2.size,fun k o e q=>hk2.block k o e (q.imp (fun q=>Nat.lt_of_lt_of_le q hB.size) id)⟩⟩
  have :(decide (caE [t] 4000=0)&&B0y t)=false:=by
   rw[←hg]
   have hn:¬n2=0:=by simp_all
   simp[hn]
  rw[this];rfl
theorem Z0H:grd2C.Kept Tryz.prog 9:=by
 intro(x:TrmY×Unit)_ r hr
 obtain⟨⟨k,n,s,l,u1⟩,u2⟩:=x
 let t:Trm:=⟨k,n,s,l⟩
 have hr:some (AVal.tup [.sb (decide (caE [t] 4000=0)&&B0y t),.si .i64 (caE [t] 4000)])=some r:=hr
 cases hr
 refine⟨rfl,fun Γ w vs hst hno hlo hv=>?_⟩
 have hv:VRels Γ [trmV t] vs.toList:=hv
 obtain⟨v,ws,e,h1,h2⟩:=hv.cons_inv
 have :=h2.nil_inv
 subst this
 have e:vs=#[v]:=by rw[←Array.toArray_toList (xs:=vs),e]
 subst e
 have h57:Ca57 (FW none) t:=by
  intro fz v m W hv hdt
  have hmax:[t].length≤maxL:=by unfold maxL;simp
  have hk:=(c0P (show Pts [Pt.d Cd.term] from([t],())) hmax _ rfl).2
  have hvs:VRels (⟨fun _=>none,fz,W.heap.size⟩:Gam) [AVal.dsl (Cd.term:Cd) [t]] (#[v]:Array Value).toList:=.cons (by unfold VRel;exact hv) .nil
  have hq:=(hk ⟨fun _=>none,fz,W.heap.size⟩ W #[v] (fun b o e=>hdt b o e) (fun _=>rfl) rfl hvs).2 m
  refine CallsIn.mono hq ?_
  rintro e W'⟨u,Γ',rfl,hu,_,_,_,hb⟩
  unfold VRel at hu
  subst hu
  exact⟨rfl,hb⟩
 have ht:=h1
 unfold trmV VRel at ht
 obtain⟨cs,rfl,ht⟩:=ht
 obtain⟨v0,ws,e0,g0,ht⟩:=ht.cons_inv
 obtain⟨v1,ws1,e1,g1,ht⟩:=ht.cons_inv
 obtain⟨v2,ws2,e2,g2,ht⟩:=ht.cons_inv
 obtain⟨v3,ws3,e3,g3,ht⟩:=ht.cons_inv
 have :=ht.nil_inv
 subst this e3 e2 e1
 unfold VRel at g0 g1 g2 g3
 subst g0 g1 g2
 have e0:cs=#[.int .i64 k,.int .i64 n,.string s,v3]:=by rw[←Array.toArray_toList (xs:=cs),e0]
 subst e0
 refine⟨enters_of Tryz.func9 (by kernel_rfl) rfl _ _,fun m=>?_⟩
 refine CallsIn.mono (c0W (FW none) rfl rfl (fun _=>trivial) t h57 Γ.fz m v3 w g3 (fun b o e=>hst b o e)) ?_
 rintro e w'⟨rfl,hb⟩
 have hB:Below w.heap.size w w':=⟨hb.os,hb.tape,hb.output,hb.size,fun k hk=>by
  rw[Array.getElem?_eq_getElem hk];exact hb.block k _ (Array.getElem?_eq_getElem hk) (.inl hk)⟩
 refine⟨_,Γ,rfl,?_,hno,Ext.refl Γ,fun b o e=>?_,hB⟩
 ·unfold VRel
  exact⟨_,rfl,.cons (by unfold VRel;rfl) (.cons (by unfold VRel;rfl) .nil)⟩
 ·have h0:=hst b o e
  exact(hB.block b (Array.getElem?_eq_some_iff.1 h0).1).trans h0
end Go.Proofs.YtibaljifcbpmoaaGreatDoor

