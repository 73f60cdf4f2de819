/- A part of the proof of the statement: no conditions. -/
import Derived.Calls
import Derived.Orders
import Derived.Below
import Derived.Laws.Sem
import Derived.Laws.Entries
import Derived.ChangeKeysEq
import Derived.Laws.StructEq
set_option linter.unusedSectionVars false
set_option linter.unusedVariables false
set_option linter.unusedSimpArgs false
namespace Go.Ev
open Go
noncomputable section
inductive Tr(α:Type) where
  |nil
  |leaf (a:α)
  |node (l r:Tr α)
def sel{α:Type}(b:Bool)(x y:α):α:=Bool.rec y x b
def Tr.get{α:Type}(t:Tr α):Nat→Option α:=
  Tr.rec (motive:=fun _=>Nat→Option α) (fun _=>none) (fun a _=>some a) (fun _ _ gl gr n=>Bool.rec (gr (Nat.div n 2)) (gl (Nat.div n 2)) (Nat.beq (Nat.mod n 2) 0)) t
def Tr.set{α:Type}(t:Tr α):Nat→α→Tr α:=
  Tr.rec (motive:=fun _=>Nat→α→Tr α) (fun _ v=>.leaf v) (fun _ _ v=>.leaf v) (fun l r sl sr n v=>Bool.rec (.node l (sr (Nat.div n 2) v)) (.node (sl (Nat.div n 2) v) r) (Nat.beq (Nat.mod n 2) 0)) t
def nth{α:Type}(l:List α):Nat→Option α:=
  List.rec (motive:=fun _=>Nat→Option α) (fun _=>none) (fun a _ ih n=>Nat.rec (some a) (fun m _=>ih m) n) l
def tak{α:Type}(l:List α):Nat→List α:=
  List.rec (motive:=fun _=>Nat→List α) (fun _=>[]) (fun a _ ih n=>Nat.rec [] (fun m _=>a::ih m) n) l
def drp{α:Type}(l:List α):Nat→List α:=
  List.rec (motive:=fun _=>Nat→List α) (fun _=>[]) (fun a l ih n=>Nat.rec (a::l) (fun m _=>ih m) n) l
def len{α:Type}(l:List α):Nat:=List.rec (motive:=fun _=>Nat→Nat) (fun n=>n) (fun _ _ ih n=>ih (Nat.succ n)) l 0
def map1{α β:Type}(f:α→β)(l:List α):List β:=List.rec (motive:=fun _=>List β) [] (fun a _ ih=>f a::ih) l
def Tr.full{α:Type}:Nat→Tr α
  |0=>.nil
  |d+1=>.node (Tr.full d) (Tr.full d)
def Tr.build{α:Type}:Nat→(Nat→Option α)→Tr α
  |0,f=>match f 0 with |some a=>.leaf a|none=>.nil
  |d+1,f=>.node (Tr.build d fun n=>f (2*n)) (Tr.build d fun n=>f (2*n+1))
inductive Cell(C:Type)(S:C→Type) where
  |b (x:Bool)
  |i (k:IntKind) (x:Int)
  |s (x:ByteArray)
  |sl (c:C) (l:List (S c))
  |f (n:FuncId)
def Cell.scal{C:Type}{S:C→Type}(c:Cell C S):Bool:=match c with
  |.sl _ _=>false
  |_=>true
inductive CK(C:Type) where
  |b
  |i (k:IntKind)
  |s
  |sl (c:C)
  |f (n:FuncId)
def Cell.kd{C:Type}{S:C→Type}(c:Cell C S):CK C:=match c with
  |.b _=>.b
  |.i k _=>.i k
  |.s _=>.s
  |.sl c _=>.sl c
  |.f n=>.f n
class Univ where
  C:Type
  S:C→Type
  dflt:(c:C)→S c
  esz:C→Nat
  cells:(c:C)→S c→List (Cell C S)
  dec:DecidableEq C
  len:∀c x,(cells c x).length=esz c
  pos:∀c,0<esz c
  unc:(c:C)→List (Cell C S)→Option (S c)
  unc_ok:∀c cs x,unc c cs=some x→cells c x=cs
  elt:TypeId→Option C
  flat:C→Bool
  flat_ok:∀c x,flat c=true→∀cl∈cells c x,cl.scal=true
  agg:C→Bool
  agg_ok:∀c,agg c=false→esz c=1
  uni:∀c x y,(cells c x).map Cell.kd=(cells c y).map Cell.kd
  inj:∀c x y,cells c x=cells c y→x=y
variable[Univ]
inductive AVal where
  |bool (b:Bool)
  |int (k:IntKind) (n:Int)
  |str (s:List UInt8)
  |ptr (n off:Nat)
  |nilp
  |slice (n off len:Nat) (cap:Option Nat) (esz:Nat)
  |nils
  |map (n:Nat)
  |nilm
  |fn (f:FuncId) (first captured:List AVal)
  |nilf
  |iface (t:TypeId) (v:AVal)
  |nili
  |agg (l:List AVal)
  |tup (l:List AVal)
  |raw (v:Value)
  |any
  |yld (n:Nat)
  |sb (x:Bool)
  |si (k:IntKind) (x:Int)
  |ss (x:ByteArray)
  |dsl (c:Univ.C) (l:List (Univ.S c))
  |dptr (c:Univ.C) (l:List (Univ.S c)) (i o:Nat)
  |asl (c:Univ.C) (n off len:Nat)
  |aptr (c:Univ.C) (n i o:Nat)
  |dmp (k v:Univ.C) (m:Univ.S k→Option (Univ.S v)) (n:Nat)
def AVal.undef:AVal:=.tup []
def AVal.cells(v:AVal):List AVal:=match v with
  |.agg l=>l
  |.any=>[]
  |v=>[v]
def H0N(v:Value):AVal:=match v with
  |.bool b=>.bool b
  |.int k n=>.int k n
  |.string s=>.str s.data.toList
  |.pointer none=>.nilp
  |.slice none 0 0=>.nils
  |.map none=>.nilm
  |.nilFunc=>.nilf
  |.nilIface=>.nili
  |.agg _=>.any
  |v=>.raw v
def G0C(v:Value):AVal:=match v with
  |.agg cs=>.agg (cs.toList.map H0N)
  |.tuple cs=>.tup (cs.toList.map H0N)
  |v=>H0N v
inductive AExit where
  |normal
  |exit (id:Nat)
  |ret
structure Tm where
  t:Tr AVal
  n:Nat
  mks:List Nat
  rnd:Option Nat
inductive Rcd where
  |mark
  |loop (st:Nat) (pend:AExit)
inductive DObj where
  |map (k v:Univ.C) (m:Univ.S k→Option (Univ.S v)) (n:Nat)
  |iter (k v:Univ.C) (m:Univ.S k→Option (Univ.S v)) (cur:Option (Univ.S k×Univ.S v))
inductive AObj where
  |cells (cs:List AVal) (e:TypeId) (frz dead:Bool) (root rel:Nat) (alive:List (Nat×Nat×Nat))
  |map (kt:TypeId) (es:List (AVal×AVal)) (clock:Nat)
  |miter (m:Option Nat) (since:Nat) (seen:List AVal)
  |siter (y:Bool) (s:List UInt8) (pos:Nat)
  |arr (c:Univ.C) (l:List (Univ.S c))
  |rcd (k:Rcd)
  |dat (d:DObj)
  |mps (k c:Univ.C) (m:Univ.S k→Option (List (Univ.S c))) (n:Nat) (lent:Option (Univ.S k))
  |done
structure Rg where
  n:Nat
  i:Nat
  k:Nat
structure St where
  h:Tr AObj
  nx:Nat
  lo:Nat
  rd:List Rg
  wr:List Rg
inductive Res(α:Type) where
  |ok (a:α) (s:St)
  |br (l r:Res α)
  |ite (b:Bool) (l r:Res α)
  |fail (w:List Nat)
  |each (c:Univ.C) (p:Univ.S c→Bool) (f:Univ.S c→Res α)
def M(α:Type):=St→Res α
def Res.bind{α β:Type}(x:Res α)(f:α→St→Res β):Res β:=
  Res.rec (motive:=fun _=>Res β) (fun a s=>f a s) (fun _ _ l r=>.br l r) (fun b _ _ l r=>.ite b l r) (fun w=>.fail w) (fun c p _ ih=>.each c p ih) x
def Res.onDet{α β:Type}(x:Res α)(f:α→St→Res β):Res β:=
  Res.rec (motive:=fun _=>Res β) (fun a s=>f a s) (fun _ _ _ _=>.fail []) (fun b _ _ l r=>.ite b l r) (fun w=>.fail w) (fun _ _ _ _=>.fail []) x
def M.pure{α:Type}(a:α):M α:=fun s=>.ok a s
def M.bind{α β:Type}(m:M α)(f:α→M β):M β:=fun s=>(m s).bind f
def M.fail{α:Type}:M α:=fun _=>.fail []
def M.req(b:Bool){α:Type}(m:M α):M α:=sel b m M.fail
def M.ite{α:Type}(b:Bool)(m n:M α):M α:=fun s=>.ite b (m s) (n s)
def M.need{α:Type}(b:Bool)(m:M α):M α:=M.ite b m M.fail
def M.gate{α:Type}(sym b:Bool)(m n:M α):M α:=sel sym (M.ite b m n) (sel b m n)
def M.all{α:Type}(c:Univ.C)(p:Univ.S c→Bool)(f:Univ.S c→M α):M α:=fun s=>.each c p fun x=>f x s
def M.opt{α:Type}(o:Option α):M α:=match o with |some a=>M.pure a|none=>M.fail
def DH:Nat:=14
def LH:Nat:=16384
def DT:Nat:=9
def LT:Nat:=512
def DY:Nat:=12
def LY:Nat:=4096
structure Head where
  e:TypeId
  frz:Bool
  dead:Bool
  root:Nat
  rel:Nat
  size:Nat
def T0p(n i k:Nat)(h:Tr AObj)(nx lo:Nat)(rd wr:List Rg):St:=sel (Nat.ble lo n) ⟨h,nx,lo,rd,wr⟩ ⟨h,nx,lo,⟨n,i,k⟩::rd,wr⟩
def T0a(n i k:Nat)(h:Tr AObj)(nx lo:Nat)(rd wr:List Rg):St:=sel (Nat.ble lo n) ⟨h,nx,lo,rd,wr⟩ ⟨h,nx,lo,rd,⟨n,i,k⟩::wr⟩
def look{α:Type}(n:Nat)(k:AObj→St→Res α):M α:=fun s=>match s with
  |
    ⟨h,nx,lo,rd,wr⟩=>sel (Nat.blt n nx) (match h.get n with
    |none=>.fail []
    |some o=>k o ⟨h,nx,lo,rd,wr⟩) (.fail [])
def St.logR(s:St)(n i k:Nat):St:=match s with |⟨h,nx,lo,rd,wr⟩=>T0p n i k h nx lo rd wr
def St.put(s:St)(n:Nat)(o:AObj)(i k:Nat):St:=match s with |⟨h,nx,lo,rd,wr⟩=>T0a n i k (h.set n o) nx lo rd wr
def okS{α:Type}(a:α)(s:St):Res α:=match s with |⟨h,nx,lo,rd,wr⟩=>.ok a ⟨h,nx,lo,rd,wr⟩
def rdHead(n:Nat):M Head:=look n fun o s=>match o with
  |.cells cs e frz dead root rel _=>okS ⟨e,frz,dead,root,rel,len cs⟩ (s.logR n 0 1)
  |_=>.fail []
def rdAlive(n:Nat):M (List (Nat×Nat×Nat)):=look n fun o s=>match o with
  |.cells _ _ _ _ _ _ alive=>okS alive (s.logR n 1 1)
  |_=>.fail []
def rdCells(n off k:Nat):M (List AVal):=look n fun o s=>match o with
  |.cells cs _ _ dead _ _ _=>sel dead (.fail []) (sel (Nat.ble (off+k) (len cs)) (okS (tak (drp cs off) k) ((s.logR n 0 1).logR n (off+2) k)) (.fail []))
  |_=>.fail []
def rdCell(n off:Nat):M AVal:=look n fun o s=>match o with
  |
    .cells cs _ _ dead _ _ _=>sel dead (.fail []) (match nth cs off with
    |some v=>okS v ((s.logR n 0 1).logR n (off+2) 1)
    |none=>.fail [])
  |_=>.fail []
def X0n:List AVal→List AVal→List AVal
  |cs,[]=>cs
  |[],_=>[]
  |_::cs,v::l=>v::X0n cs l
def over(cs:List AVal)(i:Nat)(l:List AVal):List AVal:=
  List.rec (motive:=fun _=>Nat→List AVal) (fun _=>[]) (fun c cs ih i=>Nat.rec (X0n (c::cs) l) (fun m _=>c::ih m) i) cs i
def O0t(v:AVal):Bool:=match v with
  |.agg _=>false
  |.tup _=>false
  |.any=>false
  |.raw u=>(match u with |.tuple _=>false|.agg _=>false|_=>true)
  |_=>true
def E0V:List AVal→Bool
  |[]=>true
  |v::l=>sel (O0t v) (E0V l) false
def wrCells(n off:Nat)(vs:List AVal):M Unit:=look n fun o s=>match o with
  |.cells cs e frz dead root rel alive=>sel (sel frz true dead) (.fail []) (sel (sel (E0V vs) (Nat.ble (off+len vs) (len cs)) false)
      (okS () ((s.logR n 0 1).put n (.cells (over cs off vs) e false false root rel alive) (off+2) (len vs))) (.fail []))
  |_=>.fail []
def wrDead(n:Nat):M Unit:=look n fun o s=>match o with
  |.cells cs e frz _ root rel alive=>okS () (s.put n (.cells cs e frz true root rel alive) 0 1)
  |_=>.fail []
def wrFrz(n:Nat):M Unit:=look n fun o s=>match o with
  |.cells cs e _ dead root rel alive=>okS () (s.put n (.cells cs e true dead root rel alive) 0 1)
  |_=>.fail []
def wrAlive(n:Nat)(l:List (Nat×Nat×Nat)):M Unit:=look n fun o s=>match o with
  |.cells cs e frz dead root rel _=>okS () (s.put n (.cells cs e frz dead root rel l) 1 1)
  |_=>.fail []
def alloc(o:Nat→AObj):M Nat:=fun s=>match s with
  |⟨h,nx,lo,rd,wr⟩=>sel (Nat.blt nx LH) (.ok nx ⟨h.set nx (o nx),Nat.succ nx,lo,rd,wr⟩) (.fail [])
def B0i(e:TypeId)(cs:List AVal):M Nat:=alloc fun n=>.cells cs e false false n 0 [(n,0,len cs)]
structure Ents where
  kt:TypeId
  es:List (AVal×AVal)
  clock:Nat
def rdMap(n:Nat):M Ents:=look n fun o s=>match o with
  |.map kt es c=>okS ⟨kt,es,c⟩ (s.logR n 0 1)
  |_=>.fail []
def wrMap(n:Nat)(kt:TypeId)(es:List (AVal×AVal))(c:Nat):M Unit:=look n fun o s=>match o with
  |.map _ _ _=>okS () (s.put n (.map kt es c) 0 1)
  |_=>.fail []
def rdIter(n:Nat):M (Option Nat×Nat×List AVal):=look n fun o s=>match o with
  |.miter m since seen=>okS (m,since,seen) (s.logR n 0 1)
  |_=>.fail []
def wrIter(n:Nat)(m:Option Nat)(since:Nat)(seen:List AVal):M Unit:=look n fun o s=>match o with
  |.miter _ _ _=>okS () (s.put n (.miter m since seen) 0 1)
  |_=>.fail []
def wrDone(n:Nat):M Unit:=look n fun o s=>match o with
  |.miter _ _ _=>okS () (s.put n .done 0 1)
  |_=>.fail []
def rdSiter(n:Nat):M (Bool×List UInt8×Nat):=look n fun o s=>match o with
  |.siter y l pos=>okS (y,l,pos) (s.logR n 0 1)
  |_=>.fail []
def wrSiter(n:Nat)(l:List UInt8)(pos:Nat):M Unit:=look n fun o s=>match o with
  |.siter y _ _=>okS () (s.put n (.siter y l pos) 0 1)
  |_=>.fail []
structure Arr where
  c:Univ.C
  l:List (Univ.S c)
def rdArr(n:Nat):M Arr:=look n fun o s=>match o with
  |.arr c l=>okS ⟨c,l⟩ (s.logR n 0 1)
  |_=>.fail []
def wrArr(n:Nat)(a:Arr):M Unit:=look n fun o s=>match o with
  |.arr _ _=>okS () (s.put n (.arr a.c a.l) 0 1)
  |_=>.fail []
def wrGone(n:Nat):M Unit:=look n fun o s=>match o with
  |.arr _ _=>okS () (s.put n .done 0 1)
  |_=>.fail []
def D0V(c' c:Univ.C)(l:List (Univ.S c')):Option (List (Univ.S c)):=match Univ.dec c' c with
  |.isTrue h=>some (h▸l)
  |.isFalse _=>none
def F0r(c' c:Univ.C):Bool:=match Univ.dec c' c with
  |.isTrue _=>true
  |.isFalse _=>false
def E0U(c:Univ.C)(n:Nat):M (List (Univ.S c)):=M.bind (rdArr n) fun a=>M.opt (D0V a.c c a.l)
def F0B(a:AVal):Option (Cell Univ.C Univ.S):=match a with
  |.bool b=>some (.b b)
  |.sb b=>some (.b b)
  |.int k n=>some (.i k n)
  |.si k n=>some (.i k n)
  |.str s=>some (.s ⟨s.toArray⟩)
  |.ss s=>some (.s s)
  |.dsl c l=>some (.sl c l)
  |
    .fn f x y=>(match x with
    |
      []=>(match y with
      |[]=>some (.f f)
      |_=>none)
    |_=>none)
  |_=>none
def cellsOf:List AVal→Option (List (Cell Univ.C Univ.S))
  |[]=>some []
  |
    a::l=>match F0B a with
    |none=>none
    |
      some c=>match cellsOf l with
      |none=>none
      |some cs=>some (c::cs)
def putG{α:Type}(cs:List α)(o:Nat)(l:List α):List α:=tak cs o++(l++drp cs (o+len l))
def subL{α:Type}(l:List α)(off n:Nat):List α:=(l.drop off).take n
def rdDat(n:Nat):M DObj:=look n fun o s=>match o with
  |.dat d=>okS d (s.logR n 0 1)
  |_=>.fail []
def rdDat?(n:Nat):M (Option DObj):=look n fun o s=>match o with
  |.dat d=>okS (some d) (s.logR n 0 1)
  |.map _ _ _=>okS none (s.logR n 0 1)
  |.miter _ _ _=>okS none (s.logR n 0 1)
  |_=>.fail []
def wrDat(n:Nat)(d:DObj):M Unit:=look n fun o s=>match o with
  |.dat _=>okS () (s.put n (.dat d) 0 1)
  |_=>.fail []
def wrLost(n:Nat):M Unit:=look n fun o s=>match o with
  |.dat _=>okS () (s.put n .done 0 1)
  |_=>.fail []
structure MpS where
  k:Univ.C
  c:Univ.C
  m:Univ.S k→Option (List (Univ.S c))
  n:Nat
  lent:Option (Univ.S k)
def rdMps?(n:Nat):M (Option MpS):=look n fun o s=>match o with
  |.mps k c m q l=>okS (some ⟨k,c,m,q,l⟩) (s.logR n 0 1)
  |_=>okS none (s.logR n 0 1)
def wrMps(n:Nat)(p:MpS):M Unit:=look n fun o s=>match o with
  |.mps _ _ _ _ _=>okS () (s.put n (.mps p.k p.c p.m p.n p.lent) 0 1)
  |_=>.fail []
structure LSt where
  st:Nat
  pend:AExit
def rdLoop(n:Nat):M LSt:=look n fun o s=>match o with
  |.rcd (.loop st pend)=>okS ⟨st,pend⟩ (s.logR n 0 1)
  |_=>.fail []
def wrLoop(n st:Nat)(pend:AExit):M Unit:=look n fun o s=>match o with
  |.rcd (.loop _ _)=>okS () (s.put n (.rcd (.loop st pend)) 0 1)
  |_=>.fail []
def wrMark(n:Nat):M Unit:=look n fun o s=>match o with
  |.rcd .mark=>okS () (s.put n .done 0 1)
  |_=>.fail []
def F0q(lo hi:Nat)(keep:Nat):List (Nat×Nat×Nat)→M (List (Nat×Nat×Nat))
  |[]=>M.pure []
  |x
      ::l=>M.bind (F0q lo hi keep l) fun r=>
      sel (Nat.beq x.1 keep||Nat.ble x.2.2 lo||Nat.ble hi x.2.1) (M.pure (x::r)) (M.bind (wrDead x.1) fun _=>M.pure r)
def H0i(n off:Nat)(vs:List AVal)(h:Head)(l:List (Nat×Nat×Nat)):M Unit:=
  M.bind (F0q (h.rel+off) (h.rel+off+len vs) n l) fun r=>M.bind (wrAlive h.root r) fun _=>wrCells n off vs
def E0Q(n off:Nat)(vs:List AVal)(h:Head)(l:List (Nat×Nat×Nat)):M Unit:=match l with
  |[_]=>wrCells n off vs
  |l=>H0i n off vs h l
def storeAt(n off:Nat)(vs:List AVal):M Unit:=
  match vs with
  |[]=>M.pure ()
  |v::vs=>M.bind (rdHead n) fun h=>M.bind (rdAlive h.root) fun l=>E0Q n off (v::vs) h l
structure FI where
  off:Nat
  size:Nat
  t:TypeId
  agg:Bool
  named:Bool
inductive TK where
  |bool
  |int (k:IntKind)
  |str
  |ptr (e:TypeId) (sz:Bool)
  |slice (e esz:Nat)
  |array (n e esz:Nat)
  |struct (fs:List FI)
  |map (k e:TypeId)
  |func
  |iface (empty:Bool)
  |uptr
  |other
structure TI where
  k:TK
  size:Nat
  bytes:Nat
  agg:Bool
  zero:List AVal
  guard:Bool
  stood:Bool
def H0M(d:TypeDesc):Bool:=match d with |.struct _=>true|.array _ _=>true|_=>false
def B0Q(P:Program)(d:TypeDesc):TK:=match d with
  |.bool=>.bool
  |.int k=>.int k
  |.string=>.str
  |.pointer e=>.ptr e (!Nat.beq (P.cellsOf e) 0)
  |.slice e=>.slice e (P.cellsOf e)
  |.array n e=>.array n e (P.cellsOf e)
  |.struct fs=>.struct (fs.toList.map fun f=>⟨f.offset,P.cellsOf f.type,f.type,((P.underlying f.type).map H0M).getD false,f.name != "_"⟩)
  |.map k e=>.map k e
  |.func _ _ _=>.func
  |.interface ms=>.iface ms.isEmpty
  |.unsafePointer=>.uptr
  |_=>.other
def K0C(v:Value):Bool:=match v with |.agg _=>true|_=>false
def mkTI(P:Program)(t:TypeId):Option TI:=
  match P.info? t,P.underlying t with
  |
    some i,some d=>match i.zero with
    |some z=>sel (K0C z==H0M d) (some ⟨B0Q P d,i.size,i.bytes,H0M d,(G0C z).cells,P.eqGuardType P.depth t,P.stoodInHeld t⟩) none
    |none=>none
  |_,_=>none
structure Foot where
  rd:List Rg
  wr:List Rg
  ins:Bool
  lo:Nat
  hi:Nat
structure Past where
  i:Nat
  anc:Nat
  f:Foot
def G0g(m i:Nat):Bool:=Nat.beq (Nat.land (Nat.shiftRight m i) 1) 1
def S0L(j:Nat):List Past→Nat
  |[]=>0
  |p::l=>sel (Nat.beq p.i j) (Nat.lor (Nat.shiftLeft 1 j) p.anc) (S0L j l)
def G0v(past:List Past):List Nat→Nat
  |[]=>0
  |j::l=>Nat.lor (S0L j past) (G0v past l)
def B0D(o:Oper):List Nat:=o.after.toList.filterMap fun e=>match e.ground with |.textOnly _=>none|.gcOnly _=>none|_=>some e.on
def forced(m:Nat){α:Type}(k:Nat→α):α:=Nat.rec (k 0) (fun n _=>k (Nat.succ n)) m
def N0l(l:List Operand):List Nat:=l.filterMap fun x=>match x with
  |.tmp t=>some t
  |_=>none
def F0t(ops:List Oper)(o:Oper):List Nat:=match o.guard with
  |none=>N0l o.op.operands.toList
  |
    some q=>match nth ops q.1 with
    |none=>N0l o.op.operands.toList
    |
      some p=>match p.dst with
      |none=>N0l o.op.operands.toList
      |some d=>d::N0l o.op.operands.toList
structure Slots where
  i:Nat
  dst:Option Nat
  looks:List Nat
def memN(n:Nat):List Nat→Bool
  |[]=>false
  |m::l=>sel (Nat.beq m n) true (memN n l)
def e0G(d:Nat)(e:Option Nat):Bool:=match e with
  |none=>false
  |some e=>Nat.beq d e
def Slots.apart(a b:Slots):Bool:=
  (match a.dst with
   |none=>true
   |some d=>not (memN d b.looks)&&not (e0G d b.dst))&&
  (match b.dst with
   |none=>true
   |some d=>not (memN d a.looks))
def K0Y(anc:Nat)(b:Slots):List Slots→Bool
  |[]=>true
  |a::l=>sel (sel (G0g anc a.i) true (Slots.apart a b)) (K0Y anc b l) false
def F0f(ops:List Oper):List Oper→Nat→List Past→List Slots→Bool
  |[],_,_,_=>true
  |o
      ::l,i,past,sl=>(B0D o).all (fun j=>Nat.blt j i)&&K0Y (G0v past (B0D o)) ⟨i,o.dst,F0t ops o⟩ sl&&
      forced (G0v past (B0D o)) fun anc=>F0f ops l (Nat.succ i) (⟨i,anc,⟨[],[],false,0,0⟩⟩::past) (⟨i,o.dst,F0t ops o⟩::sl)
def B0q(c:Code):Bool:=match c with
  |.region _ ops draw=>sel draw (F0f ops.toList ops.toList 0 [] []) true
  |.seq a b=>B0q a&&B0q b
  |.cond _ a b=>B0q a&&B0q b
  |.block _ a=>B0q a
  |.loop a=>B0q a
  |.rangeFunc _ _ a b=>B0q a&&B0q b
  |.goto _=>false
  |_=>true
def A0M(c:Code):Bool:=match c with
  |.region _ ops draw=>sel draw (F0f ops.toList ops.toList 0 [] []) true
  |.seq a b=>A0M a&&A0M b
  |.cond _ a b=>A0M a&&A0M b
  |.block _ a=>A0M a
  |.loop a=>A0M a
  |.rangeFunc _ _ a b=>B0q a&&B0q b
  |.goto _=>true
  |_=>true
inductive AFn where
  |code (c:Code) (ntmps:Nat) (results:List ResultVar)
  |cmpstr
  |same
def mkFn(P:Program)(f:FuncId):Option AFn:=
  match P.funcs[f]? with
  |none=>none
  |
    some fn=>sel (fn.name== "runtime.NumGoroutine") none (match fn.body with
    |some c=>sel (B0q c) (some (.code c fn.ntmps fn.results.toList)) none
    |none=>sel (fn.name== "internal/bytealg.abigen_runtime_cmpstring") (some .cmpstr) (sel (fn.name== "internal/abi.NoEscape") (some .same) none))
structure M0W where
  n:Nat
  T:Tm
  ps:List Nat
  assign:Code
  body:Code
inductive CT(α:Type) where
  |ret (a:α)
  |need (b:Bool) (k:CT α)
  |ite (b:Bool) (l r:CT α)
  |rd (n off:Nat) (k:AVal→CT α)
  |wr (n off:Nat) (v:AVal) (k:CT α)
  |rda (n:Nat) (k:Arr→CT α)
  |rdd (n:Nat) (k:DObj→CT α)
  |wrd (n:Nat) (d:DObj) (k:CT α)
  |rdm (n:Nat) (k:MpS→CT α)
  |wrm (n:Nat) (p:MpS) (k:CT α)
  |one (n:Nat) (e:TypeId) (k:AVal→CT α)
  |newA (c:Univ.C) (l:List (Univ.S c)) (k:Nat→CT α)
  |gone (n:Nat) (k:CT α)
  |fail
def Z0s(l:List (Nat×Nat×Nat)):Bool:=match l with |[_]=>true|_=>false
def I0d{α:Type}(n:Nat)(e:TypeId)(k:AVal→M α):M α:=M.bind (rdHead n) fun h=>M.bind (rdAlive n) fun al=>
  M.req (Nat.beq h.root n&&Nat.beq h.rel 0&&not h.frz&&not h.dead&&Nat.beq h.size 1&&Z0s al&&Nat.beq h.e e) (M.bind (rdCell n 0) k)
def CT.run{α:Type}:CT α→M α
  |.ret a=>M.pure a
  |.need b k=>M.need b k.run
  |.ite b l r=>M.ite b l.run r.run
  |.rd n off k=>M.bind (rdCell n off) fun v=>(k v).run
  |.wr n off v k=>M.bind (storeAt n off [v]) fun _=>k.run
  |.rda n k=>M.bind (rdArr n) fun a=>(k a).run
  |.rdd n k=>M.bind (rdDat n) fun a=>(k a).run
  |.wrd n d k=>M.bind (wrDat n d) fun _=>k.run
  |
    .rdm n k=>M.bind (rdMps? n) fun p=>match p with
    |some p=>(k p).run
    |none=>M.fail
  |.wrm n p k=>M.bind (wrMps n p) fun _=>k.run
  |.one n e k=>I0d n e fun v=>(k v).run
  |.newA c l k=>M.bind (alloc fun _=>.arr c l) fun n=>(k n).run
  |.gone n k=>M.bind (wrGone n) fun _=>k.run
  |.fail=>M.fail
def Tr.deep{α:Type}:Nat→Tr α→Prop
  |0,.node _ _=>False
  |0,_=>True
  |d+1,.node l r=>l.deep d∧r.deep d
  |_+1,_=>False
def Res.Has{α:Type}:Res α→α→St→Prop
  |.ok a s,b,t=>a=b∧s=t
  |.br l r,b,t=>l.Has b t∨r.Has b t
  |
    .ite c l r,b,t=>match c with
    |true=>l.Has b t
    |false=>r.Has b t
  |.fail _,_,_=>False
  |.each _ p f,b,t=>∃x,p x=true∧(f x).Has b t
structure B0s where
  body:Code
  run:Tm→M (AExit×Tm)
  up:∀T s q t,(run T s).Has q t→s.nx≤t.nx∧(s.h.deep DH→t.h.deep DH)
structure Env where
  ty:Tr TI
  fn:Tr AFn
  loops:List M0W
  ctr:List (FuncId×(List AVal→CT AVal))
  lps:List (Nat×B0s)
  mps:List (TypeId×Univ.C×Univ.C)
  solo:Bool
def G0x(P:Program):Env:=⟨Tr.build DY (mkTI P),Tr.build DY (mkFn P),[],[],[],[],false⟩
def E0N{α:Type}(f:Nat):List (Nat×α)→Option α
  |[]=>none
  |p::l=>sel (Nat.beq f p.1) (some p.2) (E0N f l)
def A0u(l:List (Nat×B0s))(c:Code):Code:=match c with
  |.seq a b=>.seq (A0u l a) (A0u l b)
  |.cond x a b=>.cond x (A0u l a) (A0u l b)
  |.block id a=>.block id (A0u l a)
  |.loop a=>.loop (A0u l a)
  |
    .goto n=>(match E0N n l with
    |some p=>.loop p.body
    |none=>.goto n)
  |c=>c
def Env.tyOf(E:Env)(t:TypeId):Option TI:=sel (Nat.blt t LY) (E.ty.get t) none
def Env.ti(E:Env)(t:TypeId):M TI:=M.opt (E.tyOf t)
def ltI(a b:Int):Bool:=match a with
  |.ofNat a=>match b with |.ofNat b=>Nat.blt a b|.negSucc _=>false
  |.negSucc a=>match b with |.ofNat _=>true|.negSucc b=>Nat.blt b a
def eqI(a b:Int):Bool:=match a with
  |.ofNat a=>match b with |.ofNat b=>Nat.beq a b|.negSucc _=>false
  |.negSucc a=>match b with |.ofNat _=>false|.negSucc b=>Nat.beq a b
def Q0U(k:IntKind)(n:Int):AVal:=match n with
  |
    .ofNat m=>sel (Nat.blt m 128) (.int k (.ofNat m)) (match k with
    |.i64=>sel (Nat.blt m 4611686018427387904) (.int .i64 (.ofNat m)) (.int k (k.wrap n))
    |_=>.int k (k.wrap n))
  |.negSucc m=>.int k (k.wrap (.negSucc m))
def eqS:List UInt8→List UInt8→Bool
  |[],[]=>true
  |a::x,b::y=>sel (Nat.beq a.toNat b.toNat) (eqS x y) false
  |_,_=>false
def ltS:List UInt8→List UInt8→Bool
  |_,[]=>false
  |[],_::_=>true
  |a::x,b::y=>sel (Nat.beq a.toNat b.toNat) (ltS x y) (Nat.blt a.toNat b.toNat)
def U0u(cs:List AVal)(off size:Nat)(agg:Bool):Option AVal:=
  sel agg (some (.agg (tak (drp cs off) size))) (nth cs off)
def keq0(a b:AVal):Bool:=match a with
  |.bool a=>match b with |.bool b=>sel a b (not b)|_=>false
  |.int j a=>match b with |.int k b=>j==k&&eqI a b|_=>false
  |.str a=>match b with |.str b=>eqS a b|_=>false
  |_=>false
def keqs:List AVal→List AVal→Bool
  |[],[]=>true
  |a::l,b::m=>sel (keq0 a b) (keqs l m) false
  |_,_=>false
def keq(a b:AVal):Bool:=match a with
  |.agg l=>match b with |.agg m=>keqs l m|_=>false
  |a=>keq0 a b
def B0k(E:Env)(t:TypeId)(v:AVal):Bool:=
  match E.tyOf t with
  |none=>false
  |
    some ti=>match ti.k with
    |.bool=>match v with |.bool _=>true|_=>false
    |.int k=>match v with |.int k' _=>k==k'|_=>false
    |.str=>match v with |.str _=>true|_=>false
    |_=>false
def B0o(E:Env):Nat→List FI→List AVal→Bool
  |_,[],[]=>true
  |i,f::fs,v::l=>Nat.beq f.off i&&Nat.beq f.size 1&&not f.agg&&f.named&&B0k E f.t v&&B0o E (i+1) fs l
  |_,_,_=>false
def A0m(E:Env)(t:TypeId)(v:AVal):Bool:=
  match v with
  |
    .agg l=>(match E.tyOf t with
    |none=>false
    |
      some ti=>match ti.k with
      |.struct fs=>not ti.stood&&B0o E 0 fs l
      |.array n e sz=>Nat.beq sz 1&&Nat.beq n (len l)&&l.all (B0k E e)
      |_=>false)
  |v=>B0k E t v
def aEqP(k:TK)(x y:AVal):Option Bool:=match k with
  |.bool=>match x with |.bool a=>(match y with |.bool b=>some (sel a b (not b))|_=>none)|_=>none
  |.int _=>match x with |.int k a=>(match y with |.int k' b=>sel (k==k') (some (eqI a b)) none|_=>none)|_=>none
  |.str=>match x with |.str a=>(match y with |.str b=>some (eqS a b)|_=>none)|_=>none
  |
    .ptr _ sz=>match x with
    |.nilp=>(match y with |.nilp=>some true|.ptr _ _=>some false|_=>none)
    |.ptr n i=>(match y with |.nilp=>some false|.ptr m j=>sel (sz&&Nat.beq n m) (some (Nat.beq i j)) none|_=>none)
    |_=>none
  |
    .slice _ _=>match x with
    |.nils=>(match y with |.nils=>some true|.slice ..=>some false|_=>none)
    |.slice ..=>(match y with |.nils=>some false|_=>none)
    |_=>none
  |
    .map _ _=>match x with
    |.nilm=>(match y with |.nilm=>some true|.map _=>some false|_=>none)
    |.map _=>(match y with |.nilm=>some false|_=>none)
    |_=>none
  |
    .func=>match x with
    |.nilf=>(match y with |.nilf=>some true|.fn ..=>some false|_=>none)
    |.fn ..=>(match y with |.nilf=>some false|_=>none)
    |_=>none
  |_=>none
def aEq(E:Env)(t:TypeId)(x y:AVal):Option Bool:=
  match x with
  |
    .agg xs=>match y with
    |.agg ys=>sel (A0m E t (.agg xs)&&A0m E t (.agg ys)) (some (keqs xs ys)) none
    |_=>none
  |
    x=>match E.tyOf t with
    |none=>none
    |some ti=>aEqP ti.k x y
abbrev Rho:=Operand→AVal
def F0h(v:AVal):Option Nat:=match v with
  |.int _ n=>match n with |.ofNat n=>some n|_=>none
  |_=>none
def S0d(k:IntKind)(f:BitVec k.bits→BitVec k.bits→BitVec k.bits)(a b:Int):M AVal:=
  M.pure (.int k (k.wrap ((f (BitVec.ofInt k.bits a) (BitVec.ofInt k.bits b)).toNat:Nat)))
def f0i(k:IntKind)(f:BitVec k.bits→BitVec k.bits→BitVec k.bits)(a b:Int):Int:=k.wrap ((f (BitVec.ofInt k.bits a) (BitVec.ofInt k.bits b)).toNat:Nat)
def D0W(op:BinOp)(k:IntKind)(a b:Int):M AVal:=
  match op with
  |.add=>M.pure (Q0U k (Int.add a b))
  |.sub=>M.pure (Q0U k (Int.sub a b))
  |.mul=>M.pure (Q0U k (Int.mul a b))
  |.quo=>sel (eqI b 0) M.fail (M.pure (Q0U k (Int.tdiv a b)))
  |.rem=>sel (eqI b 0) M.fail (M.pure (.int k (Int.tmod a b)))
  |.eql=>M.pure (.bool (eqI a b))
  |.neq=>M.pure (.bool (not (eqI a b)))
  |.lss=>M.pure (.bool (ltI a b))
  |.leq=>M.pure (.bool (not (ltI b a)))
  |.gtr=>M.pure (.bool (ltI b a))
  |.geq=>M.pure (.bool (not (ltI a b)))
  |.and=>S0d k (fun a b=>a&&& b) a b
  |.or=>S0d k (fun a b=>a|||b) a b
  |.xor=>S0d k (fun a b=>a^^^b) a b
  |.andNot=>S0d k (fun a b=>a&&& ~~~ b) a b
  |_=>M.fail
def M0C(op:BinOp)(k:IntKind)(a b:Int):M AVal:=
  match b with
  |
    .ofNat m=>match op with
    |.shl=>M.pure (.int k (k.wrap (a*2^(min m k.bits))))
    |.shr=>M.pure (.int k (a.fdiv (2^(min m k.bits))))
    |_=>M.fail
  |_=>M.fail
def G0A(op:BinOp):Bool:=match op with |.shl=>true|.shr=>true|_=>false
def Q0x(op:BinOp)(a b:List UInt8):M AVal:=
  match op with
  |.add=>sel (Nat.blt (len a+len b) 1000000) (M.pure (.str (a++b))) M.fail
  |.eql=>M.pure (.bool (eqS a b))
  |.neq=>M.pure (.bool (not (eqS a b)))
  |.lss=>M.pure (.bool (ltS a b))
  |.leq=>M.pure (.bool (not (ltS b a)))
  |.gtr=>M.pure (.bool (ltS b a))
  |.geq=>M.pure (.bool (not (ltS a b)))
  |_=>M.fail
def L0K(x:Operand):Bool:=match x with
  |.const _=>true
  |_=>false
def V0h(ti:TI)(x y:Operand)(a b:AVal):Bool:=match a with
  |.nili=>match b with |.nili=>L0K x||L0K y|_=>true
  |.agg _=>match b with |.agg _=>not ti.guard|_=>true
  |_=>true
inductive SP where
  |ints (j:IntKind) (a:Int) (k:IntKind) (b:Int)
  |strs (a b:ByteArray)
  |bools (a b:Bool)
def sStr(l:List UInt8):ByteArray:=⟨l.toArray⟩
def P0z(a b:AVal):Option SP:=match a with
  |.int j n=>(match b with |.si k m=>some (.ints j n k m)|_=>none)
  |.si j n=>(match b with |.int k m=>some (.ints j n k m)|.si k m=>some (.ints j n k m)|_=>none)
  |.str s=>(match b with |.ss r=>some (.strs (sStr s) r)|_=>none)
  |.ss s=>(match b with |.str r=>some (.strs s (sStr r))|.ss r=>some (.strs s r)|_=>none)
  |.bool x=>(match b with |.sb y=>some (.bools x y)|_=>none)
  |.sb x=>(match b with |.bool y=>some (.bools x y)|.sb y=>some (.bools x y)|_=>none)
  |_=>none
def I0Q(op:BinOp)(k:IntKind)(a b:Int):M AVal:=match op with
  |.add=>M.pure (.si k (k.wrap (a+b)))
  |.sub=>M.pure (.si k (k.wrap (a-b)))
  |.mul=>M.pure (.si k (k.wrap (a*b)))
  |.quo=>M.need (!decide (b=0)) (M.pure (.si k (k.wrap (Int.tdiv a b))))
  |.rem=>M.need (!decide (b=0)) (M.pure (.si k (Int.tmod a b)))
  |.eql=>M.pure (.sb (decide (a=b)))
  |.neq=>M.pure (.sb (!decide (a=b)))
  |.lss=>M.pure (.sb (decide (a<b)))
  |.leq=>M.pure (.sb (!decide (b<a)))
  |.gtr=>M.pure (.sb (decide (b<a)))
  |.geq=>M.pure (.sb (!decide (a<b)))
  |.and=>M.pure (.si k (f0i k (fun a b=>a&&& b) a b))
  |.or=>M.pure (.si k (f0i k (fun a b=>a|||b) a b))
  |_=>M.fail
def Q0q(op:BinOp)(a b:ByteArray):M AVal:=match op with
  |.add=>M.need (decide (a.size+b.size<1000000)) (M.pure (.ss (a++b)))
  |.eql=>M.pure (.sb (decide (a=b)))
  |.neq=>M.pure (.sb (!decide (a=b)))
  |.lss=>M.pure (.sb (ltS a.data.toList b.data.toList))
  |.leq=>M.pure (.sb (!ltS b.data.toList a.data.toList))
  |.gtr=>M.pure (.sb (ltS b.data.toList a.data.toList))
  |.geq=>M.pure (.sb (!ltS a.data.toList b.data.toList))
  |_=>M.fail
def T0v(op:BinOp)(a b:Bool):M AVal:=match op with
  |.eql=>M.pure (.sb (a==b))
  |.neq=>M.pure (.sb (!(a==b)))
  |_=>M.fail
def Y0u(k:TK):Bool:=match k with |.bool=>true|_=>false
def b0q(x:AVal):Option Bool:=match x with
  |.bool b=>some b
  |.sb b=>some b
  |_=>none
def numA(j:IntKind)(x:AVal):Option Int:=match x with
  |.int k n=>sel (j==k) (some n) none
  |.si k n=>sel (j==k) (some n) none
  |_=>none
def strA(x:AVal):Option ByteArray:=match x with
  |.str l=>some (sStr l)
  |.ss s=>some s
  |_=>none
def both{α:Type}(a b:Option α)(f:α→α→Bool):Option Bool:=match a with
  |none=>none
  |
    some a=>match b with
    |none=>none
    |some b=>some (f a b)
def Y0w(k:TK)(x y:AVal):Option Bool:=match k with
  |.bool=>both (b0q x) (b0q y) fun a b=>a==b
  |.int j=>both (numA j x) (numA j y) fun a b=>decide (a=b)
  |.str=>both (strA x) (strA y) fun a b=>decide (a=b)
  |_=>none
def H0Z(E:Env):Nat→List FI→List AVal→List AVal→Option Bool
  |_,[],[],[]=>some true
  |
    i,f::fs,x::l,y::m=>sel (Nat.beq f.off i&&Nat.beq f.size 1&&not f.agg&&f.named) (match E.tyOf f.t with
    |none=>none
    |some ti=>both (Y0w ti.k x y) (H0Z E (i+1) fs l m) fun a b=>a&&b) none
  |_,_,_,_=>none
def T0m(E:Env)(t:TypeId)(a b:AVal):Option Bool:=match a with
  |
    .agg xs=>(match b with
    |
      .agg ys=>(match E.tyOf t with
      |none=>none
      |
        some ti=>match ti.k with
        |.struct fs=>sel ti.stood none (H0Z E 0 fs xs ys)
        |_=>none)
    |_=>none)
  |_=>none
def evEq(E:Env)(neg:Bool)(t:TypeId)(x y:Operand)(a b:AVal):M AVal:=
  M.bind (E.ti t) fun ti=>M.req (V0h ti x y a b)<|match aEq E t a b with
    |some r=>M.pure (.bool (sel neg (not r) r))
    |none=>M.bind (M.opt (T0m E t a b)) fun r=>M.pure (.sb (sel neg (not r) r))
def Z0T(E:Env)(op:BinOp)(t:TypeId)(x y:Operand)(a b:AVal):M AVal:=match op with
  |.eql=>evEq E false t x y a b
  |.neq=>evEq E true t x y a b
  |_=>M.fail
def J0o(op:BinOp)(k:IntKind)(a b:Int):M AVal:=
  match b with
  |
    .ofNat m=>match op with
    |.shl=>M.pure (.si k (k.wrap (a*2^(min m k.bits))))
    |.shr=>M.pure (.si k (a.fdiv (2^(min m k.bits))))
    |_=>M.fail
  |_=>M.fail
def S0b(E:Env)(op:BinOp)(t:TypeId)(p:SP):M AVal:=match p with
  |.ints j a k b=>sel (G0A op) (J0o op j a b) (sel (j==k) (I0Q op j a b) M.fail)
  |.strs a b=>Q0q op a b
  |.bools a b=>M.bind (E.ti t) fun ti=>M.req (Y0u ti.k) (T0v op a b)
def O0k(E:Env)(op:BinOp)(t:TypeId)(x y:Operand)(a b:AVal):M AVal:=
  match a with
  |
    .int k n=>(match b with
    |.int k' m=>sel (G0A op) (M0C op k n m) (sel (k==k') (D0W op k n m) M.fail)
    |_=>M.fail)
  |
    .str s=>(match b with
    |.str r=>Q0x op s r
    |_=>M.fail)
  |a=>Z0T E op t x y a b
def W0q(E:Env)(op:BinOp)(t:TypeId)(x y:Operand)(a b:AVal):M AVal:=match P0z a b with
  |some p=>S0b E op t p
  |none=>O0k E op t x y a b
def evUn(op:UnOp)(x:AVal):M AVal:=
  match op with
  |.not=>(match x with |.bool b=>M.pure (.bool (not b))|.sb b=>M.pure (.sb (!b))|_=>M.fail)
  |.neg=>(match x with |.int k n=>M.pure (.int k (k.wrap (0-n)))|.si k n=>M.pure (.si k (k.wrap (0-n)))|_=>M.fail)
  |_=>M.fail
def H0Q:List AVal→Option (List UInt8)
  |[]=>some []
  |
    v::l=>match v with
    |.int .u8 (.ofNat n)=>(H0Q l).map (UInt8.ofNat n::·)
    |_=>none
def isU8(k:TK):Bool:=match k with
  |.int k=>match k with |.u8=>true|_=>false
  |_=>false
def U0m(E:Env)(ka kb:TK)(x:AVal):M AVal:=
  match ka,kb,x with
  |.int _,.int k,.int _ n=>M.pure (Q0U k n)
  |.str,.str,.str s=>M.pure (.str s)
  |.ptr _ _,.uptr,.nilp=>M.pure .nilp
  |.uptr,.ptr _ _,.nilp=>M.pure .nilp
  |.uptr,.uptr,.nilp=>M.pure .nilp
  |.uptr,.uptr,.ptr n off=>M.pure (.ptr n off)
  |.ptr _ true,.uptr,.ptr n off=>M.bind (rdHead n) fun h=>M.req (Nat.blt off h.size) (M.pure (.ptr n off))
  |.uptr,.ptr e true,.ptr n 0=>M.bind (rdHead n) fun h=>M.bind (E.ti e) fun te=>M.req (Nat.beq h.e e&&Nat.blt 0 te.size&&Nat.ble te.size h.size&&Nat.beq h.root n&&not h.dead) (M.pure (.ptr n 0))
  |.slice e _,.str,.nils=>M.bind (E.ti e) fun te=>M.req (isU8 te.k) (M.pure (.str []))
  |.slice e _,.str,.slice n off k _ _=>M.bind (E.ti e) fun te=>M.req (isU8 te.k) (M.bind (rdCells n off k) fun l=>M.bind (M.opt (H0Q l)) fun s=>M.pure (.str s))
  |.int _,.int k,.si _ n=>M.pure (.si k (k.wrap n))
  |.str,.str,.ss s=>M.pure (.ss s)
  |_,_,_=>M.fail
def F0C(E:Env)(src dst:TypeId)(x:AVal):M AVal:=
  M.bind (E.ti src) fun a=>M.bind (E.ti dst) fun b=>U0m E a.k b.k x
def S0N(place:Nat→Option (Nat×Nat)):List AVal→List (Nat×AVal)→Option (List AVal)
  |cells,[]=>some cells
  |
    cells,p::rest=>
    match place p.1 with
    |none=>none
    |some q=>sel (Nat.blt 0 q.2&&Nat.beq (len p.2.cells) q.2&&Nat.ble (q.1+len p.2.cells) (len cells)) (S0N place (over cells q.1 p.2.cells) rest) none
def O0M(E:Env):List FI→Bool
  |[]=>true
  |f::l=>sel ((E.tyOf f.t).isSome) (O0M E l) false
def K0l(E:Env)(t:TypeId)(parts:List (Nat×AVal)):M AVal:=
  M.bind (E.ti t) fun ti=>match ti.k with
  |.struct fs=>M.req (O0M E fs)<|M.bind (M.opt (S0N (fun i=>(nth fs i).map fun f=>(f.off,f.size)) ti.zero parts)) fun l=>M.pure (.agg l)
  |.array _ _ sz=>M.req (Nat.blt 0 sz)<|M.bind (M.opt (S0N (fun i=>some (i*sz,sz)) ti.zero parts)) fun l=>M.pure (.agg l)
  |_=>M.fail
def D0X(l:List AVal):Nat→List AVal
  |0=>[]
  |n+1=>l++D0X l n
def C0S(E:Env)(t:TypeId)(k:Nat)(parts:List (Nat×AVal)):M AVal:=
  M.bind (E.ti t) fun ti=>match ti.k with
  |.slice e sz=>M.bind (E.ti e) fun te=>M.req (Nat.blt 0 sz&&Nat.beq (len te.zero) sz&&Nat.ble (k*sz) 100000)<|
      M.bind (M.opt (S0N (fun i=>some (i*sz,sz)) (D0X te.zero k) parts)) fun l=>
      M.bind (B0i e l) fun n=>M.pure (.slice n 0 k (some k) sz)
  |_=>M.fail
def H0I(x:Cell Univ.C Univ.S):AVal:=match x with
  |.b x=>.sb x
  |.i k x=>.si k x
  |.s x=>.ss x
  |.sl c l=>.dsl c l
  |.f n=>.fn n [] []
def C0y(c:Univ.C)(l:List (Univ.S c))(i:Nat):List AVal:=map1 H0I (Univ.cells c (l.getD i (Univ.dflt c)))
def mval(c:Univ.C)(x:Univ.S c):AVal:=sel (Univ.agg c) (.agg (map1 H0I (Univ.cells c x))) (match Univ.cells c x with
  |[]=>.any
  |a::_=>H0I a)
def O0f(E:Env)(t:TypeId)(a:AVal):M AVal:=
  match a with
  |.dptr c l i o=>M.bind (E.ti t) fun ti=>sel ti.agg (M.req (Nat.ble (o+ti.size) (Univ.esz c)) (M.pure (.agg (tak (drp (C0y c l i) o) ti.size)))) (M.opt (nth (C0y c l i) o))
  |.ptr n off=>M.bind (E.ti t) fun ti=>sel ti.agg (M.bind (rdCells n off ti.size) fun l=>M.pure (.agg l)) (rdCell n off)
  |.aptr c n i o=>M.bind (E.ti t) fun ti=>M.bind (E0U c n) fun l=>sel ti.agg (M.req (Nat.ble (o+ti.size) (Univ.esz c)) (M.pure (.agg (tak (drp (C0y c l i) o) ti.size)))) (M.opt (nth (C0y c l i) o))
  |_=>M.fail
def M0P(E:Env)(t:TypeId)(a v:AVal):M AVal:=
  match a with
  |.ptr n off=>M.bind (E.ti t) fun ti=>M.req (Nat.blt 0 ti.size&&Nat.beq (len v.cells) ti.size)<|M.bind (storeAt n off v.cells) fun _=>M.pure .undef
  |.aptr c n i o=>M.bind (E.ti t) fun ti=>M.req (Nat.blt 0 ti.size&&Nat.beq (len v.cells) ti.size&&Nat.ble (o+ti.size) (Univ.esz c))<|
      M.bind (E0U c n) fun l=>M.bind (M.opt (cellsOf v.cells)) fun cs=>M.bind (M.opt (Univ.unc c (putG (Univ.cells c (l.getD i (Univ.dflt c))) o cs))) fun x=>
      M.bind (wrArr n ⟨c,l.set i x⟩) fun _=>M.pure .undef
  |_=>M.fail
def M0V(E:Env)(t:TypeId)(i:Nat)(a:AVal):M AVal:=
  match a with
  |
    .ptr n off=>M.bind (E.ti t) fun ti=>match ti.k with
    |
      .struct fs=>match nth fs i with
      |some f=>M.req (not (Nat.beq f.size 0)) (forced (off+f.off) fun o=>M.pure (.ptr n o))
      |none=>M.fail
    |_=>M.fail
  |
    .dptr c l j off=>M.bind (E.ti t) fun ti=>match ti.k with
    |
      .struct fs=>match nth fs i with
      |some f=>M.req (not (Nat.beq f.size 0)) (forced (off+f.off) fun o=>M.pure (.dptr c l j o))
      |none=>M.fail
    |_=>M.fail
  |
    .aptr c n j off=>M.bind (E.ti t) fun ti=>match ti.k with
    |
      .struct fs=>match nth fs i with
      |some f=>M.req (not (Nat.beq f.size 0)) (forced (off+f.off) fun o=>M.pure (.aptr c n j o))
      |none=>M.fail
    |_=>M.fail
  |_=>M.fail
def N0Z(E:Env)(t:TypeId)(i:Nat)(a:AVal):M AVal:=
  match a with
  |
    .agg cs=>M.bind (E.ti t) fun ti=>match ti.k with
    |
      .struct fs=>match nth fs i with
      |some f=>M.bind (E.ti f.t) fun tf=>M.opt (U0u cs f.off tf.size tf.agg)
      |none=>M.fail
    |_=>M.fail
  |_=>M.fail
def sInt(a:AVal):Option Int:=match a with
  |.int _ n=>some n
  |.si _ n=>some n
  |_=>none
def H0F(E:Env)(t:TypeId)(x i:AVal):M AVal:=M.bind (M.opt (sInt i)) fun n=>M.bind (E.ti t) fun ti=>match ti.k with
  |
    .slice _ sz=>(match x with
    |.dsl c l=>M.req (Nat.beq sz (Univ.esz c))<|M.need (decide (0≤n)&&decide (n<l.length)) (M.pure (.dptr c l n.toNat 0))
    |.asl c m off k=>M.req (Nat.beq sz (Univ.esz c))<|M.need (decide (0≤n)&&decide (n<k)) (M.pure (.aptr c m (n.toNat+off) 0))
    |_=>M.fail)
  |_=>M.fail
def e0H(x:AVal):Bool:=match x with |.dsl _ _=>true|.asl _ _ _ _=>true|_=>false
def B0p(E:Env)(t:TypeId)(x i:AVal):M AVal:=
  M.bind (M.opt (F0h i)) fun i=>M.bind (E.ti t) fun ti=>
  match ti.k with
  |
    .slice _ sz=>(match x with
    |.slice n off k _ esz=>sel (Nat.blt i k&&Nat.beq sz esz) (forced (off+i*sz) fun o=>M.pure (.ptr n o)) M.fail
    |_=>M.fail)
  |
    .array k _ sz=>(match x with
    |.ptr n off=>sel (Nat.blt i k&&Nat.blt 0 sz) (forced (off+i*sz) fun o=>M.pure (.ptr n o)) M.fail
    |_=>M.fail)
  |_=>M.fail
def F0o(f:Nat→M AVal)(n:Int):Nat→Nat→M AVal
  |0,_=>M.fail
  |k+1,j=>M.ite (decide (n=.ofNat j)) (f j) (F0o f n k (j+1))
def F0J(E:Env)(t:TypeId)(x:AVal)(k:IntKind)(n:Int):M AVal:=M.bind (E.ti t) fun ti=>match ti.k with
  |.array m _ _=>F0o (fun j=>B0p E t x (.int k (.ofNat j))) n m 0
  |
    .slice _ _=>(match x with
    |.slice _ _ m _ _=>F0o (fun j=>B0p E t x (.int k (.ofNat j))) n m 0
    |_=>M.fail)
  |_=>M.fail
def D0w(E:Env)(t:TypeId)(x i:AVal):M AVal:=sel (e0H x) (H0F E t x i) (match i with
  |.si k n=>F0J E t x k n
  |i=>B0p E t x i)
def Q0H(s:ByteArray)(n:Nat):Int:=((s.data.toList.getD n 0).toNat:Nat)
def P0i(E:Env)(t:TypeId)(x i:AVal):M AVal:=M.bind (M.opt (sInt i)) fun n=>M.bind (E.ti t) fun ti=>match ti.k with
  |
    .str=>(match x with
    |.ss s=>M.need (decide (0≤n)&&decide (n<s.size)) (M.pure (.si .u8 (Q0H s n.toNat)))
    |_=>M.fail)
  |_=>M.fail
def isSs(x:AVal):Bool:=match x with |.ss _=>true|_=>false
def J0N(E:Env)(t:TypeId)(x i:AVal):M AVal:=sel (isSs x) (P0i E t x i)<|
  M.bind (M.opt (F0h i)) fun i=>M.bind (E.ti t) fun ti=>
  match ti.k with
  |
    .array k e sz=>(match x with
    |.agg cs=>M.bind (E.ti e) fun te=>sel (Nat.blt i k) (M.opt (U0u cs (i*te.size) te.size te.agg)) M.fail
    |_=>M.fail)
  |
    .str=>(match x with
    |
      .str s=>(match nth s i with
      |some b=>M.pure (.int .u8 (.ofNat b.toNat))
      |none=>M.fail)
    |_=>M.fail)
  |_=>M.fail
def C0s(e:TypeId)(m off k:Nat)(cap:Option Nat)(sz n:Nat)(xs:List AVal):M AVal:=
  match cap with
  |some c=>sel (Nat.ble (k+n) c)
      (M.bind (storeAt m (off+k*sz) xs) fun _=>M.pure (.slice m off (k+n) (some c) sz))
      (M.bind (rdCells m off (k*sz)) fun old=>M.bind (B0i e (old++xs)) fun r=>M.pure (.slice r 0 (k+n) none sz))
  |none=>sel (Nat.beq n 0) (M.pure (.slice m off k none sz))<|
      M.bind (rdHead m) fun h=>sel (Nat.ble (off+(k+n)*sz) h.size)
        (M.bind (storeAt m (off+k*sz) xs) fun _=>M.pure (.slice m off (k+n) none sz))
        (M.req (not h.frz&&Nat.beq h.e e&&E0V xs)<|M.bind (rdCells m off (k*sz)) fun old=>M.bind (rdAlive h.root) fun l=>
          forced (h.rel+off+k*sz) fun z=>forced (z+n*sz) fun y=>
          M.bind (F0q z y LH l) fun l=>
          M.bind (alloc fun r=>.cells (old++xs) e false false h.root (h.rel+off) []) fun r=>
          M.bind (wrAlive h.root ((r,h.rel+off,y)::l)) fun _=>forced (k+n) fun kn=>M.pure (.slice r 0 kn none sz))
def D0I(sz:Nat)(x:AVal):M (Nat×List AVal):=
  match x with
  |.nils=>M.pure (0,[])
  |.slice n off k _ esz=>M.req (Nat.beq esz sz)<|M.bind (rdCells n off (k*sz)) fun l=>M.pure (k,l)
  |.str s=>M.req (Nat.beq sz 1)<|M.pure (len s,map1 (fun b=>.int .u8 (.ofNat b.toNat)) s)
  |_=>M.fail
def N0e(te:TI)(x:AVal):M (Nat×List AVal):=
  M.bind (M.opt (F0h x)) fun n=>M.req (Nat.ble n 100000) (M.pure (n,D0X te.zero n))
def S0q(k:TK):Bool:=match k with |.int _=>true|_=>false
def G0e(E:Env)(argTypes:List TypeId)(args:List AVal):M AVal:=
  match argTypes with
  |
    [ta,tb]=>match args with
    |
      [s,x]=>M.bind (E.ti ta) fun a=>M.bind (E.ti tb) fun b=>
      match a.k with
      |
        .slice e sz=>M.bind (E.ti e) fun te=>M.req (Nat.blt 0 sz&&Nat.blt 0 te.bytes&&Nat.ble te.bytes 4096&&Nat.beq (len te.zero) sz)<|
        M.bind (sel (S0q b.k) (N0e te x) (D0I sz x)) fun r=>
        (match s with
         |.nils=>sel (Nat.beq r.1 0) (M.pure .nils) (M.req (Nat.ble r.1 1000000)<|M.bind (B0i e r.2) fun n=>M.pure (.slice n 0 r.1 none sz))
         |.slice m off k cap esz=>M.req (Nat.beq esz sz&&Nat.ble (k+r.1) 1000000)<|C0s e m off k cap sz r.1 r.2
         |_=>M.fail)
      |_=>M.fail
    |_=>M.fail
  |_=>M.fail
def P0M(E:Env)(t:TypeId)(x:AVal):M AVal:=
  M.bind (E.ti t) fun ti=>match ti.k with
  |.str=>(match x with |.str s=>forced (len s) fun n=>M.pure (.int .i64 (.ofNat n))|.ss s=>M.pure (.si .i64 (.ofNat s.size))|_=>M.fail)
  |.array n _ _=>M.pure (.int .i64 (.ofNat n))
  |
    .slice _ _=>(match x with
    |.slice _ _ k _ _=>M.pure (.int .i64 (.ofNat k))
    |.nils=>M.pure (.int .i64 0)
    |.dsl _ l=>M.pure (.si .i64 (.ofNat l.length))
    |.asl _ _ _ k=>M.pure (.si .i64 (.ofNat k))
    |_=>M.fail)
  |
    .map _ _=>(match x with
    |.nilm=>M.pure (.int .i64 0)
    |
      .map n=>M.bind (rdDat? n) fun d=>(match d with
      |none=>M.bind (rdMap n) fun r=>forced (len r.es) fun n=>M.pure (.int .i64 (.ofNat n))
      |
        some d=>(match d with
        |.map _ _ _ c=>M.pure (.si .i64 (.ofNat c))
        |_=>M.fail))
    |.dmp _ _ _ c=>M.pure (.si .i64 (.ofNat c))
    |_=>M.fail)
  |_=>M.fail
def a0K(x:AVal):M AVal:=
  match x with
  |.slice _ _ _ c _=>(match c with |some c=>M.pure (.int .i64 (.ofNat c))|none=>M.fail)
  |.nils=>M.pure (.int .i64 0)
  |_=>M.fail
def L0I(E:Env)(t:TypeId)(x:AVal):M AVal:=M.bind (E.ti t) fun ti=>match ti.k with
  |.slice _ _=>a0K x
  |_=>M.fail
def O0e(E:Env)(t:TypeId)(dst src:AVal):M AVal:=
  M.bind (E.ti t) fun ti=>match ti.k with
  |
    .slice _ sz=>M.req (Nat.blt 0 sz)<|M.bind (D0I sz src) fun r=>(match dst with
    |.nils=>M.pure (.int .i64 0)
    |.slice n off k _ esz=>M.req (Nat.beq esz sz)<|forced (sel (Nat.ble r.1 k) r.1 k) fun k=>M.bind (storeAt n off (tak r.2 (k*sz))) fun _=>M.pure (.int .i64 (.ofNat k))
    |_=>M.fail)
  |_=>M.fail
def G0W(c:Univ.C):Nat→List (Cell Univ.C Univ.S)→Option (List (Univ.S c))
  |0,_=>some []
  |
    k+1,cs=>match Univ.unc c (tak cs (Univ.esz c)) with
    |none=>none
    |
      some x=>match G0W c k (drp cs (Univ.esz c)) with
      |none=>none
      |some l=>some (x::l)
def U0I(x:Cell Univ.C Univ.S)(a:AVal):Option (Cell Univ.C Univ.S):=match a with
  |
    .nils=>(match x with
    |.sl c _=>some (.sl c [])
    |_=>none)
  |a=>F0B a
def C0f:List (Cell Univ.C Univ.S)→List AVal→Option (List (Cell Univ.C Univ.S))
  |
    x::xs,a::l=>match U0I x a with
    |none=>none
    |
      some c=>match C0f xs l with
      |none=>none
      |some cs=>some (c::cs)
  |[],[]=>some []
  |_,_=>none
def V0j(t:TypeId):List (TypeId×Univ.C×Univ.C)→Option (Univ.C×Univ.C)
  |[]=>none
  |p::l=>sel (Nat.beq p.1 t) (some p.2) (V0j t l)
def L0k(c:Univ.C)(vs:List AVal):Option (List (Cell Univ.C Univ.S)):=match cellsOf vs with
  |some cs=>some cs
  |none=>C0f (Univ.cells c (Univ.dflt c)) vs
def F0n(c:Univ.C)(x:AVal):M (List (Univ.S c)):=match x with
  |.asl c' n off k=>M.req (F0r c' c)<|M.bind (E0U c n) fun l=>M.pure (subL l off k)
  |.slice n off k _ esz=>M.req (Nat.beq esz (Univ.esz c))<|M.bind (rdCells n off (k*esz)) fun vs=>M.bind (M.opt (L0k c vs)) fun cs=>M.opt (G0W c k cs)
  |.dsl c' l=>M.opt (D0V c' c l)
  |_=>M.fail
def e0e(a:AVal):Bool:=match a with
  |.sb _=>true
  |.si _ _=>true
  |.ss _=>true
  |.dsl _ _=>true
  |_=>false
def c0n:List AVal→Bool
  |[]=>false
  |a::l=>sel (e0e a) true (c0n l)
def U0Q(x:AVal):M Bool:=match x with
  |.slice n off k _ sz=>M.bind (rdCells n off (k*sz)) fun vs=>M.pure (c0n vs)
  |_=>M.pure false
def T0T(x:AVal):Bool:=match x with
  |.slice _ _ k _ _=>Nat.blt 0 k
  |_=>false
def E0A(E:Env)(argTypes:List TypeId)(x y:AVal):M AVal:=
  match argTypes with
  |
    [ta,tb]=>M.bind (E.ti ta) fun a=>M.bind (E.ti tb) fun b=>(match a.k with
    |.slice e sz=>M.bind (E.ti e) fun te=>M.bind (M.opt (Univ.elt e)) fun c=>
        M.req (not (S0q b.k)&&Nat.beq sz (Univ.esz c)&&Nat.ble te.bytes 4096&&Nat.beq (len te.zero) sz)<|M.bind (F0n c y) fun m=>
        (match x with
         |.nils=>M.req (T0T y)<|M.need (decide (m.length≤1000000))<|M.bind (alloc fun _=>.arr c m) fun n=>M.pure (.asl c n 0 m.length)
         |.asl c' n off k=>M.req (F0r c' c&&Nat.beq off 0)<|M.bind (E0U c n) fun l=>M.need (decide (k=l.length)&&decide (k+m.length≤1000000))<|
             M.bind (wrGone n) fun _=>M.bind (alloc fun _=>.arr c (l++m)) fun r=>M.pure (.asl c r 0 (k+m.length))
         |_=>M.fail)
    |_=>M.fail)
  |_=>M.fail
def X0g{α:Type}(l:List α)(off k:Nat)(m:List α):List α:=l.take off++(m.take (min m.length k)++l.drop (off+min m.length k))
def K0u(E:Env)(t:TypeId)(dst src:AVal):M AVal:=
  M.bind (E.ti t) fun ti=>match ti.k with
  |
    .slice _ sz=>(match dst with
    |.asl c n off k=>M.req (Nat.beq sz (Univ.esz c))<|M.bind (F0n c src) fun m=>M.bind (E0U c n) fun l=>
        M.bind (wrArr n ⟨c,X0g l off k m⟩) fun _=>M.pure (.si .i64 (.ofNat (min m.length k)))
    |_=>M.fail)
  |_=>M.fail
def a0z(x:AVal):Bool:=match x with |.asl _ _ _ _=>true|_=>false
def c0k(E:Env)(argTypes:List TypeId):Bool:=match argTypes with
  |[]=>false
  |
    t::_=>match V0j t E.mps with
    |some _=>true
    |none=>false
def Y0q(E:Env)(argTypes:List TypeId)(x y:AVal)(args:List AVal):M AVal:=match x with
  |.asl _ _ _ _=>E0A E argTypes x y
  |.nils=>M.bind (U0Q y) fun b=>sel (b||c0k E argTypes) (E0A E argTypes x y) (G0e E argTypes args)
  |_=>G0e E argTypes args
def W0l(E:Env)(argTypes:List TypeId)(args:List AVal):M AVal:=match args with
  |[x,y]=>Y0q E argTypes x y args
  |_=>M.fail
def evCp(E:Env)(t:TypeId)(dst src:AVal):M AVal:=sel (a0z dst) (K0u E t dst src) (O0e E t dst src)
def kInt(a:AVal):Option (IntKind×Int):=match a with
  |.int k n=>some (k,n)
  |.si k n=>some (k,n)
  |_=>none
def G0L(lt:Bool)(x:AVal):List AVal→M AVal
  |[]=>M.pure x
  |
    y::l=>match x,y with
    |.int k a,.int _ b=>G0L lt (.int k (sel lt (sel (ltI b a) b a) (sel (ltI a b) b a))) l
    |
      _,_=>match kInt x with
      |none=>M.fail
      |
        some p=>match sInt y with
        |none=>M.fail
        |some b=>G0L lt (.si p.1 (sel lt (min p.2 b) (max p.2 b))) l
def F0X(E:Env)(t:TypeId)(x:AVal):M AVal:=
  M.bind (E.ti t) fun ti=>match ti.k with
  |
    .slice e sz=>(match x with
    |.nils=>M.pure .undef
    |.slice n off k _ esz=>M.bind (E.ti e) fun te=>M.req (Nat.beq esz sz&&Nat.beq (len te.zero) sz)<|M.bind (storeAt n off (D0X te.zero k)) fun _=>M.pure .undef
    |_=>M.fail)
  |_=>M.fail
def B0U(x:AVal):M AVal:=
  match x with
  |.nils=>M.pure .nilp
  |
    .slice n off k cap _=>(match cap with
    |some c=>M.req (Nat.blt 0 c) (M.pure (.ptr n off))
    |none=>M.req (Nat.blt 0 k) (M.pure (.ptr n off)))
  |_=>M.fail
def B0g(E:Env)(pt:TypeId)(p l:AVal):M AVal:=
  M.bind (M.opt (F0h l)) fun l=>match p with
  |.nilp=>M.req (Nat.beq l 0) (M.pure (.str []))
  |.ptr n off=>sel (Nat.beq l 0) (M.pure (.str [])) (M.bind (E.ti pt) fun ti=>(match ti.k with
      |.ptr e _=>M.bind (E.ti e) fun te=>M.bind (rdHead n) fun h=>M.bind (rdAlive h.root) fun al=>M.bind (rdCells n off l) fun cs=>
          M.req (Nat.ble l 1000000&&Nat.beq h.e e&&Nat.beq te.size 1&&not h.frz&&al.all fun x=>Nat.beq x.1 n||(Nat.blt 0 x.2.2&&Nat.blt x.2.1 1099511627776))<|M.bind (M.opt (H0Q cs)) fun s=>
          M.bind (F0q 0 1099511627776 n al) fun al=>M.bind (wrAlive h.root al) fun _=>M.bind (wrFrz n) fun _=>M.pure (.str s)
      |_=>M.fail))
  |_=>M.fail
def ev1(f:TypeId→AVal→M AVal)(argTypes:List TypeId)(args:List AVal):M AVal:=match argTypes with
  |t::_=>match args with |[x]=>f t x|_=>M.fail
  |_=>M.fail
def ev2(f:TypeId→AVal→AVal→M AVal)(argTypes:List TypeId)(args:List AVal):M AVal:=match argTypes with
  |t::_=>match args with |[x,y]=>f t x y|_=>M.fail
  |_=>M.fail
def evL(f:AVal→List AVal→M AVal)(args:List AVal):M AVal:=match args with
  |x::l=>f x l
  |_=>M.fail
def J0n(b:Builtin):Env→List TypeId→List AVal→M AVal:=
  match b with
  |.append=>W0l
  |.len=>fun E=>ev1 (P0M E)
  |.cap=>fun E=>ev1 (L0I E)
  |.copy=>fun E=>ev2 (evCp E)
  |.unsafeSliceData=>fun _=>ev1 (fun _=>B0U)
  |.unsafeString=>fun E=>ev2 (B0g E)
  |.clear=>fun E=>ev1 (F0X E)
  |.min=>fun _ _=>evL (G0L true)
  |.max=>fun _ _=>evL (G0L false)
  |_=>fun _ _ _=>M.fail
def B0x(v:Option AVal)(d:Nat):Option Nat:=match v with |none=>some d|some v=>F0h v
def C0h(n off:Nat)(cap:Option Nat)(sz:Nat)(lo hi:Nat)(mx:Option Nat)(sure:Nat):M AVal:=
  match mx with
  |some m=>M.req (Nat.ble lo hi&&Nat.ble hi m&&Nat.ble m sure) (forced (sel (Nat.beq m lo) off (off+lo*sz)) fun o=>M.pure (.slice n o (hi-lo) (some (m-lo)) sz))
  |
    none=>M.req (Nat.ble lo hi&&Nat.ble hi sure) (match cap with
    |some c=>forced (sel (Nat.beq c lo) off (off+lo*sz)) fun o=>M.pure (.slice n o (hi-lo) (some (c-lo)) sz)
    |none=>forced (off+lo*sz) fun o=>M.pure (.slice n o (hi-lo) none sz))
def F0v(n off k:Nat)(cap:Option Nat)(sz:Nat)(l h:Nat)(mx:Option AVal):M AVal:=
  match mx with
  |
    some m=>M.bind (M.opt (F0h m)) fun m=>(match cap with
    |some c=>C0h n off cap sz l h (some m) c
    |none=>M.fail)
  |
    none=>(match cap with
    |some c=>C0h n off cap sz l h none c
    |none=>sel (Nat.ble h k) (C0h n off cap sz l h none k) (M.bind (rdHead n) fun hd=>C0h n off cap sz l h none ((hd.size-off)/sz)))
def f0w(mx hi:Option AVal):Bool:=match mx with
  |none=>true
  |some _=>match hi with |some _=>true|none=>false
def K0e(E:Env)(t:TypeId)(x:AVal)(lo hi mx:Option AVal):M AVal:=
  M.bind (E.ti t) fun ti=>match ti.k with
  |
    .str=>(match x with
    |
      .str s=>(match mx with
      |some _=>M.fail
      |
        none=>M.bind (M.opt (B0x lo 0)) fun l=>M.bind (M.opt (B0x hi (len s))) fun h=>
        M.req (Nat.ble l h&&Nat.ble h (len s)) (M.pure (.str (drp (tak s h) l))))
    |_=>M.fail)
  |
    .slice _ sz=>M.req (f0w mx hi&&Nat.blt 0 sz)<|(match x with
    |.slice n off k cap esz=>M.req (Nat.beq sz esz)<|M.bind (M.opt (B0x lo 0)) fun l=>M.bind (M.opt (B0x hi k)) fun h=>F0v n off k cap sz l h mx
    |
      .nils=>M.bind (M.opt (B0x lo 0)) fun l=>M.bind (M.opt (B0x hi 0)) fun h=>M.bind (M.opt (B0x mx 0)) fun m=>
      M.req (Nat.beq l 0&&Nat.beq h 0&&Nat.beq m 0) (M.pure .nils)
    |_=>M.fail)
  |_=>M.fail
def D0C(E:Env)(t:TypeId)(k cap:AVal):M AVal:=
  M.bind (E.ti t) fun ti=>match ti.k with
  |.slice e sz=>M.bind (M.opt (F0h k)) fun l=>M.bind (M.opt (F0h cap)) fun c=>M.bind (E.ti e) fun te=>
      M.req (Nat.ble l c&&Nat.ble c 100000&&Nat.ble te.bytes 4096&&Nat.blt 0 sz&&Nat.beq (len te.zero) sz)<|
      M.bind (B0i e (D0X te.zero c)) fun n=>M.pure (.slice n 0 l (some c) sz)
  |_=>M.fail
def U0e(v:Option AVal)(d:Int):Option Int:=match v with |none=>some d|some v=>sInt v
def H0n(E:Env)(t:TypeId)(x:AVal)(lo hi mx:Option AVal):M AVal:=
  M.bind (E.ti t) fun ti=>match ti.k with
  |
    .slice _ sz=>(match x with
    |
      .asl c n off k=>(match mx with
      |some _=>M.fail
      |none=>M.bind (M.opt (U0e lo 0)) fun l=>M.bind (M.opt (U0e hi (.ofNat k))) fun h=>M.req (Nat.beq sz (Univ.esz c))<|
          M.need (decide (0≤l)&&decide (l≤h)&&decide (h≤k)) (M.pure (.asl c n (l.toNat+off) (h.toNat-l.toNat))))
    |_=>M.fail)
  |_=>M.fail
def evSl(E:Env)(t:TypeId)(x:AVal)(lo hi mx:Option AVal):M AVal:=sel (a0z x) (H0n E t x lo hi mx) (K0e E t x lo hi mx)
def Z0M(c:Univ.C)(z:List AVal):Option (Univ.S c):=match cellsOf z with
  |none=>none
  |some cs=>Univ.unc c cs
def K0f(E:Env)(t:TypeId)(k cap:AVal):M AVal:=
  M.bind (E.ti t) fun ti=>match ti.k with
  |.slice e sz=>M.bind (M.opt (sInt k)) fun l=>M.bind (M.opt (sInt cap)) fun m=>M.bind (M.opt (Univ.elt e)) fun c=>M.bind (E.ti e) fun te=>M.bind (M.opt (Z0M c te.zero)) fun z=>
      M.req (Nat.beq sz (Univ.esz c)&&Nat.ble te.bytes 4096&&Nat.beq (len te.zero) sz)<|M.need (decide (0≤l)&&decide (l≤100000)&&decide (m=l))<|
      M.bind (alloc fun _=>.arr c (List.replicate l.toNat z)) fun n=>M.pure (.asl c n 0 l.toNat)
  |_=>M.fail
def isSi(x:AVal):Bool:=match x with |.si _ _=>true|_=>false
def R0T(E:Env)(t:TypeId)(k cap:AVal):M AVal:=sel (isSi k) (K0f E t k cap) (D0C E t k cap)
def D0D(k:AVal):List (AVal×AVal)→Option AVal
  |[]=>none
  |e::l=>sel (keq k e.1) (some e.2) (D0D k l)
def klt0(a b:AVal):Bool:=match a with
  |.bool a=>match b with |.bool b=>not a&&b|_=>true
  |.int _ a=>match b with |.bool _=>false|.int _ b=>ltI a b|_=>true
  |.str a=>match b with |.bool _=>false|.int _ _=>false|.str b=>ltS a b|_=>true
  |_=>false
def klts:List AVal→List AVal→Bool
  |a::l,b::m=>klt0 a b||(not (klt0 b a)&&klts l m)
  |[],_::_=>true
  |_,[]=>false
def klt(a b:AVal):Bool:=match a with
  |.agg l=>match b with |.agg m=>klts l m|_=>false
  |a=>match b with |.agg _=>true|b=>klt0 a b
def insE(k v:AVal):List (AVal×AVal)→List (AVal×AVal)
  |[]=>[(k,v)]
  |e::l=>sel (klt k e.1) ((k,v)::e::l) (e::insE k v l)
def setE(k v:AVal):List (AVal×AVal)→List (AVal×AVal)
  |[]=>[]
  |e::l=>sel (keq k e.1) ((k,v)::l) (e::setE k v l)
def X0s(l:List AVal)(agg:Bool):M AVal:=
  sel agg (M.pure (.agg l)) (match l with |[v]=>M.pure v|_=>M.fail)
def F0D(kt:TypeId)(x:AVal):M (List (AVal×AVal)):=match x with
  |.nilm=>M.pure []
  |.map n=>M.bind (rdMap n) fun r=>M.req (Nat.beq r.kt kt) (M.pure r.es)
  |_=>M.fail
def F0U(E:Env)(t:TypeId)(commaOk:Bool)(x k:AVal):M AVal:=
  M.bind (E.ti t) fun ti=>match ti.k with
  |.map kt et=>M.req (A0m E kt k)<|M.bind (F0D kt x) fun es=>match D0D k es with
      |some v=>M.pure (sel commaOk (.tup [v,.bool true]) v)
      |none=>M.bind (E.ti et) fun te=>M.bind (X0s te.zero te.agg) fun v=>M.pure (sel commaOk (.tup [v,.bool false]) v)
  |_=>M.fail
def A0J(E:Env)(fresh:Bool)(t:TypeId)(m k v:AVal):M AVal:=
  M.bind (E.ti t) fun ti=>match ti.k with
  |
    .map kt _=>(match m with
    |
      .map n=>M.req (A0m E kt k)<|M.bind (rdMap n) fun r=>M.req (Nat.beq r.kt kt) (match D0D k r.es with
      |some _=>M.req (not fresh)<|M.bind (wrMap n r.kt (setE k v r.es) r.clock) fun _=>M.pure .undef
      |none=>M.bind (wrMap n r.kt (insE k v r.es) (Nat.succ r.clock)) fun _=>M.pure .undef)
    |_=>M.fail)
  |_=>M.fail
def litC(x:Cell Univ.C Univ.S):AVal:=match x with
  |.b x=>.bool x
  |.i k n=>.int k n
  |.s s=>.str s.data.toList
  |_=>.any
def litV(c:Univ.C)(x:Univ.S c):AVal:=sel (Univ.agg c) (.agg (map1 litC (Univ.cells c x))) (match Univ.cells c x with
  |[]=>.any
  |a::_=>litC a)
def P0Y(E:Env)(kt:TypeId)(k:Univ.C):Bool:=A0m E kt (litV k (Univ.dflt k))
def U0G(a:AVal):Bool:=match a with |.agg _=>true|_=>false
def L0A(c:Univ.C)(a:AVal):Option (Univ.S c):=sel (U0G a==Univ.agg c) (match C0f (Univ.cells c (Univ.dflt c)) a.cells with
  |none=>none
  |some cs=>Univ.unc c cs) none
def b0d(a:AVal)(x:Cell Univ.C Univ.S):Bool:=match a with
  |.bool b=>(match x with |.b y=>not b&&not y|_=>false)
  |.int k n=>(match x with |.i j m=>k==j&&eqI n 0&&eqI m 0|_=>false)
  |.str l=>(match x with |.s s=>(match l with |[]=>true|_=>false)&&Nat.beq s.size 0|_=>false)
  |.nils=>(match x with |.sl _ l=>(match l with |[]=>true|_=>false)|_=>false)
  |_=>false
def M0I:List AVal→List (Cell Univ.C Univ.S)→Bool
  |[],[]=>true
  |a::l,x::xs=>sel (b0d a x) (M0I l xs) false
  |_,_=>false
def Z0V(te:TI)(c:Univ.C):Bool:=(te.agg==Univ.agg c)&&M0I te.zero (Univ.cells c (Univ.dflt c))
def K0p{α:Type}(x y:α):Bool:=@decide (x=y) (Classical.propDecidable (x=y))
def any?{α:Type}(p:α→Bool):Bool:=@decide (∃x,p x=true) (Classical.propDecidable (∃x,p x=true))
def updM{α β:Type}(m:α→Option β)(a:α)(b:β):α→Option β:=fun x=>sel (K0p x a) (some b) (m x)
def delM{α β:Type}(m:α→Option β)(a:α):α→Option β:=fun x=>sel (K0p x a) none (m x)
def D0M{α β:Type}(m:α→Option β)(a:α)(n:Nat):Nat:=sel (m a).isSome n (n+1)
def D0P(E:Env)(t:TypeId)(commaOk:Bool)(kc vc:Univ.C)(m:Univ.S kc→Option (Univ.S vc))(k:AVal):M AVal:=
  M.bind (E.ti t) fun ti=>match ti.k with
  |.map kt et=>M.bind (E.ti et) fun te=>M.req (P0Y E kt kc&&Z0V te vc)<|M.bind (M.opt (L0A kc k)) fun a=>
      M.pure (sel commaOk (.tup [mval vc ((m a).getD (Univ.dflt vc)),.sb (m a).isSome]) (mval vc ((m a).getD (Univ.dflt vc))))
  |_=>M.fail
def X0F(l:List AVal):Bool:=match l with
  |[a]=>(match a with |.nils=>true|_=>false)
  |_=>false
def F0w(E:Env)(t:TypeId)(commaOk:Bool)(n:Nat)(p:MpS)(k:AVal):M AVal:=M.bind (E.ti t) fun ti=>match ti.k with
  |
    .map kt et=>M.bind (E.ti et) fun te=>(match p.lent with
    |some _=>M.fail
    |none=>M.req (not commaOk&&P0Y E kt p.k&&X0F te.zero&&not te.agg&&Nat.beq n 0)<|M.bind (M.opt (L0A p.k k)) fun a=>
        M.bind (wrMps n ⟨p.k,p.c,p.m,p.n,some a⟩) fun _=>M.ite (p.m a).isSome
          (M.bind (alloc fun _=>.arr p.c ((p.m a).getD [])) fun r=>M.pure (.asl p.c r 0 ((p.m a).getD []).length)) (M.pure .nils))
  |_=>M.fail
def S0J(E:Env)(t:TypeId)(commaOk:Bool)(x k:AVal):M AVal:=match x with
  |.dmp kc vc m _=>D0P E t commaOk kc vc m k
  |
    .map n=>M.bind (rdDat? n) fun d=>(match d with
    |none=>F0U E t commaOk (.map n) k
    |
      some d=>(match d with
      |.map kc vc m _=>D0P E t commaOk kc vc m k
      |_=>M.fail))
  |x=>F0U E t commaOk x k
def evLk(E:Env)(t:TypeId)(commaOk:Bool)(x k:AVal):M AVal:=match x with
  |
    .map n=>M.bind (rdMps? n) fun p=>(match p with
    |some p=>F0w E t commaOk n p k
    |none=>S0J E t commaOk (.map n) k)
  |x=>S0J E t commaOk x k
def F0E(E:Env)(fresh:Bool)(t:TypeId)(n:Nat)(p:MpS)(k v:AVal):M AVal:=M.bind (E.ti t) fun ti=>match ti.k with
  |
    .map kt _=>(match p.lent with
    |none=>M.fail
    |
      some a0=>(match v with
      |.asl c r off q=>M.req (not fresh&&P0Y E kt p.k&&Nat.beq off 0&&Nat.beq n 0&&not (Nat.beq r n))<|M.bind (M.opt (L0A p.k k)) fun a=>M.need (K0p a a0)<|
          M.bind (E0U p.c r) fun l=>M.req (F0r c p.c)<|M.need (decide (q=l.length)&&decide (0<q))<|M.bind (wrGone r) fun _=>
          M.bind (wrMps n ⟨p.k,p.c,updM p.m a0 l,D0M p.m a0 p.n,none⟩) fun _=>M.pure .undef
      |_=>M.fail))
  |_=>M.fail
def G0F(E:Env)(fresh:Bool)(t:TypeId)(n:Nat)(d:DObj)(k v:AVal):M AVal:=match d with
  |
    .map kc vc m c=>M.bind (E.ti t) fun ti=>(match ti.k with
    |.map kt _=>M.req (not fresh&&P0Y E kt kc)<|M.bind (M.opt (L0A kc k)) fun a=>M.bind (M.opt (L0A vc v)) fun b=>
        M.bind (wrDat n (.map kc vc (updM m a b) (D0M m a c))) fun _=>M.pure .undef
    |_=>M.fail)
  |_=>M.fail
def S0Q(E:Env)(fresh:Bool)(t:TypeId)(x k v:AVal):M AVal:=match x with
  |
    .map n=>M.bind (rdDat? n) fun d=>(match d with
    |none=>A0J E fresh t (.map n) k v
    |some d=>G0F E fresh t n d k v)
  |x=>A0J E fresh t x k v
def evMu(E:Env)(fresh:Bool)(t:TypeId)(x k v:AVal):M AVal:=match x with
  |
    .map n=>M.bind (rdMps? n) fun p=>(match p with
    |some p=>F0E E fresh t n p k v
    |none=>S0Q E fresh t (.map n) k v)
  |x=>S0Q E fresh t x k v
def V0n(r:Option AVal):Bool:=match r with
  |none=>true
  |some r=>match r with |.int _ _=>true|_=>false
def F0G(E:Env)(t:TypeId)(r:Option AVal):M AVal:=M.bind (E.ti t) fun ti=>match ti.k with
  |.map kt _=>M.req (V0n r)<|M.bind (alloc fun _=>.map kt [] 0) fun n=>M.pure (.map n)
  |_=>M.fail
def J0K(E:Env)(t:TypeId)(r:Option AVal):M AVal:=match V0j t E.mps with
  |none=>F0G E t r
  |
    some p=>M.bind (E.ti t) fun ti=>(match ti.k with
    |.map _ _=>M.req (V0n r&&Univ.flat p.1)<|M.bind (alloc fun _=>.dat (.map p.1 p.2 (fun _=>none) 0)) fun n=>M.pure (.map n)
    |_=>M.fail)
def I0t(E:Env)(t:TypeId)(x:AVal):M AVal:=
  M.bind (E.ti t) fun ti=>match ti.k with
  |
    .str=>(match x with
    |.str l=>M.bind (alloc fun _=>.siter false l 0) fun n=>M.pure (.ptr n 0)
    |.ss s=>M.bind (alloc fun _=>.siter true s.data.toList 0) fun n=>M.pure (.ptr n 0)
    |_=>M.fail)
  |
    .map _ _=>(match x with
    |.nilm=>M.bind (alloc fun _=>.miter none 0 []) fun n=>M.pure (.ptr n 0)
    |.map m=>M.bind (rdMap m) fun r=>M.bind (alloc fun _=>.miter (some m) r.clock []) fun n=>M.pure (.ptr n 0)
    |_=>M.fail)
  |_=>M.fail
def I0R(x:AVal):M AVal:=match x with
  |.dmp kc vc m _=>M.bind (alloc fun _=>.dat (.iter kc vc m none)) fun r=>M.pure (.ptr r 0)
  |
    .map n=>M.bind (rdDat n) fun d=>(match d with
    |.map kc vc m _=>M.bind (wrLost n) fun _=>M.bind (alloc fun _=>.dat (.iter kc vc m none)) fun r=>M.pure (.ptr r 0)
    |_=>M.fail)
  |_=>M.fail
def evRg(E:Env)(t:TypeId)(x:AVal):M AVal:=match x with
  |
    .dmp _ _ _ _=>M.bind (E.ti t) fun ti=>(match ti.k with
    |.map _ _=>I0R x
    |_=>M.fail)
  |
    .map n=>M.bind (rdDat? n) fun d=>(match d with
    |none=>I0t E t x
    |
      some _=>M.bind (E.ti t) fun ti=>(match ti.k with
      |.map _ _=>I0R x
      |_=>M.fail))
  |x=>I0t E t x
def R0W(seen:List AVal)(es:List (AVal×AVal)):List (AVal×AVal):=es.filter fun e=>not (seen.any fun k=>keq k e.1)
def branch{α:Type}:List (M α)→M α
  |[]=>M.fail
  |[m]=>m
  |m::l=>fun s=>.br (m s) (branch l s)
def E0m(n m since:Nat)(seen:List AVal)(e:AVal×AVal):M AVal:=
  M.bind (wrIter n (some m) since (e.1::seen)) fun _=>M.pure (.tup [.bool true,e.1,e.2])
def N0g(det:Bool)(it:AVal):M AVal:=
  match it with
  |
    .ptr n 0=>M.bind (rdIter n) fun r=>(match r.1 with
    |none=>M.pure (.tup [.bool false])
    |
      some m=>M.bind (rdMap m) fun q=>M.req (Nat.beq q.clock r.2.1)<|
      match R0W r.2.2 q.es with
      |[]=>M.bind (wrDone n) fun _=>M.pure (.tup [.bool false])
      |[e]=>E0m n m r.2.1 r.2.2 e
      |left=>M.req (not det) (branch (left.map (E0m n m r.2.1 r.2.2))))
  |_=>M.fail
def L0O(det:Bool)(n:Nat)(d:DObj):M AVal:=match d with
  |.iter kc vc m _=>M.req (not det)<|M.ite (any? fun a=>(m a).isSome)
      (M.all kc (fun a=>(m a).isSome) fun a=>M.bind (wrDat n (.iter kc vc (delM m a) (some (a,(m a).getD (Univ.dflt vc))))) fun _=>M.pure (.tup [.bool true,mval kc a,mval vc ((m a).getD (Univ.dflt vc))]))
      (M.pure (.tup [.bool false]))
  |_=>M.fail
def evNx(det:Bool)(it:AVal):M AVal:=match it with
  |
    .ptr n o=>M.req (Nat.beq o 0)<|M.bind (rdDat? n) fun d=>(match d with
    |none=>N0g det (.ptr n o)
    |some d=>L0O det n d)
  |it=>N0g det it
def H0T(it:AVal):M AVal:=
  match it with
  |
    .ptr n 0=>M.bind (rdIter n) fun r=>(match r.1,r.2.2 with
    |some m,k::_=>M.bind (rdMap m) fun q=>M.req (Nat.beq q.clock r.2.1)<|M.bind (M.opt (D0D k q.es)) fun v=>M.pure (.tup [k,v])
    |_,_=>M.fail)
  |_=>M.fail
def evEn(it:AVal):M AVal:=match it with
  |
    .ptr n o=>M.req (Nat.beq o 0)<|M.bind (rdDat? n) fun d=>(match d with
    |none=>H0T (.ptr n o)
    |
      some d=>(match d with
      |
        .iter kc vc _ cur=>(match cur with
        |some p=>M.pure (.tup [mval kc p.1,mval vc p.2])
        |none=>M.fail)
      |_=>M.fail))
  |it=>H0T it
def E0C(l:List UInt8)(p:Nat):Int:=((Utf8.decode ⟨l.toArray⟩ p).1:Nat)
def B0H(l:List UInt8)(p:Nat):Nat:=p+(Utf8.decode ⟨l.toArray⟩ p).2
def U0i(n:Nat)(l:List UInt8)(p:Nat):M AVal:=M.ite (decide (p<l.length))
  (M.bind (wrSiter n l (B0H l p)) fun _=>M.pure (.tup [.bool true,.si .i64 (.ofNat p),.si .i32 (E0C l p)])) (M.pure (.tup [.bool false]))
def G0K(it:AVal):M AVal:=
  match it with
  |
    .ptr n 0=>M.bind (rdSiter n) fun r=>sel r.1 (U0i n r.2.1 r.2.2)<|(match nth r.2.1 r.2.2 with
    |none=>M.pure (.tup [.bool false])
    |some b=>M.req (Nat.blt b.toNat 128)<|M.bind (wrSiter n r.2.1 (Nat.succ r.2.2)) fun _=>M.pure (.tup [.bool true,.int .i64 (.ofNat r.2.2),.int .i32 (.ofNat b.toNat)]))
  |_=>M.fail
abbrev C0r:=FuncId→List AVal→M AVal
def C0J(c:Call)(E:Env)(call:C0r)(ρ:Rho):M AVal:=
  match c.callee with
  |.builtin b=>J0n b E c.argTypes.toList (map1 ρ c.args.toList)
  |
    .value f=>match ρ f with
    |.fn g first captured=>sel (Nat.blt g LY) (call g (first++map1 ρ c.args.toList++captured)) M.fail
    |.yld n=>call (LY+n) (map1 ρ c.args.toList)
    |_=>M.fail
  |.invoke _ _=>M.fail
abbrev OpF:=Env→Bool→C0r→Rho→M AVal
def Z0o(x:Operand):OpF:=fun _ _ _ ρ=>M.pure (ρ x)
def M0g(c a b:Operand):OpF:=fun _ _ _ ρ=>match ρ c with |.bool t=>M.pure (sel t (ρ a) (ρ b))|.sb t=>M.ite t (M.pure (ρ a)) (M.pure (ρ b))|_=>M.fail
def c0t(t:TypeId):OpF:=fun E _ _ _=>M.bind (E.ti t) fun ti=>M.bind (B0i t ti.zero) fun n=>M.pure (.ptr n 0)
def e0g(t:TypeId)(v:Operand):OpF:=fun _ _ _ ρ=>M.bind (B0i t (ρ v).cells) fun n=>M.pure (.ptr n 0)
def Z0i(t:TypeId)(parts:Array (Nat×Operand)):OpF:=fun E _ _ ρ=>K0l E t (map1 (fun p=>(p.1,ρ p.2)) parts.toList)
def K0D(t:TypeId)(n:Nat)(parts:Array (Nat×Operand)):OpF:=fun E _ _ ρ=>C0S E t n (map1 (fun p=>(p.1,ρ p.2)) parts.toList)
def b0Y(t:TypeId)(a:Operand):OpF:=fun E _ _ ρ=>O0f E t (ρ a)
def a0c(t:TypeId)(a v:Operand):OpF:=fun E _ _ ρ=>M0P E t (ρ a) (ρ v)
def D0G(x:Operand):OpF:=fun _ _ _ ρ=>match ρ x with |.nilp=>M.fail|.nili=>M.fail|.nilf=>M.fail|.raw _=>M.fail|.any=>M.fail|v=>M.pure v
def e0p(op:BinOp)(t:TypeId)(x y:Operand):OpF:=fun E _ _ ρ=>W0q E op t x y (ρ x) (ρ y)
def opUn(op:UnOp)(x:Operand):OpF:=fun _ _ _ ρ=>evUn op (ρ x)
def R0v(s d:TypeId)(x:Operand):OpF:=fun E _ _ ρ=>F0C E s d (ρ x)
def H0W(t:TypeId)(x:Operand):OpF:=fun E _ _ ρ=>M.bind (E.ti t) fun ti=>match ti.k with |.iface _=>M.fail|_=>M.pure (.iface t (ρ x))
def U0l(fn:Fn)(first captured:Array Operand):OpF:=fun _ _ _ ρ=>match fn with
  |.func f=>M.pure (.fn f (map1 ρ first.toList) (map1 ρ captured.toList))
  |_=>M.fail
def R0k(t:TypeId)(r:Option Operand):OpF:=fun E _ _ ρ=>J0K E t (r.map ρ)
def N0f(t:TypeId)(l c:Operand):OpF:=fun E _ _ ρ=>R0T E t (ρ l) (ρ c)
def Y0W(t:TypeId)(x:Operand)(lo hi mx:Option Operand):OpF:=fun E _ _ ρ=>evSl E t (ρ x) (lo.map ρ) (hi.map ρ) (mx.map ρ)
def L0D(t:TypeId)(x:Operand)(f:Nat):OpF:=fun E _ _ ρ=>M0V E t f (ρ x)
def a0a(t:TypeId)(x:Operand)(f:Nat):OpF:=fun E _ _ ρ=>N0Z E t f (ρ x)
def M0B(t:TypeId)(x i:Operand):OpF:=fun E _ _ ρ=>D0w E t (ρ x) (ρ i)
def X0R(t:TypeId)(x i:Operand):OpF:=fun E _ _ ρ=>J0N E t (ρ x) (ρ i)
def U0P(t:TypeId)(x i:Operand)(ok:Bool):OpF:=fun E _ _ ρ=>evLk E t ok (ρ x) (ρ i)
def U0s(fresh:Bool)(t:TypeId)(m k v:Operand):OpF:=fun E _ _ ρ=>evMu E fresh t (ρ m) (ρ k) (ρ v)
def U0Y(t:TypeId)(m k v:Operand):OpF:=fun E det _ ρ=>sel det (A0J E true t (ρ m) (ρ k) (ρ v)) (evMu E false t (ρ m) (ρ k) (ρ v))
def a0d(t:TypeId)(x:Operand):OpF:=fun E _ _ ρ=>evRg E t (ρ x)
def c0g(it:Operand)(str:Bool):OpF:=fun _ det _ ρ=>sel str (G0K (ρ it)) (evNx det (ρ it))
def Z0K(it:Operand):OpF:=fun _ _ _ ρ=>evEn (ρ it)
def E0F(x:Operand)(i:Nat):OpF:=fun _ _ _ ρ=>match ρ x with |.tup l=>M.opt (nth l i)|_=>M.fail
def c0a(c:Call):OpF:=fun E _ call ρ=>C0J c E call ρ
def e0j:OpF:=fun _ _ _ _=>M.fail
def evOp(op:Op):OpF:=match op with
  |.move x=>Z0o x
  |.assign x=>Z0o x
  |.pick c a b=>M0g c a b
  |.alloc t=>c0t t
  |.box t v=>e0g t v
  |.build t parts=>Z0i t parts
  |.buildSlice t n parts=>K0D t n parts
  |.load t a=>b0Y t a
  |.store t a v=>a0c t a v
  |.nilCheck x=>D0G x
  |.binOp op t x y _=>e0p op t x y
  |.unOp op _ x=>opUn op x
  |.convert s d x=>R0v s d x
  |.makeInterface t x=>H0W t x
  |.makeFunc fn first captured=>U0l fn first captured
  |.makeMap t r=>R0k t r
  |.makeSlice t l c=>N0f t l c
  |.slice t x lo hi mx=>Y0W t x lo hi mx
  |.fieldAddr t x f=>L0D t x f
  |.field t x f=>a0a t x f
  |.indexAddr t x i=>M0B t x i
  |.index t x i=>X0R t x i
  |.lookup t x i ok=>U0P t x i ok
  |.mapUpdate t m k v=>U0s false t m k v
  |.insert t m k v=>U0Y t m k v
  |.range t x=>a0d t x
  |.next it str=>c0g it str
  |.entry it=>Z0K it
  |.extract x i=>E0F x i
  |.call c=>c0a c
  |_=>e0j
def getT(t:Tr AVal)(i:Nat):AVal:=sel (Nat.blt i LT) (match t.get i with |some v=>v|none=>.undef) .undef
def Tm.get(T:Tm)(i:Nat):AVal:=match T with |⟨t,_,_,_⟩=>getT t i
def Tm.put(T:Tm)(d:Option Nat)(v:AVal):M Tm:=match d with
  |none=>M.pure T
  |some d=>match T with |⟨t,n,ms,rnd⟩=>M.req (Nat.blt d n) (M.pure ⟨t.set d v,n,ms,rnd⟩)
def rhoT(t:Tr AVal):Rho:=fun x=>match x with
  |.tmp i=>getT t i
  |.const v=>G0C v
  |.global g=>.raw (.pointer (some ⟨g,0,none⟩))
  |.func f=>.fn f [] []
def Tm.rho(T:Tm):Rho:=match T with |⟨t,_,_,_⟩=>rhoT t
structure GB where
  sym:Bool
  b:Bool
def Q0T(v:AVal)(w:Bool):Option GB:=match v with
  |.bool b=>some ⟨false,sel b w (not w)⟩
  |.sb b=>some ⟨true,sel w b (!b)⟩
  |.raw _=>none
  |.any=>none
  |_=>some ⟨false,false⟩
def F0s(ops:List Oper)(T:Tm)(g:Option (Nat×Bool)):Option GB:=
  match g with
  |none=>some ⟨false,true⟩
  |
    some q=>match nth ops q.1 with
    |
      some p=>(match p.dst with
      |some d=>Q0T (T.get d) q.2
      |none=>some ⟨false,false⟩)
    |none=>some ⟨false,false⟩
def Y0I(ops:List Oper)(dst:Option Nat):Bool:=match dst with
  |none=>false
  |
    some d=>ops.any fun p=>match p.guard with
    |none=>false
    |
      some q=>(match nth ops q.1 with
      |none=>false
      |
        some r=>(match r.dst with
        |none=>false
        |some e=>Nat.beq d e))
def O0x(ops:List Oper)(dst:Option Nat)(v:AVal):M AVal:=match v with
  |.sb b=>sel (Y0I ops dst) (M.ite b (M.pure (.bool true)) (M.pure (.bool false))) (M.pure v)
  |v=>M.pure v
def J0G(ops:List Oper)(dst:Option Nat)(op:Op):OpF:=match op with
  |.move x=>fun _ _ _ ρ=>O0x ops dst (ρ x)
  |op=>evOp op
def D0k(E:Env)(det:Bool)(call:C0r)(ops:List Oper)(o:Oper)(T:Tm):M Tm:=match o with
  |⟨dst,op,_,_,_,guard⟩=>M.bind (M.opt (F0s ops T guard)) fun q=>M.gate q.sym q.b (M.bind (J0G ops dst op E det call T.rho) fun v=>T.put dst v) (T.put dst .undef)
def N0o(E:Env)(det:Bool)(call:C0r)(ops:List Oper)(l:List Oper):Tm→M Tm:=
  List.rec (motive:=fun _=>Tm→M Tm) M.pure (fun o _ ih T=>M.bind (D0k E det call ops o T) ih) l
def Rg.meets(a b:Rg):Bool:=sel (Nat.beq a.n b.n) (Nat.blt a.i (b.i+b.k)&&Nat.blt b.i (a.i+a.k)) false
def I0B(l m:List Rg):Bool:=l.any fun a=>m.any fun b=>a.meets b
def a0I(lo hi:Nat)(l:List Rg):Bool:=sel (Nat.ble hi lo) true (l.all fun r=>Nat.blt r.n lo||Nat.ble hi r.n)
def Foot.apart(a b:Foot):Bool:=
  a0I a.lo a.hi b.rd&&a0I a.lo a.hi b.wr&&
  match a.wr,b.wr with
  |[],[]=>true
  |_,_=>(a.ins&&b.ins)||not (I0B a.wr b.wr||I0B a.wr b.rd||I0B a.rd b.wr)
def J0E(anc:Nat)(f:Foot):List Past→Bool
  |[]=>true
  |p::l=>sel (sel (G0g anc p.i) true (Foot.apart p.f f)) (J0E anc f l) false
def I0e(lo:Nat)(l:List Rg):List Rg:=l.filter fun r=>Nat.blt r.n lo
def D0f(o:Oper)(rd wr:List Rg)(lo hi:Nat):Foot:=match o.op with
  |.insert ..=>⟨[],wr,true,lo,hi⟩
  |_=>⟨rd,wr,false,lo,hi⟩
def D0Z(E:Env)(call:C0r)(ops:List Oper):List Oper→Nat→List Past→Tm→M Tm
  |[],_,_,T=>M.pure T
  |
    o::l,i,past,T=>fun s=>match s with
    |⟨h,nx,lo,rd,wr⟩=>(D0k E true call ops o T ⟨h,nx,nx,[],[]⟩).onDet fun T' s'=>match s' with
        |
          ⟨h',nx',_,rd',wr'⟩=>forced (G0v past (B0D o)) fun anc=>sel (J0E anc (D0f o rd' wr' nx nx') past)
          (D0Z E call ops l (Nat.succ i) (⟨i,anc,D0f o rd' wr' nx nx'⟩::past) T' ⟨h',nx',lo,I0e lo rd'++rd,I0e lo wr'++wr⟩)
          (.fail [])
def P0d:Nat→List AVal→Tr AVal→Tr AVal
  |_,[],t=>t
  |i,v::l,t=>P0d (Nat.succ i) l (t.set i v)
def F0S(E:Env)(T:Tm)(r:ResultVar):M AVal:=match r with
  |.tmp t=>M.pure (T.get t)
  |.cell a t=>O0f E t (T.get a)
def B0W(E:Env)(T:Tm):List ResultVar→M (List AVal)
  |[]=>M.pure []
  |r::l=>M.bind (F0S E T r) fun v=>M.bind (B0W E T l) fun vs=>M.pure (v::vs)
mutual
def AVal.same:AVal→AVal→Bool
  |.bool a,.bool b=>sel a b (not b)
  |.int j a,.int k b=>j==k&&eqI a b
  |.str a,.str b=>eqS a b
  |.ptr a b,.ptr c d=>Nat.beq a c&&Nat.beq b d
  |.nilp,.nilp=>true
  |.slice a b c d e,.slice a' b' c' d' e'=>Nat.beq a a'&&Nat.beq b b'&&Nat.beq c c'&&(match d,d' with |none,none=>true|some x,some y=>Nat.beq x y|_,_=>false)&&Nat.beq e e'
  |.nils,.nils=>true
  |.map a,.map b=>Nat.beq a b
  |.nilm,.nilm=>true
  |.fn a b c,.fn a' b' c'=>Nat.beq a a'&&AVal.sames b b'&&AVal.sames c c'
  |.nilf,.nilf=>true
  |.iface a b,.iface a' b'=>Nat.beq a a'&&AVal.same b b'
  |.nili,.nili=>true
  |.agg a,.agg b=>AVal.sames a b
  |.tup a,.tup b=>AVal.sames a b
  |.yld a,.yld b=>Nat.beq a b
  |_,_=>false
def AVal.sames:List AVal→List AVal→Bool
  |[],[]=>true
  |a::l,b::m=>AVal.same a b&&AVal.sames l m
  |_,_=>false
end
def Q0m:List (Nat×Nat×Nat)→List (Nat×Nat×Nat)→Bool
  |[],[]=>true
  |a::l,b::m=>Nat.beq a.1 b.1&&Nat.beq a.2.1 b.2.1&&Nat.beq a.2.2 b.2.2&&Q0m l m
  |_,_=>false
def O0D:List (AVal×AVal)→List (AVal×AVal)→Bool
  |[],[]=>true
  |a::l,b::m=>AVal.same a.1 b.1&&AVal.same a.2 b.2&&O0D l m
  |_,_=>false
def AExit.same:AExit→AExit→Bool
  |.normal,.normal=>true
  |.exit a,.exit b=>Nat.beq a b
  |.ret,.ret=>true
  |_,_=>false
def Rcd.same:Rcd→Rcd→Bool
  |.mark,.mark=>true
  |.loop a x,.loop b y=>Nat.beq a b&&AExit.same x y
  |_,_=>false
def AObj.same:AObj→AObj→Bool
  |.cells a x b c d e f,.cells a' x' b' c' d' e' f'=>AVal.sames a a'&&Nat.beq x x'&&b==b'&&c==c'&&Nat.beq d d'&&Nat.beq e e'&&Q0m f f'
  |.map x a b,.map x' a' b'=>Nat.beq x x'&&O0D a a'&&Nat.beq b b'
  |.siter y a b,.siter y' a' b'=>!y&&!y'&&eqS a a'&&Nat.beq b b'
  |.rcd a,.rcd b=>Rcd.same a b
  |.done,.done=>true
  |_,_=>false
def Tr.common:Tr AObj→Tr AObj→Tr AObj
  |.leaf a,.leaf b=>sel (AObj.same a b) (.leaf a) (.leaf .done)
  |.node l r,.node l' r'=>.node (Tr.common l l') (Tr.common r r')
  |_,_=>.nil
def B0E:Res AVal→Res AVal
  |
    .br l r=>match B0E l,B0E r with
    |.ok a s,.ok b t=>sel (AVal.same a b&&Nat.beq s.nx t.nx&&Nat.beq s.lo t.lo) (.ok a ⟨Tr.common s.h t.h,s.nx,s.lo,s.rd,s.wr⟩) (.br (.ok a s) (.ok b t))
    |x,y=>.br x y
  |.ite b l r=>.ite b (B0E l) (B0E r)
  |r=>r
def cmpS(a b:List UInt8):Int:=sel (ltS a b) (-1) (sel (ltS b a) 1 0)
def N0y(vs:List AVal):AVal:=match vs with
  |[]=>.tup []
  |v::l=>match l with |[]=>v|_=>.tup vs
def B0z:List Nat→M Unit
  |[]=>M.pure ()
  |n::l=>M.bind (wrMark n) fun _=>B0z l
def M0z(x y:AVal):M AVal:=M.bind (M.opt (strA x)) fun a=>M.bind (M.opt (strA y)) fun b=>M.pure (.si .i64 (cmpS a.data.toList b.data.toList))
def cmpA(x y:AVal):M AVal:=match x with
  |
    .str a=>(match y with
    |.str b=>M.pure (.int .i64 (cmpS a b))
    |y=>M0z x y)
  |x=>M0z x y
def H0S(fn:AFn)(E:Env)(code:Code→Tm→M (AExit×Tm))(args:List AVal):M AVal:=match fn with
  |.code c nt rs=>M.req (Nat.ble nt LT&&Nat.ble (len args) nt)<|
      M.bind (code c ⟨P0d 0 args (Tr.full DT),nt,[],none⟩) fun r=>match r.1 with
      |.exit _=>M.fail
      |_=>M.bind (B0z r.2.mks) fun _=>M.bind (B0W E r.2 rs) fun vs=>M.pure (N0y vs)
  |
    .cmpstr=>match args with
    |[x,y]=>cmpA x y
    |_=>M.fail
  |
    .same=>match args with
    |[x]=>M.pure x
    |_=>M.fail
def L0i(n:Nat):List M0W→Option M0W
  |[]=>none
  |d::l=>sel (Nat.beq d.n n) (some d) (L0i n l)
def L0x:List Nat→List AVal→Tm→M Tm
  |[],[],T=>M.pure T
  |d::ps,v::vs,T=>M.bind (T.put (some d) v) fun T=>L0x ps vs T
  |_,_,_=>M.fail
def C0z(x:AExit):Bool:=match x with
  |.normal=>true
  |_=>false
def I0o(d:M0W)(code:Code→Tm→M (AExit×Tm))(args:List AVal):M AVal:=
  M.bind (rdLoop d.n) fun _=>M.bind (L0x d.ps args ⟨d.T.t,d.T.n,[],some d.n⟩) fun T=>
  M.bind (code d.assign T) fun r=>M.req (C0z r.1)<|
  M.bind (rdLoop d.n) fun l=>M.req (Nat.beq l.st 0)<|M.bind (wrLoop d.n 1 l.pend) fun _=>
  M.bind (code d.body r.2) fun q=>M.bind (rdLoop d.n) fun _=>M.bind (wrLoop d.n (sel (C0z q.1) 0 2) q.1) fun _=>M.pure (.bool (C0z q.1))
def evFn(E:Env)(code:Code→Tm→M (AExit×Tm))(f:FuncId)(args:List AVal):M AVal:=
  sel (Nat.blt f LY)
    (match E0N f E.ctr with
      |some g=>(g args).run
      |none=>M.bind (M.opt (E.fn.get f)) fun fn=>H0S fn E code args)
    (M.bind (M.opt (L0i (Nat.sub f LY) E.loops)) fun d=>I0o d code args)
def W0y(E:Env)(code:Code→Tm→M (AExit×Tm))(f:FuncId)(args:List AVal):M AVal:=fun s=>
  match evFn E code f args s with
  |.ok a s=>.ok a s
  |.br l r=>B0E (.br l r)
  |.ite b l r=>B0E (.ite b l r)
  |.fail w=>.fail w
  |.each c p f=>.each c p f
abbrev IH:=Env→Bool→Code→Tm→M (AExit×Tm)
abbrev K0U:=Env→IH→Bool→Tm→M (AExit×Tm)
def F0b(E:Env)(ih:IH)(det:Bool):C0r:=sel det (evFn E (ih E det)) (W0y E (ih E det))
def f0F:K0U:=fun _ _ _ T=>M.pure (.normal,T)
def b0D(ops:Array Oper)(draw:Bool):K0U:=fun E ih det T=>sel draw
  (M.bind (D0Z E (evFn E (ih E true)) ops.toList ops.toList 0 [] T) fun T'=>M.pure (.normal,T'))
  (M.bind (N0o E det (F0b E ih det) ops.toList ops.toList T) fun T'=>M.pure (.normal,T'))
def
    f0Z (a b:Code):K0U:=fun E ih det T=>M.bind (ih E det a T) fun r=>match r.1 with
    |.normal=>ih E det b r.2
    |x=>M.pure (x,r.2)
def
    N0n (c:Operand) (a b:Code):K0U:=fun E ih det T=>match T.rho c with
    |.bool t=>sel t (ih E det a T) (ih E det b T)
    |.sb t=>M.ite t (ih E det a T) (ih E det b T)
    |_=>M.fail
def
    c0X (id:Nat) (a:Code):K0U:=fun E ih det T=>M.bind (ih E det a T) fun r=>match r.1 with
    |.exit j=>sel (Nat.beq j id) (M.pure (.normal,r.2)) (M.pure (.exit j,r.2))
    |x=>M.pure (x,r.2)
def R0V(n:Nat):K0U:=fun E _ det T=>sel det M.fail (match E0N n E.lps with
  |some p=>p.run T
  |none=>M.fail)
def
    e0K (a:Code):K0U:=fun E ih det T=>M.bind (ih E det a T) fun r=>match r.1 with
    |.normal=>ih E det (.loop a) r.2
    |x=>M.pure (x,r.2)
def e0t(id:Nat):K0U:=fun _ _ _ T=>M.pure (.exit id,T)
def g0h:K0U:=fun _ _ _ T=>M.pure (.ret,T)
def e0Q:K0U:=fun _ _ _ _=>M.fail
def J0I(T:Tm):M (List Nat):=match T.rnd with
  |none=>M.bind (alloc fun _=>.rcd .mark) fun m=>M.pure (m::T.mks)
  |some l=>M.bind (rdLoop l) fun _=>M.pure T.mks
def U0k(o:Option AFn):Bool:=match o with
  |some (.code _ _ _)=>true
  |_=>false
def C0P(g:Operand)(ps:Array Nat)(assign body:Code):K0U:=fun E ih det T=>match T.rho g with
  |
    .fn f first captured=>M.req (Nat.blt f LY&&U0k (E.fn.get f))<|
    M.bind (J0I T) fun mk=>M.bind (alloc fun _=>.rcd (.loop 0 .normal)) fun n=>
    M.bind (F0b ⟨E.ty,E.fn,⟨n,T,ps.toList,assign,body⟩::E.loops,E.ctr,E.lps,E.mps,E.solo⟩ ih det f (first++[.yld n]++captured)) fun _=>
    M.bind (rdLoop n) fun l=>M.req (not (Nat.beq l.st 1))<|M.bind (wrLoop n 3 l.pend) fun _=>M.pure (l.pend,⟨T.t,T.n,mk,T.rnd⟩)
  |_=>M.fail
def c0f(c:Code):K0U:=match c with
  |.skip=>f0F
  |.region _ ops draw=>b0D ops draw
  |.seq a b=>f0Z a b
  |.cond c a b=>N0n c a b
  |.block id a=>c0X id a
  |.loop a=>e0K a
  |.rangeFunc g ps assign body=>C0P g ps assign body
  |.exit id=>e0t id
  |.ret=>g0h
  |.goto n=>R0V n
  |_=>e0Q
def A0v(n:Nat):IH:=
  Nat.rec (motive:=fun _=>IH) (fun _ _ _ _=>M.fail) (fun _ ih E det c T=>c0f c E ih det T) n
end
end Go.Ev

namespace Go.Ev
open Go
variable[Univ]
theorem A0e{α:Type}(x y:α):sel true x y=x:=rfl
theorem A0f{α:Type}(x y:α):sel false x y=y:=rfl
theorem B0v{α:Type}(b:Bool)(x y:α):sel b x y=if b=true then x else y:=by cases b<;>rfl
@[simp] theorem e0a{α:Type}(n:Nat):(Tr.nil:Tr α).get n=none:=rfl
@[simp] theorem d0S{α:Type}(a:α)(n:Nat):(Tr.leaf a).get n=some a:=rfl
theorem B0d{α:Type}(l r:Tr α)(n:Nat):(Tr.node l r).get n=if n % 2=0 then l.get (n/2) else r.get (n/2):=by
 show(Bool.rec (r.get (n/2)) (l.get (n/2)) (Nat.beq (n % 2) 0):Option α)=_
 cases h:Nat.beq (n % 2) 0
 ·rw[if_neg (Nat.ne_of_beq_eq_false h)]
 ·rw[if_pos (Nat.eq_of_beq_eq_true h)]
@[simp] theorem e0b{α:Type}(n:Nat)(v:α):(Tr.nil:Tr α).set n v=.leaf v:=rfl
@[simp] theorem d0P{α:Type}(a:α)(n:Nat)(v:α):(Tr.leaf a).set n v=.leaf v:=rfl
theorem B0j{α:Type}(l r:Tr α)(n:Nat)(v:α):(Tr.node l r).set n v=if n % 2=0 then .node (l.set (n/2) v) r else .node l (r.set (n/2) v):=by
 show(Bool.rec (.node l (r.set (n/2) v)) (.node (l.set (n/2) v) r) (Nat.beq (n % 2) 0):Tr α)=_
 cases h:Nat.beq (n % 2) 0
 ·rw[if_neg (Nat.ne_of_beq_eq_false h)]
 ·rw[if_pos (Nat.eq_of_beq_eq_true h)]
theorem A0Z{α:Type}:∀d,(Tr.full d:Tr α).deep d
 |0=>trivial
 |d+1=>⟨A0Z d,A0Z d⟩
theorem A0j{α:Type}(v:α):∀(d:Nat)(t:Tr α)(n:Nat),t.deep d→(t.set n v).deep d
 |0,.nil,_,_=>trivial
 |0,.leaf _,_,_=>trivial
 |0,.node _ _,_,h=>h.elim
 |d+1,.nil,_,h=>h.elim
 |d+1,.leaf _,_,h=>h.elim
 |
  d+1,.node l r,n,h=>by
  rw[B0j]
  split
  ·exact⟨A0j v d l _ h.1,h.2⟩
  ·exact⟨h.1,A0j v d r _ h.2⟩
theorem A0q{α:Type}:∀(d n:Nat),(Tr.full d:Tr α).get n=none
 |0,_=>rfl
 |
  d+1,n=>by
  show(Tr.node (Tr.full d) (Tr.full d)).get n=none
  rw[B0d];split<;>exact A0q d _
theorem A0y{α:Type}(v:α):∀(d:Nat)(t:Tr α)(n m:Nat),t.deep d→n<2^d→m<2^d→
  (t.set n v).get m=if m=n then some v else t.get m
 |
  0,.nil,n,m,_,hn,hm=>by
  have hn':n<1:=hn
  have hm':m<1:=hm
  obtain rfl:n=0:=by omega
  obtain rfl:m=0:=by omega
  simp
 |
  0,.leaf a,n,m,_,hn,hm=>by
  have hn':n<1:=hn
  have hm':m<1:=hm
  obtain rfl:n=0:=by omega
  obtain rfl:m=0:=by omega
  simp
 |0,.node _ _,_,_,h,_,_=>h.elim
 |d+1,.nil,_,_,h,_,_=>h.elim
 |d+1,.leaf _,_,_,h,_,_=>h.elim
 |
  d+1,.node l r,n,m,h,hn,hm=>by
  have hp:2^(d+1)=2*2^d:=by rw[Nat.pow_succ];omega
  rw[hp] at hn hm
  rw[B0j]
  by_cases hn2:n % 2=0
  ·rw[if_pos hn2,B0d,B0d]
   by_cases hm2:m % 2=0
   ·rw[if_pos hm2,if_pos hm2,A0y v d l _ _ h.1 (by omega) (by omega)]
    by_cases e:m=n
    ·subst e;simp
    ·rw[if_neg e,if_neg (by omega)]
   ·rw[if_neg hm2,if_neg hm2,if_neg (by omega)]
  ·rw[if_neg hn2,B0d,B0d]
   by_cases hm2:m % 2=0
   ·rw[if_pos hm2,if_pos hm2,if_neg (by omega)]
   ·rw[if_neg hm2,if_neg hm2,A0y v d r _ _ h.2 (by omega) (by omega)]
    by_cases e:m=n
    ·subst e;simp
    ·rw[if_neg e,if_neg (by omega)]
theorem C0o{α:Type}:∀(d:Nat)(f:Nat→Option α)(n:Nat),n<2^d→(Tr.build d f).get n=f n
 |
  0,f,n,hn=>by
  have hn':n<1:=hn
  obtain rfl:n=0:=by omega
  unfold Tr.build
  split<;>simp[*]
 |
  d+1,f,n,hn=>by
  have hp:2^(d+1)=2*2^d:=by rw[Nat.pow_succ];omega
  rw[hp] at hn
  show(Tr.node _ _).get n=f n
  rw[B0d]
  split
  ·rw[C0o d _ _ (by omega)];congr 1;omega
  ·rw[C0o d _ _ (by omega)];congr 1;omega
theorem E0Z{α:Type}:∀(l:List α)(n:Nat),nth l n=l[n]?
 |[],n=>rfl
 |a::l,0=>rfl
 |a::l,n+1=>by show nth l n=_;rw[E0Z l n];simp
theorem F0g{α:Type}:∀(l:List α)(n:Nat),tak l n=l.take n
 |[],n=>by cases n<;>rfl
 |a::l,0=>rfl
 |a::l,n+1=>by show a::tak l n=_;rw[F0g l n];rfl
theorem G0s{α:Type}:∀(l:List α)(n:Nat),drp l n=l.drop n
 |[],n=>by cases n<;>rfl
 |a::l,0=>rfl
 |a::l,n+1=>by show drp l n=_;rw[G0s l n];rfl
theorem X0Z{α:Type}:∀(l:List α)(n:Nat),(List.rec (motive:=fun _=>Nat→Nat) (fun n=>n) (fun _ _ ih n=>ih (Nat.succ n)) l n:Nat)=l.length+n
 |[],n=>by simp
 |
  a::l,n=>by
  show(List.rec (motive:=fun _=>Nat→Nat) (fun n=>n) (fun _ _ ih n=>ih (Nat.succ n)) l (Nat.succ n):Nat)=_
  rw[X0Z l (Nat.succ n)];simp;omega
theorem A0O{α:Type}(l:List α):len l=l.length:=by unfold len;rw[X0Z];rfl
theorem C0m{α β:Type}(f:α→β):∀l:List α,map1 f l=l.map f
 |[]=>rfl
 |a::l=>by show f a::map1 f l=_;rw[C0m f l];rfl
theorem B0F{α:Type}(m:Nat)(k:Nat→α):forced m k=k m:=by cases m<;>rfl
theorem U0t:∀cs l:List AVal,l.length≤cs.length→X0n cs l=l++cs.drop l.length
 |cs,[],_=>by cases cs<;>simp[X0n]
 |[],v::l,h=>by simp at h
 |c::cs,v::l,h=>by simp[X0n];exact U0t cs l (by simpa using h)
theorem P0T:∀(cs:List AVal)(i:Nat)(l:List AVal),i+l.length≤cs.length→over cs i l=cs.take i++l++cs.drop (i+l.length)
 |
  [],i,l,h=>by
  have h1:i=0:=by simp at h;omega
  have h2:l=[]:=by cases l with |nil=>rfl|cons a l=>simp at h
  subst h1;subst h2;rfl
 |
  c::cs,0,l,h=>by
  show X0n (c::cs) l=_
  rw[U0t _ _ (by simpa using h)];simp
 |
  c::cs,i+1,l,h=>by
  show c::over cs i l=_
  rw[P0T cs i l (by simp at h;omega)]
  rw[show i+1+l.length=(i+l.length)+1 by omega];simp
theorem M0k(cs:List AVal)(i:Nat)(l:List AVal)(h:i+l.length≤cs.length):(over cs i l).length=cs.length:=by
 rw[P0T cs i l h];simp;omega
theorem L0c(cs:List AVal)(i:Nat)(l:List AVal)(h:i+l.length≤cs.length)(k:Nat):
  (over cs i l)[k]?=if i≤k∧k<i+l.length then l[k-i]? else cs[k]?:=by
 rw[P0T cs i l h]
 have hi:(cs.take i).length=i:=by simp;omega
 by_cases h1:k<i
 ·rw[if_neg (by omega),List.append_assoc,List.getElem?_append_left (by omega)]
  simp[h1]
 ·by_cases h2:k<i+l.length
  ·rw[if_pos ⟨by omega,h2⟩,List.append_assoc,List.getElem?_append_right (by omega),hi,List.getElem?_append_left (by omega)]
  ·rw[if_neg (by omega),List.append_assoc,List.getElem?_append_right (by omega),hi,List.getElem?_append_right (by omega)]
   rw[List.getElem?_drop];congr 1;omega
theorem G0t(a b:Int):ltI a b=decide (a<b):=by
 unfold ltI
 split<;>split<;>(rw[Bool.eq_iff_iff];simp[Nat.blt_eq]<;>omega)
theorem E0e(a b:Int):eqI a b=(a==b):=by
 unfold eqI
 split<;>split<;>(rw[Bool.eq_iff_iff];simp[Nat.beq_eq]<;>omega)
end Go.Ev

namespace Go.Ev
open Go Go.RowKit
variable[Univ]
def Res.Good{α:Type}:Res α→Prop
 |.ok _ _=>True
 |.br l r=>l.Good∧r.Good
 |
  .ite b l r=>match b with
  |true=>l.Good
  |false=>r.Good
 |.fail _=>False
 |.each _ p f=>(∃x,p x=true)∧∀x,p x=true→(f x).Good
@[simp] theorem a0C{α β:Type}(a:α)(s:St)(f:α→St→Res β):(Res.ok a s).bind f=f a s:=rfl
@[simp] theorem e0c{α β:Type}(w:List Nat)(f:α→St→Res β):(Res.fail w:Res α).bind f=.fail w:=rfl
@[simp] theorem Z0r{α β:Type}(b:Bool)(l r:Res α)(f:α→St→Res β):(Res.ite b l r).bind f=.ite b (l.bind f) (r.bind f):=rfl
@[simp] theorem f0P{α β:Type}(l r:Res α)(f:α→St→Res β):(Res.br l r).bind f=.br (l.bind f) (r.bind f):=rfl
@[simp] theorem e0x{α β:Type}(c:Univ.C)(p:Univ.S c→Bool)(g:Univ.S c→Res α)(f:α→St→Res β):(Res.each c p g).bind f=.each c p fun x=>(g x).bind f:=rfl
theorem C0T{α β:Type}{f:α→St→Res β}:∀{x:Res α},(x.bind f).Good→x.Good
 |.ok _ _,_=>trivial
 |.br _ _,h=>⟨C0T h.1,C0T h.2⟩
 |.ite true l _,h=>C0T (x:=l) h
 |.ite false _ r,h=>C0T (x:=r) h
 |.fail _,h=>h.elim
 |.each _ _ g,h=>⟨h.1,fun y hy=>C0T (x:=g y) (h.2 y hy)⟩
theorem A0z{α β:Type}{f:α→St→Res β}{a:α}{s:St}:∀{x:Res α},(x.bind f).Good→x.Has a s→(f a s).Good
 |.ok _ _,h,⟨e,e'⟩=>by subst e;subst e';exact h
 |.br _ _,h,.inl k=>A0z h.1 k
 |.br _ _,h,.inr k=>A0z h.2 k
 |.ite true l _,h,k=>A0z (x:=l) h k
 |.ite false _ r,h,k=>A0z (x:=r) h k
 |.each _ _ g,h,⟨y,hy,k⟩=>A0z (x:=g y) (h.2 y hy) k
theorem A0K{α β:Type}{f:α→St→Res β}{a:α}{s:St}{b:β}{t:St}:∀{x:Res α},x.Has a s→(f a s).Has b t→(x.bind f).Has b t
 |.ok _ _,⟨e,e'⟩,k=>by subst e;subst e';exact k
 |.br _ _,.inl h,k=>.inl (A0K h k)
 |.br _ _,.inr h,k=>.inr (A0K h k)
 |.ite true l _,h,k=>A0K (x:=l) h k
 |.ite false _ r,h,k=>A0K (x:=r) h k
 |.each _ _ g,⟨y,hy,h⟩,k=>⟨y,hy,A0K (x:=g y) h k⟩
theorem D0p{α β:Type}{f:α→St→Res β}{b:β}{t:St}:∀{x:Res α},(x.bind f).Has b t→∃a s,x.Has a s∧(f a s).Has b t
 |.ok a s,h=>⟨a,s,⟨rfl,rfl⟩,h⟩
 |.br _ _,.inl h=>let⟨a,s,k,q⟩:=D0p h;⟨a,s,.inl k,q⟩
 |.br _ _,.inr h=>let⟨a,s,k,q⟩:=D0p h;⟨a,s,.inr k,q⟩
 |.ite true l _,h=>D0p (x:=l) h
 |.ite false _ r,h=>D0p (x:=r) h
 |.each _ _ g,⟨y,hy,h⟩=>let⟨a,s,k,q⟩:=D0p (x:=g y) h;⟨a,s,⟨y,hy,k⟩,q⟩
theorem A0d{α β:Type}{m:M α}{f:α→M β}{s s':St}{a:α}(h:m s=.ok a s'):M.bind m f s=f a s':=by
 unfold M.bind;rw[h];rfl
theorem A0a{α β:Type}{m:M α}{f:α→M β}{s:St}(h:(M.bind m f s).Good):(m s).Good:=C0T h
theorem A0i{α:Type}{b:Bool}{m:M α}{s:St}(h:(M.req b m s).Good):b=true∧M.req b m s=m s:=by
 cases b
 ·exact h.elim
 ·exact⟨rfl,rfl⟩
theorem A0W{α:Type}{b:Bool}{m:M α}{s:St}(h:(M.need b m s).Good):b=true∧(m s).Good∧∀a t,(m s).Has a t→(M.need b m s).Has a t:=by
 cases b
 ·exact h.elim
 ·exact⟨rfl,h,fun _ _ k=>k⟩
theorem Y0M{α:Type}{q b:Bool}{m n:M α}{s:St}:(M.gate q b m n s).Good↔(sel b m n s).Good:=by
 cases q<;>cases b<;>exact Iff.rfl
theorem b0A{α:Type}{q b:Bool}{m n:M α}{s:St}{a:α}{t:St}:(M.gate q b m n s).Has a t↔(sel b m n s).Has a t:=by
 cases q<;>cases b<;>exact Iff.rfl
theorem A0k{α:Type}{o:Option α}{s:St}(h:(M.opt o s).Good):∃a,o=some a∧M.opt o s=.ok a s:=by
 cases o with
 |none=>exact h.elim
 |some a=>exact⟨a,rfl,rfl⟩
@[simp] theorem f0S{α:Type}(a:α)(s:St):M.pure a s=.ok a s:=rfl
@[simp] theorem f0Q{α:Type}(s:St):(M.fail:M α) s=.fail []:=rfl
theorem d0H(n i k:Nat)(h:Tr AObj)(nx lo:Nat)(rd wr:List Rg):(T0p n i k h nx lo rd wr).h=h∧(T0p n i k h nx lo rd wr).nx=nx∧(T0p n i k h nx lo rd wr).lo=lo:=by
 unfold T0p;cases Nat.ble lo n<;>exact⟨rfl,rfl,rfl⟩
theorem O0w(s:St)(n i k:Nat):(s.logR n i k).h=s.h∧(s.logR n i k).nx=s.nx∧(s.logR n i k).lo=s.lo:=d0H ..
theorem c0Q(n i k:Nat)(h:Tr AObj)(nx lo:Nat)(rd wr:List Rg):(T0a n i k h nx lo rd wr).h=h∧(T0a n i k h nx lo rd wr).nx=nx∧(T0a n i k h nx lo rd wr).lo=lo:=by
 unfold T0a;cases Nat.ble lo n<;>exact⟨rfl,rfl,rfl⟩
theorem a0A(s:St)(n:Nat)(o:AObj)(i k:Nat):(s.put n o i k).h=s.h.set n o∧(s.put n o i k).nx=s.nx∧(s.put n o i k).lo=s.lo:=c0Q ..
theorem A0F{α:Type}(a:α)(s:St):okS a s=.ok a s:=by cases s;rfl
theorem A0X{α:Type}{n:Nat}{k:AObj→St→Res α}{s:St}(hb:Nat.blt n s.nx=true):look n k s=match s.h.get n with |none=>.fail []|some o=>k o s:=by
 obtain⟨h,nx,lo,rd,wr⟩:=s
 simp only[] at hb
 unfold look
 simp only[]
 rw[hb,A0e]
 all_goals (cases h.get n<;>rfl)
theorem B0a{α:Type}{n:Nat}{k:AObj→St→Res α}{s:St}(g:(look n k s).Good):Nat.blt n s.nx=true:=by
 obtain⟨h,nx,lo,rd,wr⟩:=s
 unfold look at g
 simp only[] at g⊢
 cases hb:Nat.blt n nx with
 |true=>rfl
 |false=>rw[hb] at g;exact g.elim
structure Same(s s':St):Prop where
 h:s'.h=s.h
 nx:s'.nx=s.nx
theorem Same.refl(s:St):Same s s:=⟨rfl,rfl⟩
theorem Same.trans{a b c:St}(h:Same a b)(k:Same b c):Same a c:=⟨k.h.trans h.h,k.nx.trans h.nx⟩
theorem Same.logR(s:St)(n i k:Nat):Same s (s.logR n i k):=⟨(O0w s n i k).1,(O0w s n i k).2.1⟩
theorem C0j{n:Nat}{s:St}(g:(rdHead n s).Good):∃cs e frz dead root rel alive s',s.h.get n=some (.cells cs e frz dead root rel alive)∧
  rdHead n s=.ok ⟨e,frz,dead,root,rel,cs.length⟩ s'∧Same s s':=by
 unfold rdHead at g⊢
 have hlt:=B0a g
 rw[A0X hlt] at g⊢
 cases ho:s.h.get n with
 |none=>rw[ho] at g;exact g.elim
 |
  some o=>
  rw[ho] at g
  cases o with
  |cells cs e frz dead root rel alive=>exact⟨cs,e,frz,dead,root,rel,alive,_,rfl,(A0F _ _).trans (by rw[A0O]),Same.logR ..⟩
  |_=>exact g.elim
theorem D0R{n:Nat}{s:St}(g:(rdAlive n s).Good):∃cs e frz dead root rel alive s',s.h.get n=some (.cells cs e frz dead root rel alive)∧
  rdAlive n s=.ok alive s'∧Same s s':=by
 unfold rdAlive at g⊢
 have hlt:=B0a g
 rw[A0X hlt] at g⊢
 cases ho:s.h.get n with
 |none=>rw[ho] at g;exact g.elim
 |
  some o=>
  rw[ho] at g
  cases o with
  |cells cs e frz dead root rel alive=>exact⟨cs,e,frz,dead,root,rel,alive,_,rfl,A0F _ _,Same.logR ..⟩
  |_=>exact g.elim
theorem C0l{n off k:Nat}{s:St}(g:(rdCells n off k s).Good):∃cs e frz root rel alive s',s.h.get n=some (.cells cs e frz false root rel alive)∧
  off+k≤cs.length∧rdCells n off k s=.ok ((cs.drop off).take k) s'∧Same s s':=by
 unfold rdCells at g⊢
 have hlt:=B0a g
 rw[A0X hlt] at g⊢
 cases ho:s.h.get n with
 |none=>rw[ho] at g;exact g.elim
 |
  some o=>
  rw[ho] at g
  cases o with
  |
   cells cs e frz dead root rel alive=>
   cases dead with
   |true=>exact g.elim
   |
    false=>
    simp only[A0f] at g⊢
    cases hb:Nat.ble (off+k) (len cs) with
    |false=>rw[hb] at g;exact g.elim
    |
     true=>
     simp only[A0e]
     refine⟨cs,e,frz,root,rel,alive,_,rfl,?_,by rw[A0F,F0g,G0s],(Same.logR ..).trans (Same.logR ..)⟩
     have :=Nat.le_of_ble_eq_true hb
     rwa[A0O] at this
  |_=>exact g.elim
theorem I0p{n off:Nat}{s:St}(g:(rdCell n off s).Good):∃cs e frz root rel alive v s',s.h.get n=some (.cells cs e frz false root rel alive)∧
  cs[off]?=some v∧rdCell n off s=.ok v s'∧Same s s':=by
 unfold rdCell at g⊢
 have hlt:=B0a g
 rw[A0X hlt] at g⊢
 cases ho:s.h.get n with
 |none=>rw[ho] at g;exact g.elim
 |
  some o=>
  rw[ho] at g
  cases o with
  |
   cells cs e frz dead root rel alive=>
   cases dead with
   |true=>exact g.elim
   |
    false=>
    simp only[A0f] at g⊢
    rw[E0Z] at g⊢
    cases hv:cs[off]? with
    |none=>rw[hv] at g;exact g.elim
    |some v=>exact⟨cs,e,frz,root,rel,alive,v,_,rfl,hv,A0F _ _,(Same.logR ..).trans (Same.logR ..)⟩
  |_=>exact g.elim
structure Sets(s:St)(n:Nat)(o:AObj)(s':St):Prop where
 h:s'.h=s.h.set n o
 nx:s'.nx=s.nx
theorem Sets.put(s:St)(n:Nat)(o:AObj)(i k:Nat):Sets s n o (s.put n o i k):=⟨(a0A s n o i k).1,(a0A s n o i k).2.1⟩
theorem F0d{n off:Nat}{vs:List AVal}{s:St}(g:(wrCells n off vs s).Good):∃cs e root rel alive s',s.h.get n=some (.cells cs e false false root rel alive)∧
  off+vs.length≤cs.length∧E0V vs=true∧wrCells n off vs s=.ok () s'∧Sets s n (.cells (over cs off vs) e false false root rel alive) s':=by
 unfold wrCells at g⊢
 have hlt:=B0a g
 rw[A0X hlt] at g⊢
 cases ho:s.h.get n with
 |none=>rw[ho] at g;exact g.elim
 |
  some o=>
  rw[ho] at g
  cases o with
  |
   cells cs e frz dead root rel alive=>
   cases frz with
   |true=>exact g.elim
   |
    false=>
    cases dead with
    |true=>exact g.elim
    |
     false=>
     simp only[A0f] at g⊢
     cases hc:E0V vs with
     |false=>rw[hc] at g;exact g.elim
     |
      true=>
      rw[hc] at g
      simp only[A0e] at g⊢
      cases hb:Nat.ble (off+len vs) (len cs) with
      |false=>rw[hb] at g;exact g.elim
      |
       true=>
       simp only[A0e]
       refine⟨cs,e,root,rel,alive,_,rfl,?_,trivial,by rw[A0F],?_⟩
       ·have :=Nat.le_of_ble_eq_true hb
        rwa[A0O,A0O] at this
       ·have :=Sets.put (s.logR n 0 1) n (.cells (over cs off vs) e false false root rel alive) (off+2) (len vs)
        exact⟨by rw[this.h,(O0w s n 0 1).1],by rw[this.nx,(O0w s n 0 1).2.1]⟩
  |_=>exact g.elim
theorem T0g{n:Nat}{s:St}(g:(wrDead n s).Good):∃cs e frz dead root rel alive s',s.h.get n=some (.cells cs e frz dead root rel alive)∧
  wrDead n s=.ok () s'∧Sets s n (.cells cs e frz true root rel alive) s':=by
 unfold wrDead at g⊢
 have hlt:=B0a g
 rw[A0X hlt] at g⊢
 cases ho:s.h.get n with
 |none=>rw[ho] at g;exact g.elim
 |
  some o=>
  rw[ho] at g
  cases o with
  |cells cs e frz dead root rel alive=>exact⟨cs,e,frz,dead,root,rel,alive,_,rfl,A0F _ _,Sets.put ..⟩
  |_=>exact g.elim
theorem V0E{n:Nat}{s:St}(g:(wrFrz n s).Good):∃cs e frz dead root rel alive s',s.h.get n=some (.cells cs e frz dead root rel alive)∧
  wrFrz n s=.ok () s'∧Sets s n (.cells cs e true dead root rel alive) s':=by
 unfold wrFrz at g⊢
 have hlt:=B0a g
 rw[A0X hlt] at g⊢
 cases ho:s.h.get n with
 |none=>rw[ho] at g;exact g.elim
 |
  some o=>
  rw[ho] at g
  cases o with
  |cells cs e frz dead root rel alive=>exact⟨cs,e,frz,dead,root,rel,alive,_,rfl,A0F _ _,Sets.put ..⟩
  |_=>exact g.elim
theorem H0h{n:Nat}{l:List (Nat×Nat×Nat)}{s:St}(g:(wrAlive n l s).Good):∃cs e frz dead root rel alive s',s.h.get n=some (.cells cs e frz dead root rel alive)∧
  wrAlive n l s=.ok () s'∧Sets s n (.cells cs e frz dead root rel l) s':=by
 unfold wrAlive at g⊢
 have hlt:=B0a g
 rw[A0X hlt] at g⊢
 cases ho:s.h.get n with
 |none=>rw[ho] at g;exact g.elim
 |
  some o=>
  rw[ho] at g
  cases o with
  |cells cs e frz dead root rel alive=>exact⟨cs,e,frz,dead,root,rel,alive,_,rfl,A0F _ _,Sets.put ..⟩
  |_=>exact g.elim
theorem C0Q{o:Nat→AObj}{s:St}(g:(alloc o s).Good):∃s',s.nx<LH∧alloc o s=.ok s.nx s'∧s'.h=s.h.set s.nx (o s.nx)∧s'.nx=s.nx+1:=by
 cases s with
 |
  mk h nx lo rd wr=>
  unfold alloc at g⊢
  cases hb:Nat.blt nx LH with
  |false=>simp only[hb,A0f] at g;exact g.elim
  |true=>exact⟨_,by simpa [Nat.blt_eq] using hb,by simp only[hb,A0e];rfl,rfl,rfl⟩
theorem E0w{n:Nat}{s:St}(g:(rdMap n s).Good):∃kt es c s',s.h.get n=some (.map kt es c)∧rdMap n s=.ok ⟨kt,es,c⟩ s'∧Same s s':=by
 unfold rdMap at g⊢
 have hlt:=B0a g
 rw[A0X hlt] at g⊢
 cases ho:s.h.get n with
 |none=>rw[ho] at g;exact g.elim
 |
  some o=>
  rw[ho] at g
  cases o with
  |map kt es c=>exact⟨kt,es,c,_,rfl,A0F _ _,Same.logR ..⟩
  |_=>exact g.elim
theorem O0y{n:Nat}{kt':TypeId}{es':List (AVal×AVal)}{c':Nat}{s:St}(g:(wrMap n kt' es' c' s).Good):∃kt es c s',s.h.get n=some (.map kt es c)∧
  wrMap n kt' es' c' s=.ok () s'∧Sets s n (.map kt' es' c') s':=by
 unfold wrMap at g⊢
 have hlt:=B0a g
 rw[A0X hlt] at g⊢
 cases ho:s.h.get n with
 |none=>rw[ho] at g;exact g.elim
 |
  some o=>
  rw[ho] at g
  cases o with
  |map kt es c=>exact⟨kt,es,c,_,rfl,A0F _ _,Sets.put ..⟩
  |_=>exact g.elim
theorem M0n{n:Nat}{s:St}(g:(rdIter n s).Good):∃m since seen s',s.h.get n=some (.miter m since seen)∧rdIter n s=.ok (m,since,seen) s'∧Same s s':=by
 unfold rdIter at g⊢
 have hlt:=B0a g
 rw[A0X hlt] at g⊢
 cases ho:s.h.get n with
 |none=>rw[ho] at g;exact g.elim
 |
  some o=>
  rw[ho] at g
  cases o with
  |miter m since seen=>exact⟨m,since,seen,_,rfl,A0F _ _,Same.logR ..⟩
  |_=>exact g.elim
theorem T0l{n:Nat}{m':Option Nat}{since':Nat}{seen':List AVal}{s:St}(g:(wrIter n m' since' seen' s).Good):∃m since seen s',s.h.get n=some (.miter m since seen)∧
  wrIter n m' since' seen' s=.ok () s'∧Sets s n (.miter m' since' seen') s':=by
 unfold wrIter at g⊢
 have hlt:=B0a g
 rw[A0X hlt] at g⊢
 cases ho:s.h.get n with
 |none=>rw[ho] at g;exact g.elim
 |
  some o=>
  rw[ho] at g
  cases o with
  |miter m since seen=>exact⟨m,since,seen,_,rfl,A0F _ _,Sets.put ..⟩
  |_=>exact g.elim
theorem T0i{n:Nat}{s:St}(g:(wrDone n s).Good):∃m since seen s',s.h.get n=some (.miter m since seen)∧
  wrDone n s=.ok () s'∧Sets s n .done s':=by
 unfold wrDone at g⊢
 have hlt:=B0a g
 rw[A0X hlt] at g⊢
 cases ho:s.h.get n with
 |none=>rw[ho] at g;exact g.elim
 |
  some o=>
  rw[ho] at g
  cases o with
  |miter m since seen=>exact⟨m,since,seen,_,rfl,A0F _ _,Sets.put ..⟩
  |_=>exact g.elim
theorem Q0A{n:Nat}{s:St}(g:(rdSiter n s).Good):∃y l pos s',s.h.get n=some (.siter y l pos)∧rdSiter n s=.ok (y,l,pos) s'∧Same s s':=by
 unfold rdSiter at g⊢
 have hlt:=B0a g
 rw[A0X hlt] at g⊢
 cases ho:s.h.get n with
 |none=>rw[ho] at g;exact g.elim
 |
  some o=>
  rw[ho] at g
  cases o with
  |siter y l pos=>exact⟨y,l,pos,_,rfl,A0F _ _,Same.logR ..⟩
  |_=>exact g.elim
theorem K0P{n:Nat}{l':List UInt8}{pos':Nat}{s:St}(g:(wrSiter n l' pos' s).Good):∃y l pos s',s.h.get n=some (.siter y l pos)∧
  wrSiter n l' pos' s=.ok () s'∧Sets s n (.siter y l' pos') s':=by
 unfold wrSiter at g⊢
 have hlt:=B0a g
 rw[A0X hlt] at g⊢
 cases ho:s.h.get n with
 |none=>rw[ho] at g;exact g.elim
 |
  some o=>
  rw[ho] at g
  cases o with
  |siter y l pos=>exact⟨y,l,pos,_,rfl,A0F _ _,Sets.put ..⟩
  |_=>exact g.elim
theorem H0r{n:Nat}{s:St}(g:(rdArr n s).Good):∃c l s',s.h.get n=some (.arr c l)∧rdArr n s=.ok ⟨c,l⟩ s'∧Same s s':=by
 unfold rdArr at g⊢
 have hlt:=B0a g
 rw[A0X hlt] at g⊢
 cases ho:s.h.get n with
 |none=>rw[ho] at g;exact g.elim
 |
  some o=>
  rw[ho] at g
  cases o with
  |arr c l=>exact⟨c,l,_,rfl,A0F _ _,Same.logR ..⟩
  |_=>exact g.elim
theorem N0N{n:Nat}{a:Arr}{s:St}(g:(wrArr n a s).Good):∃c l s',s.h.get n=some (.arr c l)∧wrArr n a s=.ok () s'∧Sets s n (.arr a.c a.l) s':=by
 unfold wrArr at g⊢
 have hlt:=B0a g
 rw[A0X hlt] at g⊢
 cases ho:s.h.get n with
 |none=>rw[ho] at g;exact g.elim
 |
  some o=>
  rw[ho] at g
  cases o with
  |arr c l=>exact⟨c,l,_,rfl,A0F _ _,Sets.put ..⟩
  |_=>exact g.elim
theorem I0f{n:Nat}{s:St}(g:(wrGone n s).Good):∃c l s',s.h.get n=some (.arr c l)∧wrGone n s=.ok () s'∧Sets s n .done s':=by
 unfold wrGone at g⊢
 have hlt:=B0a g
 rw[A0X hlt] at g⊢
 cases ho:s.h.get n with
 |none=>rw[ho] at g;exact g.elim
 |
  some o=>
  rw[ho] at g
  cases o with
  |arr c l=>exact⟨c,l,_,rfl,A0F _ _,Sets.put ..⟩
  |_=>exact g.elim
theorem H0B{n:Nat}{s:St}(g:(rdDat n s).Good):∃d s',s.h.get n=some (.dat d)∧rdDat n s=.ok d s'∧Same s s':=by
 unfold rdDat at g⊢
 have hlt:=B0a g
 rw[A0X hlt] at g⊢
 cases ho:s.h.get n with
 |none=>rw[ho] at g;exact g.elim
 |
  some o=>
  rw[ho] at g
  cases o with
  |dat d=>exact⟨d,_,rfl,A0F _ _,Same.logR ..⟩
  |_=>exact g.elim
theorem D0s{n:Nat}{s:St}(g:(rdDat? n s).Good):∃d s',rdDat? n s=.ok d s'∧Same s s'∧∀e,d=some e→s.h.get n=some (.dat e):=by
 unfold rdDat? at g⊢
 have hlt:=B0a g
 rw[A0X hlt] at g⊢
 cases ho:s.h.get n with
 |none=>rw[ho] at g;exact g.elim
 |
  some o=>
  rw[ho] at g
  cases o with
  |dat d=>exact⟨some d,_,A0F _ _,Same.logR ..,fun e h=>by cases h;rfl⟩
  |map _ _ _=>exact⟨none,_,A0F _ _,Same.logR ..,fun e h=>by cases h⟩
  |miter _ _ _=>exact⟨none,_,A0F _ _,Same.logR ..,fun e h=>by cases h⟩
  |_=>exact g.elim
theorem I0j{n:Nat}{s:St}(g:(rdMps? n s).Good):∃p s',rdMps? n s=.ok p s'∧Same s s'∧(∀q,p=some q→s.h.get n=some (.mps q.k q.c q.m q.n q.lent))∧(p=none→∀k c m q l,s.h.get n≠some (.mps k c m q l)):=by
 unfold rdMps? at g⊢
 have hlt:=B0a g
 rw[A0X hlt] at g⊢
 cases ho:s.h.get n with
 |none=>rw[ho] at g;exact g.elim
 |
  some o=>
  cases o with
  |mps k c m q l=>exact⟨_,_,A0F _ _,Same.logR ..,fun e h=>by cases h;rfl,fun h=>by cases h⟩
  |_=>exact⟨none,_,A0F _ _,Same.logR ..,fun e h=>(by cases h),fun _ k c m q l h=>by cases h⟩
theorem K0c{n:Nat}{p:MpS}{s:St}(g:(wrMps n p s).Good):∃k c m q l s',s.h.get n=some (.mps k c m q l)∧wrMps n p s=.ok () s'∧Sets s n (.mps p.k p.c p.m p.n p.lent) s':=by
 unfold wrMps at g⊢
 have hlt:=B0a g
 rw[A0X hlt] at g⊢
 cases ho:s.h.get n with
 |none=>rw[ho] at g;exact g.elim
 |
  some o=>
  rw[ho] at g
  cases o with
  |mps k c m q l=>exact⟨k,c,m,q,l,_,rfl,A0F _ _,Sets.put ..⟩
  |_=>exact g.elim
theorem J0V{n:Nat}{d:DObj}{s:St}(g:(wrDat n d s).Good):∃d0 s',s.h.get n=some (.dat d0)∧wrDat n d s=.ok () s'∧Sets s n (.dat d) s':=by
 unfold wrDat at g⊢
 have hlt:=B0a g
 rw[A0X hlt] at g⊢
 cases ho:s.h.get n with
 |none=>rw[ho] at g;exact g.elim
 |
  some o=>
  rw[ho] at g
  cases o with
  |dat d0=>exact⟨d0,_,rfl,A0F _ _,Sets.put ..⟩
  |_=>exact g.elim
theorem T0B{n:Nat}{s:St}(g:(wrLost n s).Good):∃d0 s',s.h.get n=some (.dat d0)∧wrLost n s=.ok () s'∧Sets s n .done s':=by
 unfold wrLost at g⊢
 have hlt:=B0a g
 rw[A0X hlt] at g⊢
 cases ho:s.h.get n with
 |none=>rw[ho] at g;exact g.elim
 |
  some o=>
  rw[ho] at g
  cases o with
  |dat d0=>exact⟨d0,_,rfl,A0F _ _,Sets.put ..⟩
  |_=>exact g.elim
theorem D0U{c' c:Univ.C}{l:List (Univ.S c')}{m:List (Univ.S c)}(h:D0V c' c l=some m):(⟨c',l⟩:Arr)=⟨c,m⟩:=by
 unfold D0V at h
 split at h
 ·rename_i hc _
  subst hc
  cases h;rfl
 ·cases h
theorem G0n{c' c:Univ.C}(h:F0r c' c=true):c'=c:=by
 unfold F0r at h
 split at h
 ·assumption
 ·cases h
theorem D0o{c:Univ.C}{n:Nat}{s:St}(g:(E0U c n s).Good):∃l s',s.h.get n=some (.arr c l)∧E0U c n s=.ok l s'∧Same s s':=by
 unfold E0U at g⊢
 obtain⟨c',l',s',h1,h2,h3⟩:=H0r (A0a g)
 rw[A0d h2] at g⊢
 obtain⟨l,h4,h5⟩:=A0k g
 have :=D0U h4
 cases this
 exact⟨l',s',h1,h5,h3⟩
theorem E0T{n:Nat}{s:St}(g:(rdLoop n s).Good):∃st pend s',s.h.get n=some (.rcd (.loop st pend))∧rdLoop n s=.ok ⟨st,pend⟩ s'∧Same s s':=by
 unfold rdLoop at g⊢
 have hlt:=B0a g
 rw[A0X hlt] at g⊢
 cases ho:s.h.get n with
 |none=>rw[ho] at g;exact g.elim
 |
  some o=>
  rw[ho] at g
  cases o with
  |
   rcd k=>cases k with
   |loop st pend=>exact⟨st,pend,_,rfl,A0F _ _,Same.logR ..⟩
   |mark=>exact g.elim
  |_=>exact g.elim
theorem I0g{n st':Nat}{pend':AExit}{s:St}(g:(wrLoop n st' pend' s).Good):∃st pend s',s.h.get n=some (.rcd (.loop st pend))∧
  wrLoop n st' pend' s=.ok () s'∧Sets s n (.rcd (.loop st' pend')) s':=by
 unfold wrLoop at g⊢
 have hlt:=B0a g
 rw[A0X hlt] at g⊢
 cases ho:s.h.get n with
 |none=>rw[ho] at g;exact g.elim
 |
  some o=>
  rw[ho] at g
  cases o with
  |
   rcd k=>cases k with
   |loop st pend=>exact⟨st,pend,_,rfl,A0F _ _,Sets.put ..⟩
   |mark=>exact g.elim
  |_=>exact g.elim
theorem S0X{n:Nat}{s:St}(g:(wrMark n s).Good):∃s',s.h.get n=some (.rcd .mark)∧wrMark n s=.ok () s'∧Sets s n .done s':=by
 unfold wrMark at g⊢
 have hlt:=B0a g
 rw[A0X hlt] at g⊢
 cases ho:s.h.get n with
 |none=>rw[ho] at g;exact g.elim
 |
  some o=>
  rw[ho] at g
  cases o with
  |
   rcd k=>cases k with
   |loop st pend=>exact g.elim
   |mark=>exact⟨_,rfl,A0F _ _,Sets.put ..⟩
  |_=>exact g.elim
structure Info where
 b:Nat
 o:Nat
 asz:Nat
 csz:Nat
 lp:Loop
structure Gam where
 nm:Nat→Option Info
 fz:Nat→Option Obj
 lo:Nat
instance:CoeFun Gam (fun _=>Nat→Option Info):=⟨Gam.nm⟩
inductive CRel(fz:Nat→Option Obj):Cell Univ.C Univ.S→Value→Prop
 |b (x:Bool):CRel fz (.b x) (.bool x)
 |i (k:IntKind) (x:Int):CRel fz (.i k x) (.int k x)
 |s (x:ByteArray):CRel fz (.s x) (.string x)
 |f (n:FuncId):CRel fz (.f n) (.func (.func n) #[] #[])
 |nil (c:Univ.C) (A:Option Addr) (cap:Nat):CRel fz (.sl c []) (.slice A 0 cap)
 |sl (c:Univ.C) (l:List (Univ.S c)) (b o cap:Nat) (C:Array Value) (e:TypeId) (z:Nat×Nat) (g:Nat→Nat→Value) (hb:fz b=some (.cells C e z)) (hc:l.length≤cap)
   (hg:∀j x,l[j]?=some x→∀k,k<Univ.esz c→C[o+j*Univ.esz c+k]?=some (g j k))
   (h:∀j x,l[j]?=some x→∀k cl,(Univ.cells c x)[k]?=some cl→CRel fz cl (g j k)):CRel fz (.sl c l) (.slice (some ⟨b,o,none⟩) l.length cap)
theorem CRel.mono{fz fz':Nat→Option Obj}(hx:∀b o,fz b=some o→fz' b=some o){x:Cell Univ.C Univ.S}{v:Value}(h:CRel fz x v):CRel fz' x v:=by
 induction h with
 |b x=>exact .b x
 |i k x=>exact .i k x
 |s x=>exact .s x
 |f n=>exact .f n
 |nil c A cap=>exact .nil c A cap
 |sl c l b o cap C e z g hb hc hg _ ih=>exact .sl c l b o cap C e z g (hx _ _ hb) hc hg ih
def LRel(fz:Nat→Option Obj)(cs:List (Cell Univ.C Univ.S))(vs:List Value):Prop:=vs.length=cs.length∧∀(i:Nat)(cl:Cell Univ.C Univ.S),cs[i]?=some cl→∃v,vs[i]?=some v∧CRel fz cl v
def DRel(fz:Nat→Option Obj)(c:Univ.C)(x:Univ.S c)(v:Value):Prop:=match Univ.agg c with
 |true=>∃vs,v=.agg vs∧LRel fz (Univ.cells c x) vs.toList
 |false=>LRel fz (Univ.cells c x) [v]
structure MRelG(fz:Nat→Option Obj)(k:Univ.C){β:Type}(VR:β→Value→Prop)(m:Univ.S k→Option β)(n:Nat)(ents:List MapEntry)(clock:Nat):Prop where
 flat:Univ.flat k=true
 size:ents.length=n
 ent:∀x∈ents,∃a b,m a=some b∧DRel fz k a x.key∧VR b x.val
 has:∀a b,m a=some b→∃x∈ents,DRel fz k a x.key
 keys:ents.Pairwise fun x y=>x.key≠y.key
 borns:(ents.map (·.born)).Nodup
 old:∀x∈ents,x.born<clock
abbrev MRel(fz:Nat→Option Obj)(k v:Univ.C)(m:Univ.S k→Option (Univ.S v))(n:Nat)(ents:List MapEntry)(clock:Nat):Prop:=MRelG fz k (DRel fz v) m n ents clock
theorem LRel.mono{fz fz':Nat→Option Obj}(hx:∀b o,fz b=some o→fz' b=some o){cs:List (Cell Univ.C Univ.S)}{vs:List Value}(h:LRel fz cs vs):LRel fz' cs vs:=
 ⟨h.1,fun i cl e=>let⟨v,h1,h2⟩:=h.2 i cl e;⟨v,h1,h2.mono hx⟩⟩
theorem DRel.mono{fz fz':Nat→Option Obj}(hx:∀b o,fz b=some o→fz' b=some o){c:Univ.C}{x:Univ.S c}{v:Value}(h:DRel fz c x v):DRel fz' c x v:=by
 unfold DRel at h⊢
 split at h
 ·obtain⟨vs,rfl,h⟩:=h;exact⟨vs,rfl,h.mono hx⟩
 ·exact h.mono hx
theorem MRel.mono{fz fz':Nat→Option Obj}(hx:∀b o,fz b=some o→fz' b=some o){k v:Univ.C}{m:Univ.S k→Option (Univ.S v)}{n:Nat}{ents:List MapEntry}{clock:Nat}(h:MRel fz k v m n ents clock):MRel fz' k v m n ents clock:=
 ⟨h.flat,h.size,fun x hm=>let⟨a,b,h1,h2,h3⟩:=h.ent x hm;⟨a,b,h1,h2.mono hx,h3.mono hx⟩,fun a b e=>let⟨x,h1,h2⟩:=h.has a b e;⟨x,h1,h2.mono hx⟩,h.keys,h.borns,h.old⟩
def V0z(i:Info)(off k:Nat)(cap:Option Nat)(sz:Nat)(v:Value):Prop:=
 0<sz∧match cap with
 |some c=>v=.slice (some ⟨i.b,i.o+off,none⟩) k c∧k≤c∧off+c*sz≤i.asz
 |none=>off+k*sz≤i.asz∧((∃C,v=.slice (some ⟨i.b,i.o+off,none⟩) k C∧k≤C∧i.o+off+C*sz≤i.csz∧i.asz≤off+C*sz)∨
   (k=0∧i.asz≤off∧∃x,v=.slice (some ⟨i.b,x,none⟩) 0 0))
mutual
def VRel(Γ:Gam):AVal→Value→Prop
 |.bool b,v=>v=.bool b
 |.int k n,v=>v=.int k n
 |.str s,v=>v=.string ⟨s.toArray⟩
 |.ptr n off,v=>∃i,Γ n=some i∧v=.pointer (some ⟨i.b,i.o+off,none⟩)
 |.nilp,v=>v=.pointer none
 |.slice n off k cap sz,v=>∃i,Γ n=some i∧V0z i off k cap sz v
 |.nils,v=>v=.slice none 0 0
 |.map n,v=>∃i,Γ n=some i∧v=.map (some i.b)
 |.nilm,v=>v=.map none
 |.fn f l m,v=>∃vs ws,v=.func (.func f) vs ws∧VRels Γ l vs.toList∧VRels Γ m ws.toList
 |.nilf,v=>v=.nilFunc
 |.iface t a,v=>∃u,v=.iface t u∧VRel Γ a u
 |.nili,v=>v=.nilIface
 |.agg l,v=>∃vs,v=.agg vs∧VRels Γ l vs.toList
 |.tup l,v=>∃vs,v=.tuple vs∧VRels Γ l vs.toList
 |.raw u,v=>v=u∧∀cs,u≠.agg cs
 |.any,_=>True
 |.yld n,v=>∃i,Γ n=some i∧v=.func (.yield i.b) #[] #[]
 |.sb x,v=>v=.bool x
 |.si k x,v=>v=.int k x
 |.ss x,v=>v=.string x
 |.dsl c l,v=>CRel Γ.fz (.sl c l) v
 |.dptr c l i o,v=>i<l.length∧∃b z cap,CRel Γ.fz (.sl c l) (.slice (some ⟨b,z,none⟩) l.length cap)∧v=.pointer (some ⟨b,z+i*Univ.esz c+o,none⟩)
 |.asl c n off k,v=>∃i,Γ n=some i∧off+k≤i.asz∧∃o cap,v=.slice (some ⟨i.b,o,none⟩) k cap∧k≤cap∧(0<cap→o=off*Univ.esz c∧o+cap*Univ.esz c≤i.csz)
 |.aptr c n j o,v=>∃i,Γ n=some i∧j<i.asz∧v=.pointer (some ⟨i.b,j*Univ.esz c+o,none⟩)
 |.dmp kc vc m n,v=>∃b ents clock,v=.map (some b)∧Γ.fz b=some (.map ents clock)∧MRel Γ.fz kc vc m n ents.toList clock
def VRels(Γ:Gam):List AVal→List Value→Prop
 |[],vs=>vs=[]
 |a::l,vs=>∃v ws,vs=v::ws∧VRel Γ a v∧VRels Γ l ws
end
structure Ext(Γ Γ':Gam):Prop where
 nm:∀n i,Γ n=some i→Γ' n=some i
 fz:∀b o,Γ.fz b=some o→Γ'.fz b=some o
 lo:Γ'.lo=Γ.lo
 same:∀b,b<Γ.lo→Γ'.fz b=Γ.fz b
instance{Γ Γ':Gam}:CoeFun (Ext Γ Γ') (fun _=>∀n i,Γ n=some i→Γ' n=some i):=⟨Ext.nm⟩
theorem Ext.refl(Γ:Gam):Ext Γ Γ:=⟨fun _ _ h=>h,fun _ _ h=>h,rfl,fun _ _=>rfl⟩
theorem Ext.trans{Γ Γ' Γ'':Gam}(h:Ext Γ Γ')(k:Ext Γ' Γ''):Ext Γ Γ'':=⟨fun n i e=>k n i (h n i e),fun b o e=>k.fz b o (h.fz b o e),k.lo.trans h.lo,fun b q=>(k.same b (by rw[h.lo];exact q)).trans (h.same b q)⟩
mutual
theorem VRel.ext{Γ Γ':Gam}(h:Ext Γ Γ'):∀{a:AVal}{v:Value},VRel Γ a v→VRel Γ' a v
 |.bool _,_,k=>k
 |.int _ _,_,k=>k
 |.str _,_,k=>k
 |.ptr _ _,_,k=>by unfold VRel at k⊢;obtain⟨i,e,k⟩:=k;exact⟨i,h _ _ e,k⟩
 |.nilp,_,k=>k
 |.slice _ _ _ _ _,_,k=>by unfold VRel at k⊢;obtain⟨i,e,k⟩:=k;exact⟨i,h _ _ e,k⟩
 |.nils,_,k=>k
 |.map _,_,k=>by unfold VRel at k⊢;obtain⟨i,e,k⟩:=k;exact⟨i,h _ _ e,k⟩
 |.nilm,_,k=>k
 |.fn _ _ _,_,k=>by unfold VRel at k⊢;obtain⟨vs,ws,e,k1,k2⟩:=k;exact⟨vs,ws,e,VRels.ext h k1,VRels.ext h k2⟩
 |.nilf,_,k=>k
 |.iface _ _,_,k=>by unfold VRel at k⊢;obtain⟨u,e,k⟩:=k;exact⟨u,e,VRel.ext h k⟩
 |.nili,_,k=>k
 |.agg _,_,k=>by unfold VRel at k⊢;obtain⟨vs,e,k⟩:=k;exact⟨vs,e,VRels.ext h k⟩
 |.tup _,_,k=>by unfold VRel at k⊢;obtain⟨vs,e,k⟩:=k;exact⟨vs,e,VRels.ext h k⟩
 |.raw _,_,k=>k
 |.any,_,_=>by unfold VRel;trivial
 |.yld _,_,k=>by unfold VRel at k⊢;obtain⟨i,e,k⟩:=k;exact⟨i,h _ _ e,k⟩
 |.sb _,_,k=>k
 |.si _ _,_,k=>k
 |.ss _,_,k=>k
 |.dsl _ _,_,k=>by unfold VRel at k⊢;exact k.mono h.fz
 |.dptr _ _ _ _,_,k=>by unfold VRel at k⊢;obtain⟨h1,b,z,cap,h2,h3⟩:=k;exact⟨h1,b,z,cap,h2.mono h.fz,h3⟩
 |.asl _ _ _ _,_,k=>by unfold VRel at k⊢;obtain⟨i,e,k⟩:=k;exact⟨i,h _ _ e,k⟩
 |.aptr _ _ _ _,_,k=>by unfold VRel at k⊢;obtain⟨i,e,k⟩:=k;exact⟨i,h _ _ e,k⟩
 |.dmp _ _ _ _,_,k=>by unfold VRel at k⊢;obtain⟨b,es,c,h1,h2,h3⟩:=k;exact⟨b,es,c,h1,h.fz _ _ h2,h3.mono h.fz⟩
theorem VRels.ext{Γ Γ':Gam}(h:Ext Γ Γ'):∀{l:List AVal}{vs:List Value},VRels Γ l vs→VRels Γ' l vs
 |[],_,k=>k
 |_::_,_,k=>by unfold VRels at k⊢;obtain⟨v,ws,e,k1,k2⟩:=k;exact⟨v,ws,e,VRel.ext h k1,VRels.ext h k2⟩
end
theorem D0a{fz:Nat→Option Obj}{c:Univ.C}{l:List (Univ.S c)}{v:Value}(h:CRel fz (.sl c l) v):∃A cap,v=.slice A l.length cap:=by
 cases h with
 |nil=>exact⟨_,_,rfl⟩
 |sl=>exact⟨_,_,rfl⟩
theorem VRels.cons_inv{Γ:Gam}{a:AVal}{l:List AVal}{vs:List Value}(h:VRels Γ (a::l) vs):∃v ws,vs=v::ws∧VRel Γ a v∧VRels Γ l ws:=by
 unfold VRels at h;exact h
theorem VRels.nil_inv{Γ:Gam}{vs:List Value}(h:VRels Γ [] vs):vs=[]:=by unfold VRels at h;exact h
theorem VRels.cons{Γ:Gam}{a:AVal}{l:List AVal}{v:Value}{vs:List Value}(h:VRel Γ a v)(k:VRels Γ l vs):VRels Γ (a::l) (v::vs):=by
 unfold VRels;exact⟨v,vs,rfl,h,k⟩
theorem VRels.nil{Γ:Gam}:VRels Γ [] []:=by unfold VRels;rfl
theorem VRels.length{Γ:Gam}:∀{l:List AVal}{vs:List Value},VRels Γ l vs→vs.length=l.length
 |[],_,h=>by rw[h.nil_inv];rfl
 |_::_,_,h=>by obtain⟨v,ws,rfl,_,k⟩:=h.cons_inv;simp[k.length]
theorem VRels.append{Γ:Gam}:∀{l m:List AVal}{vs ws:List Value},VRels Γ l vs→VRels Γ m ws→VRels Γ (l++m) (vs++ws)
 |[],_,_,_,h,k=>by rw[h.nil_inv];exact k
 |_::_,_,_,_,h,k=>by obtain⟨v,us,rfl,h1,h2⟩:=h.cons_inv;exact VRels.cons h1 (h2.append k)
theorem VRels.get{Γ:Gam}:∀{l:List AVal}{vs:List Value}(_:VRels Γ l vs){i:Nat}{a:AVal},l[i]?=some a→∃v,vs[i]?=some v∧VRel Γ a v
 |[],_,_,_,_,e=>by simp at e
 |
  _::_,_,h,0,a,e=>by
  obtain⟨v,us,rfl,h1,h2⟩:=h.cons_inv
  simp at e;subst e;exact⟨v,rfl,h1⟩
 |
  _::_,_,h,i+1,a,e=>by
  obtain⟨v,us,rfl,h1,h2⟩:=h.cons_inv
  simp at e
  obtain⟨u,k1,k2⟩:=h2.get e
  exact⟨u,by simpa using k1,k2⟩
theorem VRels.of_get{Γ:Gam}:∀{l:List AVal}{vs:List Value},vs.length=l.length→(∀(i:Nat)(a:AVal),l[i]?=some a→∃v,vs[i]?=some v∧VRel Γ a v)→VRels Γ l vs
 |[],vs,hl,_=>by cases vs with |nil=>exact .nil|cons v vs=>simp at hl
 |
  a::l,vs,hl,h=>by
  cases vs with
  |nil=>simp at hl
  |
   cons v vs=>
   obtain⟨u,e,k⟩:=h 0 a rfl
   simp at e;subst e
   exact .cons k (VRels.of_get (by simpa using hl) fun i b hb=>by simpa using h (i+1) b (by simpa using hb))
theorem VRels.take{Γ:Gam}:∀{l:List AVal}{vs:List Value}(k:Nat),VRels Γ l vs→VRels Γ (l.take k) (vs.take k)
 |_,_,0,_=>by simp;exact .nil
 |[],_,k+1,h=>by rw[h.nil_inv];exact .nil
 |_::_,_,k+1,h=>by obtain⟨v,us,rfl,h1,h2⟩:=h.cons_inv;exact .cons h1 (h2.take k)
theorem VRels.drop{Γ:Gam}:∀{l:List AVal}{vs:List Value}(k:Nat),VRels Γ l vs→VRels Γ (l.drop k) (vs.drop k)
 |_,_,0,h=>h
 |[],_,k+1,h=>by rw[h.nil_inv];exact .nil
 |_::_,_,k+1,h=>by obtain⟨v,us,rfl,h1,h2⟩:=h.cons_inv;exact h2.drop k
theorem VRels.map{Γ:Gam}{α:Type}(f:α→AVal)(g:α→Value):∀(l:List α),(∀x∈l,VRel Γ (f x) (g x))→VRels Γ (l.map f) (l.map g)
 |[],_=>.nil
 |x::l,h=>.cons (h x (by simp)) (VRels.map f g l fun y hy=>h y (by simp[hy]))
theorem Value.cells_one{v:Value}(h:∀cs,v≠.agg cs):v.cells=#[v]:=by
 cases v<;>first|rfl|exact absurd rfl (h _)
theorem K0j{Γ:Gam}{a:AVal}{v:Value}(h:VRel Γ a v)(hn:a≠.any):VRels Γ a.cells v.cells.toList:=by
 have one:a.cells=[a]→(∀cs,v≠.agg cs)→VRels Γ a.cells v.cells.toList:=fun e k=>by
  rw[e,Value.cells_one k];exact VRels.cons h .nil
 cases a with
 |agg l=>unfold VRel at h;obtain⟨vs,rfl,h⟩:=h;exact h
 |any=>exact absurd rfl hn
 |
  slice n off k cap sz=>
  refine one rfl ?_
  unfold VRel V0z at h
  obtain⟨i,_,_,h⟩:=h
  cases cap with
  |none=>rcases h.2 with⟨C,rfl,_⟩|⟨_,_,y,rfl⟩<;>intro cs e<;>cases e
  |some c=>obtain⟨rfl,_⟩:=h;intro cs e;cases e
 |raw u=>unfold VRel at h;obtain⟨rfl,k⟩:=h;exact one rfl k
 |fn f l m=>refine one rfl ?_;unfold VRel at h;obtain⟨vs,ws,rfl,_⟩:=h;intro cs e;cases e
 |ptr n off=>refine one rfl ?_;unfold VRel at h;obtain⟨i,_,rfl⟩:=h;intro cs e;cases e
 |map n=>refine one rfl ?_;unfold VRel at h;obtain⟨i,_,rfl⟩:=h;intro cs e;cases e
 |yld n=>refine one rfl ?_;unfold VRel at h;obtain⟨i,_,rfl⟩:=h;intro cs e;cases e
 |iface t a=>refine one rfl ?_;unfold VRel at h;obtain⟨i,rfl,_⟩:=h;intro cs e;cases e
 |tup l=>refine one rfl ?_;unfold VRel at h;obtain⟨i,rfl,_⟩:=h;intro cs e;cases e
 |dsl c l=>refine one rfl ?_;unfold VRel at h;obtain⟨A,cap,rfl⟩:=D0a h;intro cs e;cases e
 |dptr c l i o=>refine one rfl ?_;unfold VRel at h;obtain⟨_,b,z,cap,_,rfl⟩:=h;intro cs e;cases e
 |asl c n off k=>refine one rfl ?_;unfold VRel at h;obtain⟨_,_,_,_,_,rfl,_⟩:=h;intro cs e;cases e
 |aptr c n j o=>refine one rfl ?_;unfold VRel at h;obtain⟨_,_,_,rfl⟩:=h;intro cs e;cases e
 |dmp k v m n=>refine one rfl ?_;unfold VRel at h;obtain⟨_,_,_,rfl,_⟩:=h;intro cs e;cases e
 |_=>refine one rfl ?_;unfold VRel at h;subst h;intro cs e;cases e
theorem I0n{Γ:Gam}{a:AVal}{v:Value}(h:VRel Γ a v)(hn:0<a.cells.length):VRels Γ a.cells v.cells.toList:=
 K0j h fun e=>by subst e;simp[AVal.cells] at hn
theorem H0U(Γ:Gam)(v:Value):VRel Γ (H0N v) v:=by
 unfold H0N
 split
 case h_9=>unfold VRel;trivial
 case h_10 h=>
  unfold VRel
  refine⟨rfl,fun cs e=>?_⟩
  exact h cs e
 all_goals (unfold VRel;first|rfl|simp)
theorem H0t(Γ:Gam)(v:Value):VRel Γ (G0C v) v:=by
 unfold G0C
 split
 ·rename_i cs
  unfold VRel
  refine⟨cs,rfl,?_⟩
  have :=VRels.map (Γ:=Γ) H0N id cs.toList (fun x _=>H0U Γ x)
  simpa using this
 ·rename_i cs
  unfold VRel
  refine⟨cs,rfl,?_⟩
  have :=VRels.map (Γ:=Γ) H0N id cs.toList (fun x _=>H0U Γ x)
  simpa using this
 ·exact H0U Γ v
structure Bs where
 n:Nat
 ex:Nat→Prop
instance:Coe Nat Bs:=⟨fun n=>⟨n,fun _=>False⟩⟩
structure Bel(B:Bs)(w w':World):Prop where
 os:w'.os=w.os
 tape:w'.tape=w.tape
 output:w'.output=w.output
 size:w.heap.size≤w'.heap.size
 block:∀k,k<B.n→¬B.ex k→w'.heap[k]?=w.heap[k]?
 shape:∀k,k<B.n→∀C e z,w.heap[k]?=some (.cells C e z)→∃C' z',w'.heap[k]?=some (.cells C' e z')∧C'.size=C.size
theorem Bel.refl(B:Bs)(w:World):Bel B w w:=⟨rfl,rfl,rfl,Nat.le_refl _,fun _ _ _=>rfl,fun _ _ C _ z h=>⟨C,z,h,rfl⟩⟩
theorem Bel.trans{B:Bs}{a b c:World}(h:Bel B a b)(k:Bel B b c):Bel B a c:=
 ⟨k.os.trans h.os,k.tape.trans h.tape,k.output.trans h.output,Nat.le_trans h.size k.size,fun i hi hx=>(k.block i hi hx).trans (h.block i hi hx),fun i hi C e z g=>by
  obtain⟨C1,z1,g1,g2⟩:=h.shape i hi C e z g
  obtain⟨C2,z2,g3,g4⟩:=k.shape i hi C1 e z1 g1
  exact⟨C2,z2,g3,g4.trans g2⟩⟩
theorem O0A{w w':World}{b:Nat}{C C':Array Value}{e:TypeId}{z z':Nat×Nat}(hb:w.heap[b]?=some (.cells C e z))(hb':w'.heap[b]?=some (.cells C' e z'))(hs:C'.size=C.size){n:Nat}(ne:∀k,k<n→k≠b→w'.heap[k]?=w.heap[k]?):
  ∀k,k<n→∀D f y,w.heap[k]?=some (.cells D f y)→∃D' y',w'.heap[k]?=some (.cells D' f y')∧D'.size=D.size:=by
 intro k hk D f y h
 by_cases c:k=b
 ·subst c;rw[hb] at h;cases h;exact⟨_,_,hb',hs⟩
 ·exact⟨_,_,(ne k hk c).trans h,rfl⟩
theorem c0e{w w':World}{n:Nat}(ne:∀k,k<n→w'.heap[k]?=w.heap[k]?):∀k,k<n→∀D f y,w.heap[k]?=some (.cells D f y)→∃D' y',w'.heap[k]?=some (.cells D' f y')∧D'.size=D.size:=
 fun k hk _ _ _ h=>⟨_,_,(ne k hk).trans h,rfl⟩
theorem Bel.down{n:Nat}{w w':World}(h:Bel n w w'):Below n w w':=⟨h.os,h.tape,h.output,h.size,fun k hk=>h.block k hk (fun e=>e)⟩
def Bs.own(B:Bs)(b:Nat):Prop:=B.n≤b∨B.ex b
theorem I0F{B:Bs}{b k:Nat}(h:B.own b)(hk:k<B.n)(hx:¬B.ex k):k≠b:=fun e=>by
 subst e
 rcases h with h|h
 ·omega
 ·exact hx h
def AObj.live(o:AObj):Prop:=match o with
 |.cells _ _ _ dead _ _ _=>dead=false
 |.done=>False
 |_=>True
def Zip(Γ:Gam)(l:List (AVal×AVal))(ents:List MapEntry):Prop:=
 ents.length=l.length∧∀(k:Nat)(e:AVal×AVal)(x:MapEntry),l[k]?=some e→ents[k]?=some x→VRel Γ e.1 x.key∧VRel Γ e.2 x.val
structure EntRel(E:Env)(Γ:Gam)(kt:TypeId)(es:List (AVal×AVal))(ents:List MapEntry)(clock:Nat):Prop where
 zip:∃l:List (AVal×AVal),l.Perm es∧Zip Γ l ents
 keys:es.Pairwise fun a b=>keq a.1 b.1=false
 fits:∀e∈es,A0m E kt e.1=true
 borns:(ents.map (·.born)).Nodup
 old:∀x∈ents,x.born<clock
def stOf(n:Nat):LoopState:=match n with
 |0=>.ready
 |1=>.busy
 |2=>.done
 |_=>.exhausted
def AExit.code(x:AExit):Option Code:=match x with
 |.normal=>none
 |.exit id=>some (.exit id)
 |.ret=>some .ret
def c0m(i:Info)(k:Rcd)(o:Obj):Prop:=match k with
 |.mark=>o=.deferred (some [])
 |.loop st pend=>o=.loop {i.lp with state:=stOf st,pending:=pend.code}
def ARel(fz:Nat→Option Obj)(c:Univ.C)(l:List (Univ.S c))(C:Array Value):Prop:=
 ∀(j:Nat)(x:Univ.S c),l[j]?=some x→∀(k:Nat)(cl:Cell Univ.C Univ.S),(Univ.cells c x)[k]?=some cl→∃v,C[j*Univ.esz c+k]?=some v∧CRel fz cl v
theorem ARel.mono{fz fz':Nat→Option Obj}(hx:∀b o,fz b=some o→fz' b=some o){c:Univ.C}{l:List (Univ.S c)}{C:Array Value}(h:ARel fz c l C):ARel fz' c l C:=
 fun j x hj k cl hk=>let⟨v,h1,h2⟩:=h j x hj k cl hk;⟨v,h1,h2.mono hx⟩
def IRel(fz:Nat→Option Obj)(k v:Univ.C)(m:Univ.S k→Option (Univ.S v))(cur:Option (Univ.S k×Univ.S v))(ents:List MapEntry)(since:Nat)(borns:Array Nat)(stepped:Nat):Prop:=
 (∃m0 n0,MRel fz k v m0 n0 ents since∧(∀a b,m a=some b→m0 a=some b))∧
 (∀x∈ents,borns.contains x.born=false→∃a b,m a=some b∧DRel fz k a x.key∧DRel fz v b x.val)∧
 (∀a b,m a=some b→∃x∈ents,borns.contains x.born=false∧DRel fz k a x.key)∧(borns.isEmpty=false→stepped=since)∧
 (∀p,cur=some p→∃x∈ents,borns.back?=some x.born∧DRel fz k p.1 x.key∧DRel fz v p.2 x.val)
def DORel(fz:Nat→Option Obj)(i:Info)(d:DObj)(o:Obj):Prop:=match d with
 |.map k v m n=>∃ents clock,o=.map ents clock∧MRel fz k v m n ents.toList clock
 |.iter k v m cur=>∃b since borns stepped ents,o=.mapIter (some b) since borns stepped∧i.o=0∧fz b=some (.map ents since)∧IRel fz k v m cur ents.toList since borns stepped
theorem IRel.mono{fz fz':Nat→Option Obj}(hx:∀b o,fz b=some o→fz' b=some o){k v:Univ.C}{m:Univ.S k→Option (Univ.S v)}{cur:Option (Univ.S k×Univ.S v)}{ents:List MapEntry}{since stepped:Nat}{borns:Array Nat}
  (h:IRel fz k v m cur ents since borns stepped):IRel fz' k v m cur ents since borns stepped:=by
 obtain⟨⟨m0,n0,h1,h2⟩,h4,h5,h6,h7⟩:=h
 exact⟨⟨m0,n0,h1.mono hx,h2⟩,fun x hx1 hx2=>let⟨a,b,z1,z2,z3⟩:=h4 x hx1 hx2;⟨a,b,z1,z2.mono hx,z3.mono hx⟩,fun a b e=>let⟨x,z1,z2,z3⟩:=h5 a b e;⟨x,z1,z2,z3.mono hx⟩,h6,fun p e=>let⟨x,z1,z2,z3,z4⟩:=h7 p e;⟨x,z1,z2,z3.mono hx,z4.mono hx⟩⟩
theorem DORel.mono{fz fz':Nat→Option Obj}(hx:∀b o,fz b=some o→fz' b=some o){i:Info}{d:DObj}{o:Obj}(h:DORel fz i d o):DORel fz' i d o:=by
 cases d with
 |map k v m n=>obtain⟨ents,clock,h1,h2⟩:=h;exact⟨ents,clock,h1,h2.mono hx⟩
 |iter k v m cur=>obtain⟨b,since,borns,stepped,ents,h1,h2,h3,h4⟩:=h;exact⟨b,since,borns,stepped,ents,h1,h2,hx _ _ h3,h4.mono hx⟩
def ORel(E:Env)(Γ:Gam)(w:World)(n:Nat)(o:AObj):Prop:=match o with
 |.cells cs e frz dead root _ al=>∃i,Γ n=some i∧i.asz=cs.length∧((∃r,Γ root=some r)∧∀x∈al,x.1<LH)∧∃C fz,w.heap[i.b]?=some (.cells C e fz)∧C.size=i.csz∧i.o+i.asz≤i.csz∧
   (dead=false→∀(k:Nat)(a:AVal),cs[k]?=some a→∃v,C[i.o+k]?=some v∧VRel Γ a v)∧(dead=false→frz=false→∀k,k<i.csz→fz.1≤k→k<fz.2→False)
 |.map kt es clock=>∃i,Γ n=some i∧∃ents,w.heap[i.b]?=some (.map ents clock)∧EntRel E Γ kt es ents.toList clock
 |.miter m since _=>∃i,Γ n=some i∧∃b borns stepped,(w.heap[i.b]?=some (.mapIter b since borns stepped)∧i.o=0)∧match m with
   |none=>b=none
   |some m=>∃j,Γ m=some j∧b=some j.b
 |.siter _ s pos=>∃i,Γ n=some i∧w.heap[i.b]?=some (.stringIter ⟨s.toArray⟩ pos)∧i.o=0
 |.arr c l=>∃i,Γ n=some i∧i.asz=l.length∧∃C e fz,w.heap[i.b]?=some (.cells C e fz)∧C.size=i.csz∧ARel Γ.fz c l C∧l.length*Univ.esz c≤C.size∧∀k,k<C.size→fz.1≤k→k<fz.2→False
 |.rcd k=>∃i,Γ n=some i∧∃ob,w.heap[i.b]?=some ob∧c0m i k ob
 |.dat d=>∃i,Γ n=some i∧Γ.lo≤i.b∧∃ob,w.heap[i.b]?=some ob∧DORel Γ.fz i d ob
 |.mps _ _ _ _ _=>n=0∧∃i,Γ n=some i∧∃ents clock,w.heap[i.b]?=some (.map ents clock)
 |.done=>True
def Kin(i j:Info)(o p:AObj):Prop:=match o,p with
 |.cells _ _ _ _ root rel _,.cells _ _ _ _ root' rel' _=>root=root'∧i.o+rel'=j.o+rel
 |_,_=>False
def IterRel(Γ:Gam)(es:List (AVal×AVal))(seen:List AVal)(ents:List MapEntry)(since:Nat)(borns:Array Nat)(stepped:Nat):Prop:=
 ∃
  l:List (AVal×AVal),l.Perm es∧Zip Γ l ents∧
  (∀(k:Nat)(e:AVal×AVal)(x:MapEntry),l[k]?=some e→ents[k]?=some x→borns.contains x.born=seen.any fun q=>keq q e.1)∧
  (match seen with
   |[]=>borns=#[]
   |q::_=>stepped=since∧∃(k:Nat)(e:AVal×AVal)(x:MapEntry),l[k]?=some e∧ents[k]?=some x∧keq q e.1=true∧VRel Γ q x.key∧borns.back?=some x.born)
def Bare(Γ:Gam)(h:Tr AObj)(b:Nat):Prop:=Γ.fz b=none∧∀m o j,m<LH→h.get m=some o→o.live→Γ m=some j→j.b≠b
def Own1(base:Bs)(Γ:Gam)(h:Tr AObj)(w:World)(c:Univ.C)(l:List (Univ.S c))(b:Nat)(v:Value):Prop:=
 0
  <l.length∧base.own b∧Bare Γ h b∧∃cap C e z,v=.slice (some ⟨b,0,none⟩) l.length cap∧l.length≤cap∧w.heap[b]?=some (.cells C e z)∧cap*Univ.esz c≤C.size∧ARel Γ.fz c l C∧
  ∀k,k<C.size→z.1≤k→k<z.2→False
structure PRel(base:Bs)(Γ:Gam)(h:Tr AObj)(w:World)(k c:Univ.C)(m:Univ.S k→Option (List (Univ.S c)))(n:Nat)(lent:Option (Univ.S k))(ents:List MapEntry)(clock:Nat):Prop where
 map:MRelG Γ.fz k (fun _ _=>True) m n ents clock
 own:∃bl:Value→Nat,(∀x∈ents,∀a l,DRel Γ.fz k a x.key→m a=some l→lent=some a∨Own1 base Γ h w c l (bl x.key) x.val)∧
  ∀x∈ents,∀y∈ents,x.key≠y.key→(∀a,DRel Γ.fz k a x.key→lent≠some a)→(∀a,DRel Γ.fz k a y.key→lent≠some a)→bl x.key≠bl y.key
def Hid(base:Bs)(Γ:Gam)(h:Tr AObj)(w:World):Prop:=∀k c m q lent i,h.get 0=some (.mps k c m q lent)→Γ 0=some i→∃ents clock,w.heap[i.b]?=some (.map ents clock)∧PRel base Γ h w k c m q lent ents.toList clock
structure Qt(Γ:Gam)(h:Tr AObj)(w:World)(Γ':Gam)(h':Tr AObj)(w':World):Prop where
 mp:∀k c m q l,h'.get 0=some (.mps k c m q l)→h.get 0=some (.mps k c m q l)∧∀i,Γ' 0=some i→Γ 0=some i∧w'.heap[i.b]?=w.heap[i.b]?
 lv:∀m o j,m<LH→h'.get m=some o→o.live→Γ' m=some j→w.heap.size≤j.b∨∃m' o' j',m'<LH∧h.get m'=some o'∧o'.live∧Γ m'=some j'∧j'.b=j.b
 hp:∀b C e z,w.heap[b]?=some (.cells C e z)→Bare Γ h b→w'.heap[b]?=w.heap[b]?∧Γ'.fz b=none
 fz:∀b o,Γ.fz b=some o→Γ'.fz b=some o
structure Rel(E:Env)(base:Bs)(w0:World)(Γ:Gam)(h:Tr AObj)(w:World):Prop where
 deep:h.deep DH
 below:Bel base w0 w
 room:base.n≤w.heap.size
 dom:∀n i,Γ n=some i→n<LH∧base.own i.b∧i.b<w.heap.size
 obj:∀n o,n<LH→h.get n=some o→ORel E Γ w n o
 inj:∀n m o p i j,n<LH→m<LH→h.get n=some o→h.get m=some p→o.live→p.live→n≠m→Γ n=some i→Γ m=some j→i.b=j.b→Kin i j o p
 fam:∀n cs e frz root rel al,n<LH→h.get n=some (.cells cs e frz false root rel al)→∀cs' e' frz' d' root' rel' al',h.get root=some (.cells cs' e' frz' d' root' rel' al')→(n,rel,rel+cs.length)∈al'
 iter:∀n m since seen kt es clock i j ents b borns stepped,n<LH→m<LH→h.get n=some (.miter (some m) since seen)→h.get m=some (.map kt es clock)→Γ n=some i→Γ m=some j→
   w.heap[i.b]?=some (.mapIter b since borns stepped)→w.heap[j.b]?=some (.map ents clock)→since≤clock∧(clock=since→IterRel Γ es seen ents.toList since borns stepped)
 own:∀n i cs e frz rel al,n<LH→h.get n=some (.cells cs e frz false n rel al)→Γ n=some i→i.o=0
 stay:∀b ob,Γ.fz b=some ob→w.heap[b]?=some ob
 sep:∀n i o,n<LH→h.get n=some o→o.live→Γ n=some i→Γ.fz i.b=none
 lo:Γ.lo≤w.heap.size
 solo:E.solo=true→(∀b,¬base.ex b)∧Γ.lo≤base.n
 hid:Hid base Γ h w
theorem Rel.stay_lt{E:Env}{base:Bs}{w0:World}{Γ:Gam}{h:Tr AObj}{w:World}(R:Rel E base w0 Γ h w){b:Nat}{ob:Obj}(hb:Γ.fz b=some ob):b<w.heap.size:=
 (Array.getElem?_eq_some_iff.1 (R.stay b ob hb)).1
theorem DRel.flat{fz fz':Nat→Option Obj}{c:Univ.C}{x:Univ.S c}{v:Value}(hf:Univ.flat c=true)(h:DRel fz c x v):DRel fz' c x v:=by
 have key:∀(cl:Cell Univ.C Univ.S)(u:Value),cl∈Univ.cells c x→CRel fz cl u→CRel fz' cl u:=fun cl u hm hc=>by
  have hs:=Univ.flat_ok c x hf cl hm
  cases hc with
  |b x=>exact .b x
  |i k x=>exact .i k x
  |s x=>exact .s x
  |f n=>exact .f n
  |nil=>cases hs
  |sl=>cases hs
 have lst:∀{vs:List Value},LRel fz (Univ.cells c x) vs→LRel fz' (Univ.cells c x) vs:=fun h=>⟨h.1,fun i cl e=>let⟨v,h1,h2⟩:=h.2 i cl e;⟨v,h1,key cl v (List.mem_of_getElem? e) h2⟩⟩
 unfold DRel at h⊢
 split at h
 ·obtain⟨vs,rfl,h⟩:=h;exact⟨vs,rfl,lst h⟩
 ·exact lst h
theorem Bare.keep{Γ Γ':Gam}{h h':Tr AObj}{w w':World}{b:Nat}{C:Array Value}{e:TypeId}{z:Nat×Nat}(hb:Bare Γ h b)(hc:w.heap[b]?=some (.cells C e z))(q:Qt Γ h w Γ' h' w'):Bare Γ' h' b:=
 have hs:b<w.heap.size:=(Array.getElem?_eq_some_iff.1 hc).1
 ⟨(
  q.hp b _ _ _ hc hb).2,fun m o j hm ho hl hj e=>by
  rcases q.lv m o j hm ho hl hj with k|⟨m',o',j',k1,k2,k3,k4,k5⟩
  ·omega
  ·exact hb.2 m' o' j' k1 k2 k3 k4 (k5.trans e)⟩
theorem Own1.keep{base:Bs}{Γ Γ':Gam}{h h':Tr AObj}{w w':World}{c:Univ.C}{l:List (Univ.S c)}{b:Nat}{v:Value}(H:Own1 base Γ h w c l b v)(q:Qt Γ h w Γ' h' w'):Own1 base Γ' h' w' c l b v:=by
 obtain⟨h0,h2,h3,cap,C,e,z,h4,h5,h6,h7,h8,h9⟩:=H
 exact⟨h0,h2,h3.keep h6 q,cap,C,e,z,h4,h5,(q.hp b _ _ _ h6 h3).1.trans h6,h7,h8.mono q.fz,h9⟩
theorem PRel.keep{base:Bs}{Γ Γ':Gam}{h h':Tr AObj}{w w':World}{k c:Univ.C}{m:Univ.S k→Option (List (Univ.S c))}{n:Nat}{lent:Option (Univ.S k)}{ents:List MapEntry}{clock:Nat}
  (H:PRel base Γ h w k c m n lent ents clock) (q:Qt Γ h w Γ' h' w'):PRel base Γ' h' w' k c m n lent ents clock:=by
 obtain⟨bl,h1,h2⟩:=H.own
 have hf:=H.map.flat
 refine⟨⟨hf,H.map.size,fun x hm=>?_,fun a l e=>let⟨x,q1,q2⟩:=H.map.has a l e;⟨x,q1,q2.flat hf⟩,H.map.keys,H.map.borns,H.map.old⟩,bl,fun x hm a l e1 e2=>?_,fun x hm y hy hne g1 g2=>?_⟩
 ·obtain⟨a,l,e1,e2,e3⟩:=H.map.ent x hm
  exact⟨a,l,e1,e2.flat hf,e3⟩
 ·exact(h1 x hm a l (e1.flat hf) e2).imp id fun e=>e.keep q
 ·exact h2 x hm y hy hne (fun a q=>g1 a (q.flat hf)) (fun a q=>g2 a (q.flat hf))
theorem Hid.keep{base:Bs}{Γ Γ':Gam}{h h':Tr AObj}{w w':World}(H:Hid base Γ h w)(q:Qt Γ h w Γ' h' w'):Hid base Γ' h' w':=by
 intro k c m n lent i h1 h2
 obtain⟨q1,q2⟩:=q.mp _ _ _ _ _ h1
 obtain⟨q3,q4⟩:=q2 i h2
 obtain⟨ents,clock,e1,e2⟩:=H k c m n lent i q1 q3
 exact⟨ents,clock,q4.trans e1,e2.keep q⟩
theorem Hid.none{base:Bs}{Γ:Gam}{h:Tr AObj}{w:World}(hn:∀k c m q l,h.get 0≠some (.mps k c m q l)):Hid base Γ h w:=fun k c m q l _ e=>absurd e (hn k c m q l)
theorem Qt.refl(Γ:Gam)(h:Tr AObj)(w:World):Qt Γ h w Γ h w:=⟨fun _ _ _ _ _ e=>⟨e,fun _ e=>⟨e,rfl⟩⟩,fun m o j h1 h2 h3 h4=>.inr ⟨m,o,j,h1,h2,h3,h4,rfl⟩,fun _ _ _ _ _ h=>⟨rfl,h.1⟩,fun _ _ e=>e⟩
def Gam.add(Γ:Gam)(n:Nat)(i:Info):Gam:=⟨fun m=>if m=n then some i else Γ m,Γ.fz,Γ.lo⟩
theorem Gam.ext_add{Γ:Gam}{n:Nat}{i:Info}(h:Γ n=none):Ext Γ (Γ.add n i):=by
 refine⟨fun m j e=>?_,fun b o e=>e,rfl,fun _ _=>rfl⟩
 unfold Gam.add
 show(if m=n then some i else Γ m)=some j
 by_cases c:m=n
 ·subst c;rw[h] at e;cases e
 ·rw[if_neg c];exact e
theorem Gam.add_at{Γ:Gam}{n:Nat}{i:Info}:Γ.add n i n=some i:=by simp[Gam.add]
theorem Gam.add_ne{Γ:Gam}{n m:Nat}{i:Info}(h:m≠n):Γ.add n i m=Γ m:=by simp[Gam.add,h]
theorem Zip.ext{Γ Γ':Gam}(hx:Ext Γ Γ'){l:List (AVal×AVal)}{ents:List MapEntry}(h:Zip Γ l ents):Zip Γ' l ents:=
 ⟨h.1,fun k e x h1 h2=>let⟨a,b⟩:=h.2 k e x h1 h2;⟨a.ext hx,b.ext hx⟩⟩
theorem EntRel.ext{E:Env}{Γ Γ':Gam}(hx:Ext Γ Γ'){kt:TypeId}{es:List (AVal×AVal)}{ents:List MapEntry}{c:Nat}(h:EntRel E Γ kt es ents c):EntRel E Γ' kt es ents c:=
 ⟨let⟨l,p,z⟩:=h.zip;⟨l,p,z.ext hx⟩,h.keys,h.fits,h.borns,h.old⟩
theorem IterRel.ext{Γ Γ':Gam}(hx:Ext Γ Γ'){es:List (AVal×AVal)}{seen:List AVal}{ents:List MapEntry}{since:Nat}{borns:Array Nat}{stepped:Nat}
  (h:IterRel Γ es seen ents since borns stepped):IterRel Γ' es seen ents since borns stepped:=by
 obtain⟨l,p,z,q,r⟩:=h
 refine⟨l,p,z.ext hx,q,?_⟩
 cases seen with
 |nil=>exact r
 |
  cons a s=>
  obtain⟨r0,k,e,x,r1,r2,r3,r4,r5⟩:=r
  exact⟨r0,k,e,x,r1,r2,r3,r4.ext hx,r5⟩
theorem ORel.keep{E:Env}{Γ Γ':Gam}{w w':World}{n:Nat}{o:AObj}(h:ORel E Γ w n o)(hx:Ext Γ Γ')
  (hb:∀i,Γ n=some i→w'.heap[i.b]?=w.heap[i.b]?):ORel E Γ' w' n o:=by
 cases o with
 |
  cells cs e frz dead root rel al=>
  obtain⟨i,h1,h2,h3,C,fz,h4,h5,h6,h7,h8⟩:=h
  refine⟨i,hx _ _ h1,h2,⟨⟨h3.1.choose,hx _ _ h3.1.choose_spec⟩,h3.2⟩,C,fz,by rw[hb i h1];exact h4,h5,h6,fun hd k a ha=>?_,h8⟩
  obtain⟨v,e1,e2⟩:=h7 hd k a ha
  exact⟨v,e1,e2.ext hx⟩
 |
  map kt es c=>
  obtain⟨i,h1,ents,h2,h3⟩:=h
  exact⟨i,hx _ _ h1,ents,by rw[hb i h1];exact h2,h3.ext hx⟩
 |
  miter m since seen=>
  obtain⟨i,h1,b,borns,stepped,h2,h3⟩:=h
  refine⟨i,hx _ _ h1,b,borns,stepped,by rw[hb i h1];exact h2,?_⟩
  cases m with
  |none=>exact h3
  |some m=>obtain⟨j,h4,h5⟩:=h3;exact⟨j,hx _ _ h4,h5⟩
 |
  siter y s pos=>
  obtain⟨i,h1,h2⟩:=h
  exact⟨i,hx _ _ h1,by rw[hb i h1];exact h2⟩
 |
  arr c l=>
  obtain⟨i,h1,h2,C,e,fz,h3,h6,h4,h5⟩:=h
  exact⟨i,hx _ _ h1,h2,C,e,fz,by rw[hb i h1];exact h3,h6,h4.mono hx.fz,h5⟩
 |
  rcd k=>
  obtain⟨i,h1,ob,h2,h3⟩:=h
  exact⟨i,hx _ _ h1,ob,by rw[hb i h1];exact h2,h3⟩
 |
  dat d=>
  obtain⟨i,h1,hl,ob,h2,h3⟩:=h
  exact⟨i,hx _ _ h1,by rw[hx.lo];exact hl,ob,by rw[hb i h1];exact h2,h3.mono hx.fz⟩
 |
  mps k c m q lent=>
  obtain⟨h0,i,h1,ents,clock,h2⟩:=h
  exact⟨h0,i,hx _ _ h1,ents,clock,by rw[hb i h1];exact h2⟩
 |done=>trivial
theorem Rel.drawn{E:Env}{base:Bs}{w0:World}{Γ:Gam}{h:Tr AObj}{w:World}(R:Rel E base w0 Γ h w)(d:Nat):Rel E base w0 Γ h {w with drawn:=d}:=
 {deep:=R.deep,below:=⟨R.below.os,R.below.tape,R.below.output,R.below.size,R.below.block,R.below.shape⟩,room:=R.room,dom:=R.dom,
  obj:=fun n o hn ho=>(R.obj n o hn ho).keep (Ext.refl _) fun _ _=>rfl,inj:=R.inj,fam:=R.fam,iter:=R.iter,own:=R.own,stay:=R.stay,sep:=R.sep,lo:=R.lo,solo:=R.solo,hid:=R.hid.keep ⟨fun _ _ _ _ _ e=>⟨e,fun _ e=>⟨e,rfl⟩⟩,fun m o j h1 h2 h3 h4=>.inr ⟨m,o,j,h1,h2,h3,h4,rfl⟩,fun _ _ _ _ _ h=>⟨rfl,h.1⟩,fun _ _ e=>e⟩}
theorem ORel.name{E:Env}{Γ:Gam}{w:World}{n:Nat}{o:AObj}(h:ORel E Γ w n o)(hl:o.live):∃i,Γ n=some i:=by
 cases o with
 |cells cs e frz dead root rel al=>obtain⟨i,h1,_⟩:=h;exact⟨i,h1⟩
 |map kt es c=>obtain⟨i,h1,_⟩:=h;exact⟨i,h1⟩
 |miter m since seen=>obtain⟨i,h1,_⟩:=h;exact⟨i,h1⟩
 |siter y s pos=>obtain⟨i,h1,_⟩:=h;exact⟨i,h1⟩
 |arr c l=>obtain⟨i,h1,_⟩:=h;exact⟨i,h1⟩
 |rcd k=>obtain⟨i,h1,_⟩:=h;exact⟨i,h1⟩
 |dat d=>obtain⟨i,h1,_⟩:=h;exact⟨i,h1⟩
 |mps k c m q lent=>obtain⟨_,i,h1,_⟩:=h;exact⟨i,h1⟩
 |done=>exact hl.elim
theorem Rel.gs{E:Env}{base:Bs}{w0:World}{Γ:Gam}{h:Tr AObj}{w:World}(R:Rel E base w0 Γ h w)(n:Nat)(o:AObj)(hn:n<LH)(m:Nat)(hm:m<LH):
  (h.set n o).get m=if m=n then some o else h.get m:=A0y o DH h n m R.deep hn hm
theorem Rel.alloc{E:Env}{base:Bs}{w0:World}{Γ:Gam}{h:Tr AObj}{w:World}(R:Rel E base w0 Γ h w){n:Nat}(hn:n<LH)(hf:Γ n=none)
  (i:Info) (hi:i.b=w.heap.size) (o:AObj) (ob:Obj)
  (ho:ORel E (Γ.add n i) {w with heap:=w.heap.push ob} n o)
  (hfam:∀cs e frz root rel al,o=.cells cs e frz false root rel al→(root=n∧i.o=0∧(n,rel,rel+cs.length)∈al)∨(root≠n∧∀cs' e' frz' d' root' rel' al',h.get root=some (.cells cs' e' frz' d' root' rel' al')→(n,rel,rel+cs.length)∈al'))
  (hiter:∀m since seen,o=.miter (some m) since seen→∀kt es clock j ents b borns stepped,m<LH→h.get m=some (.map kt es clock)→Γ m=some j→
   ob=.mapIter b since borns stepped→w.heap[j.b]?=some (.map ents clock)→since≤clock∧(clock=since→IterRel Γ es seen ents.toList since borns stepped))
  (hnm:∀k c m q l,o≠.mps k c m q l:=by intros;simp):
  Rel E base w0 (Γ.add n i) (h.set n o) {w with heap:=w.heap.push ob}:=by
 have hx:Ext Γ (Γ.add n i):=Gam.ext_add hf
 have old:∀b,b<w.heap.size→(w.heap.push ob)[b]?=w.heap[b]?:=fun b hb=>by rw[Array.getElem?_push,if_neg (by omega)]
 have notyet:∀o',h.get n=some o'→¬o'.live:=fun o' e hl=>by
  obtain⟨j,hj⟩:=(R.obj n o' hn e).name hl
  rw[hf] at hj;cases hj
 constructor
 ·exact A0j o DH h n R.deep
 ·exact R.below.trans ⟨rfl,rfl,rfl,by simp,fun k hk _=>old k (Nat.lt_of_lt_of_le hk R.room),c0e fun k hk=>old k (Nat.lt_of_lt_of_le hk R.room)⟩
 ·simp;have :=R.room;omega
 ·intro m j e
  by_cases c:m=n
  ·subst c;rw[Gam.add_at] at e;cases e
   refine⟨hn,by rw[hi];exact .inl R.room,by rw[hi];simp⟩
  ·rw[Gam.add_ne c] at e
   obtain⟨a,b,c⟩:=R.dom m j e
   exact⟨a,b,by simp;omega⟩
 ·intro m p hm hp
  rw[R.gs n o hn m hm] at hp
  by_cases c:m=n
  ·subst c;rw[if_pos rfl] at hp;cases hp;exact ho
  ·rw[if_neg c] at hp
   exact(R.obj m p hm hp).keep hx fun j hj=>old _ (R.dom m j hj).2.2
 ·intro m q p1 p2 j k hm hq h1 h2 l1 l2 ne e1 e2 eb
  rw[R.gs n o hn m hm] at h1
  rw[R.gs n o hn q hq] at h2
  by_cases c:m=n
  ·subst c
   rw[Gam.add_at] at e1;cases e1
   have cq:q≠m:=fun x=>ne x.symm
   rw[Gam.add_ne cq] at e2
   have :=(R.dom q k e2).2.2
   omega
  ·rw[Gam.add_ne c] at e1
   by_cases c':q=n
   ·subst c'
    rw[Gam.add_at] at e2;cases e2
    have :=(R.dom m j e1).2.2
    omega
   ·rw[Gam.add_ne c'] at e2
    rw[if_neg c] at h1
    rw[if_neg c'] at h2
    exact R.inj m q p1 p2 j k hm hq h1 h2 l1 l2 ne e1 e2 eb
 ·intro m cs e frz root rel al hm h1 cs' e' frz' d' root' rel' al' h2
  rw[R.gs n o hn m hm] at h1
  by_cases c:m=n
  ·subst c
   rw[if_pos rfl] at h1;cases h1
   rcases hfam cs e frz root rel al rfl with⟨hr,_,hmem⟩|⟨hr,hmem⟩
   ·subst hr
    rw[R.gs root _ hn root hn,if_pos rfl] at h2
    cases h2;exact hmem
   ·have hroot:root<LH:=by
     obtain⟨_,_,_,⟨⟨r,hr'⟩,_⟩,_⟩:=ho
     rw[Gam.add_ne hr] at hr'
     exact(R.dom root r hr').1
    rw[R.gs m _ hn root hroot,if_neg hr] at h2
    exact hmem _ _ _ _ _ _ _ h2
  ·rw[if_neg c] at h1
   obtain⟨_,_,_,⟨⟨r,hr⟩,_⟩,_⟩:=R.obj m _ hm h1
   have hroot:root<LH:=(R.dom root r hr).1
   rw[R.gs n o hn root hroot] at h2
   have c':root≠n:=fun x=>by subst x;rw[hf] at hr;cases hr
   rw[if_neg c'] at h2
   exact R.fam m cs e frz root rel al hm h1 cs' e' frz' d' root' rel' al' h2
 ·intro m q since seen kt es clock j k ents b borns stepped hm hq h1 h2 e1 e2 b1 b2
  rw[R.gs n o hn m hm] at h1
  rw[R.gs n o hn q hq] at h2
  by_cases c:m=n
  ·subst c
   rw[if_pos rfl] at h1;cases h1
   rw[Gam.add_at] at e1;cases e1
   have cq:q≠m:=fun x=>by
    subst x;rw[if_pos rfl] at h2;cases h2
   rw[if_neg cq] at h2
   rw[Gam.add_ne cq] at e2
   rw[hi] at b1
   simp at b1
   rw[old _ (R.dom q k e2).2.2] at b2
   obtain⟨z1,z2⟩:=hiter q since seen rfl kt es clock k ents b borns stepped hq h2 e2 b1 b2
   exact⟨z1,fun z=>(z2 z).ext hx⟩
  ·rw[if_neg c] at h1
   rw[Gam.add_ne c] at e1
   have cq:q≠n:=fun x=>by
    subst x
    obtain⟨_,_,_,_,_,_,j',h3,_⟩:=R.obj m _ hm h1
    rw[hf] at h3;cases h3
   rw[if_neg cq] at h2
   rw[Gam.add_ne cq] at e2
   rw[old _ (R.dom m j e1).2.2] at b1
   rw[old _ (R.dom q k e2).2.2] at b2
   obtain⟨z1,z2⟩:=R.iter m q since seen kt es clock j k ents b borns stepped hm hq h1 h2 e1 e2 b1 b2
   exact⟨z1,fun z=>(z2 z).ext hx⟩
 ·intro m j cs e frz rel al hm h1 e1
  rw[R.gs n o hn m hm] at h1
  by_cases c:m=n
  ·subst c
   rw[if_pos rfl] at h1;cases h1
   rw[Gam.add_at] at e1;cases e1
   rcases hfam cs e frz m rel al rfl with⟨_,q,_⟩|⟨q,_⟩
   ·exact q
   ·exact absurd rfl q
  ·rw[if_neg c] at h1
   rw[Gam.add_ne c] at e1
   exact R.own m j cs e frz rel al hm h1 e1
 ·intro b ob hb
  have hb:Γ.fz b=some ob:=hb
  exact(old _ (R.stay_lt hb)).trans (R.stay b _ hb)
 ·intro m j o1 hm h1 l1 e1
  show Γ.fz j.b=none
  rw[R.gs n o hn m hm] at h1
  by_cases c:m=n
  ·subst c
   rw[Gam.add_at] at e1;cases e1
   cases hq:Γ.fz i.b with
   |none=>rfl
   |some ob2=>have :=R.stay_lt hq;omega
  ·rw[if_neg c] at h1
   rw[Gam.add_ne c] at e1
   exact R.sep m j o1 hm h1 l1 e1
 ·show Γ.lo≤(w.heap.push ob).size
  rw[Array.size_push];exact Nat.le_succ_of_le R.lo
 ·exact R.solo
 ·by_cases hm0:∃k c m q l,o=.mps k c m q l
  ·obtain⟨k,c,m,q,l,rfl⟩:=hm0
   exact(hnm _ _ _ _ _ rfl).elim
  ·refine R.hid.keep ⟨fun k c m q l e=>?_,fun m p j hm hp hl e=>?_,fun b _ _ _ hb hB=>⟨old b (Array.getElem?_eq_some_iff.1 hb).1,hB.1⟩,fun _ _ e=>e⟩
   ·rw[R.gs n o hn 0 (by decide)] at e
    by_cases c0:0=n
    ·rw[if_pos c0] at e;cases e;exact absurd ⟨_,_,_,_,_,rfl⟩ hm0
    ·rw[if_neg c0] at e
     refine⟨e,fun i' hi'=>?_⟩
     rw[Gam.add_ne c0] at hi'
     exact⟨hi',old _ (R.dom 0 i' hi').2.2⟩
   ·rw[R.gs n o hn m hm] at hp
    by_cases c:m=n
    ·subst c;rw[Gam.add_at] at e;cases e;exact .inl (by omega)
    ·rw[if_neg c] at hp
     rw[Gam.add_ne c] at e
     exact .inr ⟨m,p,j,hm,hp,hl,e,rfl⟩
theorem Rel.hid_set{E:Env}{base:Bs}{w0:World}{Γ:Gam}{h:Tr AObj}{w w':World}(R:Rel E base w0 Γ h w){n:Nat}{i:Info}(hi:Γ n=some i){o o':AObj}(ho:h.get n=some o)(hl:o.live)
  (nm:∀k c m q l,o≠.mps k c m q l) (nm':∀k c m q l,o'≠.mps k c m q l) (ne:∀k,k<w.heap.size→k≠i.b→w'.heap[k]?=w.heap[k]?):Hid base Γ (h.set n o') w':=by
 have hn:=(R.dom n i hi).1
 refine R.hid.keep ⟨fun k c m q l e=>?_,fun m p j hm hp hpl e=>?_,fun b _ _ _ hb hB=>⟨ne b (Array.getElem?_eq_some_iff.1 hb).1 fun e=>hB.2 n o i hn ho hl hi e.symm,hB.1⟩,fun _ _ e=>e⟩
 ·rw[R.gs n o' hn 0 (by decide)] at e
  by_cases c0:0=n
  ·rw[if_pos c0] at e;cases e;exact absurd rfl (nm' _ _ _ _ _)
  ·rw[if_neg c0] at e
   refine⟨e,fun i' hi'=>⟨hi',ne _ (R.dom 0 i' hi').2.2 fun eb=>?_⟩⟩
   have :=R.inj 0 n _ o i' i (by decide) hn e ho trivial hl c0 hi' hi eb
   cases o<;>exact this
 ·rw[R.gs n o' hn m hm] at hp
  by_cases c:m=n
  ·subst c;exact .inr ⟨m,o,j,hm,ho,hl,e,rfl⟩
  ·rw[if_neg c] at hp;exact .inr ⟨m,p,j,hm,hp,hpl,e,rfl⟩
theorem Rel.hid_move{E:Env}{base:Bs}{w0:World}{Γ:Gam}{h:Tr AObj}{w w':World}(R:Rel E base w0 Γ h w){n r:Nat}{i i':Info}(hi:Γ n=some i){o o':AObj}(ho:h.get n=some o)(hl:o.live)
  (nm:∀k c m q l,o≠.mps k c m q l) (nm':∀k c m q l,o'≠.mps k c m q l) (hr:r<LH) (hf:Γ r=none) (hb:i'.b=i.b) (ne:∀k,k<w.heap.size→k≠i.b→w'.heap[k]?=w.heap[k]?):
  Hid base (Γ.add r i') ((h.set n .done).set r o') w':=by
 have hn:=(R.dom n i hi).1
 have hnr:n≠r:=fun e=>by rw[e,hf] at hi;cases hi
 have g2:∀m,m<LH→((h.set n .done).set r o').get m=if m=r then some o' else(h.set n .done).get m:=fun m hm=>A0y o' DH _ r m (A0j _ DH h n R.deep) hr hm
 refine R.hid.keep ⟨fun k c m q l e=>?_,fun m p j hm hp hpl e=>?_,fun b _ _ _ hb hB=>⟨ne b (Array.getElem?_eq_some_iff.1 hb).1 fun e=>hB.2 n o i hn ho hl hi e.symm,hB.1⟩,fun _ _ e=>e⟩
 ·rw[g2 0 (by decide)] at e
  by_cases c1:0=r
  ·rw[if_pos c1] at e;cases e;exact absurd rfl (nm' _ _ _ _ _)
  ·rw[if_neg c1,R.gs n _ hn 0 (by decide)] at e
   by_cases c0:0=n
   ·rw[if_pos c0] at e;cases e
   ·rw[if_neg c0] at e
    refine⟨e,fun j hj=>?_⟩
    rw[Gam.add_ne c1] at hj
    refine⟨hj,ne _ (R.dom 0 j hj).2.2 fun eb=>?_⟩
    have :=R.inj 0 n _ o j i (by decide) hn e ho trivial hl c0 hj hi eb
    cases o<;>exact this
 ·rw[g2 m hm] at hp
  by_cases c:m=r
  ·subst c;rw[Gam.add_at] at e;cases e;exact .inr ⟨n,o,i,hn,ho,hl,hi,hb.symm⟩
  ·rw[if_neg c,R.gs n _ hn m hm] at hp
   rw[Gam.add_ne c] at e
   by_cases c0:m=n
   ·rw[if_pos c0] at hp;cases hp;exact hpl.elim
   ·rw[if_neg c0] at hp;exact .inr ⟨m,p,j,hm,hp,hpl,e,rfl⟩
structure G0X(w:World)(b:Nat)(C':Array Value)(e:TypeId)(fz:Nat×Nat)(w':World):Prop where
 tape:w'.tape=w.tape
 os:w'.os=w.os
 output:w'.output=w.output
 size:w'.heap.size=w.heap.size
 at':w'.heap[b]?=some (.cells C' e fz)
 ne:∀k,k≠b→w'.heap[k]?=w.heap[k]?
def G0k(v:Value):Prop:=(∀c,v≠.agg c)∧(∀c,v≠.tuple c)
theorem Z0b{P:Program}{w:World}{b o:Nat}{C:Array Value}{e:TypeId}{fz:Nat×Nat}{v:Value}(hv:G0k v)
  (hb:w.heap[b]?=some (.cells C e fz)) (ho:o<C.size) (hf:fz.1≤o→o<fz.2→False):
  (store ⟨b,o,none⟩ v).run P w=.ok () (w.setCell ⟨b,o,none⟩ v):=by
 have h1:w.cell? ⟨b,o,none⟩=some C[o]:=by simp[World.cell?,hb,ho]
 have h2:w.frozen? ⟨b,o,none⟩=false:=by
  simp only[World.frozen?,hb]
  by_cases h:fz.1≤o
  ·have :¬o<fz.2:=fun k=>hf h k
   simp[this]
  ·simp[h]
 unfold store
 cases v with
 |agg c=>exact absurd rfl (hv.1 c)
 |tuple c=>exact absurd rfl (hv.2 c)
 |_=>simp[Sem.run,h1,h2]
theorem R0g{w:World}{b o:Nat}{C:Array Value}{e:TypeId}{fz:Nat×Nat}(v:Value)(hb:w.heap[b]?=some (.cells C e fz)):
  G0X w b (C.setIfInBounds o v) e fz (w.setCell ⟨b,o,none⟩ v):=
 {tape:=rfl,os:=rfl,output:=rfl,size:=by simp[World.setCell],
  at':=by simp[World.setCell,Array.getElem?_modify,hb],ne:=fun k hk=>by simp only[World.setCell,Array.getElem?_modify];rw[if_neg (by omega)]}
theorem B0C(b o n:Nat):(⟨b,o,none⟩:Addr).add n=⟨b,o+n,none⟩:=by
 unfold Addr.add;split<;>simp_all
def E0O(C:Array Value)(o:Nat):List Value→Array Value
 |[]=>C
 |v::l=>E0O (C.setIfInBounds o v) (o+1) l
theorem A0I:∀(l:List Value)(C:Array Value)(o:Nat),(E0O C o l).size=C.size
 |[],_,_=>rfl
 |v::l,C,o=>by unfold E0O;rw[A0I l];simp
theorem C0g:∀(l:List Value)(C:Array Value)(o k:Nat),o+l.length≤C.size→
  (E0O C o l)[k]?=if o≤k∧k<o+l.length then l[k-o]? else C[k]?
 |[],C,o,k,_=>by unfold E0O;rw[if_neg (by simp)]
 |
  v::l,C,o,k,h=>by
  unfold E0O
  simp at h
  rw[C0g l _ _ _ (by simp;omega)]
  by_cases h1:o=k
  ·subst h1
   rw[if_neg (by omega),if_pos ⟨Nat.le_refl _,by simp⟩]
   rw[Array.getElem?_setIfInBounds_self_of_lt (by omega)];simp
  ·rw[Array.getElem?_setIfInBounds_ne h1]
   by_cases h2:o+1≤k∧k<o+1+l.length
   ·rw[if_pos h2,if_pos (by simp;omega)]
    obtain⟨d,hd⟩:∃d,k-o=d+1:=⟨k-o-1,by omega⟩
    rw[hd,show k-(o+1)=d from by omega];simp
   ·rw[if_neg h2,if_neg (by simp;omega)]
theorem B0Z{P:Program}:∀(us:List Value)(w:World)(b o i:Nat)(C:Array Value)(e:TypeId)(fz:Nat×Nat),
  (∀v∈us,G0k v)→w.heap[b]?=some (.cells C e fz)→o+i+us.length≤C.size→(∀k,k<C.size→fz.1≤k→k<fz.2→False)→
  ∃w',(storeCells ⟨b,o,none⟩ us i).run P w=.ok () w'∧G0X w b (E0O C (o+i) us) e fz w'∧w'.drawn=w.drawn
 |[],w,b,o,i,C,e,fz,_,hb,_,_=>⟨w,by simp[storeCells],⟨rfl,rfl,rfl,rfl,hb,fun _ _=>rfl⟩,rfl⟩
 |
  v::us,w,b,o,i,C,e,fz,hc,hb,hs,hf=>by
  simp at hs
  have h1:=Z0b (P:=P) (w:=w) (b:=b) (o:=o+i) (hc v (by simp)) hb (by omega) (hf _ (by omega))
  have h2:=R0g (o:=o+i) v hb
  obtain⟨w',r,st,dr⟩:=B0Z (P:=P) us (w.setCell ⟨b,o+i,none⟩ v) b o (i+1) _ e fz (fun x hx=>hc x (by simp[hx])) h2.at' (by simp;omega) (by simpa using hf)
  refine⟨w',?_,⟨st.tape.trans h2.tape,st.os.trans h2.os,st.output.trans h2.output,st.size.trans h2.size,st.at',fun k hk=>(st.ne k hk).trans (h2.ne k hk)⟩,dr.trans rfl⟩
  rw[storeCells,B0C]
  rw[Sem.run_bind,h1]
  exact r
theorem B0B{P:Program}{w:World}{b o:Nat}{C:Array Value}{e:TypeId}{fz:Nat×Nat}(hb:w.heap[b]?=some (.cells C e fz)):∀(k i:Nat)(acc:Array Value),o+i+k≤C.size→
  (loadCellsFrom ⟨b,o,none⟩ i k acc).run P w=.ok (acc++C.extract (o+i) (o+i+k)) w
 |0,i,acc,_=>by simp[loadCellsFrom];try omega
 |
  k+1,i,acc,h=>by
  have h1:w.cell? ⟨b,o+i,none⟩=some (C[o+i]'(by omega)):=by
   simp only[World.cell?,hb];simp;try omega
  simp only[loadCellsFrom,B0C]
  rw[Sem.run_bind]
  have h2:(load ⟨b,o+i,none⟩).run P w=.ok (C[o+i]'(by omega)) w:=by simp[load,Sem.run,h1]
  rw[h2]
  simp only[Result.andThen_ok]
  rw[B0B hb k (i+1) _ (by omega)]
  congr 1
  apply Array.toList_inj.1
  simp[Array.toList_extract,List.extract_eq_take_drop]
  rw[←Nat.add_assoc,List.drop_eq_getElem_cons (i:=o+i) (l:=C.toList) (by simp;omega)]
  simp
theorem Rel.store{E:Env}{base:Bs}{w0:World}{Γ:Gam}{h:Tr AObj}{w w':World}(R:Rel E base w0 Γ h w)
  {n:Nat} (hn:n<LH) {cs:List AVal} {e:TypeId} {root rel:Nat} {al:List (Nat×Nat×Nat)} (ho:h.get n=some (.cells cs e false false root rel al))
  {i:Info} (hi:Γ n=some i) {off:Nat} {vs:List AVal} {us:List Value} (hv:VRels Γ vs us) (hs:off+vs.length≤cs.length)
  {C:Array Value} {fz:Nat×Nat} (hb:w.heap[i.b]?=some (.cells C e fz)) (st:G0X w i.b (E0O C (i.o+off) us) e fz w')
  (ex:∀m cs' e' frz' root' rel' al' j,m<LH→m≠n→h.get m=some (.cells cs' e' frz' false root' rel' al')→Γ m=some j→j.b=i.b→
   j.o+cs'.length≤i.o+off∨i.o+off+vs.length≤j.o):
  Rel E base w0 Γ (h.set n (.cells (over cs off vs) e false false root rel al)) w':=by
 obtain⟨i',hi',hasz,hroot,C',fz',hb',hcsz,hfit,hcells,hfrz⟩:=R.obj n _ hn ho
 rw[hi] at hi';cases hi'
 rw[hb] at hb';cases hb'
 have hul:us.length=vs.length:=hv.length
 have hlen:(over cs off vs).length=cs.length:=M0k cs off vs hs
 have gs:=R.gs n (.cells (over cs off vs) e false false root rel al) hn
 constructor
 ·exact A0j _ DH h n R.deep
 ·refine R.below.trans ⟨st.os,st.tape,st.output,by rw[st.size];exact Nat.le_refl _,fun k hk hx=>st.ne k (I0F (R.dom n i hi).2.1 hk hx),O0A hb st.at' (A0I ..) fun k _=>st.ne k⟩
 ·rw[st.size];exact R.room
 ·intro m j hj;rw[st.size];exact R.dom m j hj
 ·intro m p hm hp
  rw[gs m hm] at hp
  by_cases c:m=n
  ·subst c
   rw[if_pos rfl] at hp;cases hp
   refine⟨i,hi,by rw[hlen];exact hasz,hroot,E0O C (i.o+off) us,fz,st.at',by rw[A0I];exact hcsz,hfit,fun _ k a ha=>?_,fun _ _=>hfrz rfl rfl⟩
   rw[L0c cs off vs hs k] at ha
   rw[C0g _ _ _ _ (by omega)]
   by_cases hk:off≤k∧k<off+vs.length
   ·rw[if_pos hk] at ha
    rw[if_pos (by omega),show i.o+k-(i.o+off)=k-off from by omega]
    exact hv.get ha
   ·rw[if_neg hk] at ha
    rw[if_neg (by omega)]
    exact hcells rfl k a ha
  ·rw[if_neg c] at hp
   have hO:=R.obj m p hm hp
   ·cases p with
    |
     cells cs' ee frz' dead' root' rel' al'=>
     obtain⟨j,g1,g2,g3,D,fz',g4,g5,g6,g7,g8⟩:=hO
     by_cases eb:j.b=i.b
     ·rw[eb,hb] at g4;cases g4
      refine⟨j,g1,g2,g3,E0O C (i.o+off) us,fz,by rw[eb];exact st.at',by rw[A0I];exact g5,g6,fun hd k a ha=>?_,g8⟩
      subst hd
      have hk:k<cs'.length:=by
       rcases Nat.lt_or_ge k cs'.length with q|q
       ·exact q
       ·rw[List.getElem?_eq_none q] at ha;cases ha
      obtain⟨v,v1,v2⟩:=g7 rfl k a ha
      refine⟨v,?_,v2⟩
      rw[C0g _ _ _ _ (by omega),if_neg]
      ·exact v1
      ·rcases ex m _ _ _ _ _ _ j hm c hp g1 eb with q|q<;>omega
     ·exact⟨j,g1,g2,g3,D,fz',by rw[st.ne _ eb];exact g4,g5,g6,g7,g8⟩
    |done=>trivial
    |
     _=>
     refine hO.keep (Ext.refl _) fun j hj=>st.ne _ fun eb=>?_
     have :=R.inj m n _ _ j i hm hn hp ho trivial rfl c hj hi eb
     exact this
 ·intro m q p1 p2 j k hm hq h1 h2 l1 l2 ne e1 e2 eb
  rw[gs m hm] at h1
  rw[gs q hq] at h2
  by_cases c:m=n
  ·subst c
   rw[if_pos rfl] at h1;cases h1
   have cq:q≠m:=fun x=>ne x.symm
   rw[if_neg cq] at h2
   have :=R.inj m q _ p2 j k hm hq ho h2 rfl l2 ne e1 e2 eb
   cases p2<;>exact this
  ·rw[if_neg c] at h1
   by_cases c':q=n
   ·subst c'
    rw[if_pos rfl] at h2;cases h2
    have :=R.inj m q p1 _ j k hm hq h1 ho l1 rfl ne e1 e2 eb
    cases p1<;>exact this
   ·rw[if_neg c'] at h2
    exact R.inj m q p1 p2 j k hm hq h1 h2 l1 l2 ne e1 e2 eb
 ·intro m cs1 e1 frz1 root1 rel1 al1 hm h1 cs' e' frz' d' root' rel' al' h2
  have key:∀x,x<LH→∀cs2 e2 f2 d2 r2 l2 a2,(h.set n (.cells (over cs off vs) e false false root rel al)).get x=some (.cells cs2 e2 f2 d2 r2 l2 a2)→
    ∃cs3 e3 f3,h.get x=some (.cells cs3 e3 f3 d2 r2 l2 a2)∧cs3.length=cs2.length:=by
   intro x hx cs2 e2 f2 d2 r2 l2 a2 hg
   rw[gs x hx] at hg
   by_cases c:x=n
   ·subst c;rw[if_pos rfl] at hg;cases hg;exact⟨cs,e,false,ho,hlen.symm⟩
   ·rw[if_neg c] at hg;exact⟨cs2,e2,f2,hg,rfl⟩
  obtain⟨cs3,e3,f3,h3,l3⟩:=key m hm _ _ _ _ _ _ _ h1
  obtain⟨_,_,_,⟨⟨r,hr⟩,_⟩,_⟩:=R.obj m _ hm h3
  obtain⟨cs4,e4,f4,h4,_⟩:=key root1 (R.dom root1 r hr).1 _ _ _ _ _ _ _ h2
  have :=R.fam m cs3 e3 f3 root1 rel1 al1 hm h3 cs4 e4 f4 d' root' rel' al' h4
  rwa[l3] at this
 ·intro m q since seen kt es clock j k ents b borns stepped hm hq h1 h2 e1 e2 b1 b2
  rw[gs m hm] at h1
  rw[gs q hq] at h2
  have cm:m≠n:=fun x=>by subst x;rw[if_pos rfl] at h1;cases h1
  have cq:q≠n:=fun x=>by subst x;rw[if_pos rfl] at h2;cases h2
  rw[if_neg cm] at h1
  rw[if_neg cq] at h2
  have d1:j.b≠i.b:=fun eb=>R.inj m n _ _ j i hm hn h1 ho trivial rfl cm e1 hi eb
  have d2:k.b≠i.b:=fun eb=>R.inj q n _ _ k i hq hn h2 ho trivial rfl cq e2 hi eb
  rw[st.ne _ d1] at b1
  rw[st.ne _ d2] at b2
  exact R.iter m q since seen kt es clock j k ents b borns stepped hm hq h1 h2 e1 e2 b1 b2
 ·intro m j cs1 e1 frz1 rel1 al1 hm h1 ej
  rw[gs m hm] at h1
  by_cases c:m=n
  ·rw[if_pos c] at h1;cases h1
   have ho':=ho
   rw[←c] at ho'
   exact R.own _ j _ _ _ _ _ hm ho' ej
  ·rw[if_neg c] at h1
   exact R.own m j _ _ _ _ _ hm h1 ej
 ·intro b ob hb1
  rw[st.ne b fun q=>?_]
  ·exact R.stay b ob hb1
  ·have :=R.sep n i _ hn ho rfl hi
   rw[q,this] at hb1;cases hb1
 ·intro m j o1 hm h1 l1 e1
  rw[gs m hm] at h1
  by_cases c:m=n
  ·subst c
   rw[hi] at e1;cases e1
   exact R.sep m i _ hm ho rfl hi
  ·rw[if_neg c] at h1
   exact R.sep m j o1 hm h1 l1 e1
 ·rw[st.size];exact R.lo
 ·first|exact R.solo|(rw[hx.lo];exact R.solo)|(rw[hlo];exact R.solo)
 ·exact R.hid_set hi ho rfl (by intros;simp) (by intros;simp) fun k _=>st.ne k
theorem Rel.gone{E:Env}{base:Bs}{w0:World}{Γ:Gam}{h:Tr AObj}{w w':World}(R:Rel E base w0 Γ h w){n:Nat}{i:Info}(hi:Γ n=some i){c:Univ.C}{l:List (Univ.S c)}(ho:h.get n=some (.arr c l))
  {C C':Array Value} {e:TypeId} {fz:Nat×Nat} (hb:w.heap[i.b]?=some (.cells C e fz)) (st:G0X w i.b C' e fz w') (hsz:C'.size=C.size):
  Rel E base w0 Γ (h.set n .done) w'∧∀m p j,m<LH→(h.set n .done).get m=some p→p.live→Γ m=some j→j.b≠i.b:=by
 have hn:=(R.dom n i hi).1
 have gs:=R.gs n .done hn
 have nok:∀(j:Info)(p:AObj),¬Kin j i p (.arr c l):=fun j p k=>by cases p<;>exact k
 have apart:∀m p j,m<LH→(h.set n .done).get m=some p→p.live→Γ m=some j→j.b≠i.b:=by
  intro m p j hm hp lv hj eb
  rw[gs m hm] at hp
  by_cases d:m=n
  ·rw[if_pos d] at hp;cases hp;exact lv
  ·rw[if_neg d] at hp
   exact nok j p (R.inj m n p _ j i hm hn hp ho lv trivial d hj hi eb)
 refine⟨?_,apart⟩
 constructor
 ·exact A0j _ DH h n R.deep
 ·refine R.below.trans ⟨st.os,st.tape,st.output,by rw[st.size];exact Nat.le_refl _,fun k hk hx=>st.ne k (I0F (R.dom n i hi).2.1 hk hx),O0A hb st.at' hsz fun k _=>st.ne k⟩
 ·rw[st.size];exact R.room
 ·intro m j hj;rw[st.size];exact R.dom m j hj
 ·intro m p hm hp0
  have hp:=hp0
  rw[gs m hm] at hp
  by_cases d:m=n
  ·rw[if_pos d] at hp;cases hp;trivial
  ·rw[if_neg d] at hp
   have hOm:=R.obj m p hm hp
   by_cases lv:p.live
   ·exact hOm.keep (Ext.refl _) fun j hj=>st.ne _ (apart m p j hm hp0 lv hj)
   ·cases p with
    |done=>trivial
    |
     cells cs e2 frz dd root rel al=>
     obtain⟨j,g1,g2,g3,D,fz',g4,g5,g6,g7,g8⟩:=hOm
     have hdd:dd=true:=by
      cases dd with
      |true=>rfl
      |false=>exact absurd rfl lv
     subst hdd
     by_cases eb:j.b=i.b
     ·rw[eb,hb] at g4;cases g4
      exact⟨j,g1,g2,g3,C',fz,by rw[eb];exact st.at',by rw[hsz];exact g5,g6,fun q=>(by cases q),fun q=>(by cases q)⟩
     ·exact⟨j,g1,g2,g3,D,fz',by rw[st.ne _ eb];exact g4,g5,g6,g7,g8⟩
    |map _ _ _=>exact absurd trivial lv
    |miter _ _ _=>exact absurd trivial lv
    |siter _ _ _=>exact absurd trivial lv
    |arr _ _=>exact absurd trivial lv
    |rcd _=>exact absurd trivial lv
    |dat _=>exact absurd trivial lv
    |mps _ _ _ _ _=>exact absurd trivial lv
 ·intro m q p1 p2 j k hm hq h1 h2 l1 l2 ne e1 e2 eb
  rw[gs m hm] at h1
  rw[gs q hq] at h2
  by_cases d:m=n
  ·rw[if_pos d] at h1;cases h1;exact l1.elim
  ·rw[if_neg d] at h1
   by_cases d':q=n
   ·rw[if_pos d'] at h2;cases h2;exact l2.elim
   ·rw[if_neg d'] at h2
    exact R.inj m q p1 p2 j k hm hq h1 h2 l1 l2 ne e1 e2 eb
 ·intro m cs e2 frz root rel al hm h1 cs' e' frz' dd' root' rel' al' h2
  rw[gs m hm] at h1
  by_cases d:m=n
  ·rw[if_pos d] at h1;cases h1
  ·rw[if_neg d] at h1
   obtain⟨_,_,_,⟨⟨r,hr⟩,_⟩,_⟩:=R.obj m _ hm h1
   rw[gs root (R.dom root r hr).1] at h2
   by_cases d':root=n
   ·rw[if_pos d'] at h2;cases h2
   ·rw[if_neg d'] at h2
    exact R.fam m cs e2 frz root rel al hm h1 _ _ _ _ _ _ _ h2
 ·intro m q since seen kt es clock j k ents b borns stepped hm hq h1 h2 e1 e2 b1 b2
  have a1:=apart m _ j hm h1 trivial e1
  have a2:=apart q _ k hq h2 trivial e2
  rw[st.ne _ a1] at b1
  rw[st.ne _ a2] at b2
  rw[gs m hm] at h1
  rw[gs q hq] at h2
  by_cases d:m=n
  ·rw[if_pos d] at h1;cases h1
  ·rw[if_neg d] at h1
   by_cases d':q=n
   ·rw[if_pos d'] at h2;cases h2
   ·rw[if_neg d'] at h2
    exact R.iter m q since seen kt es clock j k ents b borns stepped hm hq h1 h2 e1 e2 b1 b2
 ·intro m j cs e2 frz rel al hm h1 e1
  rw[gs m hm] at h1
  by_cases d:m=n
  ·rw[if_pos d] at h1;cases h1
  ·rw[if_neg d] at h1
   exact R.own m j cs e2 frz rel al hm h1 e1
 ·intro b ob hbo
  have :=R.stay b ob hbo
  by_cases eb:b=i.b
  ·subst eb
   have :=R.sep n i _ hn ho trivial hi
   rw[this] at hbo;cases hbo
  ·rw[st.ne _ eb];exact this
 ·intro m j o1 hm h1 l1 e1
  rw[gs m hm] at h1
  by_cases d:m=n
  ·rw[if_pos d] at h1;cases h1;exact l1.elim
  ·rw[if_neg d] at h1
   exact R.sep m j o1 hm h1 l1 e1
 ·rw[st.size];exact R.lo
 ·first|exact R.solo|(rw[hx.lo];exact R.solo)|(rw[hlo];exact R.solo)
 ·exact R.hid_set hi ho trivial (by intros;simp) (by intros;simp) fun k _=>st.ne k
theorem Rel.named{E:Env}{base:Bs}{w0:World}{Γ:Gam}{h:Tr AObj}{w:World}(R:Rel E base w0 Γ h w){n:Nat}(hn:n<LH)(hf:Γ n=none)(i:Info)(h1:base.own i.b)(h2:i.b<w.heap.size){c:Univ.C}{l:List (Univ.S c)}(hhid:Hid base (Γ.add n i) (h.set n (.arr c l)) w)
  (hap:∀m p j,m<LH→h.get m=some p→p.live→Γ m=some j→j.b≠i.b) (hsp:Γ.fz i.b=none) (hO:ORel E (Γ.add n i) w n (.arr c l)):Rel E base w0 (Γ.add n i) (h.set n (.arr c l)) w:=by
 have hx:Ext Γ (Γ.add n i):=Gam.ext_add hf
 have gs:=R.gs n (.arr c l) hn
 have notyet:∀o',h.get n=some o'→¬o'.live:=fun o' e hl=>by
  obtain⟨j,hj⟩:=(R.obj n o' hn e).name hl
  rw[hf] at hj;cases hj
 constructor
 ·exact A0j _ DH h n R.deep
 ·exact R.below
 ·exact R.room
 ·intro m j e
  by_cases d:m=n
  ·subst d;rw[Gam.add_at] at e;cases e
   exact⟨hn,h1,h2⟩
  ·rw[Gam.add_ne d] at e
   exact R.dom m j e
 ·intro m p hm hp
  rw[gs m hm] at hp
  by_cases d:m=n
  ·subst d;rw[if_pos rfl] at hp;cases hp;exact hO
  ·rw[if_neg d] at hp
   exact(R.obj m p hm hp).keep hx fun j hj=>rfl
 ·intro m q p1 p2 j k hm hq g1 g2 l1 l2 ne e1 e2 eb
  rw[gs m hm] at g1
  rw[gs q hq] at g2
  by_cases d:m=n
  ·subst d
   rw[Gam.add_at] at e1;cases e1
   have dq:q≠m:=fun x=>ne x.symm
   rw[Gam.add_ne dq] at e2
   rw[if_neg dq] at g2
   exact absurd eb.symm (hap q p2 k hq g2 l2 e2)
  ·rw[Gam.add_ne d] at e1
   rw[if_neg d] at g1
   by_cases d':q=n
   ·subst d'
    rw[Gam.add_at] at e2;cases e2
    exact absurd eb (hap m p1 j hm g1 l1 e1)
   ·rw[Gam.add_ne d'] at e2
    rw[if_neg d'] at g2
    exact R.inj m q p1 p2 j k hm hq g1 g2 l1 l2 ne e1 e2 eb
 ·intro m cs e2 frz root rel al hm g1 cs' e' frz' dd' root' rel' al' g2
  rw[gs m hm] at g1
  by_cases d:m=n
  ·rw[if_pos d] at g1;cases g1
  ·rw[if_neg d] at g1
   obtain⟨_,_,_,⟨⟨r,hr⟩,_⟩,_⟩:=R.obj m _ hm g1
   rw[gs root (R.dom root r hr).1] at g2
   by_cases d':root=n
   ·rw[d',hf] at hr;cases hr
   ·rw[if_neg d'] at g2
    exact R.fam m cs e2 frz root rel al hm g1 _ _ _ _ _ _ _ g2
 ·intro m q since seen kt es clock j k ents b borns stepped hm hq g1 g2 e1 e2 b1 b2
  rw[gs m hm] at g1
  rw[gs q hq] at g2
  by_cases d:m=n
  ·rw[if_pos d] at g1;cases g1
  ·rw[if_neg d] at g1
   by_cases d':q=n
   ·rw[if_pos d'] at g2;cases g2
   ·rw[if_neg d'] at g2
    rw[Gam.add_ne d] at e1
    rw[Gam.add_ne d'] at e2
    obtain⟨z1,z2⟩:=R.iter m q since seen kt es clock j k ents b borns stepped hm hq g1 g2 e1 e2 b1 b2
    exact⟨z1,fun z=>(z2 z).ext hx⟩
 ·intro m j cs e2 frz rel al hm g1 e1
  rw[gs m hm] at g1
  by_cases d:m=n
  ·rw[if_pos d] at g1;cases g1
  ·rw[if_neg d] at g1
   rw[Gam.add_ne d] at e1
   exact R.own m j cs e2 frz rel al hm g1 e1
 ·exact R.stay
 ·intro m j o1 hm g1 l1 e1
  rw[gs m hm] at g1
  by_cases d:m=n
  ·subst d
   rw[Gam.add_at] at e1;cases e1
   exact hsp
  ·rw[if_neg d] at g1
   rw[Gam.add_ne d] at e1
   exact R.sep m j o1 hm g1 l1 e1
 ·exact R.lo
 ·first|exact R.solo|(rw[hx.lo];exact R.solo)|(rw[hlo];exact R.solo)
 ·exact hhid
theorem Rel.putArr{E:Env}{base:Bs}{w0:World}{Γ:Gam}{h:Tr AObj}{w w':World}(R:Rel E base w0 Γ h w){n:Nat}{i:Info}(hi:Γ n=some i){c:Univ.C}{l:List (Univ.S c)}(ho:h.get n=some (.arr c l))
  {C C':Array Value} {e:TypeId} {fz:Nat×Nat} (hb:w.heap[i.b]?=some (.cells C e fz)) (st:G0X w i.b C' e fz w') (hsz:C'.size=C.size) {c':Univ.C} {l':List (Univ.S c')} (hO:ORel E Γ w' n (.arr c' l')):
  Rel E base w0 Γ (h.set n (.arr c' l')) w':=by
 have hn:=(R.dom n i hi).1
 have gs:=R.gs n (.arr c' l') hn
 have nok:∀(j:Info)(p:AObj),¬Kin j i p (.arr c l):=fun j p k=>by cases p<;>exact k
 have nok':∀(j:Info)(p:AObj),¬Kin i j (.arr c l) p:=fun j p k=>k
 constructor
 ·exact A0j _ DH h n R.deep
 ·refine R.below.trans ⟨st.os,st.tape,st.output,by rw[st.size];exact Nat.le_refl _,fun k hk hx=>st.ne k (I0F (R.dom n i hi).2.1 hk hx),O0A hb st.at' hsz fun k _=>st.ne k⟩
 ·rw[st.size];exact R.room
 ·intro m j hj;rw[st.size];exact R.dom m j hj
 ·intro m p hm hp
  rw[gs m hm] at hp
  by_cases d:m=n
  ·subst d
   rw[if_pos rfl] at hp;cases hp;exact hO
  ·rw[if_neg d] at hp
   have hOm:=R.obj m p hm hp
   by_cases lv:p.live
   ·exact hOm.keep (Ext.refl _) fun j hj=>st.ne _ fun eb=>nok j p (R.inj m n p _ j i hm hn hp ho lv trivial d hj hi eb)
   ·cases p with
    |done=>trivial
    |
     cells cs e2 frz dd root rel al=>
     obtain⟨j,g1,g2,g3,D,fz',g4,g5,g6,g7,g8⟩:=hOm
     have hdd:dd=true:=by
      cases dd with
      |true=>rfl
      |false=>exact absurd rfl lv
     subst hdd
     by_cases eb:j.b=i.b
     ·rw[eb,hb] at g4;cases g4
      exact⟨j,g1,g2,g3,C',fz,by rw[eb];exact st.at',by rw[hsz];exact g5,g6,fun q=>(by cases q),fun q=>(by cases q)⟩
     ·exact⟨j,g1,g2,g3,D,fz',by rw[st.ne _ eb];exact g4,g5,g6,g7,g8⟩
    |map _ _ _=>exact absurd trivial lv
    |miter _ _ _=>exact absurd trivial lv
    |siter _ _ _=>exact absurd trivial lv
    |arr _ _=>exact absurd trivial lv
    |rcd _=>exact absurd trivial lv
    |dat _=>exact absurd trivial lv
    |mps _ _ _ _ _=>exact absurd trivial lv
 ·intro m q p1 p2 j k hm hq h1 h2 l1 l2 ne e1 e2 eb
  rw[gs m hm] at h1
  rw[gs q hq] at h2
  by_cases d:m=n
  ·rw[if_neg (fun x=>ne (by rw[d,x]))] at h2
   subst d
   rw[hi] at e1;cases e1
   exact(nok' _ _ (R.inj m q _ p2 i k hm hq ho h2 trivial l2 ne hi e2 eb)).elim
  ·rw[if_neg d] at h1
   by_cases d':q=n
   ·subst d'
    rw[hi] at e2;cases e2
    exact(nok _ _ (R.inj m q p1 _ j i hm hq h1 ho l1 trivial ne e1 hi eb)).elim
   ·rw[if_neg d'] at h2
    exact R.inj m q p1 p2 j k hm hq h1 h2 l1 l2 ne e1 e2 eb
 ·intro m cs e2 frz root rel al hm h1 cs' e' frz' dd' root' rel' al' h2
  rw[gs m hm] at h1
  by_cases d:m=n
  ·rw[if_pos d] at h1;cases h1
  ·rw[if_neg d] at h1
   obtain⟨_,_,_,⟨⟨r,hr⟩,_⟩,_⟩:=R.obj m _ hm h1
   rw[gs root (R.dom root r hr).1] at h2
   by_cases d':root=n
   ·rw[if_pos d'] at h2;cases h2
   ·rw[if_neg d'] at h2
    exact R.fam m cs e2 frz root rel al hm h1 _ _ _ _ _ _ _ h2
 ·intro m q since seen kt es clock j k ents b borns stepped hm hq h1 h2 e1 e2 b1 b2
  rw[gs m hm] at h1
  rw[gs q hq] at h2
  have cm:m≠n:=fun x=>by subst x;rw[if_pos rfl] at h1;cases h1
  have cq:q≠n:=fun x=>by subst x;rw[if_pos rfl] at h2;cases h2
  rw[if_neg cm] at h1
  rw[if_neg cq] at h2
  have d1:j.b≠i.b:=fun eb=>nok j _ (R.inj m n _ _ j i hm hn h1 ho trivial trivial cm e1 hi eb)
  have d2:k.b≠i.b:=fun eb=>nok k _ (R.inj q n _ _ k i hq hn h2 ho trivial trivial cq e2 hi eb)
  rw[st.ne _ d1] at b1
  rw[st.ne _ d2] at b2
  exact R.iter m q since seen kt es clock j k ents b borns stepped hm hq h1 h2 e1 e2 b1 b2
 ·intro m j cs e2 frz rel al hm h1 e1
  rw[gs m hm] at h1
  by_cases d:m=n
  ·rw[if_pos d] at h1;cases h1
  ·rw[if_neg d] at h1
   exact R.own m j cs e2 frz rel al hm h1 e1
 ·intro b ob hb1
  rw[st.ne b fun q=>?_]
  ·exact R.stay b ob hb1
  ·have :=R.sep n i _ hn ho trivial hi
   rw[q,this] at hb1;cases hb1
 ·intro m j o1 hm h1 l1 e1
  rw[gs m hm] at h1
  by_cases d:m=n
  ·subst d
   rw[hi] at e1;cases e1
   exact R.sep m i _ hm ho trivial hi
  ·rw[if_neg d] at h1
   exact R.sep m j o1 hm h1 l1 e1
 ·rw[st.size];exact R.lo
 ·first|exact R.solo|(rw[hx.lo];exact R.solo)|(rw[hlo];exact R.solo)
 ·exact R.hid_set hi ho trivial (by intros;simp) (by intros;simp) fun k _=>st.ne k
def W1(x y:Option AObj):Prop:=
 y=x∨y=none∨y=some .done∨∃cs e frz frz' d d' root rel al al',x=some (.cells cs e frz d root rel al)∧y=some (.cells cs e frz' d' root rel al')∧(d=true→d'=true)∧(frz=true→frz'=true)
theorem W1.refl(x:Option AObj):W1 x x:=.inl rfl
theorem W1.trans{x y z:Option AObj}(h:W1 x y)(k:W1 y z):W1 x z:=by
 rcases k with rfl|rfl|rfl|⟨cs,e,f,f',d,d',r,l,a,a',k1,k2,k3,k4⟩
 ·exact h
 ·exact .inr (.inl rfl)
 ·exact .inr (.inr (.inl rfl))
 ·rcases h with rfl|rfl|rfl|⟨cs2,e2,f2,f2',d2,d2',r2,l2,a2,a2',g1,g2,g3,g4⟩
  ·exact .inr (.inr (.inr ⟨cs,e,f,f',d,d',r,l,a,a',k1,k2,k3,k4⟩))
  ·cases k1
  ·cases k1
  ·rw[g2] at k1;cases k1
   exact .inr (.inr (.inr ⟨_,_,f2,f',d2,d',_,_,a2,a',g1,k2,fun q=>k3 (g3 q),fun q=>k4 (g4 q)⟩))
def Weak(h h':Tr AObj):Prop:=∀m,m<LH→W1 (h.get m) (h'.get m)
theorem Weak.refl(h:Tr AObj):Weak h h:=fun _ _=>.refl _
theorem Weak.trans{a b c:Tr AObj}(h:Weak a b)(k:Weak b c):Weak a c:=fun m hm=>(h m hm).trans (k m hm)
theorem Weak.cells{h h':Tr AObj}(W:Weak h h'){m:Nat}(hm:m<LH){cs e frz d root rel al}(g:h'.get m=some (.cells cs e frz d root rel al)):
  ∃frz0 d0 al0,h.get m=some (.cells cs e frz0 d0 root rel al0)∧(d=false→d0=false)∧(frz=false→frz0=false):=by
 rcases W m hm with q|q|q|⟨cs',e',f,f',d1,d2,r,l,a,a',k1,k2,k3,k4⟩
 ·exact⟨frz,d,al,by rw[←q];exact g,id,id⟩
 ·rw[g] at q;cases q
 ·rw[g] at q;cases q
 ·rw[g] at k2;cases k2
  refine⟨f,d1,a,k1,fun q=>?_,fun q=>?_⟩
  ·cases d1 with
   |false=>rfl
   |true=>rw[k3 rfl] at q;cases q
  ·cases f with
   |false=>rfl
   |true=>rw[k4 rfl] at q;cases q
theorem Weak.other{h h':Tr AObj}(W:Weak h h'){m:Nat}(hm:m<LH){o:AObj}(g:h'.get m=some o)(nc:∀cs e frz d root rel al,o≠.cells cs e frz d root rel al)(nd:o≠.done):
  h.get m=some o:=by
 rcases W m hm with q|q|q|⟨cs',e',f,f',d1,d2,r,l,a,a',k1,k2,k3,k4⟩
 ·rw[←q];exact g
 ·rw[g] at q;cases q
 ·rw[g] at q;cases q;exact absurd rfl nd
 ·rw[g] at k2;cases k2;exact(nc _ _ _ _ _ _ _ rfl).elim
theorem Weak.live{h h':Tr AObj}(W:Weak h h'){m:Nat}(hm:m<LH){o:AObj}(ho:h'.get m=some o)(hl:o.live):∃p,h.get m=some p∧p.live∧((∀cs e frz d root rel al,o≠.cells cs e frz d root rel al)→p=o):=by
 cases o with
 |
  cells cs e frz d root rel al=>
  obtain⟨f0,d0,a0,g,g1,_⟩:=W.cells hm ho
  exact⟨_,g,g1 hl,fun h=>absurd rfl (h _ _ _ _ _ _ _)⟩
 |done=>exact hl.elim
 |_=>exact⟨_,W.other hm ho (by intros;simp) (by simp),trivial,fun _=>rfl⟩
theorem Rel.hid_weak{E:Env}{base:Bs}{w0:World}{Γ:Gam}{h hA:Tr AObj}{w w':World}(R:Rel E base w0 Γ h w)(W:Weak h hA){n:Nat}{i:Info}(hi:Γ n=some i){o:AObj}(ho:h.get n=some o)(hl:o.live)
  (nm:∀k c m q l,o≠.mps k c m q l) (ne:∀k,k<w.heap.size→k≠i.b→w'.heap[k]?=w.heap[k]?):Hid base Γ hA w':=by
 have hn:=(R.dom n i hi).1
 refine R.hid.keep ⟨fun k c m q l e=>?_,fun m p j hm hp hpl e=>?_,fun b _ _ _ hb hB=>⟨ne b (Array.getElem?_eq_some_iff.1 hb).1 fun e=>hB.2 n o i hn ho hl hi e.symm,hB.1⟩,fun _ _ e=>e⟩
 ·obtain⟨p,p1,p2,p3⟩:=W.live (by decide) e trivial
  have :=p3 (by intros;simp)
  subst this
  refine⟨p1,fun j hj=>⟨hj,ne _ (R.dom 0 j hj).2.2 fun eb=>?_⟩⟩
  by_cases c0:0=n
  ·subst c0;rw[ho] at p1;cases p1;exact absurd rfl (nm _ _ _ _ _)
  ·have :=R.inj 0 n _ o j i (by decide) hn p1 ho trivial hl c0 hj hi eb
   cases o<;>exact this
 ·obtain⟨p',p1,p2,_⟩:=W.live hm hp hpl
  exact .inr ⟨m,p',j,hm,p1,p2,e,rfl⟩
theorem Rel.hid_share{E:Env}{base:Bs}{w0:World}{Γ:Gam}{h hA:Tr AObj}{w w':World}(R:Rel E base w0 Γ h w)(W:Weak h hA)(hd:hA.deep DH){n r:Nat}{i i':Info}(hi:Γ n=some i){o o':AObj}(ho:h.get n=some o)(hl:o.live)
  (nm:∀k c m q l,o≠.mps k c m q l) (nm':∀k c m q l,o'≠.mps k c m q l) (hr:r<LH) (hf:Γ r=none) (hb:i'.b=i.b) (ne:∀k,k<w.heap.size→k≠i.b→w'.heap[k]?=w.heap[k]?):
  Hid base (Γ.add r i') (hA.set r o') w':=by
 have hn:=(R.dom n i hi).1
 have gs:∀m,m<LH→(hA.set r o').get m=if m=r then some o' else hA.get m:=fun m hm=>A0y o' DH hA r m hd hr hm
 refine R.hid.keep ⟨fun k c m q l e=>?_,fun m p j hm hp hpl e=>?_,fun b _ _ _ hb hB=>⟨ne b (Array.getElem?_eq_some_iff.1 hb).1 fun e=>hB.2 n o i hn ho hl hi e.symm,hB.1⟩,fun _ _ e=>e⟩
 ·rw[gs 0 (by decide)] at e
  by_cases c1:0=r
  ·rw[if_pos c1] at e;cases e;exact absurd rfl (nm' _ _ _ _ _)
  ·rw[if_neg c1] at e
   obtain⟨p,p1,p2,p3⟩:=W.live (by decide) e trivial
   have :=p3 (by intros;simp)
   subst this
   refine⟨p1,fun j hj=>?_⟩
   rw[Gam.add_ne c1] at hj
   refine⟨hj,ne _ (R.dom 0 j hj).2.2 fun eb=>?_⟩
   by_cases c0:0=n
   ·subst c0;rw[ho] at p1;cases p1;exact absurd rfl (nm _ _ _ _ _)
   ·have :=R.inj 0 n _ o j i (by decide) hn p1 ho trivial hl c0 hj hi eb
    cases o<;>exact this
 ·rw[gs m hm] at hp
  by_cases c:m=r
  ·subst c;rw[Gam.add_at] at e;cases e;exact .inr ⟨n,o,i,hn,ho,hl,hi,hb.symm⟩
  ·rw[if_neg c] at hp
   rw[Gam.add_ne c] at e
   obtain⟨p',p1,p2,_⟩:=W.live hm hp hpl
   exact .inr ⟨m,p',j,hm,p1,p2,e,rfl⟩
theorem Rel.weak{E:Env}{base:Bs}{w0:World}{Γ:Gam}{h h':Tr AObj}{w:World}(R:Rel E base w0 Γ h w)(hd:h'.deep DH)(W:Weak h h')
  (fam:∀n cs e frz root rel al,n<LH→h'.get n=some (.cells cs e frz false root rel al)→∀cs' e' frz' d' root' rel' al',root<LH→h'.get root=some (.cells cs' e' frz' d' root' rel' al')→(n,rel,rel+cs.length)∈al')
  (hal:∀n cs e frz d root rel al,n<LH→h'.get n=some (.cells cs e frz d root rel al)→∀x∈al,x.1<LH):
  Rel E base w0 Γ h' w:=by
 have live:∀m o,m<LH→h'.get m=some o→o.live→∃p,h.get m=some p∧p.live∧∀i j q,(Kin i j p q→Kin i j o q)∧(Kin i j q p→Kin i j q o):=by
  intro m o hm ho hl
  cases o with
  |
   cells cs e frz d root rel al=>
   obtain⟨f0,d0,a0,g,g1,_⟩:=W.cells hm ho
   exact⟨_,g,g1 hl,fun i j q=>⟨fun k=>by cases q<;>exact k,fun k=>by cases q<;>exact k⟩⟩
  |done=>exact hl.elim
  |map kt es c=>exact⟨_,W.other hm ho (by intros;simp) (by simp),trivial,fun _ _ _=>⟨id,id⟩⟩
  |miter m' s l=>exact⟨_,W.other hm ho (by intros;simp) (by simp),trivial,fun _ _ _=>⟨id,id⟩⟩
  |siter s p=>exact⟨_,W.other hm ho (by intros;simp) (by simp),trivial,fun _ _ _=>⟨id,id⟩⟩
  |arr c l=>exact⟨_,W.other hm ho (by intros;simp) (by simp),trivial,fun _ _ _=>⟨id,id⟩⟩
  |rcd k=>exact⟨_,W.other hm ho (by intros;simp) (by simp),trivial,fun _ _ _=>⟨id,id⟩⟩
  |dat d=>exact⟨_,W.other hm ho (by intros;simp) (by simp),trivial,fun _ _ _=>⟨id,id⟩⟩
  |mps _ _ _ _ _=>exact⟨_,W.other hm ho (by intros;simp) (by simp),trivial,fun _ _ _=>⟨id,id⟩⟩
 refine{deep:=hd,below:=R.below,room:=R.room,dom:=R.dom,obj:=?_,inj:=?_,fam:=?_,iter:=?_,own:=?_,stay:=R.stay,sep:=fun n i o hn ho hl e=>let⟨p,hp,lp,_⟩:=live n o hn ho hl;R.sep n i p hn hp lp e,lo:=R.lo,solo:=R.solo,hid:=R.hid.keep ⟨fun k c m q l e=>⟨W.other (by decide) e (by intros;simp) (by simp),fun _ e=>⟨e,rfl⟩⟩,fun m o j hm ho hl e=>let⟨p,hp,lp,_⟩:=live m o hm ho hl;.inr ⟨m,p,j,hm,hp,lp,e,rfl⟩,fun _ _ _ _ _ h=>⟨rfl,h.1⟩,fun _ _ e=>e⟩}
 ·intro n o hn ho
  cases o with
  |
   cells cs e frz d root rel al=>
   obtain⟨f0,d0,a0,g,g1,g2⟩:=W.cells hn ho
   obtain⟨i,h1,h2,h3,C,fz,h4,h5,h6,h7,h8⟩:=R.obj n _ hn g
   exact⟨i,h1,h2,⟨h3.1,hal n _ _ _ _ _ _ _ hn ho⟩,C,fz,h4,h5,h6,fun q=>h7 (g1 q),fun q q'=>h8 (g1 q) (g2 q')⟩
  |done=>trivial
  |map kt es c=>exact R.obj n _ hn (W.other hn ho (by intros;simp) (by simp))
  |miter m' s l=>exact R.obj n _ hn (W.other hn ho (by intros;simp) (by simp))
  |siter s p=>exact R.obj n _ hn (W.other hn ho (by intros;simp) (by simp))
  |arr c l=>exact R.obj n _ hn (W.other hn ho (by intros;simp) (by simp))
  |rcd k=>exact R.obj n _ hn (W.other hn ho (by intros;simp) (by simp))
  |dat d=>exact R.obj n _ hn (W.other hn ho (by intros;simp) (by simp))
  |mps _ _ _ _ _=>exact R.obj n _ hn (W.other hn ho (by intros;simp) (by simp))
 ·intro n m o p i j hn hm ho hp lo lp ne ei ej eb
  obtain⟨o',ho',lo',ko⟩:=live n o hn ho lo
  obtain⟨p',hp',lp',kp⟩:=live m p hm hp lp
  have :=R.inj n m o' p' i j hn hm ho' hp' lo' lp' ne ei ej eb
  exact(kp i j o).2 ((ko i j p').1 this)
 ·intro n cs e frz root rel al hn ho cs' e' frz' d' root' rel' al' hr
  obtain⟨f0,d0,a0,g,g1,g2⟩:=W.cells hn ho
  obtain⟨_,_,_,⟨⟨r,h3⟩,_⟩,_⟩:=R.obj n _ hn g
  exact fam n cs e frz root rel al hn ho cs' e' frz' d' root' rel' al' (R.dom root r h3).1 hr
 ·intro n m since seen kt es clock i j ents b borns stepped hn hm h1 h2
  exact R.iter n m since seen kt es clock i j ents b borns stepped hn hm (W.other hn h1 (by intros;simp) (by simp)) (W.other hm h2 (by intros;simp) (by simp))
 ·intro n i cs e frz rel al hn h1 e1
  obtain⟨f0,d0,a0,g,g1,_⟩:=W.cells hn h1
  have :=g1 rfl
  subst this
  exact R.own n i _ _ _ _ _ hn g e1
theorem G0q{h:Tr AObj}(hd:h.deep DH){n:Nat}(hn:n<LH){o o':AObj}(ho:h.get n=some o)(w:W1 (some o) (some o')):Weak h (h.set n o'):=by
 intro m hm
 rw[A0y o' DH h n m hd hn hm]
 by_cases c:m=n
 ·subst c;rw[if_pos rfl,ho];exact w
 ·rw[if_neg c];exact .refl _
theorem Rel.kill{E:Env}{base:Bs}{w0:World}{Γ:Gam}{h:Tr AObj}{w:World}(R:Rel E base w0 Γ h w){n:Nat}(hn:n<LH){cs e frz d root rel al}
  (ho:h.get n=some (.cells cs e frz d root rel al)):Rel E base w0 Γ (h.set n (.cells cs e frz true root rel al)) w∧Weak h (h.set n (.cells cs e frz true root rel al)):=by
 have W:=G0q R.deep hn ho (o':=.cells cs e frz true root rel al) (.inr (.inr (.inr ⟨_,_,_,_,_,_,_,_,_,_,rfl,rfl,fun _=>rfl,id⟩)))
 refine⟨R.weak (A0j _ DH h n R.deep) W ?_ ?_,W⟩
 rotate_left
 ·intro m cs1 e1 frz1 d1 root1 rel1 al1 hm h1
  rw[R.gs n _ hn m hm] at h1
  by_cases c:m=n
  ·rw[if_pos c] at h1;cases h1
   obtain⟨_,_,_,⟨_,q⟩,_⟩:=R.obj n _ hn ho;exact q
  ·rw[if_neg c] at h1
   obtain⟨_,_,_,⟨_,q⟩,_⟩:=R.obj m _ hm h1;exact q
 intro m cs1 e1 frz1 root1 rel1 al1 hm h1 cs' e' frz' d' root' rel' al' hr h2
 rw[R.gs n _ hn m hm] at h1
 rw[R.gs n _ hn root1 hr] at h2
 by_cases c:m=n
 ·rw[if_pos c] at h1;cases h1
 ·rw[if_neg c] at h1
  by_cases c':root1=n
  ·subst c'
   rw[if_pos rfl] at h2;cases h2
   exact R.fam m _ _ _ _ _ _ hm h1 _ _ _ _ _ _ _ ho
  ·rw[if_neg c'] at h2
   exact R.fam m _ _ _ _ _ _ hm h1 _ _ _ _ _ _ _ h2
theorem E0n{E:Env}{base:Bs}{w0:World}{Γ:Gam}{w:World}(lo hi keep:Nat):∀(l:List (Nat×Nat×Nat))(s:St),Rel E base w0 Γ s.h w→(∀x∈l,x.1<LH)→(F0q lo hi keep l s).Good→
  ∃
   r s',F0q lo hi keep l s=.ok r s'∧Rel E base w0 Γ s'.h w∧Weak s.h s'.h∧s'.nx=s.nx∧(∀x∈r,x∈l)∧(∀m,s'.h.get m=s.h.get m∨∃cs e frz d root rel al,s.h.get m=some (.cells cs e frz d root rel al)∧s'.h.get m=some (.cells cs e frz true root rel al)∨LH≤m)∧
   ∀x∈l,(x∈r∧(x.1=keep∨x.2.2≤lo∨hi≤x.2.1))∨∃cs e frz root rel al,s'.h.get x.1=some (.cells cs e frz true root rel al)
 |[],s,R,_,_=>⟨[],s,rfl,R,.refl _,rfl,by simp,fun _=>.inl rfl,by simp⟩
 |
  x::l,s,R,hl,g=>by
  unfold F0q at g⊢
  have g1:=A0a g
  obtain⟨r,s1,e1,R1,W1',n1,sub1,dd1,h1⟩:=E0n lo hi keep l s R (fun y hy=>hl y (by simp[hy])) g1
  rw[A0d e1] at g⊢
  cases hb:(Nat.beq x.1 keep||Nat.ble x.2.2 lo||Nat.ble hi x.2.1) with
  |
   true=>
   refine⟨x::r,s1,by simp[A0e],R1,W1',n1,fun y hy=>?_,dd1,fun y hy=>?_⟩
   ·rcases List.mem_cons.1 hy with e|e
    ·subst e;simp
    ·exact List.mem_cons_of_mem _ (sub1 y e)
   ·rcases List.mem_cons.1 hy with e|e
    ·subst e
     refine .inl ⟨by simp,?_⟩
     simp[Nat.beq_eq] at hb
     rcases hb with(q|q)|q
     ·exact .inl q
     ·exact .inr (.inl q)
     ·exact .inr (.inr q)
    ·rcases h1 y e with⟨q1,q2⟩|q
     ·exact .inl ⟨by simp[q1],q2⟩
     ·exact .inr q
  |
   false=>
   simp only[hb,A0f] at g⊢
   have g2:=A0a g
   obtain⟨cs,e,frz,d,root,rel,al,s2,ho,e2,st⟩:=T0g g2
   have hx:x.1<LH:=hl x (by simp)
   obtain⟨R2,W2⟩:=R1.kill hx ho
   rw[A0d e2]
   have gs:∀m,m<LH→s2.h.get m=if m=x.1 then some (.cells cs e frz true root rel al) else s1.h.get m:=fun m hm=>by rw[st.h];exact R1.gs x.1 _ hx m hm
   refine⟨r,s2,rfl,by rw[st.h];exact R2,by rw[st.h];exact W1'.trans W2,by rw[st.nx];exact n1,fun y hy=>List.mem_cons_of_mem _ (sub1 y hy),fun m=>?_,fun y hy=>?_⟩
   ·rcases Nat.lt_or_ge m LH with hm|hm
    ·rw[gs m hm]
     by_cases c:m=x.1
     ·subst c
      rw[if_pos rfl]
      rcases dd1 x.1 with q|⟨cs',e',f',d',r',l',a',q⟩
      ·exact .inr ⟨cs,e,frz,d,root,rel,al,.inl ⟨by rw[←q];exact ho,rfl⟩⟩
      ·rcases q with⟨q1,q2⟩|q
       ·rw[ho] at q2;cases q2
        exact .inr ⟨_,_,_,d',_,_,_,.inl ⟨q1,rfl⟩⟩
       ·omega
     ·rw[if_neg c];exact dd1 m
    ·exact .inr ⟨cs,e,frz,d,root,rel,al,.inr hm⟩
   ·rcases List.mem_cons.1 hy with q|q
    ·subst q
     exact .inr ⟨cs,e,frz,root,rel,al,by rw[gs _ hx,if_pos rfl]⟩
    ·rcases h1 y q with⟨q1,q2⟩|⟨cs',e',f',r',l',a',q1⟩
     ·exact .inl ⟨q1,q2⟩
     ·have hy':y.1<LH:=hl y (by simp[q])
      by_cases c:y.1=x.1
      ·exact .inr ⟨cs,e,frz,root,rel,al,by rw[gs _ hy',if_pos c]⟩
      ·exact .inr ⟨cs',e',f',r',l',a',by rw[gs _ hy',if_neg c];exact q1⟩
theorem O0m{Γ:Gam}{a:AVal}{v:Value}(h:VRel Γ a v)(hc:O0t a=true):G0k v:=by
 cases a with
 |agg l=>cases hc
 |tup l=>cases hc
 |any=>cases hc
 |
  raw u=>
  unfold VRel at h;obtain⟨rfl,k⟩:=h
  refine⟨k,fun c e=>?_⟩
  subst e;cases hc
 |
  slice n off k cap sz=>
  unfold VRel V0z at h
  obtain⟨i,_,_,h⟩:=h
  cases cap with
  |none=>rcases h.2 with⟨C,rfl,_⟩|⟨_,_,y,rfl⟩<;>exact⟨fun c e=>(by cases e),fun c e=>(by cases e)⟩
  |some c=>obtain⟨rfl,_⟩:=h;exact⟨fun c e=>(by cases e),fun c e=>(by cases e)⟩
 |fn f l m=>unfold VRel at h;obtain⟨vs,ws,rfl,_⟩:=h;exact⟨fun c e=>(by cases e),fun c e=>(by cases e)⟩
 |ptr n off=>unfold VRel at h;obtain⟨i,_,rfl⟩:=h;exact⟨fun c e=>(by cases e),fun c e=>(by cases e)⟩
 |map n=>unfold VRel at h;obtain⟨i,_,rfl⟩:=h;exact⟨fun c e=>(by cases e),fun c e=>(by cases e)⟩
 |yld n=>unfold VRel at h;obtain⟨i,_,rfl⟩:=h;exact⟨fun c e=>(by cases e),fun c e=>(by cases e)⟩
 |iface t a=>unfold VRel at h;obtain⟨i,rfl,_⟩:=h;exact⟨fun c e=>(by cases e),fun c e=>(by cases e)⟩
 |dsl c l=>unfold VRel at h;obtain⟨A,cap,rfl⟩:=D0a h;exact⟨fun c e=>(by cases e),fun c e=>(by cases e)⟩
 |dptr c l i o=>unfold VRel at h;obtain⟨_,b,z,cap,_,rfl⟩:=h;exact⟨fun c e=>(by cases e),fun c e=>(by cases e)⟩
 |asl c n off k=>unfold VRel at h;obtain⟨_,_,_,_,_,rfl,_⟩:=h;exact⟨fun c e=>(by cases e),fun c e=>(by cases e)⟩
 |aptr c n j o=>unfold VRel at h;obtain⟨_,_,_,rfl⟩:=h;exact⟨fun c e=>(by cases e),fun c e=>(by cases e)⟩
 |dmp k v m n=>unfold VRel at h;obtain⟨_,_,_,rfl,_⟩:=h;exact⟨fun c e=>(by cases e),fun c e=>(by cases e)⟩
 |_=>unfold VRel at h;subst h;exact⟨fun c e=>(by cases e),fun c e=>(by cases e)⟩
theorem H0P{Γ:Gam}:∀{vs:List AVal}{us:List Value},VRels Γ vs us→E0V vs=true→∀u∈us,G0k u
 |[],us,h,_,u,hu=>by rw[h.nil_inv] at hu;cases hu
 |
  a::vs,us,h,hc,u,hu=>by
  obtain⟨v,ws,rfl,h1,h2⟩:=h.cons_inv
  unfold E0V at hc
  cases ha:O0t a with
  |false=>rw[ha] at hc;cases hc
  |
   true=>
   rw[ha] at hc
   rcases List.mem_cons.1 hu with e|e
   ·subst e;exact O0m h1 ha
   ·exact H0P h2 hc u e
theorem Rel.block{E:Env}{base:Bs}{w0:World}{Γ:Gam}{h:Tr AObj}{w:World}(R:Rel E base w0 Γ h w){n:Nat}{i:Info}(hi:Γ n=some i)
  {cs e frz d root rel al} (ho:h.get n=some (.cells cs e frz d root rel al)):i.asz=cs.length∧((∃r,Γ root=some r)∧∀x∈al,x.1<LH)∧∃C fz,w.heap[i.b]?=some (.cells C e fz)∧C.size=i.csz∧i.o+i.asz≤i.csz∧
   (d=false→∀(k:Nat)(a:AVal),cs[k]?=some a→∃v,C[i.o+k]?=some v∧VRel Γ a v)∧(d=false→frz=false→∀k,k<i.csz→fz.1≤k→k<fz.2→False):=by
 obtain⟨i',h1,h2,h3,h4⟩:=R.obj n _ (R.dom n i hi).1 ho
 rw[hi] at h1;cases h1
 exact⟨h2,h3,h4⟩
theorem Rel.cells{E:Env}{base:Bs}{w0:World}{Γ:Gam}{h:Tr AObj}{w:World}(R:Rel E base w0 Γ h w){n:Nat}{i:Info}(hi:Γ n=some i)
  {cs e frz root rel al} (ho:h.get n=some (.cells cs e frz false root rel al)) {off k:Nat} (hk:off+k≤cs.length):
  ∃C fz,w.heap[i.b]?=some (.cells C e fz)∧i.o+off+k≤C.size∧VRels Γ ((cs.drop off).take k) (C.extract (i.o+off) (i.o+off+k)).toList:=by
 obtain⟨h1,_,C,fz,h2,h3,h4,h5,_⟩:=R.block hi ho
 refine⟨C,fz,h2,by omega,VRels.of_get ?_ ?_⟩
 ·simp;omega
 ·intro j a ha
  have hj:j<k:=by
   rcases Nat.lt_or_ge j k with q|q
   ·exact q
   ·rw[List.getElem?_eq_none (by simp;omega)] at ha;cases ha
  rw[List.getElem?_take,if_pos hj,List.getElem?_drop] at ha
  obtain⟨v,e1,e2⟩:=h5 rfl _ _ ha
  refine⟨v,?_,e2⟩
  rw[Array.getElem?_toList,Array.getElem?_extract,if_pos (by omega)]
  rw[show i.o+off+j=i.o+(off+j) from by omega];exact e1
theorem E0h{P:Program}{E:Env}{base:Bs}{w0:World}{Γ:Gam}{w:World}{s:St}(R:Rel E base w0 Γ s.h w){n:Nat}{i:Info}(hi:Γ n=some i)
  {off:Nat} {vs:List AVal} {us:List Value} (hv:VRels Γ vs us) (g:(storeAt n off vs s).Good):
  ∃s' w',storeAt n off vs s=.ok () s'∧(storeCells ⟨i.b,i.o+off,none⟩ us).run P w=.ok () w'∧Rel E base w0 Γ s'.h w'∧s'.nx=s.nx:=by
 have hn:=(R.dom n i hi).1
 cases vs with
 |nil=>exact⟨s,w,rfl,by rw[hv.nil_inv];simp[storeCells],R,rfl⟩
 |
  cons v vs=>
  change(M.bind (rdHead n) (fun h=>M.bind (rdAlive h.root) fun l=>E0Q n off (v::vs) h l) s).Good at g
  show∃s' w',M.bind (rdHead n) (fun h=>M.bind (rdAlive h.root) fun l=>E0Q n off (v::vs) h l) s=.ok () s'∧_
  have g1:=A0a g
  obtain⟨cs,e,frz,dead,root,rel,al0,s1,ho,e1,q1⟩:=C0j g1
  rw[A0d e1] at g⊢
  have g2:=A0a g
  obtain⟨csr,er,fr,dr,rr,lr,al,s2,hr,e2,q2⟩:=D0R g2
  rw[A0d e2] at g⊢
  simp only[] at hr g⊢
  rw[q1.h] at hr
  obtain⟨hasz,⟨⟨r,hroot⟩,_⟩,C,fz,hb,hcsz,hfit,_,hfrz⟩:=R.block hi ho
  have hrl:=(R.dom root r hroot).1
  have hal:∀x∈al,x.1<LH:=by obtain⟨_,_,_,⟨_,q⟩,_⟩:=R.obj root _ hrl hr;exact q
  --the write itself,once others are out of the way
  have fin:∀s3,Rel E base w0 Γ s3.h w→s3.nx=s.nx→(wrCells n off (v::vs) s3).Good→
    (∀cs' e' frz' root' rel' al',s3.h.get n=some (.cells cs' e' frz' false root' rel' al')→cs'=cs∧e'=e∧root'=root∧rel'=rel)→
    (∀m cs' e' frz' root' rel' al' j,m<LH→m≠n→s3.h.get m=some (.cells cs' e' frz' false root' rel' al')→Γ m=some j→j.b=i.b→
     j.o+cs'.length≤i.o+off∨i.o+off+(v::vs).length≤j.o)→
    ∃s' w',wrCells n off (v::vs) s3=.ok () s'∧(storeCells ⟨i.b,i.o+off,none⟩ us).run P w=.ok () w'∧Rel E base w0 Γ s'.h w'∧s'.nx=s.nx:=by
   intro s3 R3 n3 g3 same ex
   obtain⟨cs',e',root',rel',al',s4,ho',hsz,hac,e4,st4⟩:=F0d g3
   obtain⟨rfl,rfl,rfl,rfl⟩:=same _ _ _ _ _ _ ho'
   obtain⟨hasz',_,C',fz',hb',hcsz',hfit',_,hfrz'⟩:=R3.block hi ho'
   have hlen:us.length=(v::vs).length:=hv.length
   obtain⟨w',run,stored,_⟩:=B0Z (P:=P) us w i.b (i.o+off) 0 C' _ fz' (H0P hv hac) hb' (by omega) (by rw[hcsz'];exact hfrz' rfl rfl)
   refine⟨s4,w',e4,run,?_,by rw[st4.nx];exact n3⟩
   rw[st4.h]
   exact R3.store hn ho' hi hv hsz hb' (by simpa using stored) ex
  have one:∀x,al=[x]→∃s' w',E0Q n off (v::vs) ⟨e,frz,dead,root,rel,cs.length⟩ al s2=.ok () s'∧(storeCells ⟨i.b,i.o+off,none⟩ us).run P w=.ok () w'∧Rel E base w0 Γ s'.h w'∧s'.nx=s.nx:=by
   intro x hx
   subst hx
   change(wrCells n off (v::vs) s2).Good at g
   show∃s' w',wrCells n off (v::vs) s2=.ok () s'∧_
   refine fin s2 (by rw[q2.h,q1.h];exact R) (by rw[q2.nx,q1.nx]) g ?_ ?_
   ·intro cs' e' frz' root' rel' al' h
    rw[q2.h,q1.h,ho] at h;cases h;exact⟨rfl,rfl,rfl,rfl⟩
   ·intro m cs' e' frz' root' rel' al' j hm ne h hj eb
    rw[q2.h,q1.h] at h
    exfalso
    --n is alive:the write says so
    obtain⟨_,_,_,_,_,_,ho',_⟩:=F0d g
    rw[q2.h,q1.h] at ho'
    rw[ho] at ho';cases ho'
    obtain⟨k1,k2⟩:=R.inj m n _ _ j i hm hn h ho rfl rfl ne hj hi eb
    subst k1
    have f1:=R.fam n _ _ _ _ _ _ hn ho _ _ _ _ _ _ _ hr
    have f2:=R.fam m _ _ _ _ _ _ hm h _ _ _ _ _ _ _ hr
    simp at f1 f2
    rw[←f1] at f2
    simp at f2
    exact ne f2.1
  have many:(H0i n off (v::vs) ⟨e,frz,dead,root,rel,cs.length⟩ al s2).Good→∃s' w',H0i n off (v::vs) ⟨e,frz,dead,root,rel,cs.length⟩ al s2=.ok () s'∧(storeCells ⟨i.b,i.o+off,none⟩ us).run P w=.ok () w'∧Rel E base w0 Γ s'.h w'∧s'.nx=s.nx:=by
   intro g
   unfold H0i at g⊢
   have g3:=A0a g
   obtain⟨r',s3,e3,R3,W3,n3,sub3,dd3,h3⟩:=E0n (E:=E) (base:=base) (w0:=w0) (Γ:=Γ) (w:=w) (rel+off) (rel+off+len (v::vs)) n al s2 (by rw[q2.h,q1.h];exact R) hal g3
   rw[A0d e3] at g⊢
   have g4:=A0a g
   obtain⟨cs4,e4',frz4,d4,root4,rel4,al4,s4,ho4,e4,st4⟩:=H0h g4
   rw[A0d e4] at g⊢
   have h0:s2.h=s.h:=by rw[q2.h,q1.h]
   --the families behind it
   have gs4:=fun m hm=>R3.gs root (.cells cs4 e4' frz4 d4 root4 rel4 r') hrl m hm
   have W4:Weak s3.h s4.h:=by rw[st4.h];exact G0q R3.deep hrl ho4 (.inr (.inr (.inr ⟨_,_,_,_,_,_,_,_,_,_,rfl,rfl,id,id⟩)))
   have R4:Rel E base w0 Γ s4.h w:=by
    refine R3.weak (by rw[st4.h];exact A0j _ DH _ _ R3.deep) W4 ?_ ?_
    ·intro m cs1 e1 frz1 root1 rel1 al1 hm h1 cs' e' frz' d' root' rel' al' hroot1 h2
     rw[st4.h,gs4 m hm] at h1
     rw[st4.h,gs4 root1 hroot1] at h2
     --as it was ahead of the new list
     have h1':∃al1',s3.h.get m=some (.cells cs1 e1 frz1 false root1 rel1 al1'):=by
      by_cases c:m=root
      ·subst c;rw[if_pos rfl] at h1;cases h1;exact⟨_,ho4⟩
      ·rw[if_neg c] at h1;exact⟨_,h1⟩
     obtain⟨al1',h1'⟩:=h1'
     by_cases c':root1=root
     ·subst c'
      rw[if_pos rfl] at h2;cases h2
      obtain⟨f0,d0,a0,hm0,hd0,_⟩:=W3.cells hm h1'
      have hd0':=hd0 rfl
      subst hd0'
      rw[h0] at hm0
      have f1:=R.fam m _ _ _ _ _ _ hm hm0 _ _ _ _ _ _ _ hr
      rcases h3 _ f1 with⟨q,_⟩|⟨_,_,_,_,_,_,q⟩
      ·exact q
      ·rw[h1'] at q;cases q
     ·rw[if_neg c'] at h2
      exact R3.fam m _ _ _ _ _ _ hm h1' _ _ _ _ _ _ _ h2
    ·intro m cs1 e1 frz1 d1 root1 rel1 al1 hm h1
     rw[st4.h,gs4 m hm] at h1
     by_cases c:m=root
     ·rw[if_pos c] at h1;cases h1
      exact fun x hx=>hal x (sub3 x hx)
     ·rw[if_neg c] at h1
      obtain⟨_,_,_,⟨_,q⟩,_⟩:=R3.obj m _ hm h1;exact q
   have back:∀m cs' e' frz' root' rel' al',m<LH→s4.h.get m=some (.cells cs' e' frz' false root' rel' al')→∃f0 a0,s.h.get m=some (.cells cs' e' f0 false root' rel' a0):=by
    intro m cs' e' frz' root' rel' al' hm h
    obtain⟨f0,d0,a0,hm0,hd0,_⟩:=(W3.trans W4).cells hm h
    have :=hd0 rfl
    subst this
    rw[h0] at hm0
    exact⟨f0,a0,hm0⟩
   refine fin s4 R4 (by rw[st4.nx,n3,q2.nx,q1.nx]) g ?_ ?_
   ·intro cs' e' frz' root' rel' al' h
    obtain⟨f0,a0,h'⟩:=back n _ _ _ _ _ _ hn h
    rw[ho] at h';cases h';exact⟨rfl,rfl,rfl,rfl⟩
   ·intro m cs' e' frz' root' rel' al' j hm ne h hj eb
    obtain⟨f0,a0,h'⟩:=back m _ _ _ _ _ _ hm h
    obtain⟨_,_,_,_,_,_,hn4,_⟩:=F0d g
    obtain⟨_,_,hn'⟩:=back n _ _ _ _ _ _ hn hn4
    rw[ho] at hn';cases hn'
    obtain⟨k1,k2⟩:=R.inj m n _ _ j i hm hn h' ho rfl rfl ne hj hi eb
    subst k1
    have f2:=R.fam m _ _ _ _ _ _ hm h' _ _ _ _ _ _ _ hr
    rcases h3 _ f2 with⟨q1',q2'⟩|⟨_,_,_,_,_,_,q⟩
    ·simp only[] at q2'
     rw[A0O] at q2'
     rcases q2' with q|q|q
     ·exact absurd q ne
     ·left;omega
     ·right;omega
    ·exfalso
     obtain⟨f9,d9,a9,h9,hd9,_⟩:=W4.cells hm h
     rw[q] at h9
     have :=hd9 rfl
     cases h9
     cases this
  cases al with
  |nil=>exact many g
  |
   cons x l=>
   cases l with
   |nil=>exact one x rfl
   |cons y l=>exact many g
def EnvOk(E:Env)(P:Program):Prop:=∀t ti,E.tyOf t=some ti→mkTI P t=some ti
theorem d0R(P:Program):EnvOk (G0x P) P:=by
 intro t ti h
 unfold Env.tyOf G0x at h
 cases hb:Nat.blt t LY with
 |false=>rw[hb] at h;cases h
 |
  true=>
  rw[hb,A0e] at h
  rwa[C0o DY _ t (show t<4096 by simpa [Nat.blt_eq,LY] using hb)] at h
structure TIOk(P:Program)(t:TypeId)(ti:TI)(i:TypeInfo)(d:TypeDesc)(z:Value):Prop where
 info:P.info? t=some i
 und:P.underlying t=some d
 hz:i.zero=some z
 k:ti.k=B0Q P d
 size:ti.size=i.size
 bytes:ti.bytes=i.bytes
 agg:ti.agg=H0M d
 zero:ti.zero=(G0C z).cells
 guard:ti.guard=P.eqGuardType P.depth t
 stood:ti.stood=P.stoodInHeld t
 aggz:K0C z=H0M d
theorem EnvOk.ok{E:Env}{P:Program}(hE:EnvOk E P){t:TypeId}{ti:TI}(h:E.tyOf t=some ti):∃i d z,TIOk P t ti i d z:=by
 have h1:=hE t ti h
 unfold mkTI at h1
 split at h1
 ·rename_i i d hi hd
  split at h1
  ·rename_i z hz
   cases ha:(K0C z==H0M d) with
   |false=>rw[ha] at h1;cases h1
   |
    true=>
    rw[ha,A0e] at h1
    cases h1
    exact⟨i,d,z,hi,hd,hz,rfl,rfl,rfl,rfl,rfl,rfl,rfl,by simpa using ha⟩
  ·cases h1
 ·cases h1
theorem A0o{E:Env}{P:Program}(hE:EnvOk E P){t:TypeId}{s:St}(g:(E.ti t s).Good):∃ti i d z,E.tyOf t=some ti∧E.ti t s=.ok ti s∧TIOk P t ti i d z:=by
 unfold Env.ti at g⊢
 obtain⟨ti,h1,h2⟩:=A0k g
 obtain⟨i,d,z,h3⟩:=hE.ok h1
 exact⟨ti,i,d,z,h1,h2,h3⟩
section
variable{P:Program}{t:TypeId}{ti:TI}{i:TypeInfo}{d:TypeDesc}{z:Value}
theorem TIOk.cells(T:TIOk P t ti i d z):P.cellsOf t=ti.size:=by unfold Program.cellsOf;rw[T.info,T.size];rfl
theorem TIOk.run_und(T:TIOk P t ti i d z)(w:World):(underlying t).run P w=.ok d w:=run_underlying T.und w
theorem TIOk.run_info(T:TIOk P t ti i d z)(w:World):(typeInfo t).run P w=.ok i w:=by simp[typeInfo,T.info]
theorem TIOk.run_size(T:TIOk P t ti i d z)(w:World):(sizeOf t).run P w=.ok ti.size w:=by simp[sizeOf,T.run_info,T.size]
theorem TIOk.run_agg(T:TIOk P t ti i d z)(w:World):(isAgg t).run P w=.ok ti.agg w:=by
 simp only[isAgg,Sem.run_bind,T.run_und,Result.andThen_ok,T.agg]
 cases d<;>rfl
theorem TIOk.run_zero(T:TIOk P t ti i d z)(w:World):(zeroValue t).run P w=.ok z w:=by
 simp[zeroValue,T.run_info,T.hz]
end
theorem K0A(v:Value):G0C v≠.any:=by
 intro h
 cases v<;>simp[G0C] at h<;>(unfold H0N at h;split at h<;>simp_all)
theorem TIOk.zeros{P:Program}{t:TypeId}{ti:TI}{i:TypeInfo}{d:TypeDesc}{z:Value}(T:TIOk P t ti i d z)(Γ:Gam):VRels Γ ti.zero z.cells.toList:=by
 rw[T.zero];exact K0j (H0t Γ z) (K0A z)
theorem A0B{P:Program}{e:TypeId}(h:0<P.cellsOf e)(w:World):(sizeOf e).run P w=.ok (P.cellsOf e) w:=by
 unfold Program.cellsOf at h⊢
 cases hi:P.info? e with
 |none=>rw[hi] at h;simp at h
 |some i=>simp[sizeOf,typeInfo,hi]
theorem A0S{P:Program}{d:TypeDesc}{e sz:Nat}(h:B0Q P d=.slice e sz):d=.slice e∧sz=P.cellsOf e:=by
 cases d<;>simp[B0Q] at h
 obtain⟨rfl,rfl⟩:=h;exact⟨rfl,rfl⟩
theorem D0u{P:Program}{d:TypeDesc}{n e sz:Nat}(h:B0Q P d=.array n e sz):d=.array n e∧sz=P.cellsOf e:=by
 cases d<;>simp[B0Q] at h
 obtain⟨rfl,rfl,rfl⟩:=h;exact⟨rfl,rfl⟩
theorem C0u{P:Program}{d:TypeDesc}{k e:Nat}(h:B0Q P d=.map k e):d=.map k e:=by
 cases d<;>simp[B0Q] at h
 obtain⟨rfl,rfl⟩:=h;rfl
theorem B0V{P:Program}{d:TypeDesc}(h:B0Q P d=.str):d=.string:=by
 cases d<;>simp[B0Q] at h;rfl
theorem H0d{P:Program}{d:TypeDesc}(h:B0Q P d=.bool):d=.bool:=by
 cases d<;>simp[B0Q] at h;rfl
theorem F0c{P:Program}{d:TypeDesc}{k:IntKind}(h:B0Q P d=.int k):d=.int k:=by
 cases d<;>simp[B0Q] at h;rw[h]
theorem Y0V{P:Program}{d:TypeDesc}(h:B0Q P d=.func):∃a b c,d=.func a b c:=by
 cases d<;>simp[B0Q] at h;exact⟨_,_,_,rfl⟩
theorem D0T{P:Program}{d:TypeDesc}(h:B0Q P d=.uptr):d=.unsafePointer:=by
 cases d<;>simp[B0Q] at h;rfl
theorem H0E{P:Program}{d:TypeDesc}{e:TypeId}{b:Bool}(h:B0Q P d=.ptr e b):d=.pointer e∧b=!Nat.beq (P.cellsOf e) 0:=by
 cases d<;>simp only[B0Q,TK.ptr.injEq,reduceCtorEq] at h
 obtain⟨rfl,rfl⟩:=h;exact⟨rfl,rfl⟩
def fiOf(P:Program)(f:Field):FI:=⟨f.offset,P.cellsOf f.type,f.type,((P.underlying f.type).map H0M).getD false,f.name != "_"⟩
theorem C0L{P:Program}{d:TypeDesc}{fs:List FI}(h:B0Q P d=.struct fs):∃a:Array Field,d=.struct a∧fs=a.toList.map (fiOf P):=by
 cases d<;>simp[B0Q] at h
 exact⟨_,rfl,h.symm⟩
section
variable{P:Program}{E:Env}{base:Bs}{w0:World}{Γ:Gam}{w:World}{s:St}{t:TypeId}
theorem G0r{n off:Nat}{v:Value}(h:VRel Γ (.ptr n off) v):∃i,Γ n=some i∧v=.pointer (some ⟨i.b,i.o+off,none⟩):=by unfold VRel at h;exact h
theorem D0b(R:Rel E base w0 Γ s.h w){n off k:Nat}{i:Info}(hi:Γ n=some i)(g:(rdCells n off k s).Good):
  ∃l s' vs,rdCells n off k s=.ok l s'∧Same s s'∧(loadCells ⟨i.b,i.o+off,none⟩ k).run P w=.ok vs w∧VRels Γ l vs.toList∧l.length=k:=by
 obtain⟨cs,e,frz,root,rel,al,s',ho,hk,he,hs⟩:=C0l g
 obtain⟨C,fz,hb,hsz,hv⟩:=R.cells hi ho hk
 refine⟨_,s',_,he,hs,?_,hv,by simp;omega⟩
 unfold loadCells
 rw[B0B hb k 0 #[] (by omega)]
 simp
theorem N0p(R:Rel E base w0 Γ s.h w){n off:Nat}{i:Info}(hi:Γ n=some i)(g:(rdCell n off s).Good):
  ∃a s' v,rdCell n off s=.ok a s'∧Same s s'∧(load ⟨i.b,i.o+off,none⟩).run P w=.ok v w∧VRel Γ a v:=by
 obtain⟨cs,e,frz,root,rel,al,a,s',ho,ha,he,hs⟩:=I0p g
 obtain⟨h1,_,C,fz,h2,h3,h4,h5,_⟩:=R.block hi ho
 obtain⟨v,e1,e2⟩:=h5 rfl _ _ ha
 refine⟨a,s',v,he,hs,?_,e2⟩
 have :w.cell? ⟨i.b,i.o+off,none⟩=some v:=by simp[World.cell?,h2,e1]
 simp[this]
theorem H0q{x:Cell Univ.C Univ.S}{v:Value}(h:CRel Γ.fz x v):VRel Γ (H0I x) v:=by
 cases h with
 |b x=>unfold H0I VRel;rfl
 |i k x=>unfold H0I VRel;rfl
 |s x=>unfold H0I VRel;rfl
 |f n=>unfold H0I VRel;exact⟨#[],#[],rfl,by unfold VRels;rfl,by unfold VRels;rfl⟩
 |nil c A cap=>unfold H0I VRel;exact .nil c A cap
 |sl c l b o cap C e z g hb hc hg h=>unfold H0I VRel;exact .sl c l b o cap C e z g hb hc hg h
theorem d0b(R:Rel E base w0 Γ s.h w){c:Univ.C}{l:List (Univ.S c)}{i b z cap:Nat}(hi:i<l.length)(h:CRel Γ.fz (.sl c l) (.slice (some ⟨b,z,none⟩) l.length cap)):
  ∃
   C e fz,w.heap[b]?=some (.cells C e fz)∧z+i*Univ.esz c+Univ.esz c≤C.size∧(C0y c l i).length=Univ.esz c∧
   ∀(k:Nat)(a:AVal),(C0y c l i)[k]?=some a→∃v,C[z+i*Univ.esz c+k]?=some v∧VRel Γ a v:=by
 have hx:l[i]?=some (l.getD i (Univ.dflt c)):=by
  rw[List.getD_eq_getElem?_getD,List.getElem?_eq_getElem hi];rfl
 generalize hv:Value.slice (some ⟨b,z,none⟩) l.length cap=v at h
 cases h with
 |nil=>simp at hi
 |
  sl _ _ b' o' cap' C e z' g hb hc hg hh=>
  cases hv
  have hlen:(C0y c l i).length=Univ.esz c:=by
   unfold C0y
   rw[C0m,List.length_map];exact Univ.len c _
  have hp:=Univ.pos c
  refine⟨C,e,z',R.stay _ _ hb,?_,hlen,fun k a ha=>?_⟩
  ·have :=hg i _ hx (Univ.esz c-1) (by omega)
   have :=(Array.getElem?_eq_some_iff.1 this).1
   omega
  ·have hk:k<Univ.esz c:=by
    rw[←hlen]
    exact(List.getElem?_eq_some_iff.1 ha).1
   unfold C0y at ha
   rw[C0m,List.getElem?_map] at ha
   cases hcl:(Univ.cells c (l.getD i (Univ.dflt c)))[k]? with
   |none=>rw[hcl] at ha;cases ha
   |
    some cl=>
    rw[hcl] at ha
    cases ha
    exact⟨g i k,hg i _ hx k hk,H0q (hh i _ hx k cl hcl)⟩
theorem Q0s(R:Rel E base w0 Γ s.h w){n:Nat}{i:Info}(hi:Γ n=some i){c:Univ.C}{l:List (Univ.S c)}(ho:s.h.get n=some (.arr c l)):
  i.asz=l.length∧∃C e fz,w.heap[i.b]?=some (.cells C e fz)∧C.size=i.csz∧ARel Γ.fz c l C∧l.length*Univ.esz c≤C.size∧∀k,k<C.size→fz.1≤k→k<fz.2→False:=by
 obtain⟨i',hi',h1,h2⟩:=R.obj n _ (R.dom n i hi).1 ho
 rw[hi] at hi';cases hi'
 exact⟨h1,h2⟩
theorem U0J{fz:Nat→Option Obj}{c:Univ.C}{l:List (Univ.S c)}{C:Array Value}(h:ARel fz c l C)(hs:l.length*Univ.esz c≤C.size){j:Nat}(hj:j<l.length):
  j*Univ.esz c+Univ.esz c≤C.size∧(C0y c l j).length=Univ.esz c∧∀{Γ:Gam},Γ.fz=fz→∀(k:Nat)(a:AVal),(C0y c l j)[k]?=some a→∃v,C[j*Univ.esz c+k]?=some v∧VRel Γ a v:=by
 have hx:l[j]?=some (l.getD j (Univ.dflt c)):=by
  rw[List.getD_eq_getElem?_getD,List.getElem?_eq_getElem hj];rfl
 have hlen:(C0y c l j).length=Univ.esz c:=by
  unfold C0y
  rw[C0m,List.length_map];exact Univ.len c _
 refine⟨?_,hlen,?_⟩
 ·have :(j+1)*Univ.esz c≤l.length*Univ.esz c:=Nat.mul_le_mul_right _ hj
  rw[Nat.succ_mul] at this;omega
 ·intro Γ hΓ k a ha
  unfold C0y at ha
  rw[C0m,List.getElem?_map] at ha
  cases hcl:(Univ.cells c (l.getD j (Univ.dflt c)))[k]? with
  |none=>rw[hcl] at ha;cases ha
  |
   some cl=>
   rw[hcl] at ha
   cases ha
   obtain⟨v,h1,h2⟩:=h j _ hx k cl hcl
   exact⟨v,h1,H0q (by rw[hΓ];exact h2)⟩
theorem F0y{a:AVal}{c:Cell Univ.C Univ.S}{v:Value}(h:F0B a=some c)(hv:VRel Γ a v):CRel Γ.fz c v:=by
 unfold F0B at h
 cases a<;>simp only[reduceCtorEq,Option.some.injEq] at h
 case bool b=>subst h;unfold VRel at hv;subst hv;exact .b b
 case sb b=>subst h;unfold VRel at hv;subst hv;exact .b b
 case int k n=>subst h;unfold VRel at hv;subst hv;exact .i k n
 case si k n=>subst h;unfold VRel at hv;subst hv;exact .i k n
 case str s=>subst h;unfold VRel at hv;subst hv;exact .s _
 case ss s=>subst h;unfold VRel at hv;subst hv;exact .s _
 case dsl c l=>subst h;unfold VRel at hv;exact hv
 case fn f x y=>
  cases x with
  |cons _ _=>cases h
  |
   nil=>
   cases y with
   |cons _ _=>cases h
   |
    nil=>
    cases h
    unfold VRel at hv
    obtain⟨vs,ws,rfl,h1,h2⟩:=hv
    have e1:vs=#[]:=by
     have :=h1.nil_inv
     exact Array.toList_eq_nil_iff.1 this
    have e2:ws=#[]:=by
     have :=h2.nil_inv
     exact Array.toList_eq_nil_iff.1 this
    rw[e1,e2];exact .f f
theorem C0M:∀{l:List AVal}{cs:List (Cell Univ.C Univ.S)},cellsOf l=some cs→l.length=cs.length∧∀(j:Nat)(c:Cell Univ.C Univ.S),cs[j]?=some c→∃a:AVal,l[j]?=some a∧F0B a=some c
 |[],cs,h=>by cases h;exact⟨rfl,fun j c e=>by simp at e⟩
 |
  a::l,cs,h=>by
  unfold cellsOf at h
  cases h1:F0B a with
  |none=>rw[h1] at h;cases h
  |
   some c=>
   rw[h1] at h
   simp only[] at h
   cases h2:cellsOf l with
   |none=>rw[h2] at h;cases h
   |
    some ds=>
    rw[h2] at h
    cases h
    obtain⟨q1,q2⟩:=C0M h2
    refine⟨by simp[q1],fun j x e=>?_⟩
    cases j with
    |zero=>simp at e;subst e;exact⟨a,rfl,h1⟩
    |succ j=>simp at e;obtain⟨y,y1,y2⟩:=q2 j x e;exact⟨y,by simpa using y1,y2⟩
theorem O0l{as:List AVal}{vs:List Value}(h:VRels Γ as vs){cs:List (Cell Univ.C Univ.S)}(hc:cellsOf as=some cs):vs.length=cs.length∧(∀v∈vs,G0k v)∧∀(j:Nat)(c:Cell Univ.C Univ.S),cs[j]?=some c→∃v,vs[j]?=some v∧CRel Γ.fz c v:=by
 obtain⟨h1,h2⟩:=C0M hc
 have hl:=h.length
 have hcell:∀(a:AVal) c,F0B a=some c→O0t a=true:=by
  intro a c e
  unfold F0B at e
  cases a<;>first
   |rfl
   |cases e
 refine⟨by omega,fun v hv=>?_,fun j c e=>?_⟩
 ·obtain⟨j,hj,e⟩:=List.mem_iff_getElem.1 hv
  have hjl:j<cs.length:=by omega
  obtain⟨a,a1,a2⟩:=h2 j _ (List.getElem?_eq_getElem hjl)
  obtain⟨u,u1,u2⟩:=h.get a1
  rw[List.getElem?_eq_getElem hj,e] at u1
  cases u1
  exact O0m u2 (hcell _ _ a2)
 ·obtain⟨a,a1,a2⟩:=h2 j c e
  obtain⟨u,u1,u2⟩:=h.get a1
  exact⟨u,u1,F0y a2 u2⟩
theorem b0h{α:Type}(cs:List α)(o:Nat)(l:List α)(h:o+l.length≤cs.length)(k:Nat):(putG cs o l)[k]?=if o≤k∧k<o+l.length then l[k-o]? else cs[k]?:=by
 unfold putG
 rw[F0g,G0s,A0O]
 by_cases h1:k<o
 ·rw[List.getElem?_append_left (by simp;omega),List.getElem?_take,if_pos h1,if_neg (by omega)]
 ·rw[List.getElem?_append_right (by simp;omega)]
  simp only[List.length_take,Nat.min_eq_left (show o≤cs.length by omega)]
  by_cases h2:k<o+l.length
  ·rw[List.getElem?_append_left (by omega),if_pos ⟨by omega,h2⟩]
  ·rw[List.getElem?_append_right (by omega),if_neg (by omega),List.getElem?_drop]
   congr 1;omega
theorem K0I(hE:EnvOk E P)(R:Rel E base w0 Γ s.h w){a:AVal}{av:Value}(ha:VRel Γ a av)(g:(O0f E t a s).Good):
  ∃r s' v,O0f E t a s=.ok r s'∧Same s s'∧(Instr.loadAt t av).run P w=.ok v w∧VRel Γ r v∧(∃b o,av=.pointer (some ⟨b,o,none⟩)):=by
 cases a with
 |
  dptr c l j off=>
  unfold VRel at ha
  obtain⟨hj,b,zz,cap,hc,rfl⟩:=ha
  obtain⟨C,e0,fz,hb,hsz,hlen,hget⟩:=d0b R hj hc
  change(M.bind (E.ti t) (fun ti=>sel ti.agg (M.req (Nat.ble (off+ti.size) (Univ.esz c)) (M.pure (.agg (tak (drp (C0y c l j) off) ti.size)))) (M.opt (nth (C0y c l j) off))) s).Good at g
  show∃r s' v,M.bind (E.ti t) (fun ti=>sel ti.agg (M.req (Nat.ble (off+ti.size) (Univ.esz c)) (M.pure (.agg (tak (drp (C0y c l j) off) ti.size)))) (M.opt (nth (C0y c l j) off))) s=.ok r s'∧_
  obtain⟨ti,inf,d,z,hty,he,T⟩:=A0o hE (A0a g)
  rw[A0d he] at g⊢
  simp only[Instr.loadAt,Instr.sureAddr,Sem.run_bind,Sem.run_pure,Result.andThen_ok,loadVar,T.run_agg]
  cases hag:ti.agg with
  |
   true=>
   rw[hag,A0e] at g
   simp only[A0e,if_true,Sem.run_bind,T.run_size,Result.andThen_ok]
   obtain⟨hq,hr⟩:=A0i g
   have hle:=Nat.le_of_ble_eq_true hq
   rw[hr]
   refine⟨_,s,.agg (C.extract (zz+j*Univ.esz c+off) (zz+j*Univ.esz c+off+ti.size)),rfl,.refl s,?_,?_,_,_,rfl⟩
   ·unfold loadCells
    rw[B0B hb ti.size 0 #[] (by omega)]
    simp
   ·unfold VRel
    refine⟨_,rfl,?_⟩
    rw[F0g,G0s]
    refine VRels.of_get ?_ ?_
    ·simp;omega
    ·intro k a ha
     have hk:k<ti.size:=by
      rcases Nat.lt_or_ge k ti.size with q|q
      ·exact q
      ·rw[List.getElem?_eq_none (by simp;omega)] at ha;cases ha
     rw[List.getElem?_take,if_pos hk,List.getElem?_drop] at ha
     obtain⟨v,e1,e2⟩:=hget _ _ ha
     refine⟨v,?_,e2⟩
     rw[Array.getElem?_toList,Array.getElem?_extract,if_pos (by omega)]
     rw[show zz+j*Univ.esz c+off+k=zz+j*Univ.esz c+(off+k) from by omega];exact e1
  |
   false=>
   rw[hag,A0f] at g
   simp only[A0f]
   obtain⟨a,h1,h2⟩:=A0k g
   rw[E0Z] at h1
   obtain⟨v,e1,e2⟩:=hget _ _ h1
   refine⟨a,s,v,h2,.refl s,?_,e2,_,_,rfl⟩
   have :w.cell? ⟨b,zz+j*Univ.esz c+off,none⟩=some v:=by simp[World.cell?,hb,e1]
   simp[this]
 |
  ptr n off=>
  obtain⟨i,hi,rfl⟩:=G0r ha
  change(M.bind (E.ti t) (fun ti=>sel ti.agg (M.bind (rdCells n off ti.size) fun l=>M.pure (.agg l)) (rdCell n off)) s).Good at g
  show∃r s' v,M.bind (E.ti t) (fun ti=>sel ti.agg (M.bind (rdCells n off ti.size) fun l=>M.pure (.agg l)) (rdCell n off)) s=.ok r s'∧_
  obtain⟨ti,inf,d,z,hty,he,T⟩:=A0o hE (A0a g)
  rw[A0d he] at g⊢
  simp only[Instr.loadAt,Instr.sureAddr,Sem.run_bind,Sem.run_pure,Result.andThen_ok,loadVar,T.run_agg]
  cases hag:ti.agg with
  |
   true=>
   rw[hag,A0e] at g
   simp only[A0e,if_true,Sem.run_bind,T.run_size,Result.andThen_ok]
   obtain⟨l,s',vs,e1,e2,e3,e4,_⟩:=D0b (P:=P) R hi (A0a g)
   rw[A0d e1]
   exact⟨_,s',.agg vs,rfl,e2,by simp[e3],by unfold VRel;exact⟨vs,rfl,e4⟩,_,_,rfl⟩
  |
   false=>
   rw[hag,A0f] at g
   simp only[A0f]
   obtain⟨r,s',v,e1,e2,e3,e4⟩:=N0p (P:=P) R hi g
   exact⟨r,s',v,e1,e2,by simpa using e3,e4,_,_,rfl⟩
 |
  aptr c n j off=>
  unfold VRel at ha
  obtain⟨i,hi,hj,rfl⟩:=ha
  change(M.bind (E.ti t) (fun ti=>M.bind (E0U c n) fun l=>sel ti.agg (M.req (Nat.ble (off+ti.size) (Univ.esz c)) (M.pure (.agg (tak (drp (C0y c l j) off) ti.size)))) (M.opt (nth (C0y c l j) off))) s).Good at g
  show∃r s' v,M.bind (E.ti t) (fun ti=>M.bind (E0U c n) fun l=>sel ti.agg (M.req (Nat.ble (off+ti.size) (Univ.esz c)) (M.pure (.agg (tak (drp (C0y c l j) off) ti.size)))) (M.opt (nth (C0y c l j) off))) s=.ok r s'∧_
  obtain⟨ti,inf,d,z,hty,he,T⟩:=A0o hE (A0a g)
  rw[A0d he] at g⊢
  obtain⟨l,s1,ho,e1,q1⟩:=D0o (A0a g)
  rw[A0d e1] at g⊢
  obtain⟨hasz,C,e0,fz,hb,_,hA,hsz0,_⟩:=Q0s R hi ho
  obtain⟨hsz,hlen,hget⟩:=U0J hA hsz0 (j:=j) (by omega)
  have hget:=fun k a=>hget (Γ:=Γ) rfl k a
  simp only[Instr.loadAt,Instr.sureAddr,Sem.run_bind,Sem.run_pure,Result.andThen_ok,loadVar,T.run_agg]
  cases hag:ti.agg with
  |
   true=>
   rw[hag,A0e] at g
   simp only[A0e,if_true,Sem.run_bind,T.run_size,Result.andThen_ok]
   obtain⟨hq,hr⟩:=A0i g
   have hle:=Nat.le_of_ble_eq_true hq
   rw[hr]
   refine⟨_,s1,.agg (C.extract (j*Univ.esz c+off) (j*Univ.esz c+off+ti.size)),rfl,q1,?_,?_,_,_,rfl⟩
   ·unfold loadCells
    rw[B0B hb ti.size 0 #[] (by omega)]
    simp
   ·unfold VRel
    refine⟨_,rfl,?_⟩
    rw[F0g,G0s]
    refine VRels.of_get ?_ ?_
    ·simp;omega
    ·intro k a ha
     have hk:k<ti.size:=by
      rcases Nat.lt_or_ge k ti.size with q|q
      ·exact q
      ·rw[List.getElem?_eq_none (by simp;omega)] at ha;cases ha
     rw[List.getElem?_take,if_pos hk,List.getElem?_drop] at ha
     obtain⟨v,e1,e2⟩:=hget _ _ ha
     refine⟨v,?_,e2⟩
     rw[Array.getElem?_toList,Array.getElem?_extract,if_pos (by omega)]
     rw[show j*Univ.esz c+off+k=j*Univ.esz c+(off+k) from by omega];exact e1
  |
   false=>
   rw[hag,A0f] at g
   simp only[A0f]
   obtain⟨a,h1,h2⟩:=A0k g
   rw[E0Z] at h1
   obtain⟨v,e1,e2⟩:=hget _ _ h1
   refine⟨a,s1,v,h2,q1,?_,e2,_,_,rfl⟩
   have :w.cell? ⟨i.b,j*Univ.esz c+off,none⟩=some v:=by simp[World.cell?,hb,e1]
   simp[this]
 |_=>exact g.elim
theorem P0o(hE:EnvOk E P)(R:Rel E base w0 Γ s.h w){a b:AVal}{av bv:Value}(ha:VRel Γ a av)(hb:VRel Γ b bv)(g:(M0P E t a b s).Good):
  ∃s' w',M0P E t a b s=.ok .undef s'∧s'.nx=s.nx∧(Instr.storeAt t av bv).run P w=.ok () w'∧Rel E base w0 Γ s'.h w':=by
 cases a with
 |
  ptr n off=>
  obtain⟨i,hi,rfl⟩:=G0r ha
  change(M.bind (E.ti t) (fun ti=>M.req (Nat.blt 0 ti.size&&Nat.beq (len b.cells) ti.size)<|M.bind (storeAt n off b.cells) fun _=>M.pure AVal.undef) s).Good at g
  show∃s' w',M.bind (E.ti t) (fun ti=>M.req (Nat.blt 0 ti.size&&Nat.beq (len b.cells) ti.size)<|M.bind (storeAt n off b.cells) fun _=>M.pure AVal.undef) s=.ok .undef s'∧_
  obtain⟨ti,inf,d,z,hty,he,T⟩:=A0o hE (A0a g)
  rw[A0d he] at g⊢
  obtain⟨hq,hr⟩:=A0i g
  rw[hr] at g⊢
  simp[Nat.blt_eq,A0O] at hq
  have hv:=I0n hb (by omega)
  obtain⟨s',w',e1,e2,e3,e4⟩:=E0h (P:=P) R hi hv (A0a g)
  rw[A0d e1]
  refine⟨s',w',rfl,e4,?_,e3⟩
  have hsz:bv.cells.size=ti.size:=by have :=hv.length;simp at this;omega
  simp[Instr.storeAt,Instr.sureAddr,storeVar,T.run_size,hsz,e2]
 |
  aptr c n j off=>
  unfold VRel at ha
  obtain⟨i,hi,hj,rfl⟩:=ha
  change(M.bind (E.ti t) (fun ti=>M.req (Nat.blt 0 ti.size&&Nat.beq (len b.cells) ti.size&&Nat.ble (off+ti.size) (Univ.esz c))<|
   M.bind (E0U c n) fun l=>M.bind (M.opt (cellsOf b.cells)) fun cs=>M.bind (M.opt (Univ.unc c (putG (Univ.cells c (l.getD j (Univ.dflt c))) off cs))) fun x=>
   M.bind (wrArr n ⟨c,l.set j x⟩) fun _=>M.pure AVal.undef) s).Good at g
  show∃s' w',M.bind (E.ti t) (fun ti=>M.req (Nat.blt 0 ti.size&&Nat.beq (len b.cells) ti.size&&Nat.ble (off+ti.size) (Univ.esz c))<|
   M.bind (E0U c n) fun l=>M.bind (M.opt (cellsOf b.cells)) fun cs=>M.bind (M.opt (Univ.unc c (putG (Univ.cells c (l.getD j (Univ.dflt c))) off cs))) fun x=>
   M.bind (wrArr n ⟨c,l.set j x⟩) fun _=>M.pure AVal.undef) s=.ok .undef s'∧_
  obtain⟨ti,inf,d,z,hty,he,T⟩:=A0o hE (A0a g)
  rw[A0d he] at g⊢
  obtain⟨hq,hr⟩:=A0i g
  rw[hr] at g⊢
  simp only[Bool.and_eq_true,Nat.blt_eq,A0O] at hq
  obtain⟨⟨hq1,hq2⟩,hq3⟩:=hq
  have hq2:=Nat.eq_of_beq_eq_true hq2
  have hq3:=Nat.le_of_ble_eq_true hq3
  obtain⟨l,s1,ho,e1,q1⟩:=D0o (A0a g)
  rw[A0d e1] at g⊢
  obtain⟨cs,e2,q2⟩:=A0k (A0a g)
  rw[A0d q2] at g⊢
  obtain⟨x,e3,q3⟩:=A0k (A0a g)
  rw[A0d q3] at g⊢
  obtain⟨_,_,s2,ho2,e4,st2⟩:=N0N (A0a g)
  rw[A0d e4]
  obtain⟨hasz,C,e0,fz,hbk,hcs0,hA,hsz0,hfr⟩:=Q0s R hi ho
  obtain⟨hsz,hlen,_⟩:=U0J hA hsz0 (j:=j) (by omega)
  have hv:=I0n hb (by omega)
  obtain⟨hvl,hvc,hvr⟩:=O0l hv e2
  have hcl:cs.length=ti.size:=by have :=hv.length;omega
  obtain⟨w',r1,st,_⟩:=B0Z (P:=P) bv.cells.toList w i.b (j*Univ.esz c+off) 0 C e0 fz hvc hbk (by omega) hfr
  have hx:=Univ.unc_ok c _ x e3
  refine⟨s2,w',rfl,by rw[st2.nx,q1.nx],?_,?_⟩
  ·have hsz:bv.cells.size=ti.size:=by have :=hv.length;simp at this;omega
   simp[Instr.storeAt,Instr.sureAddr,storeVar,T.run_size,hsz,r1]
  ·rw[st2.h,q1.h]
   refine R.putArr hi ho hbk st (A0I _ _ _) ⟨i,hi,by simp[hasz],_,e0,fz,st.at',by rw[A0I];exact hcs0,?_,by rw[A0I];simpa using hsz0,by rw[A0I];exact hfr⟩
   show ARel Γ.fz c (l.set j x) _
   intro j' y hy k cl hk
   rw[Nat.add_zero,C0g _ _ _ _ (by omega)]
   have hk':k<Univ.esz c:=by
    have :=(List.getElem?_eq_some_iff.1 hk).1
    rwa[Univ.len] at this
   by_cases hjj:j'=j
   ·subst hjj
    rw[List.getElem?_set_self (by omega)] at hy
    cases hy
    rw[hx,b0h _ _ _ (by rw[Univ.len];omega)] at hk
    by_cases hin:off≤k∧k<off+cs.length
    ·rw[if_pos hin] at hk
     obtain⟨v,v1,v2⟩:=hvr _ _ hk
     refine⟨v,?_,v2⟩
     rw[if_pos ⟨by omega,by omega⟩,show j'*Univ.esz c+k-(j'*Univ.esz c+off)=k-off by omega]
     exact v1
    ·rw[if_neg hin] at hk
     rw[if_neg (by omega)]
     have hxx:l[j']?=some (l.getD j' (Univ.dflt c)):=by
      rw[List.getD_eq_getElem?_getD,List.getElem?_eq_getElem (by omega)];rfl
     exact hA j' _ hxx k cl hk
   ·rw[List.getElem?_set_ne (fun q=>hjj q.symm)] at hy
    rw[if_neg]
    ·exact hA j' y hy k cl hk
    ·intro hh
     rcases Nat.lt_or_gt_of_ne hjj with q|q
     ·have :(j'+1)*Univ.esz c≤j*Univ.esz c:=Nat.mul_le_mul_right _ q
      rw[Nat.succ_mul] at this;omega
     ·have :(j+1)*Univ.esz c≤j'*Univ.esz c:=Nat.mul_le_mul_right _ q
      rw[Nat.succ_mul] at this;omega
 |_=>exact g.elim
end
theorem V0H(k:IntKind)(m:Nat)(h:m<128):k.wrap (m:Int)=m:=by
 cases k<;>simp only[IntKind.wrap,IntKind.bits,IntKind.signed]<;>simp <;>omega
theorem wrap_i64(m:Nat)(h:m<4611686018427387904):IntKind.i64.wrap (m:Int)=m:=by
 simp only[IntKind.wrap,IntKind.bits,IntKind.signed];simp;omega
theorem E0q(k:IntKind)(n:Int):Q0U k n=.int k (k.wrap n):=by
 unfold Q0U
 cases n with
 |negSucc m=>rfl
 |
  ofNat m=>
  simp only[]
  cases hb:Nat.blt m 128 with
  |true=>rw[A0e];congr 1;exact(V0H k m (by simpa [Nat.blt_eq] using hb)).symm
  |
   false=>
   rw[A0f]
   cases k with
   |
    i64=>
    simp only[]
    cases hb2:Nat.blt m 4611686018427387904 with
    |true=>rw[A0e];congr 1;exact(wrap_i64 m (by simpa [Nat.blt_eq] using hb2)).symm
    |false=>rfl
   |_=>rfl
theorem H0O:∀a b:List UInt8,eqS a b=(a==b)
 |[],[]=>rfl
 |[],_::_=>rfl
 |_::_,[]=>rfl
 |
  a::x,b::y=>by
  unfold eqS
  rw[H0O x y]
  cases h:Nat.beq a.toNat b.toNat with
  |
   true=>
   have :a=b:=UInt8.toNat_inj.1 (Nat.eq_of_beq_eq_true h)
   subst this;simp[A0e]
  |
   false=>
   have :a≠b:=fun e=>by subst e;simp at h
   simp[A0f,this]
theorem Q0W:∀a b:List UInt8,ltS a b=Op.bytesLess a b
 |[],[]=>by simp[ltS,Op.bytesLess]
 |[],_::_=>by simp[ltS,Op.bytesLess]
 |_::_,[]=>by simp[ltS,Op.bytesLess]
 |
  a::x,b::y=>by
  unfold ltS Op.bytesLess
  rw[Q0W x y]
  cases h:Nat.beq a.toNat b.toNat with
  |
   true=>
   have :a=b:=UInt8.toNat_inj.1 (Nat.eq_of_beq_eq_true h)
   subst this
   simp[A0e]
  |
   false=>
   have :a≠b:=fun e=>by subst e;simp at h
   rw[A0f]
   have h2:(a==b)=false:=by simp[this]
   rw[h2]
   rw[Bool.eq_iff_iff]
   simp[Nat.blt_eq,UInt8.lt_iff_toNat_lt]
theorem J0p(a b:List UInt8):(Op.bytesLess a b||(a==b))=!Op.bytesLess b a:=by
 induction a generalizing b with
 |nil=>cases b<;>simp[Op.bytesLess]
 |
  cons x a ih=>
  cases b with
  |nil=>simp[Op.bytesLess]
  |
   cons y b=>
   simp only[Op.bytesLess]
   rcases Nat.lt_trichotomy x.toNat y.toNat with h|h|h
   ·have h1:x<y:=UInt8.lt_iff_toNat_lt.2 h
    have h2:¬y<x:=by rw[UInt8.lt_iff_toNat_lt];omega
    have h3:y≠x:=fun e=>by subst e;omega
    simp[h1,h2,h3]
   ·have h0:x=y:=UInt8.toNat_inj.1 h
    subst h0
    have h2:¬x<x:=by rw[UInt8.lt_iff_toNat_lt];omega
    have :=ih b
    simp[h2] at this⊢
    exact this
   ·have h1:y<x:=UInt8.lt_iff_toNat_lt.2 h
    have h2:¬x<y:=by rw[UInt8.lt_iff_toNat_lt];omega
    have h3:x≠y:=fun e=>by subst e;omega
    simp[h1,h2,h3]
theorem I0x(s:ByteArray):s.toList=s.data.toList:=by
 exact ByteArray.toList_eq s
section
variable{P:Program}{E:Env}{base:Bs}{w0:World}{Γ:Gam}{w:World}{s:St}{t:TypeId}
theorem Y0r(a b:Int):(!ltI a b)=decide (b≤a):=by
 rw[G0t,Bool.eq_iff_iff];simp
theorem J0y{op:BinOp}{k:IntKind}{a b:Int}(hs:G0A op=false)(g:(D0W op k a b s).Good):
  ∃r v,D0W op k a b s=.ok r s∧(binOp op t (.int k a) (.int k b)).run P w=.ok v w∧VRel Γ r v:=by
 have fin:∀(r:AVal)(v:Value),D0W op k a b s=.ok r s→(binOp op t (.int k a) (.int k b)).run P w=.ok v w→VRel Γ r v→
   ∃r v,D0W op k a b s=.ok r s∧(binOp op t (.int k a) (.int k b)).run P w=.ok v w∧VRel Γ r v:=fun r v h1 h2 h3=>⟨r,v,h1,h2,h3⟩
 cases op<;>first
  |(cases hs;done)
  |skip
 case add=>exact fin _ (.int k (k.wrap (a+b))) rfl (by simp[binOp,Op.intArith]) (by rw[E0q];unfold VRel;rfl)
 case sub=>exact fin _ (.int k (k.wrap (a-b))) rfl (by simp[binOp,Op.intArith]) (by rw[E0q];unfold VRel;rfl)
 case mul=>exact fin _ (.int k (k.wrap (a*b))) rfl (by simp[binOp,Op.intArith]) (by rw[E0q];unfold VRel;rfl)
 case quo=>
  simp only[D0W] at g⊢
  cases hb:eqI b 0 with
  |true=>rw[hb] at g;exact g.elim
  |
   false=>
   rw[E0e] at hb
   have :b≠0:=by simpa using hb
   exact⟨_,.int k (k.wrap (a.tdiv b)),rfl,by simp[binOp,Op.intDiv,this],by rw[E0q];unfold VRel;rfl⟩
 case rem=>
  simp only[D0W] at g⊢
  cases hb:eqI b 0 with
  |true=>rw[hb] at g;exact g.elim
  |
   false=>
   rw[E0e] at hb
   have :b≠0:=by simpa using hb
   exact⟨_,.int k (a.tmod b),rfl,by simp[binOp,Op.intDiv,this],by unfold VRel;rfl⟩
 case eql=>exact fin _ (.bool (a==b)) rfl (by simp[binOp,Op.intCmp]) (by unfold VRel;rw[E0e])
 case neq=>exact fin _ (.bool (a != b)) rfl (by simp[binOp,Op.intCmp]) (by unfold VRel;rw[E0e];rfl)
 case lss=>exact fin _ (.bool (a<b)) rfl (by simp[binOp,Op.intCmp]) (by unfold VRel;rw[G0t])
 case leq=>exact fin _ (.bool (a≤b)) rfl (by simp[binOp,Op.intCmp]) (by unfold VRel;rw[Y0r])
 case gtr=>exact fin _ (.bool (a>b)) rfl (by simp[binOp,Op.intCmp]) (by unfold VRel;rw[G0t])
 case geq=>exact fin _ (.bool (a≥b)) rfl (by simp[binOp,Op.intCmp]) (by unfold VRel;rw[Y0r])
 case and=>exact fin _ _ rfl (by simp[binOp,Op.intBits];rfl) (by unfold VRel;rfl)
 case or=>exact fin _ _ rfl (by simp[binOp,Op.intBits];rfl) (by unfold VRel;rfl)
 case xor=>exact fin _ _ rfl (by simp[binOp,Op.intBits];rfl) (by unfold VRel;rfl)
 case andNot=>exact fin _ (.int k (k.wrap ((BitVec.ofInt k.bits a&&& ~~~ BitVec.ofInt k.bits b).toNat:Nat))) rfl (by simp only[binOp,ne_eq,not_true_eq_false,if_false,Op.intBits,Sem.run_pure]) (by unfold VRel;rfl)
theorem O0S{op:BinOp}{k k':IntKind}{a b:Int}(hs:G0A op=true)(g:(M0C op k a b s).Good):
  ∃r v,M0C op k a b s=.ok r s∧(binOp op t (.int k a) (.int k' b)).run P w=.ok v w∧VRel Γ r v:=by
 cases b with
 |negSucc m=>exact g.elim
 |
  ofNat m=>
  have hm:¬((m:Int)<0):=by omega
  cases op<;>first
   |(cases hs;done)
   |skip
  case shl=>exact⟨_,_,rfl,by simp[binOp,Op.shift,hm];rfl,by unfold VRel;rfl⟩
  case shr=>exact⟨_,_,rfl,by simp[binOp,Op.shift,hm];rfl,by unfold VRel;rfl⟩
theorem N0x{op:BinOp}{k k':IntKind}{a b:Int}(hs:G0A op=true)(g:(J0o op k a b s).Good):
  ∃r v,J0o op k a b s=.ok r s∧(binOp op t (.int k a) (.int k' b)).run P w=.ok v w∧VRel Γ r v:=by
 cases b with
 |negSucc m=>exact g.elim
 |
  ofNat m=>
  have hm:¬((m:Int)<0):=by omega
  cases op<;>first
   |(cases hs;done)
   |skip
  case shl=>exact⟨_,_,rfl,by simp[binOp,Op.shift,hm];rfl,by unfold VRel;rfl⟩
  case shr=>exact⟨_,_,rfl,by simp[binOp,Op.shift,hm];rfl,by unfold VRel;rfl⟩
theorem L0v{op:BinOp}{a b:List UInt8}(g:(Q0x op a b s).Good):
  ∃r v,Q0x op a b s=.ok r s∧(binOp op t (.string ⟨a.toArray⟩) (.string ⟨b.toArray⟩)).run P w=.ok v w∧VRel Γ r v:=by
 have ea:(⟨a.toArray⟩:ByteArray).toList=a:=by rw[I0x]
 have eb:(⟨b.toArray⟩:ByteArray).toList=b:=by rw[I0x]
 cases op<;>first
  |exact g.elim
  |skip
 case add=>
  simp only[Q0x] at g⊢
  cases hb:Nat.blt (len a+len b) 1000000 with
  |false=>rw[hb] at g;exact g.elim
  |
   true=>
   simp[Nat.blt_eq,A0O] at hb
   refine⟨_,.string (⟨a.toArray⟩++⟨b.toArray⟩),rfl,?_,?_⟩
   ·have h1:¬(((⟨a.toArray⟩:ByteArray).size+(⟨b.toArray⟩:ByteArray).size:Nat):Int)>IntKind.i64.max:=by
     simp[IntKind.max,IntKind.signed,IntKind.bits,ByteArray.size];omega
    simp only[binOp,Op.stringOp]
    rw[if_neg h1];rfl
   ·unfold VRel
    congr 1
 case eql=>exact⟨_,_,rfl,by simp only[binOp,Op.stringOp,ea,eb];rfl,by unfold VRel;rw[H0O]⟩
 case neq=>exact⟨_,_,rfl,by simp only[binOp,Op.stringOp,ea,eb];rfl,by unfold VRel;rw[H0O]⟩
 case lss=>exact⟨_,_,rfl,by simp only[binOp,Op.stringOp,ea,eb];rfl,by unfold VRel;rw[Q0W]⟩
 case leq=>exact⟨_,_,rfl,by simp only[binOp,Op.stringOp,ea,eb];rfl,by unfold VRel;rw[Q0W,J0p]⟩
 case gtr=>exact⟨_,_,rfl,by simp only[binOp,Op.stringOp,ea,eb];rfl,by unfold VRel;rw[Q0W,J0p,Bool.not_not]⟩
 case geq=>exact⟨_,_,rfl,by simp only[binOp,Op.stringOp,ea,eb];rfl,by unfold VRel;rw[Q0W]⟩
end
inductive Atom:AVal→Value→Prop
 |bool (b:Bool):Atom (.bool b) (.bool b)
 |int (k:IntKind) (n:Int):Atom (.int k n) (.int k n)
 |str (s:List UInt8):Atom (.str s) (.string ⟨s.toArray⟩)
section
variable{P:Program}{E:Env}{base:Bs}{w0:World}{Γ:Gam}{w:World}{s:St}{t:TypeId}
theorem A0P(hE:EnvOk E P){a:AVal}{v:Value}(h:VRel Γ a v)(hf:B0k E t a=true):Atom a v∧∃ti i d z,E.tyOf t=some ti∧TIOk P t ti i d z∧
  ((∃b,a=.bool b∧d=.bool)∨(∃k n,a=.int k n∧d=.int k)∨(∃s,a=.str s∧d=.string)):=by
 unfold B0k at hf
 cases hty:E.tyOf t with
 |none=>rw[hty] at hf;cases hf
 |
  some ti=>
  rw[hty] at hf
  obtain⟨i,d,z,T⟩:=hE.ok hty
  simp only[] at hf
  have hk:=T.k
  cases hc:ti.k<;>rw[hc] at hf hk<;>simp only[Bool.false_eq_true] at hf
  case bool=>
   cases a<;>simp only[Bool.false_eq_true] at hf
   unfold VRel at h;subst h
   exact⟨.bool _,ti,i,d,z,rfl,T,.inl ⟨_,rfl,H0d hk.symm⟩⟩
  case int k=>
   cases a<;>simp only[Bool.false_eq_true] at hf
   rename_i k' n
   have e:k=k':=by simpa using hf
   subst e
   unfold VRel at h;subst h
   exact⟨.int _ _,ti,i,d,z,rfl,T,.inr (.inl ⟨_,_,rfl,F0c hk.symm⟩)⟩
  case str=>
   cases a<;>simp only[Bool.false_eq_true] at hf
   unfold VRel at h;subst h
   exact⟨.str _,ti,i,d,z,rfl,T,.inr (.inr ⟨_,rfl,B0V hk.symm⟩)⟩
theorem X0I(a b:List UInt8):((⟨a.toArray⟩:ByteArray).toList==(⟨b.toArray⟩:ByteArray).toList)=(a==b):=by
 rw[I0x,I0x]
theorem T0b(hE:EnvOk E P){a b:AVal}{x y:Value}(ha:VRel Γ a x)(hb:VRel Γ b y)(fa:B0k E t a=true)(fb:B0k E t b=true)(d:Nat):
  (Op.equalIn (d+1) t x y).run P w=.ok (keq0 a b) w:=by
 obtain⟨A,ti,i,de,z,h1,T,ca⟩:=A0P hE ha fa
 obtain⟨B,ti',i',de',z',h1',T',cb⟩:=A0P hE hb fb
 rw[h1] at h1';cases h1'
 have :de=de':=by have :=T.und.symm.trans T'.und;simpa using this
 subst this
 rcases ca with⟨p,rfl,rfl⟩|⟨k,n,rfl,rfl⟩|⟨p,rfl,rfl⟩
 ·rcases cb with⟨q,rfl,_⟩|⟨k',n',_,h⟩|⟨q,_,h⟩
  ·cases A;cases B
   rw[run_equalIn_bool w d t p q T.und]
   cases p<;>cases q<;>rfl
  ·cases h
  ·cases h
 ·rcases cb with⟨q,_,h⟩|⟨k',n',rfl,h⟩|⟨q,_,h⟩
  ·cases h
  ·cases h
   cases A;cases B
   rw[run_equalIn_int w d t _ _ n n' T.und]
   simp[keq0,E0e]
  ·cases h
 ·rcases cb with⟨q,_,h⟩|⟨k',n',_,h⟩|⟨q,rfl,_⟩
  ·cases h
  ·cases h
  ·cases A;cases B
   rw[run_equalIn_string w d t _ _ T.und,X0I]
   simp[keq0,H0O]
theorem G0E(hE:EnvOk E P){a:AVal}(hf:B0k E t a=true):∃d,P.underlying t=some d∧H0M d=false:=by
 unfold B0k at hf
 cases hty:E.tyOf t with
 |none=>rw[hty] at hf;cases hf
 |
  some ti=>
  rw[hty] at hf
  obtain⟨i,d,z,T⟩:=hE.ok hty
  simp only[] at hf
  have hk:=T.k
  refine⟨d,T.und,?_⟩
  cases hc:ti.k<;>rw[hc] at hf hk<;>simp only[Bool.false_eq_true] at hf
  ·rw[H0d hk.symm];rfl
  ·rw[F0c hk.symm];rfl
  ·rw[B0V hk.symm];rfl
theorem F0x(hE:EnvOk E P){a:AVal}(hf:B0k E t a=true){cs:Array Value}{off:Nat}{v:Value}(h:cs[off]?=some v):(part t cs off).run P w=.ok v w:=by
 obtain⟨d,hu,hd⟩:=G0E hE hf
 have :(isAgg t).run P w=.ok false w:=by
  simp only[isAgg,Sem.run_bind,run_underlying hu,Result.andThen_ok]
  cases d<;>first|rfl|cases hd
 simp[part,this,h]
theorem U0p(hE:EnvOk E P)(d:Nat)(cs ds:Array Value):∀(fs:List Field)(l m:List AVal)(i:Nat),
  B0o E i (fs.map (fiOf P)) l=true→B0o E i (fs.map (fiOf P)) m=true→
  (∀k a,l[k]?=some a→∃v,cs[i+k]?=some v∧VRel Γ a v)→(∀k a,m[k]?=some a→∃v,ds[i+k]?=some v∧VRel Γ a v)→
  (Op.eqFields (d+1) cs ds fs).run P w=.ok (keqs l m) w
 |
  [],l,m,i,h1,h2,_,_=>by
  cases l<;>cases m<;>simp[B0o] at h1 h2
  simp[Op.eqFields,keqs]
 |f::fs,[],m,i,h1,h2,_,_=>by simp[B0o] at h1
 |f::fs,a::l,[],i,h1,h2,_,_=>by simp[B0o] at h2
 |
  f::fs,a::l,b::m,i,h1,h2,k1,k2=>by
  simp only[List.map_cons,B0o,Bool.and_eq_true] at h1 h2
  obtain⟨⟨⟨⟨⟨o1,_⟩,_⟩,n1⟩,f1⟩,r1⟩:=h1
  obtain⟨⟨_,f2⟩,r2⟩:=h2
  have ho:f.offset=i:=Nat.eq_of_beq_eq_true o1
  have hn:f.name≠ "_" :=by simpa [fiOf] using n1
  obtain⟨va,p1,q1⟩:=k1 0 a rfl
  obtain⟨vb,p2,q2⟩:=k2 0 b rfl
  have ih:=U0p hE d cs ds fs l m (i+1) r1 r2 (fun k x hx=>by have :=k1 (k+1) x (by simpa using hx);rwa[show i+(k+1)=i+1+k from by omega] at this)
   (fun k x hx=>by have :=k2 (k+1) x (by simpa using hx);rwa[show i+(k+1)=i+1+k from by omega] at this)
  have f1':B0k E f.type a=true:=f1
  have f2':B0k E f.type b=true:=f2
  simp only[Op.eqFields,if_pos hn,Sem.run_bind,ho,F0x hE f1' (by simpa using p1),F0x hE f2' (by simpa using p2),Result.andThen_ok,T0b hE q1 q2 f1' f2' d]
  cases hk:keq0 a b with
  |true=>simp[keqs,hk,A0e,ih]
  |false=>simp[keqs,hk,A0f]
theorem N0T(hE:EnvOk E P)(d:Nat)(cs ds:Array Value)(e:TypeId):∀(l m:List AVal)(i:Nat),l.length=m.length→
  l.all (B0k E e)=true→m.all (B0k E e)=true→
  (∀k a,l[k]?=some a→∃v,cs[i+k]?=some v∧VRel Γ a v)→(∀k a,m[k]?=some a→∃v,ds[i+k]?=some v∧VRel Γ a v)→
  (Op.eqItems (d+1) e 1 cs ds (List.range' i l.length)).run P w=.ok (keqs l m) w
 |[],[],i,_,_,_,_,_=>by simp[Op.eqItems,keqs]
 |[],_::_,_,h,_,_,_,_=>by simp at h
 |_::_,[],_,h,_,_,_,_=>by simp at h
 |
  a::l,b::m,i,hl,h1,h2,k1,k2=>by
  simp only[List.all_cons,Bool.and_eq_true] at h1 h2
  obtain⟨va,p1,q1⟩:=k1 0 a rfl
  obtain⟨vb,p2,q2⟩:=k2 0 b rfl
  have ih:=N0T hE d cs ds e l m (i+1) (by simpa using hl) h1.2 h2.2
   (fun k x hx=>by have :=k1 (k+1) x (by simpa using hx);rwa[show i+(k+1)=i+1+k from by omega] at this)
   (fun k x hx=>by have :=k2 (k+1) x (by simpa using hx);rwa[show i+(k+1)=i+1+k from by omega] at this)
  simp only[List.length_cons,List.range'_succ,Op.eqItems,Sem.run_bind,Nat.mul_one,F0x hE h1.1 (by simpa using p1),F0x hE h2.1 (by simpa using p2),Result.andThen_ok,T0b hE q1 q2 h1.1 h2.1 d]
  cases hk:keq0 a b with
  |true=>simp[keqs,hk,A0e,ih]
  |false=>simp[keqs,hk,A0f]
theorem B0K{l:List AVal}{v:Value}(h:VRel Γ (.agg l) v):∃vs,v=.agg vs∧VRels Γ l vs.toList:=by unfold VRel at h;exact h
theorem S0P(hE:EnvOk E P){a b:AVal}{x y:Value}(ha:VRel Γ a x)(hb:VRel Γ b y)(fa:A0m E t a=true)(fb:A0m E t b=true)(d:Nat):
  (Op.equalIn (d+2) t x y).run P w=.ok (keq a b) w:=by
 --both have parts,or neither
 have plain:∀a:AVal,(∀l,a≠.agg l)→A0m E t a=true→B0k E t a=true:=by
  intro a hn h
  cases a<;>first|exact h|exact absurd rfl (hn _)
 have aggd:∀l,A0m E t (.agg l)=true→∃d,P.underlying t=some d∧H0M d=true:=by
  intro l h
  unfold A0m at h
  simp only[] at h
  cases hty:E.tyOf t with
  |none=>rw[hty] at h;cases h
  |
   some ti=>
   rw[hty] at h
   obtain⟨i,d,z,T⟩:=hE.ok hty
   simp only[] at h
   have hk:=T.k
   cases hc:ti.k<;>rw[hc] at h hk<;>simp only[Bool.false_eq_true] at h
   ·exact⟨d,T.und,by rw[(D0u hk.symm).1];rfl⟩
   ·obtain⟨fa,hfa,_⟩:=C0L hk.symm
    exact⟨d,T.und,by rw[hfa];rfl⟩
 by_cases ga:∃l,a=.agg l
 ·obtain⟨l,rfl⟩:=ga
  obtain⟨dd,hu,hdd⟩:=aggd l fa
  by_cases gb:∃m,b=.agg m
  ·obtain⟨m,rfl⟩:=gb
   obtain⟨xs,rfl,hxs⟩:=B0K ha
   obtain⟨ys,rfl,hys⟩:=B0K hb
   have gx:∀k a,l[k]?=some a→∃v,xs[0+k]?=some v∧VRel Γ a v:=fun k a h=>by
    obtain⟨v,h1,h2⟩:=hxs.get h;exact⟨v,by simpa using h1,h2⟩
   have gy:∀k a,m[k]?=some a→∃v,ys[0+k]?=some v∧VRel Γ a v:=fun k a h=>by
    obtain⟨v,h1,h2⟩:=hys.get h;exact⟨v,by simpa using h1,h2⟩
   unfold A0m at fa fb
   simp only[] at fa fb
   cases hty:E.tyOf t with
   |none=>rw[hty] at fa;cases fa
   |
    some ti=>
    rw[hty] at fa fb
    obtain⟨i,de,z,T⟩:=hE.ok hty
    simp only[] at fa fb
    have hk:=T.k
    cases hc:ti.k<;>rw[hc] at fa fb hk<;>simp only[Bool.false_eq_true] at fa
    case array n e sz=>
     obtain⟨he,hsz⟩:=D0u hk.symm
     simp only[Bool.and_eq_true] at fa fb
     obtain⟨⟨s1,n1⟩,a1⟩:=fa
     obtain⟨⟨_,n2⟩,a2⟩:=fb
     have hs1:sz=1:=Nat.eq_of_beq_eq_true s1
     have hn1:n=l.length:=by rw[←A0O];exact Nat.eq_of_beq_eq_true n1
     have hn2:n=m.length:=by rw[←A0O];exact Nat.eq_of_beq_eq_true n2
     have hce:P.cellsOf e=1:=by rw[←hsz,hs1]
     obtain⟨ie,hie⟩:∃ie,P.info? e=some ie:=by
      cases hi:P.info? e with
      |none=>simp[Program.cellsOf,hi] at hce
      |some ie=>exact⟨ie,rfl⟩
     rw[run_equalIn_array w (d+1) xs ys (by rw[T.und,he]) hie,hce,hn1,List.range_eq_range']
     exact N0T hE d xs ys e l m 0 (by omega) a1 a2 gx gy
    case struct fs=>
     obtain⟨fa',hfa,hfs⟩:=C0L hk.symm
     simp only[Bool.and_eq_true] at fa fb
     have hst:P.stoodInHeld t=false:=by rw[←T.stood];simpa using fa.1
     have hfo:P.fieldsOf t=fa':=by simp[Program.fieldsOf,T.und,hfa]
     rw[run_equalIn_struct w (d+1) t xs ys (by rw[hfo,T.und,hfa]) hst,hfo]
     rw[hfs] at fa fb
     exact U0p hE d xs ys fa'.toList l m 0 fa.2 fb.2 gx gy
  ·exfalso
   obtain⟨d2,hu2,hd2⟩:=G0E hE (plain b (fun m e=>gb ⟨m,e⟩) fb)
   rw[hu] at hu2;cases hu2
   rw[hdd] at hd2;cases hd2
 ·have fa0:=plain a (fun m e=>ga ⟨m,e⟩) fa
  obtain⟨d2,hu2,hd2⟩:=G0E hE fa0
  by_cases gb:∃m,b=.agg m
  ·exfalso
   obtain⟨m,rfl⟩:=gb
   obtain⟨dd,hu,hdd⟩:=aggd m fb
   rw[hu] at hu2;cases hu2
   rw[hdd] at hd2;cases hd2
  ·have fb0:=plain b (fun m e=>gb ⟨m,e⟩) fb
   rw[show d+2=(d+1)+1 from rfl,T0b hE ha hb fa0 fb0 (d+1)]
   congr 1
   unfold keq
   cases a<;>first|rfl|exact absurd ⟨_,rfl⟩ ga
end
section
variable{P:Program}{E:Env}{base:Bs}{w0:World}{Γ:Gam}{w:World}{s:St}{t:TypeId}
theorem E0p{i:Info}{off k:Nat}{cap:Option Nat}{sz:Nat}{v:Value}(h:V0z i off k cap sz v):∃a n c,v=.slice (some a) n c:=by
 unfold V0z at h
 cases cap with
 |none=>rcases h.2.2 with⟨C,e,_⟩|⟨_,_,y,e⟩<;>exact⟨_,_,_,e⟩
 |some c=>exact⟨_,_,_,h.2.1⟩
section
variable(D:Nat){e:TypeId}
theorem b0m(hu:P.underlying t=some (.pointer e))(a:Addr):(Op.equalIn (D+1) t (.pointer none) (.pointer (some a))).run P w=.ok false w:=by
 simp only[Op.equalIn,Sem.run_bind,run_underlying hu,Result.andThen_ok];rfl
theorem a0E(hu:P.underlying t=some (.pointer e))(a:Addr):(Op.equalIn (D+1) t (.pointer (some a)) (.pointer none)).run P w=.ok false w:=by
 simp only[Op.equalIn,Sem.run_bind,run_underlying hu,Result.andThen_ok];rfl
theorem a0j(hu:P.underlying t=some (.pointer e)):(Op.equalIn (D+1) t (.pointer none) (.pointer none)).run P w=.ok true w:=by
 simp only[Op.equalIn,Sem.run_bind,run_underlying hu,Result.andThen_ok];rfl
theorem b0n(hu:P.underlying t=some (.pointer e))(hp:P.cellsOf e≠0)(b o o':Nat):(Op.equalIn (D+1) t (.pointer (some ⟨b,o,none⟩)) (.pointer (some ⟨b,o',none⟩))).run P w=.ok (decide (o=o')) w:=by
 simp only[Op.equalIn,Sem.run_bind,run_underlying hu,Result.andThen_ok,A0B (Nat.pos_of_ne_zero hp)]
 simp only[ne_eq,hp,not_false_eq_true,if_true,sameAddr,beq_self_eq_true,Sem.run_pure]
 congr 1
 rw[Bool.eq_iff_iff];simp
theorem a0u(hu:P.underlying t=some (.slice e))(a:Addr)(n c:Nat):(Op.equalIn (D+1) t (.slice none 0 0) (.slice (some a) n c)).run P w=.ok false w:=by
 simp only[Op.equalIn,Sem.run_bind,run_underlying hu,Result.andThen_ok];rfl
theorem a0Y(hu:P.underlying t=some (.slice e))(a:Addr)(n c:Nat):(Op.equalIn (D+1) t (.slice (some a) n c) (.slice none 0 0)).run P w=.ok false w:=by
 simp only[Op.equalIn,Sem.run_bind,run_underlying hu,Result.andThen_ok];rfl
theorem a0e(hu:P.underlying t=some (.slice e)):(Op.equalIn (D+1) t (.slice none 0 0) (.slice none 0 0)).run P w=.ok true w:=by
 simp only[Op.equalIn,Sem.run_bind,run_underlying hu,Result.andThen_ok];rfl
theorem b0y{k:TypeId}(hu:P.underlying t=some (.map k e))(a:Nat):(Op.equalIn (D+1) t (.map none) (.map (some a))).run P w=.ok false w:=by
 simp only[Op.equalIn,Sem.run_bind,run_underlying hu,Result.andThen_ok];rfl
theorem a0s{k:TypeId}(hu:P.underlying t=some (.map k e))(a:Nat):(Op.equalIn (D+1) t (.map (some a)) (.map none)).run P w=.ok false w:=by
 simp only[Op.equalIn,Sem.run_bind,run_underlying hu,Result.andThen_ok];rfl
theorem a0L{k:TypeId}(hu:P.underlying t=some (.map k e)):(Op.equalIn (D+1) t (.map none) (.map none)).run P w=.ok true w:=by
 simp only[Op.equalIn,Sem.run_bind,run_underlying hu,Result.andThen_ok];rfl
theorem a0M{a b:Array TypeId}{c:Bool}(hu:P.underlying t=some (.func a b c))(f:Fn)(x y:Array Value):(Op.equalIn (D+1) t .nilFunc (.func f x y)).run P w=.ok false w:=by
 simp only[Op.equalIn,Sem.run_bind,run_underlying hu,Result.andThen_ok];rfl
theorem b0i{a b:Array TypeId}{c:Bool}(hu:P.underlying t=some (.func a b c))(f:Fn)(x y:Array Value):(Op.equalIn (D+1) t (.func f x y) .nilFunc).run P w=.ok false w:=by
 simp only[Op.equalIn,Sem.run_bind,run_underlying hu,Result.andThen_ok];rfl
theorem b0o{a b:Array TypeId}{c:Bool}(hu:P.underlying t=some (.func a b c)):(Op.equalIn (D+1) t .nilFunc .nilFunc).run P w=.ok true w:=by
 simp only[Op.equalIn,Sem.run_bind,run_underlying hu,Result.andThen_ok];rfl
end
theorem Y0j(hE:EnvOk E P){a b:AVal}{x y:Value}(ha:VRel Γ a x)(hb:VRel Γ b y){r:Bool}(H0:aEq E t a b=some r):(Op.equal t x y).run P w=.ok r w:=by
 show(Op.equalIn (9998+2) t x y).run P w=_
 generalize 9998=D
 have rest:∀ti,E.tyOf t=some ti→aEqP ti.k a b=some r→(Op.equalIn (D+2) t x y).run P w=.ok r w:=by
  intro ti hty h
  clear H0
  obtain⟨i,d,z,T⟩:=hE.ok hty
  have hk:=T.k
  unfold aEqP at h
  cases hc:ti.k<;>rw[hc] at h hk<;>simp only[reduceCtorEq] at h
  case bool=>
   cases a<;>simp only[reduceCtorEq] at h
   cases b<;>simp only[reduceCtorEq,Option.some.injEq] at h
   unfold VRel at ha hb;subst ha;subst hb;subst h
   rename_i p q
   rw[run_equalIn_bool w _ t p q (by rw[T.und,H0d hk.symm])]
   cases p<;>cases q<;>rfl
  case int k=>
   cases a<;>simp only[reduceCtorEq] at h
   cases b<;>simp only[reduceCtorEq] at h
   rename_i k1 p k2 q
   cases hkk:(k1==k2) with
   |false=>rw[hkk] at h;cases h
   |
    true=>
    rw[hkk,A0e] at h
    have e:k1=k2:=by simpa using hkk
    subst e
    cases h
    unfold VRel at ha hb;subst ha;subst hb
    rw[run_equalIn_int w _ t _ _ p q (by rw[T.und,F0c hk.symm]),E0e]
  case str=>
   cases a<;>simp only[reduceCtorEq] at h
   cases b<;>simp only[reduceCtorEq,Option.some.injEq] at h
   unfold VRel at ha hb;subst ha;subst hb;subst h
   rw[run_equalIn_string w _ t _ _ (by rw[T.und,B0V hk.symm]),X0I,H0O]
  case ptr e sz=>
   obtain⟨hd,hsz⟩:=H0E hk.symm
   have hu:=T.und
   rw[hd] at hu
   cases a<;>simp only[reduceCtorEq] at h
   case nilp=>
    unfold VRel at ha;subst ha
    cases b<;>simp only[reduceCtorEq,Option.some.injEq] at h
    ·obtain⟨j,_,rfl⟩:=G0r hb;subst h
     exact b0m _ hu _
    ·unfold VRel at hb;subst hb;subst h
     exact a0j _ hu
   case ptr n p=>
    obtain⟨i1,hi1,rfl⟩:=G0r ha
    cases b<;>simp only[reduceCtorEq,Option.some.injEq] at h
    ·rename_i m q
     obtain⟨j,hj,rfl⟩:=G0r hb
     cases hs:sz with
     |false=>rw[hs] at h;simp[A0f] at h
     |
      true=>
      rw[hs] at h
      cases hnm:Nat.beq n m with
      |false=>rw[hnm] at h;simp[A0f] at h
      |
       true=>
       rw[hnm] at h
       have :=Nat.eq_of_beq_eq_true hnm
       subst this
       simp only[Bool.and_self,A0e,Option.some.injEq] at h
       rw[hi1] at hj;cases hj
       have hpos:P.cellsOf e≠0:=by
        rw[hs] at hsz
        intro h0;rw[h0] at hsz;simp at hsz
       rw[b0n _ hu hpos,←h]
       congr 1
       rw[Bool.eq_iff_iff];simp[Nat.beq_eq]
    ·unfold VRel at hb;subst hb;subst h
     exact a0E _ hu _
  case slice e sz=>
   obtain⟨hd,_⟩:=A0S hk.symm
   have hu:=T.und
   rw[hd] at hu
   cases a<;>simp only[reduceCtorEq] at h
   case slice=>
    cases b<;>simp only[reduceCtorEq,Option.some.injEq] at h
    unfold VRel at ha hb;subst hb;subst h
    obtain⟨i1,_,ha⟩:=ha
    obtain⟨_,_,_,rfl⟩:=E0p ha
    exact a0Y _ hu _ _ _
   case nils=>
    unfold VRel at ha;subst ha
    cases b<;>simp only[reduceCtorEq,Option.some.injEq] at h
    ·unfold VRel at hb;subst h
     obtain⟨i1,_,hb⟩:=hb
     obtain⟨_,_,_,rfl⟩:=E0p hb
     exact a0u _ hu _ _ _
    ·unfold VRel at hb;subst hb;subst h
     exact a0e _ hu
  case map k e=>
   have hd:=C0u hk.symm
   have hu:=T.und
   rw[hd] at hu
   cases a<;>simp only[reduceCtorEq] at h
   case map=>
    cases b<;>simp only[reduceCtorEq,Option.some.injEq] at h
    unfold VRel at ha hb;subst hb;subst h
    obtain⟨i1,_,rfl⟩:=ha
    exact a0s _ hu _
   case nilm=>
    unfold VRel at ha;subst ha
    cases b<;>simp only[reduceCtorEq,Option.some.injEq] at h
    ·unfold VRel at hb;subst h
     obtain⟨i1,_,rfl⟩:=hb
     exact b0y _ hu _
    ·unfold VRel at hb;subst hb;subst h
     exact a0L _ hu
  case func=>
   obtain⟨q1,q2,q3,hd⟩:=Y0V hk.symm
   have hu:=T.und
   rw[hd] at hu
   cases a<;>simp only[reduceCtorEq] at h
   case fn=>
    cases b<;>simp only[reduceCtorEq,Option.some.injEq] at h
    unfold VRel at ha hb;subst hb;subst h
    obtain⟨_,_,rfl,_⟩:=ha
    exact b0i _ hu _ _ _
   case nilf=>
    unfold VRel at ha;subst ha
    cases b<;>simp only[reduceCtorEq,Option.some.injEq] at h
    ·unfold VRel at hb;subst h
     obtain⟨_,_,rfl,_⟩:=hb
     exact a0M _ hu _ _ _
    ·unfold VRel at hb;subst hb;subst h
     exact b0o _ hu
 unfold aEq at H0
 by_cases ga:∃l,a=.agg l
 ·obtain⟨l,rfl⟩:=ga
  simp only[] at H0
  cases b<;>simp only[reduceCtorEq] at H0
  rename_i m
  cases hf:(A0m E t (.agg l)&&A0m E t (.agg m)) with
  |false=>rw[hf] at H0;cases H0
  |
   true=>
   rw[hf,A0e] at H0
   simp only[Bool.and_eq_true] at hf
   rw[S0P hE ha hb hf.1 hf.2 D]
   cases H0;rfl
 ·cases hty:E.tyOf t with
  |none=>rw[hty] at H0;cases a<;>first|cases H0|exact absurd ⟨_,rfl⟩ ga
  |some ti=>rw[hty] at H0;exact rest ti hty (by cases a<;>first|exact H0|exact absurd ⟨_,rfl⟩ ga)
theorem c0Y(a b:ByteArray):(a.toList==b.toList)=decide (a=b):=by
 have ha:a=⟨a.data.toList.toArray⟩:=by cases a;simp
 have hb:b=⟨b.data.toList.toArray⟩:=by cases b;simp
 have e:=X0I a.data.toList b.data.toList
 rw[←ha,←hb] at e
 rw[e,Bool.eq_iff_iff]
 simp only[beq_iff_eq,decide_eq_true_eq]
 constructor
 ·intro h;rw[ha,hb,h]
 ·intro h;rw[h]
theorem J0f{α:Type}{a b:Option α}{f:α→α→Bool}{r:Bool}(h:both a b f=some r):∃x y,a=some x∧b=some y∧r=f x y:=by
 unfold both at h
 cases a with
 |none=>cases h
 |
  some x=>
  cases b with
  |none=>cases h
  |some y=>cases h;exact⟨x,y,rfl,rfl,rfl⟩
theorem R0Q{a:AVal}{b:Bool}{v:Value}(h:b0q a=some b)(hv:VRel Γ a v):v=.bool b:=by
 unfold b0q at h
 cases a<;>simp only[reduceCtorEq,Option.some.injEq] at h<;>subst h<;>unfold VRel at hv<;>exact hv
theorem V0b{j:IntKind}{a:AVal}{n:Int}{v:Value}(h:numA j a=some n)(hv:VRel Γ a v):v=.int j n:=by
 unfold numA at h
 cases a<;>simp only[reduceCtorEq] at h
 all_goals
  rename_i k m
  cases hk:(j==k) with
  |false=>rw[hk] at h;cases h
  |
   true=>
   rw[hk] at h
   cases h
   unfold VRel at hv
   rw[eq_of_beq hk];exact hv
theorem Q0t{a:AVal}{s:ByteArray}{v:Value}(h:strA a=some s)(hv:VRel Γ a v):v=.string s:=by
 unfold strA at h
 cases a<;>simp only[reduceCtorEq,Option.some.injEq] at h<;>subst h<;>unfold VRel at hv<;>exact hv
theorem R0P{a b:AVal}{x y:Value}(ha:VRel Γ a x)(hb:VRel Γ b y){ti:TI}{i:TypeInfo}{de:TypeDesc}{z:Value}(T:TIOk P t ti i de z){r:Bool}(h:Y0w ti.k a b=some r)(d:Nat):
  (Op.equalIn (d+1) t x y).run P w=.ok r w∧H0M de=false:=by
 have hk:=T.k
 unfold Y0w at h
 cases hc:ti.k<;>rw[hc] at h hk<;>simp only[reduceCtorEq] at h
 case bool=>
  have hd:=H0d hk.symm
  subst hd
  obtain⟨p,q,h1,h2,rfl⟩:=J0f h
  rw[R0Q h1 ha,R0Q h2 hb,run_equalIn_bool w d t p q T.und]
  exact⟨rfl,rfl⟩
 case int j=>
  have hd:=F0c hk.symm
  subst hd
  obtain⟨p,q,h1,h2,rfl⟩:=J0f h
  rw[V0b h1 ha,V0b h2 hb,run_equalIn_int w d t _ _ p q T.und]
  exact⟨by first|rfl|(congr 1;rw[Bool.eq_iff_iff];simp),rfl⟩
 case str=>
  have hd:=B0V hk.symm
  subst hd
  obtain⟨p,q,h1,h2,rfl⟩:=J0f h
  rw[Q0t h1 ha,Q0t h2 hb,run_equalIn_string w d t _ _ T.und,c0Y]
  exact⟨rfl,rfl⟩
theorem M0c(hE:EnvOk E P)(d:Nat)(cs ds:Array Value):∀(fs:List Field)(l m:List AVal)(i:Nat){r:Bool},H0Z E i (fs.map (fiOf P)) l m=some r→
  (∀k a,l[k]?=some a→∃v,cs[i+k]?=some v∧VRel Γ a v)→(∀k a,m[k]?=some a→∃v,ds[i+k]?=some v∧VRel Γ a v)→
  (Op.eqFields (d+1) cs ds fs).run P w=.ok r w
 |
  [],l,m,i,r,h,_,_=>by
  cases l<;>cases m<;>simp[H0Z] at h
  subst h
  simp[Op.eqFields]
 |f::fs,[],m,i,r,h,_,_=>by simp[H0Z] at h
 |f::fs,a::l,[],i,r,h,_,_=>by simp[H0Z] at h
 |
  f::fs,a::l,b::m,i,r,h,k1,k2=>by
  simp only[List.map_cons,H0Z] at h
  cases hq:(Nat.beq (fiOf P f).off i&&Nat.beq (fiOf P f).size 1&&!(fiOf P f).agg&&(fiOf P f).named) with
  |false=>rw[hq] at h;cases h
  |true=>
  rw[hq,A0e] at h
  simp only[Bool.and_eq_true] at hq
  obtain⟨⟨⟨o1,_⟩,_⟩,n1⟩:=hq
  have ho:f.offset=i:=Nat.eq_of_beq_eq_true o1
  have hn:f.name≠ "_" :=by simpa [fiOf] using n1
  obtain⟨va,p1,q1⟩:=k1 0 a rfl
  obtain⟨vb,p2,q2⟩:=k2 0 b rfl
  cases hty:E.tyOf (fiOf P f).t with
  |none=>rw[hty] at h;cases h
  |some ti=>
  rw[hty] at h
  obtain⟨ii,de,z,T⟩:=hE.ok hty
  obtain⟨r1,r2,e1,e2,rfl⟩:=J0f h
  obtain⟨hrun,hag⟩:=R0P (w:=w) q1 q2 T e1 d
  have ih:=M0c hE d cs ds fs l m (i+1) e2 (fun k x hx=>by have :=k1 (k+1) x (by simpa using hx);rwa[show i+(k+1)=i+1+k from by omega] at this)
   (fun k x hx=>by have :=k2 (k+1) x (by simpa using hx);rwa[show i+(k+1)=i+1+k from by omega] at this)
  have hu:P.underlying f.type=some de:=T.und
  have hpart:∀(xs:Array Value)(v:Value),xs[i]?=some v→(part f.type xs i).run P w=.ok v w:=by
   intro xs v hv
   have :(isAgg f.type).run P w=.ok false w:=by
    simp only[isAgg,Sem.run_bind,run_underlying hu,Result.andThen_ok]
    cases de<;>first|rfl|cases hag
   simp[part,this,hv]
  have hrun:(Op.equalIn (d+1) f.type va vb).run P w=.ok r1 w:=hrun
  simp only[Op.eqFields,if_pos hn,Sem.run_bind,ho,hpart cs va (by simpa using p1),hpart ds vb (by simpa using p2),Result.andThen_ok,hrun]
  cases r1 with
  |true=>simp[ih]
  |false=>simp
theorem T0O(hE:EnvOk E P){a b:AVal}{x y:Value}(ha:VRel Γ a x)(hb:VRel Γ b y){r:Bool}(h:T0m E t a b=some r):(Op.equal t x y).run P w=.ok r w∧(∃l,a=.agg l)∧∃l,b=.agg l:=by
 show(Op.equalIn (9998+2) t x y).run P w=_∧_
 generalize 9998=D
 unfold T0m at h
 cases a<;>simp only[reduceCtorEq] at h
 rename_i l
 cases b<;>simp only[reduceCtorEq] at h
 rename_i m
 refine⟨?_,⟨_,rfl⟩,⟨_,rfl⟩⟩
 cases hty:E.tyOf t with
 |none=>rw[hty] at h;cases h
 |some ti=>
 rw[hty] at h
 obtain⟨i,de,z,T⟩:=hE.ok hty
 simp only[] at h
 have hk:=T.k
 cases hc:ti.k<;>rw[hc] at h hk<;>simp only[reduceCtorEq] at h
 rename_i fs
 cases hs:ti.stood with
 |true=>rw[hs] at h;cases h
 |false=>
 rw[hs,A0f] at h
 obtain⟨xs,rfl,hxs⟩:=B0K ha
 obtain⟨ys,rfl,hys⟩:=B0K hb
 have gx:∀k a,l[k]?=some a→∃v,xs[0+k]?=some v∧VRel Γ a v:=fun k a h=>by
  obtain⟨v,h1,h2⟩:=hxs.get h;exact⟨v,by simpa using h1,h2⟩
 have gy:∀k a,m[k]?=some a→∃v,ys[0+k]?=some v∧VRel Γ a v:=fun k a h=>by
  obtain⟨v,h1,h2⟩:=hys.get h;exact⟨v,by simpa using h1,h2⟩
 obtain⟨fa',hfa,hfs⟩:=C0L hk.symm
 have hst:P.stoodInHeld t=false:=by rw[←T.stood];exact hs
 have hfo:P.fieldsOf t=fa':=by simp[Program.fieldsOf,T.und,hfa]
 rw[run_equalIn_struct w (D+1) t xs ys (by rw[hfo,T.und,hfa]) hst,hfo]
 rw[hfs] at h
 exact M0c hE D xs ys fa'.toList l m 0 h gx gy
theorem N0c{op:BinOp}{x y:Operand}{a b:AVal}{u v:Value}(ha:VRel Γ a u)(hb:VRel Γ b v){ti:TI}{i:TypeInfo}{d:TypeDesc}{z:Value}(T:TIOk P t ti i d z)
  (h:V0h ti x y a b=true) (na:a≠.any) (nb:b≠.any) (ra:∀q,a≠.raw q) (rb:∀q,b≠.raw q):(eqGuard op t x y u v).run P w=.ok () w:=by
 have hn:u=.nilIface→v=.nilIface→L0K x||L0K y:=by
  intro e1 e2
  subst e1;subst e2
  cases a<;>first
   |(exfalso;exact na rfl)
   |(exfalso;exact ra _ rfl)
   |skip
  all_goals first
   |(exfalso;unfold VRel at ha;simp at ha;done)
   |(exfalso;unfold VRel at ha;obtain⟨_,_,ha⟩:=ha;obtain⟨_,_,_,ha⟩:=E0p ha;cases ha)
   |(exfalso;unfold VRel at ha;obtain⟨_,_,ha⟩:=D0a ha;cases ha)
   |(exfalso;unfold VRel at ha;obtain⟨_,_,_,_,_,ha⟩:=ha;cases ha)
   |(exfalso;unfold VRel at ha;obtain⟨_,_,_,_,_,ha,_⟩:=ha;cases ha)
   |(exfalso;unfold VRel at ha;obtain⟨_,_,_,ha⟩:=ha;cases ha)
   |skip
  cases b<;>first
   |exact h
   |(exfalso;exact nb rfl)
   |(exfalso;exact rb _ rfl)
   |skip
  all_goals first
   |(exfalso;unfold VRel at hb;simp at hb;done)
   |(exfalso;unfold VRel at hb;obtain⟨_,_,hb⟩:=hb;obtain⟨_,_,_,hb⟩:=E0p hb;cases hb)
   |(exfalso;unfold VRel at hb;obtain⟨_,_,hb⟩:=D0a hb;cases hb)
   |(exfalso;unfold VRel at hb;obtain⟨_,_,_,_,_,hb⟩:=hb;cases hb)
   |(exfalso;unfold VRel at hb;obtain⟨_,_,_,_,_,hb,_⟩:=hb;cases hb)
   |(exfalso;unfold VRel at hb;obtain⟨_,_,_,hb⟩:=hb;cases hb)
 have hg:(∃c,u=.agg c)→(∃c,v=.agg c)→P.eqGuardType P.depth t=false:=by
  rintro⟨c1,rfl⟩⟨c2,rfl⟩
  cases a<;>first
   |(exfalso;exact na rfl)
   |(exfalso;exact ra _ rfl)
   |skip
  all_goals first
   |(exfalso;unfold VRel at ha;simp at ha;done)
   |(exfalso;unfold VRel at ha;obtain⟨_,_,ha⟩:=ha;obtain⟨_,_,_,ha⟩:=E0p ha;cases ha)
   |(exfalso;unfold VRel at ha;obtain⟨_,_,ha⟩:=D0a ha;cases ha)
   |(exfalso;unfold VRel at ha;obtain⟨_,_,_,_,_,ha⟩:=ha;cases ha)
   |(exfalso;unfold VRel at ha;obtain⟨_,_,_,_,_,ha,_⟩:=ha;cases ha)
   |(exfalso;unfold VRel at ha;obtain⟨_,_,_,ha⟩:=ha;cases ha)
   |skip
  cases b<;>first
   |(simp only[V0h] at h;rw[←T.guard];simpa using h)
   |(exfalso;exact nb rfl)
   |(exfalso;exact rb _ rfl)
   |skip
  all_goals first
   |(exfalso;unfold VRel at hb;simp at hb;done)
   |(exfalso;unfold VRel at hb;obtain⟨_,_,hb⟩:=hb;obtain⟨_,_,_,hb⟩:=E0p hb;cases hb)
   |(exfalso;unfold VRel at hb;obtain⟨_,_,hb⟩:=D0a hb;cases hb)
   |(exfalso;unfold VRel at hb;obtain⟨_,_,_,_,_,hb⟩:=hb;cases hb)
   |(exfalso;unfold VRel at hb;obtain⟨_,_,_,_,_,hb,_⟩:=hb;cases hb)
   |(exfalso;unfold VRel at hb;obtain⟨_,_,_,hb⟩:=hb;cases hb)
 have body:∀op',(op'=.eql∨op'=.neq)→(eqGuard op' t x y u v).run P w=.ok () w:=by
  intro op' hop
  unfold eqGuard
  rcases hop with rfl|rfl
  all_goals
   rw[if_neg (by simp)]
   split
   ·have h3:=hn rfl rfl
    clear hn hg h
    cases x<;>cases y<;>first|rfl|(simp[L0K] at h3;done)
   ·have h3:=hg ⟨_,rfl⟩ ⟨_,rfl⟩
    simp[h3]
   ·rfl
 cases op<;>first|exact body _ (.inl rfl)|exact body _ (.inr rfl)|rfl
end
section
variable{P:Program}{E:Env}{base:Bs}{w0:World}{Γ:Gam}{w:World}{s:St}{t:TypeId}
def Reads(Γ:Gam)(s:St)(r:Res AVal)(run:Result Value)(w:World):Prop:=∃a s' v,r=.ok a s'∧Same s s'∧run=.ok v w∧VRel Γ a v
def ReadsH(Γ:Gam)(s:St)(r:Res AVal)(run:Result Value)(w:World):Prop:=∃a s' v,r.Has a s'∧Same s s'∧run=.ok v w∧VRel Γ a v
theorem Reads.h{r:Res AVal}{run:Result Value}(h:Reads Γ s r run w):ReadsH Γ s r run w:=by
 obtain⟨a,s',v,rfl,h2⟩:=h
 exact⟨a,s',v,⟨rfl,rfl⟩,h2⟩
def K0G(v:AVal):Bool:=match v with
 |.any=>false
 |.raw _=>false
 |.sb _=>false
 |.si _ _=>false
 |.ss _=>false
 |.dsl _ _=>false
 |.dptr _ _ _ _=>false
 |.asl _ _ _ _=>false
 |.aptr _ _ _ _=>false
 |.dmp _ _ _ _=>false
 |_=>true
theorem X0r{k:TK}{a b:AVal}{r:Bool}(h:aEqP k a b=some r):K0G a=true∧K0G b=true:=by
 unfold aEqP at h
 cases k<;>simp only[reduceCtorEq] at h<;>
  (split at h<;>first|(split at h<;>first|exact⟨rfl,rfl⟩|cases h)|cases h)
theorem Y0J{a b:AVal}{r:Bool}(h:aEq E t a b=some r):K0G a=true∧K0G b=true:=by
 unfold aEq at h
 split at h
 ·split at h
  ·exact⟨rfl,rfl⟩
  ·cases h
 ·split at h
  ·cases h
  ·exact X0r h
theorem H0o{a:AVal}(h:K0G a=true):a≠.any∧∀q,a≠.raw q:=by
 constructor
 ·intro e;subst e;cases h
 ·intro q e;subst e;cases h
theorem X0z{a:AVal}{u:Value}(ha:VRel Γ a u)(he:K0G a=true)(hi:∀k n,a≠.int k n)(hs:∀q,a≠.str q):
  (∀k n,u≠.int k n)∧(∀k n,u≠.float k n)∧(∀k n m,u≠.complex k n m)∧(∀q,u≠.string q):=by
 cases a<;>first
  |exact absurd rfl (hi _ _)
  |exact absurd rfl (hs _)
  |cases he
  |skip
 all_goals (unfold VRel at ha)
 all_goals first
  |(subst ha;refine⟨?_,?_,?_,?_⟩<;>intros <;>simp;done)
  |(obtain⟨_,rfl,_⟩:=ha;refine⟨?_,?_,?_,?_⟩<;>intros <;>simp;done)
  |(obtain⟨_,_,rfl⟩:=ha;refine⟨?_,?_,?_,?_⟩<;>intros <;>simp;done)
  |(obtain⟨_,_,rfl,_⟩:=ha;refine⟨?_,?_,?_,?_⟩<;>intros <;>simp;done)
  |(obtain⟨_,_,ha⟩:=ha;obtain⟨_,_,_,rfl⟩:=E0p ha;refine⟨?_,?_,?_,?_⟩<;>intros <;>simp;done)
theorem R0E(hE:EnvOk E P){op:BinOp}{x y:Operand}{a b:AVal}{u v:Value}(ha:VRel Γ a u)(hb:VRel Γ b v)(g:(O0k E op t x y a b s).Good):
  Reads Γ s (O0k E op t x y a b s) ((do eqGuard op t x y u v;binOp op t u v:Sem Value).run P w) w:=by
 have eqs:(∀k n,a≠.int k n)→(∀q,a≠.str q)→(Z0T E op t x y a b s).Good→Reads Γ s (Z0T E op t x y a b s) ((do eqGuard op t x y u v;binOp op t u v:Sem Value).run P w) w:=by
  intro hni hns g
  have one:∀neg,(evEq E neg t x y a b s).Good→∃ti i d z r,TIOk P t ti i d z∧V0h ti x y a b=true∧((aEq E t a b=some r∧evEq E neg t x y a b s=.ok (.bool (sel neg (not r) r)) s)∨(T0m E t a b=some r∧evEq E neg t x y a b s=.ok (.sb (sel neg (not r) r)) s)):=by
   intro neg g
   unfold evEq at g⊢
   obtain⟨ti,i,d,z,hty,he,T⟩:=A0o hE (A0a g)
   rw[A0d he] at g⊢
   obtain⟨hq,hr⟩:=A0i g
   rw[hr] at g⊢
   cases ha:aEq E t a b with
   |some r=>exact⟨ti,i,d,z,r,T,hq,.inl ⟨rfl,rfl⟩⟩
   |
    none=>
    rw[ha] at g
    simp only[] at g⊢
    obtain⟨r,h1,h2⟩:=A0k (A0a g)
    rw[A0d h2]
    exact⟨ti,i,d,z,r,T,hq,.inr ⟨h1,rfl⟩⟩
  have same:∀r,(aEq E t a b=some r∨T0m E t a b=some r)→(Op.equal t u v).run P w=.ok r w∧K0G a=true∧K0G b=true:=by
   rintro r(h|h)
   ·exact⟨Y0j (w:=w) hE ha hb h,Y0J h⟩
   ·obtain⟨h1,⟨l,rfl⟩,⟨m,rfl⟩⟩:=T0O (w:=w) hE ha hb h
    exact⟨h1,rfl,rfl⟩
  have shape:∀r,(aEq E t a b=some r∨T0m E t a b=some r)→a≠.any∧b≠.any∧(∀q,a≠.raw q)∧(∀q,b≠.raw q):=by
   intro r h
   obtain⟨_,h1,h2⟩:=same r h
   exact⟨(H0o h1).1,(H0o h2).1,(H0o h1).2,(H0o h2).2⟩
  have bin:∀r,(aEq E t a b=some r∨T0m E t a b=some r)→(binOp .eql t u v).run P w=.ok (.bool r) w∧(binOp .neq t u v).run P w=.ok (.bool !r) w:=by
   intro r h
   obtain⟨h1,hea,_⟩:=same r h
   obtain⟨m1,m2,m3,m4⟩:=X0z ha hea hni hns
   constructor
   ·cases u<;>first
     |exact absurd rfl (m1 _ _)
     |exact absurd rfl (m2 _ _)
     |exact absurd rfl (m3 _ _ _)
     |exact absurd rfl (m4 _)
     |(simp only[binOp,Sem.run_bind,h1,Result.andThen_ok,Sem.run_pure])
   ·cases u<;>first
     |exact absurd rfl (m1 _ _)
     |exact absurd rfl (m2 _ _)
     |exact absurd rfl (m3 _ _ _)
     |exact absurd rfl (m4 _)
     |(simp only[binOp,Sem.run_bind,h1,Result.andThen_ok,Sem.run_pure])
  cases op<;>first
   |exact g.elim
   |skip
  case eql=>
   obtain⟨ti,i,d,z,r,T,h1,h23⟩:=one false g
   have h2:=h23.imp And.left And.left
   obtain⟨n1,n2,n3,n4⟩:=shape r h2
   have hrun:(do eqGuard .eql t x y u v;binOp .eql t u v:Sem Value).run P w=.ok (.bool r) w:=by
    rw[Sem.run_bind,N0c ha hb T h1 n1 n2 n3 n4]
    exact(bin r h2).1
   rcases h23 with⟨_,h3⟩|⟨_,h3⟩
   ·exact⟨_,s,.bool r,h3,.refl s,hrun,by unfold VRel;rfl⟩
   ·exact⟨_,s,.bool r,h3,.refl s,hrun,by unfold VRel;rfl⟩
  case neq=>
   obtain⟨ti,i,d,z,r,T,h1,h23⟩:=one true g
   have h2:=h23.imp And.left And.left
   obtain⟨n1,n2,n3,n4⟩:=shape r h2
   have hrun:(do eqGuard .neq t x y u v;binOp .neq t u v:Sem Value).run P w=.ok (.bool !r) w:=by
    rw[Sem.run_bind,N0c ha hb T h1 n1 n2 n3 n4]
    exact(bin r h2).2
   rcases h23 with⟨_,h3⟩|⟨_,h3⟩
   ·exact⟨_,s,.bool !r,h3,.refl s,hrun,by unfold VRel;rfl⟩
   ·exact⟨_,s,.bool !r,h3,.refl s,hrun,by unfold VRel;rfl⟩
 have freeI:∀k n k' m,(eqGuard op t x y (.int k n) (.int k' m)).run P w=.ok () w:=by
  intro k n k' m;cases op<;>rfl
 have freeS:∀p q,(eqGuard op t x y (.string p) (.string q)).run P w=.ok () w:=by
  intro p q;cases op<;>rfl
 unfold O0k at g⊢
 cases a<;>simp only[] at g⊢<;>first
  |exact eqs (by simp) (by simp) g
  |skip
 case int k n=>
  unfold VRel at ha;subst ha
  cases b<;>first
   |exact g.elim
   |skip
  case int k' m=>
   unfold VRel at hb;subst hb
   simp only[Sem.run_bind,freeI,Result.andThen_ok]
   simp only[] at g⊢
   cases hs:G0A op with
   |
    true=>
    rw[hs,A0e] at g
    rw[A0e]
    obtain⟨r,v,h1,h2,h3⟩:=O0S (P:=P) (Γ:=Γ) (w:=w) (t:=t) (k':=k') hs g
    exact⟨r,s,v,h1,.refl s,h2,h3⟩
   |
    false=>
    rw[hs,A0f] at g
    rw[A0f]
    cases hk:(k==k') with
    |false=>rw[hk] at g;exact g.elim
    |
     true=>
     have :k=k':=by simpa using hk
     subst this
     rw[hk,A0e] at g
     rw[A0e]
     obtain⟨r,v,h1,h2,h3⟩:=J0y (P:=P) (Γ:=Γ) (w:=w) (t:=t) hs g
     exact⟨r,s,v,h1,.refl s,h2,h3⟩
 case str p=>
  unfold VRel at ha;subst ha
  cases b<;>first
   |exact g.elim
   |skip
  case str q=>
   unfold VRel at hb;subst hb
   simp only[Sem.run_bind,freeS,Result.andThen_ok]
   obtain⟨r,v,h1,h2,h3⟩:=L0v (P:=P) (Γ:=Γ) (w:=w) (t:=t) g
   exact⟨r,s,v,h1,.refl s,h2,h3⟩
theorem N0v{op:BinOp}{k:IntKind}{a b:Int}(hs:G0A op=false)(g:(I0Q op k a b s).Good):
  ∃r v,(I0Q op k a b s).Has r s∧(binOp op t (.int k a) (.int k b)).run P w=.ok v w∧VRel Γ r v:=by
 have key:∀r0:AVal,D0W op k a b s=.ok r0 s→∃v,(binOp op t (.int k a) (.int k b)).run P w=.ok v w∧VRel Γ r0 v:=by
  intro r0 h
  obtain⟨r,v,h1,h2,h3⟩:=J0y (P:=P) (Γ:=Γ) (w:=w) (t:=t) (s:=s) (a:=a) (b:=b) hs (by rw[h];trivial)
  rw[h] at h1;cases h1
  exact⟨v,h2,h3⟩
 have bl:∀{p q:Bool}{v:Value},p=q→VRel Γ (.bool p) v→VRel Γ (.sb q) v:=by
  intro p q v e h
  subst e
  unfold VRel at h⊢;exact h
 cases op<;>first
  |exact g.elim
  |(cases hs;done)
  |skip
 case add=>obtain⟨v,h1,h2⟩:=key _ rfl;rw[E0q] at h2;exact⟨_,v,⟨rfl,rfl⟩,h1,by unfold VRel at h2⊢;exact h2⟩
 case sub=>obtain⟨v,h1,h2⟩:=key _ rfl;rw[E0q] at h2;exact⟨_,v,⟨rfl,rfl⟩,h1,by unfold VRel at h2⊢;exact h2⟩
 case mul=>obtain⟨v,h1,h2⟩:=key _ rfl;rw[E0q] at h2;exact⟨_,v,⟨rfl,rfl⟩,h1,by unfold VRel at h2⊢;exact h2⟩
 case quo=>
  obtain⟨hb,_,hh⟩:=A0W (m:=M.pure (.si k (k.wrap (Int.tdiv a b)))) g
  have hz:eqI b 0=false:=by rw[E0e];simpa using hb
  obtain⟨v,h1,h2⟩:=key (Q0U k (Int.tdiv a b)) (by simp only[D0W,hz,A0f];rfl)
  rw[E0q] at h2
  exact⟨_,v,hh _ _ ⟨rfl,rfl⟩,h1,by unfold VRel at h2⊢;exact h2⟩
 case rem=>
  obtain⟨hb,_,hh⟩:=A0W (m:=M.pure (.si k (Int.tmod a b))) g
  have hz:eqI b 0=false:=by rw[E0e];simpa using hb
  obtain⟨v,h1,h2⟩:=key (.int k (Int.tmod a b)) (by simp only[D0W,hz,A0f];rfl)
  exact⟨_,v,hh _ _ ⟨rfl,rfl⟩,h1,by unfold VRel at h2⊢;exact h2⟩
 case eql=>obtain⟨v,h1,h2⟩:=key _ rfl;exact⟨_,v,⟨rfl,rfl⟩,h1,bl (E0e a b) h2⟩
 case neq=>obtain⟨v,h1,h2⟩:=key _ rfl;exact⟨_,v,⟨rfl,rfl⟩,h1,bl (by rw[E0e];rfl) h2⟩
 case lss=>obtain⟨v,h1,h2⟩:=key _ rfl;exact⟨_,v,⟨rfl,rfl⟩,h1,bl (G0t a b) h2⟩
 case leq=>obtain⟨v,h1,h2⟩:=key _ rfl;exact⟨_,v,⟨rfl,rfl⟩,h1,bl (by rw[G0t]) h2⟩
 case gtr=>obtain⟨v,h1,h2⟩:=key _ rfl;exact⟨_,v,⟨rfl,rfl⟩,h1,bl (G0t b a) h2⟩
 case geq=>obtain⟨v,h1,h2⟩:=key _ rfl;exact⟨_,v,⟨rfl,rfl⟩,h1,bl (by rw[G0t]) h2⟩
 case and=>obtain⟨v,h1,h2⟩:=key _ rfl;exact⟨_,v,⟨rfl,rfl⟩,h1,by unfold VRel at h2⊢;exact h2⟩
 case or=>obtain⟨v,h1,h2⟩:=key _ rfl;exact⟨_,v,⟨rfl,rfl⟩,h1,by unfold VRel at h2⊢;exact h2⟩
theorem M0Q(s:ByteArray):(⟨s.data.toList.toArray⟩:ByteArray)=s:=by cases s;simp
theorem b0W(a b:ByteArray):(a.data.toList==b.data.toList)=decide (a=b):=by
 rw[Bool.eq_iff_iff]
 simp only[beq_iff_eq,decide_eq_true_eq]
 constructor
 ·intro h;rw[←M0Q a,←M0Q b,h]
 ·intro h;rw[h]
theorem Q0p{op:BinOp}{a b:ByteArray}(g:(Q0q op a b s).Good):
  ∃r v,(Q0q op a b s).Has r s∧(binOp op t (.string a) (.string b)).run P w=.ok v w∧VRel Γ r v:=by
 have key:∀r0:AVal,Q0x op a.data.toList b.data.toList s=.ok r0 s→∃v,(binOp op t (.string a) (.string b)).run P w=.ok v w∧VRel Γ r0 v:=by
  intro r0 h
  obtain⟨r,v,h1,h2,h3⟩:=L0v (P:=P) (Γ:=Γ) (w:=w) (t:=t) (s:=s) (op:=op) (a:=a.data.toList) (b:=b.data.toList) (by rw[h];trivial)
  rw[h] at h1;cases h1
  rw[M0Q,M0Q] at h2
  exact⟨v,h2,h3⟩
 have bl:∀{p q:Bool}{v:Value},p=q→VRel Γ (.bool p) v→VRel Γ (.sb q) v:=by
  intro p q v e h
  subst e
  unfold VRel at h⊢;exact h
 cases op<;>first
  |exact g.elim
  |skip
 case add=>
  obtain⟨hb,_,hh⟩:=A0W (m:=M.pure (.ss (a++b))) g
  have hz:Nat.blt (len a.data.toList+len b.data.toList) 1000000=true:=by
   rw[Nat.blt_eq,A0O,A0O]
   have hb':=of_decide_eq_true hb
   rw[show a.data.toList.length=a.size from rfl,show b.data.toList.length=b.size from rfl]
   exact hb'
  obtain⟨v,h1,h2⟩:=key (.str (a.data.toList++b.data.toList)) (by simp only[Q0x,hz,A0e];rfl)
  refine⟨_,v,hh _ _ ⟨rfl,rfl⟩,h1,?_⟩
  unfold VRel at h2⊢
  rw[h2]
  rw[←M0Q (a++b)]
  simp
 case eql=>obtain⟨v,h1,h2⟩:=key _ rfl;exact⟨_,v,⟨rfl,rfl⟩,h1,bl (by rw[H0O,b0W]) h2⟩
 case neq=>obtain⟨v,h1,h2⟩:=key _ rfl;exact⟨_,v,⟨rfl,rfl⟩,h1,bl (by rw[H0O,b0W]) h2⟩
 case lss=>obtain⟨v,h1,h2⟩:=key _ rfl;exact⟨_,v,⟨rfl,rfl⟩,h1,bl rfl h2⟩
 case leq=>obtain⟨v,h1,h2⟩:=key _ rfl;exact⟨_,v,⟨rfl,rfl⟩,h1,bl rfl h2⟩
 case gtr=>obtain⟨v,h1,h2⟩:=key _ rfl;exact⟨_,v,⟨rfl,rfl⟩,h1,bl rfl h2⟩
 case geq=>obtain⟨v,h1,h2⟩:=key _ rfl;exact⟨_,v,⟨rfl,rfl⟩,h1,bl rfl h2⟩
def f0V(p:SP)(u v:Value):Prop:=match p with
 |.ints j a k b=>u=.int j a∧v=.int k b
 |.strs a b=>u=.string a∧v=.string b
 |.bools a b=>u=.bool a∧v=.bool b
theorem T0C{a b:AVal}{u v:Value}(ha:VRel Γ a u)(hb:VRel Γ b v){p:SP}(h:P0z a b=some p):f0V p u v:=by
 unfold P0z at h
 cases a<;>simp only[reduceCtorEq] at h<;>cases b<;>simp only[Option.some.injEq,reduceCtorEq] at h<;>subst h<;>unfold VRel at ha hb<;>exact⟨ha,hb⟩
theorem T0x(hE:EnvOk E P){op:BinOp}{x y:Operand}{a b:AVal}{u v:Value}(ha:VRel Γ a u)(hb:VRel Γ b v)(g:(W0q E op t x y a b s).Good):
  ReadsH Γ s (W0q E op t x y a b s) ((do eqGuard op t x y u v;binOp op t u v:Sem Value).run P w) w:=by
 unfold W0q at g⊢
 cases hp:P0z a b with
 |none=>rw[hp] at g;exact(R0E hE ha hb g).h
 |
  some p=>
  rw[hp] at g
  have hr:=T0C ha hb hp
  simp only[] at g⊢
  cases p with
  |
   ints j m k n=>
   obtain⟨rfl,rfl⟩:=hr
   have free:(eqGuard op t x y (.int j m) (.int k n)).run P w=.ok () w:=by cases op<;>rfl
   simp only[S0b] at g⊢
   simp only[Sem.run_bind,free,Result.andThen_ok]
   cases hs:G0A op with
   |
    true=>
    rw[hs,A0e] at g
    rw[A0e]
    obtain⟨r,v,h1,h2,h3⟩:=N0x (P:=P) (Γ:=Γ) (w:=w) (t:=t) (k':=k) hs g
    exact⟨r,s,v,by rw[h1];exact⟨rfl,rfl⟩,.refl s,h2,h3⟩
   |
    false=>
    rw[hs,A0f] at g
    rw[A0f]
    cases hk:(j==k) with
    |false=>rw[hk] at g;exact g.elim
    |
     true=>
     have :j=k:=by simpa using hk
     subst this
     rw[hk,A0e] at g
     rw[A0e]
     obtain⟨r,v,h1,h2,h3⟩:=N0v (P:=P) (Γ:=Γ) (w:=w) (t:=t) hs g
     exact⟨r,s,v,h1,.refl s,h2,h3⟩
  |
   strs m n=>
   obtain⟨rfl,rfl⟩:=hr
   have free:(eqGuard op t x y (.string m) (.string n)).run P w=.ok () w:=by cases op<;>rfl
   simp only[S0b] at g⊢
   simp only[Sem.run_bind,free,Result.andThen_ok]
   obtain⟨r,v,h1,h2,h3⟩:=Q0p (P:=P) (Γ:=Γ) (w:=w) (t:=t) g
   exact⟨r,s,v,h1,.refl s,h2,h3⟩
  |
   bools m n=>
   obtain⟨rfl,rfl⟩:=hr
   have free:(eqGuard op t x y (.bool m) (.bool n)).run P w=.ok () w:=by cases op<;>rfl
   simp only[S0b] at g⊢
   simp only[Sem.run_bind,free,Result.andThen_ok]
   obtain⟨ti,i,d,z,hty,he,T⟩:=A0o hE (A0a g)
   rw[A0d he] at g⊢
   obtain⟨hq,hr⟩:=A0i g
   rw[hr] at g⊢
   have hkb:ti.k=.bool:=by
    unfold Y0u at hq
    split at hq
    ·assumption
    ·cases hq
   have heq:=run_equalIn_bool (P:=P) w 9999 t m n (by rw[T.und,H0d (T.k.symm.trans hkb)])
   have heq:(Op.equal t (.bool m) (.bool n)).run P w=.ok (m==n) w:=heq
   cases op<;>first
    |exact g.elim
    |skip
   case eql=>exact⟨.sb (m==n),s,.bool (m==n),⟨rfl,rfl⟩,.refl s,by simp only[binOp,Sem.run_bind,heq,Result.andThen_ok,Sem.run_pure],by unfold VRel;rfl⟩
   case neq=>exact⟨.sb (!(m==n)),s,.bool !(m==n),⟨rfl,rfl⟩,.refl s,by simp only[binOp,Sem.run_bind,heq,Result.andThen_ok,Sem.run_pure],by unfold VRel;rfl⟩
theorem V0r{op:UnOp}{a:AVal}{u:Value}(ha:VRel Γ a u)(g:(evUn op a s).Good):Reads Γ s (evUn op a s) ((Op.unary op u).run P w) w:=by
 unfold evUn at g⊢
 cases op<;>simp only[] at g⊢<;>first
  |exact g.elim
  |skip
 case neg=>
  cases a<;>first
   |exact g.elim
   |skip
  all_goals
   unfold VRel at ha;subst ha
   exact⟨_,s,_,rfl,.refl s,by simp[Op.unary,Op.intArith];rfl,by unfold VRel;simp⟩
 case not=>
  cases a<;>first
   |exact g.elim
   |skip
  all_goals
   unfold VRel at ha;subst ha
   exact⟨_,s,_,rfl,.refl s,by simp[Op.unary];rfl,by unfold VRel;rfl⟩
theorem K0z{cs:List AVal}{vs:Array Value}(h:VRels Γ cs vs.toList){off:Nat}{te:TypeId}{ti:TI}{i:TypeInfo}{d:TypeDesc}{z:Value}(T:TIOk P te ti i d z){r:AVal}
  (hp:U0u cs off ti.size ti.agg=some r):∃v,(part te vs off).run P w=.ok v w∧VRel Γ r v:=by
 unfold U0u at hp
 simp only[part,Sem.run_bind,T.run_agg,Result.andThen_ok]
 cases hag:ti.agg with
 |
  true=>
  rw[hag,A0e] at hp
  cases hp
  refine⟨.agg (vs.extract off (off+ti.size)),by simp[T.run_size],?_⟩
  unfold VRel
  refine⟨_,rfl,?_⟩
  rw[F0g,G0s]
  have :=(h.drop off).take ti.size
  simpa [Array.toList_extract,List.extract_eq_take_drop] using this
 |
  false=>
  rw[hag,A0f,E0Z] at hp
  obtain⟨v,h1,h2⟩:=h.get hp
  have h1':vs[off]?=some v:=by simpa using h1
  exact⟨v,by simp[h1'],h2⟩
theorem P0W(hE:EnvOk E P){f:Nat}{a:AVal}{u:Value}(ha:VRel Γ a u)(g:(M0V E t f a s).Good):Reads Γ s (M0V E t f a s) ((Instr.fieldAt t u f).run P w) w:=by
 have gen:∀(mk:Nat→AVal)(b o off:Nat),u=.pointer (some ⟨b,o+off,none⟩)→(∀q,VRel Γ (mk (off+q)) (.pointer (some ⟨b,o+off+q,none⟩)))→
   (M.bind (E.ti t) (fun ti=>match ti.k with
    |
     .struct fs=>(match nth fs f with
     |some f=>M.req (not (Nat.beq f.size 0)) (forced (off+f.off) fun o=>M.pure (mk o))
     |none=>M.fail)
    |_=>M.fail) s).Good→
   Reads Γ s (M.bind (E.ti t) (fun ti=>match ti.k with
    |
     .struct fs=>(match nth fs f with
     |some f=>M.req (not (Nat.beq f.size 0)) (forced (off+f.off) fun o=>M.pure (mk o))
     |none=>M.fail)
    |_=>M.fail) s) ((Instr.fieldAt t u f).run P w) w:=by
  intro mk b o off hu hmk g
  subst hu
  obtain⟨ti,inf,d,z,hty,he,T⟩:=A0o hE (A0a g)
  rw[A0d he] at g⊢
  have hk:=T.k
  cases hc:ti.k<;>rw[hc] at g hk<;>first
   |exact g.elim
   |skip
  rename_i fs
  obtain⟨fa,hd,hfs⟩:=C0L hk.symm
  simp only[E0Z] at g⊢
  cases hf:fs[f]? with
  |none=>rw[hf] at g;exact g.elim
  |
   some fi=>
   rw[hf] at g
   obtain⟨hq,hr⟩:=A0i g
   simp only[B0F] at hr
   simp only[B0F]
   rw[hr]
   rw[hfs] at hf
   simp only[List.getElem?_map,Option.map_eq_some_iff] at hf
   obtain⟨fl,hf1,rfl⟩:=hf
   have hf1':fa[f]?=some fl:=by simpa using hf1
   have hsz:P.cellsOf fl.type≠0:=by intro h0;simp[fiOf,h0] at hq
   refine⟨_,s,.pointer (some ⟨b,o+off+fl.offset,none⟩),rfl,.refl s,?_,hmk _⟩
   simp[Instr.fieldAt,T.run_und,hd,hf1',Instr.sureAddr,fieldPlace,A0B (Nat.pos_of_ne_zero hsz),hsz,B0C]
 cases a<;>first
  |exact g.elim
  |skip
 case ptr n off=>
  obtain⟨i,hi,rfl⟩:=G0r ha
  exact gen (fun o=>.ptr n o) i.b i.o off rfl (fun q=>by unfold VRel;exact⟨i,hi,by rw[Nat.add_assoc]⟩) g
 case dptr c l j off=>
  unfold VRel at ha
  obtain⟨hj,b,zz,cap,hc,rfl⟩:=ha
  exact gen (fun o=>.dptr c l j o) b (zz+j*Univ.esz c) off rfl (fun q=>by unfold VRel;exact⟨hj,b,zz,cap,hc,by rw[Nat.add_assoc]⟩) g
 case aptr c n j off=>
  unfold VRel at ha
  obtain⟨i,hi,hj,rfl⟩:=ha
  exact gen (fun o=>.aptr c n j o) i.b (j*Univ.esz c) off rfl (fun q=>by unfold VRel;exact⟨i,hi,hj,by rw[Nat.add_assoc]⟩) g
theorem N0z(hE:EnvOk E P){a b:AVal}{u v:Value}(ha:VRel Γ a u)(hb:VRel Γ b v)(g:(H0F E t a b s).Good):
  ReadsH Γ s (H0F E t a b s) ((Instr.indexAt t u v).run P w) w:=by
 unfold H0F at g⊢
 obtain⟨n,h1,h2⟩:=A0k (A0a g)
 rw[A0d h2] at g⊢
 have hv:∃kd,v=.int kd n:=by
  unfold sInt at h1
  cases b<;>simp only[reduceCtorEq,Option.some.injEq] at h1<;>subst h1<;>unfold VRel at hb<;>exact⟨_,hb⟩
 obtain⟨kd,rfl⟩:=hv
 obtain⟨ti,inf,d,z,hty,he,T⟩:=A0o hE (A0a g)
 rw[A0d he] at g⊢
 have hk:=T.k
 cases hc:ti.k<;>rw[hc] at g hk<;>simp only[] at g⊢<;>first
  |exact g.elim
  |skip
 rename_i e sz
 obtain⟨hd,hsz⟩:=A0S hk.symm
 cases a<;>simp only[] at g⊢<;>first
  |exact g.elim
  |skip
 case asl c m off k=>
  obtain⟨hq,hr⟩:=A0i g
  rw[hr] at g⊢
  obtain⟨hn,_,hh⟩:=A0W g
  simp only[Bool.and_eq_true,decide_eq_true_eq] at hn
  have hes:sz=Univ.esz c:=Nat.eq_of_beq_eq_true hq
  unfold VRel at ha
  obtain⟨i,hi,hbd,o,cap,rfl,hkc,ho⟩:=ha
  have hlt:n.toNat<k:=by omega
  obtain⟨rfl,_⟩:=ho (by omega)
  refine⟨_,s,.pointer (some ⟨i.b,off*Univ.esz c+n.toNat*sz,none⟩),hh _ _ ⟨rfl,rfl⟩,.refl s,?_,?_⟩
  ·have hp:=Univ.pos c
   have hsz':(sizeOf e).run P w=.ok sz w:=by rw[hsz];exact A0B (by omega) w
   have hn0:¬n<0:=by omega
   simp[Instr.indexAt,asIntOf,T.run_und,hd,hlt,hsz',B0C,hn.1,hn.2,hn0]
  ·unfold VRel
   exact⟨i,hi,by omega,by rw[hes,Nat.add_mul,Nat.add_comm (n.toNat*_),Nat.add_zero]⟩
 rename_i c l
 obtain⟨hq,hr⟩:=A0i g
 rw[hr] at g⊢
 obtain⟨hn,_,hh⟩:=A0W g
 simp only[Bool.and_eq_true,decide_eq_true_eq] at hn
 have hes:sz=Univ.esz c:=Nat.eq_of_beq_eq_true hq
 unfold VRel at ha
 have hlt:n.toNat<l.length:=by omega
 generalize hdat:(Cell.sl c l:Cell Univ.C Univ.S)=dat at ha
 have ha0:=ha
 cases ha with
 |b x=>cases hdat
 |i k x=>cases hdat
 |s x=>cases hdat
 |f n=>cases hdat
 |nil c' A cap=>cases hdat;simp at hlt
 |
  sl c' l' b o cap C e' z' g' hb' hc' hg' hh'=>
  cases hdat
  refine⟨_,s,.pointer (some ⟨b,o+n.toNat*sz,none⟩),hh _ _ ⟨rfl,rfl⟩,.refl s,?_,?_⟩
  ·have hp:=Univ.pos c
   have hsz':(sizeOf e).run P w=.ok sz w:=by rw[hsz];exact A0B (by omega) w
   have hn0:¬n<0:=by omega
   simp[Instr.indexAt,asIntOf,T.run_und,hd,hlt,hsz',B0C,hn.1,hn.2,hn0]
  ·unfold VRel
   exact⟨hlt,b,o,cap,ha0,by rw[hes];rfl⟩
theorem F0i(hE:EnvOk E P){a b:AVal}{u v:Value}(ha:VRel Γ a u)(hb:VRel Γ b v)(g:(B0p E t a b s).Good):
  Reads Γ s (B0p E t a b s) ((Instr.indexAt t u v).run P w) w:=by
 unfold B0p at g⊢
 obtain⟨k,h1,h2⟩:=A0k (A0a g)
 rw[A0d h2] at g⊢
 have hv:∃kd,v=.int kd (k:Int):=by
  unfold F0h at h1
  cases b<;>simp only[reduceCtorEq] at h1
  rename_i kd m
  cases m<;>simp only[reduceCtorEq,Option.some.injEq] at h1
  subst h1
  unfold VRel at hb;exact⟨kd,hb⟩
 obtain⟨kd,rfl⟩:=hv
 obtain⟨ti,inf,d,z,hty,he,T⟩:=A0o hE (A0a g)
 rw[A0d he] at g⊢
 have hk:=T.k
 cases hc:ti.k<;>rw[hc] at g hk<;>simp only[] at g⊢<;>first
  |exact g.elim
  |skip
 case slice e sz=>
  obtain⟨hd,hsz⟩:=A0S hk.symm
  cases a<;>simp only[] at g⊢<;>first
   |exact g.elim
   |skip
  rename_i n off ln cap esz
  cases hb2:(Nat.blt k ln&&Nat.beq sz esz) with
  |false=>rw[hb2] at g;exact g.elim
  |
   true=>
   simp only[A0e,B0F]
   simp[Nat.blt_eq,Nat.beq_eq] at hb2
   obtain⟨hlt,rfl⟩:=hb2
   unfold VRel at ha
   obtain⟨i,hi,hs⟩:=ha
   obtain⟨hpos,hs⟩:=hs
   have hu:∃C,u=.slice (some ⟨i.b,i.o+off,none⟩) ln C:=by
    cases cap with
    |
     none=>
     rcases hs.2 with⟨C,e,_⟩|⟨z0,_⟩
     ·exact⟨C,e⟩
     ·omega
    |some c=>exact⟨c,hs.1⟩
   obtain⟨C,rfl⟩:=hu
   refine⟨_,s,.pointer (some ⟨i.b,i.o+off+k*sz,none⟩),rfl,.refl s,?_,?_⟩
   ·have hsz':(sizeOf e).run P w=.ok sz w:=by rw[hsz];exact A0B (by omega) w
    simp[Instr.indexAt,asIntOf,T.run_und,hd,hlt,hsz',B0C]
   ·unfold VRel;exact⟨i,hi,by rw[Nat.add_assoc]⟩
 case array ln e sz=>
  obtain⟨hd,hsz⟩:=D0u hk.symm
  cases a<;>simp only[] at g⊢<;>first
   |exact g.elim
   |skip
  rename_i n off
  cases hb2:(Nat.blt k ln&&Nat.blt 0 sz) with
  |false=>rw[hb2] at g;exact g.elim
  |
   true=>
   simp only[A0e,B0F]
   simp[Nat.blt_eq] at hb2
   obtain⟨hlt,hpos⟩:=hb2
   obtain⟨i,hi,rfl⟩:=G0r ha
   refine⟨_,s,.pointer (some ⟨i.b,i.o+off+k*sz,none⟩),rfl,.refl s,?_,?_⟩
   ·have hsz':(sizeOf e).run P w=.ok sz w:=by rw[hsz];exact A0B (by omega) w
    simp[Instr.indexAt,asIntOf,T.run_und,hd,hlt,hsz',B0C,Instr.sureAddr]
   ·unfold VRel;exact⟨i,hi,by rw[Nat.add_assoc]⟩
theorem K0J{f:Nat→M AVal}{n:Int}:∀(k j:Nat){s:St},(F0o f n k j s).Good→∃i:Nat,n=(i:Int)∧(f i s).Good∧∀a t,(f i s).Has a t→(F0o f n k j s).Has a t
 |0,_,_,g=>g.elim
 |
  k+1,j,s,g=>by
  have g:(Res.ite (decide (n=.ofNat j)) (f j s) (F0o f n k (j+1) s)).Good:=g
  show∃i:Nat,n=(i:Int)∧(f i s).Good∧∀a t,(f i s).Has a t→(Res.ite (decide (n=.ofNat j)) (f j s) (F0o f n k (j+1) s)).Has a t
  cases h:decide (n=.ofNat j) with
  |true=>rw[h] at g;exact⟨j,of_decide_eq_true h,g,fun _ _ q=>q⟩
  |
   false=>
   rw[h] at g
   obtain⟨i,h1,h2,h3⟩:=K0J k (j+1) g
   exact⟨i,h1,h2,fun a t q=>h3 a t q⟩
theorem M0J(hE:EnvOk E P){a:AVal}{k:IntKind}{n:Int}{u v:Value}(ha:VRel Γ a u)(hb:VRel Γ (.si k n) v)(g:(F0J E t a k n s).Good):
  ReadsH Γ s (F0J E t a k n s) ((Instr.indexAt t u v).run P w) w:=by
 unfold F0J at g⊢
 obtain⟨ti,inf,d,z,hty,he,T⟩:=A0o hE (A0a g)
 rw[A0d he] at g⊢
 have key:∀m,(F0o (fun j=>B0p E t a (.int k (.ofNat j))) n m 0 s).Good→ReadsH Γ s (F0o (fun j=>B0p E t a (.int k (.ofNat j))) n m 0 s) ((Instr.indexAt t u v).run P w) w:=by
  intro m g
  obtain⟨i,h1,h2,h3⟩:=K0J m 0 g
  have hb2:VRel Γ (.int k (.ofNat i)) v:=by
   unfold VRel at hb⊢
   rw[hb,h1];rfl
  obtain⟨r,s',x,q1,q2,q3,q4⟩:=F0i (w:=w) hE ha hb2 h2
  exact⟨r,s',x,h3 _ _ (by rw[q1];exact⟨rfl,rfl⟩),q2,q3,q4⟩
 cases hc:ti.k<;>rw[hc] at g<;>simp only[] at g⊢<;>first
  |exact g.elim
  |skip
 case slice=>
  cases a<;>simp only[] at g⊢<;>first
   |exact g.elim
   |skip
  exact key _ g
 case array=>exact key _ g
theorem J0Y(hE:EnvOk E P){a b:AVal}{u v:Value}(ha:VRel Γ a u)(hb:VRel Γ b v)(g:(D0w E t a b s).Good):
  ReadsH Γ s (D0w E t a b s) ((Instr.indexAt t u v).run P w) w:=by
 unfold D0w at g⊢
 cases hdl:e0H a with
 |
  true=>
  rw[hdl,A0e] at g
  rw[A0e]
  exact N0z hE ha hb g
 |
  false=>
  rw[hdl,A0f] at g
  rw[A0f]
  split at g
  case h_1=>exact M0J hE ha hb g
  case h_2=>exact(F0i hE ha hb g).h
end
section
variable{P:Program}{E:Env}{base:Bs}{w0:World}{Γ:Gam}{w:World}{s:St}{t:TypeId}
theorem E0u{a:AVal}{k:Nat}(h:F0h a=some k){v:Value}(hv:VRel Γ a v):∃kd,v=.int kd (k:Int):=by
 unfold F0h at h
 cases a<;>simp only[reduceCtorEq] at h
 rename_i kd m
 cases m<;>simp only[reduceCtorEq,Option.some.injEq] at h
 subst h
 unfold VRel at hv;exact⟨kd,hv⟩
theorem Q0R(hE:EnvOk E P){f:Nat}{a:AVal}{u:Value}(ha:VRel Γ a u)(g:(N0Z E t f a s).Good):Reads Γ s (N0Z E t f a s) ((Instr.field t u f).run P w) w:=by
 cases a<;>first
  |exact g.elim
  |skip
 rename_i cs
 obtain⟨vs,rfl,hvs⟩:=B0K ha
 unfold N0Z at g⊢
 simp only[] at g⊢
 obtain⟨ti,inf,d,z,hty,he,T⟩:=A0o hE (A0a g)
 rw[A0d he] at g⊢
 have hk:=T.k
 cases hc:ti.k<;>rw[hc] at g hk<;>first
  |exact g.elim
  |skip
 rename_i fs
 obtain⟨fa,hd,hfs⟩:=C0L hk.symm
 simp only[E0Z] at g⊢
 cases hf:fs[f]? with
 |none=>rw[hf] at g;exact g.elim
 |
  some fi=>
  rw[hf] at g
  rw[hfs] at hf
  simp only[List.getElem?_map,Option.map_eq_some_iff] at hf
  obtain⟨fl,hf1,rfl⟩:=hf
  have hf1':fa[f]?=some fl:=by simpa using hf1
  simp only[] at g⊢
  obtain⟨tf,inf',d',z',hty',he',T'⟩:=A0o hE (A0a g)
  rw[A0d he'] at g⊢
  obtain⟨r,h1,h2⟩:=A0k g
  obtain⟨v,h3,h4⟩:=K0z (w:=w) hvs T' h1
  refine⟨r,s,v,h2,.refl s,?_,h4⟩
  have h3':(part fl.type vs fl.offset).run P w=.ok v w:=h3
  simp[Instr.field,T.run_und,hd,hf1',asAgg,h3']
theorem P0g(hE:EnvOk E P){a b:AVal}{u v:Value}(ha:VRel Γ a u)(hb:VRel Γ b v)(g:(P0i E t a b s).Good):
  ReadsH Γ s (P0i E t a b s) ((Instr.index t u v).run P w) w:=by
 unfold P0i at g⊢
 obtain⟨n,h1,h2⟩:=A0k (A0a g)
 rw[A0d h2] at g⊢
 have hv:∃kd,v=.int kd n:=by
  unfold sInt at h1
  cases b<;>simp only[reduceCtorEq,Option.some.injEq] at h1<;>subst h1<;>unfold VRel at hb<;>exact⟨_,hb⟩
 obtain⟨kd,rfl⟩:=hv
 obtain⟨ti,inf,d,z,hty,he,T⟩:=A0o hE (A0a g)
 rw[A0d he] at g⊢
 have hk:=T.k
 cases hc:ti.k<;>rw[hc] at g hk<;>simp only[] at g⊢<;>first
  |exact g.elim
  |skip
 have hd:=B0V hk.symm
 cases a<;>simp only[] at g⊢<;>first
  |exact g.elim
  |skip
 rename_i l
 unfold VRel at ha;subst ha
 obtain⟨hn,_,hh⟩:=A0W g
 simp only[Bool.and_eq_true,decide_eq_true_eq] at hn
 refine⟨_,s,.int .u8 (l.data.toList.getD n.toNat 0).toNat,hh _ _ ⟨rfl,rfl⟩,.refl s,?_,by unfold VRel;rfl⟩
 have h5:n.toNat<l.size:=by omega
 have :l[n.toNat]?=some (l.data.toList.getD n.toNat 0):=by
  have h6:n.toNat<l.data.toList.length:=h5
  rw[getElem?_pos l n.toNat h5,List.getD_eq_getElem?_getD,List.getElem?_eq_getElem h6]
  rfl
 simp[Instr.index,asIntOf,T.run_und,hd,this,hn.1]
theorem P0J(hE:EnvOk E P){a b:AVal}{u v:Value}(ha:VRel Γ a u)(hb:VRel Γ b v)(g:(J0N E t a b s).Good):
  ReadsH Γ s (J0N E t a b s) ((Instr.index t u v).run P w) w:=by
 unfold J0N at g⊢
 cases hs:isSs a with
 |true=>rw[hs,A0e] at g;rw[A0e];exact P0g hE ha hb g
 |false=>
 rw[hs,A0f] at g
 rw[A0f]
 refine Reads.h ?_
 obtain⟨k,h1,h2⟩:=A0k (A0a g)
 rw[A0d h2] at g⊢
 obtain⟨kd,rfl⟩:=E0u h1 hb
 obtain⟨ti,inf,d,z,hty,he,T⟩:=A0o hE (A0a g)
 rw[A0d he] at g⊢
 have hk:=T.k
 cases hc:ti.k<;>rw[hc] at g hk<;>simp only[] at g⊢<;>first
  |exact g.elim
  |skip
 case str=>
  have hd:=B0V hk.symm
  cases a<;>simp only[] at g⊢<;>first
   |exact g.elim
   |skip
  rename_i l
  unfold VRel at ha;subst ha
  rw[E0Z] at g⊢
  cases hl:l[k]? with
  |none=>rw[hl] at g;exact g.elim
  |
   some c=>
   obtain⟨hlt,hce⟩:=List.getElem?_eq_some_iff.1 hl
   refine⟨_,s,.int .u8 c.toNat,rfl,.refl s,?_,by unfold VRel;rfl⟩
   have :(⟨l.toArray⟩:ByteArray)[k]?=some c:=by
    have h5:k<(⟨l.toArray⟩:ByteArray).size:=by simpa [ByteArray.size] using hlt
    rw[getElem?_pos _ k h5]
    show some (l.toArray[k])=_
    simp[hce]
   simp[Instr.index,asIntOf,T.run_und,hd,this]
 case array ln e sz=>
  obtain⟨hd,hsz⟩:=D0u hk.symm
  cases a<;>simp only[] at g⊢<;>first
   |exact g.elim
   |skip
  rename_i cs
  obtain⟨vs,rfl,hvs⟩:=B0K ha
  obtain⟨te,inf',d',z',hty',he',T'⟩:=A0o hE (A0a g)
  rw[A0d he'] at g⊢
  cases hb2:Nat.blt k ln with
  |false=>rw[hb2] at g;exact g.elim
  |
   true=>
   rw[hb2,A0e] at g
   simp only[A0e]
   have hlt:k<ln:=by simpa [Nat.blt_eq] using hb2
   obtain⟨r,h3,h4⟩:=A0k g
   obtain⟨v,h5,h6⟩:=K0z (w:=w) hvs T' h3
   refine⟨r,s,v,h4,.refl s,?_,h6⟩
   simp[Instr.index,asIntOf,T.run_und,hd,hlt,T'.run_size,h5]
theorem T0c(hE:EnvOk E P)(R:Rel E base w0 Γ s.h w){a:AVal}{u:Value}(ha:VRel Γ a u){ats:Array TypeId}(hat:ats[0]?=some t)(ty:TypeId)(g:(P0M E t a s).Good):
  Reads Γ s (P0M E t a s) ((Builtin.len_ ats ty #[u]).run P w) w:=by
 unfold P0M at g⊢
 obtain⟨ti,inf,d,z,hty,he,T⟩:=A0o hE (A0a g)
 rw[A0d he] at g⊢
 have hk:=T.k
 cases hc:ti.k<;>rw[hc] at g hk<;>simp only[] at g⊢<;>first
  |exact g.elim
  |skip
 case str=>
  have hd:=B0V hk.symm
  cases a<;>simp only[] at g⊢<;>first
   |exact g.elim
   |skip
  case ss l=>
   unfold VRel at ha;subst ha
   exact⟨_,s,goInt l.size,rfl,.refl s,by subst hd;simp only[Builtin.len_,hat,show(#[Value.string l]:Array Value)[0]?=some (.string l) from rfl,Sem.run_bind,T.run_und,Result.andThen_ok];rfl,by unfold VRel;rfl⟩
  rename_i l
  unfold VRel at ha;subst ha
  refine⟨_,s,goInt l.length,by rw[B0F,A0O];rfl,.refl s,by subst hd;simp only[Builtin.len_,hat,show(#[Value.string ⟨l.toArray⟩]:Array Value)[0]?=some (.string ⟨l.toArray⟩) from rfl,Sem.run_bind,T.run_und,Result.andThen_ok];rfl,by unfold VRel;rfl⟩
 case array n e sz=>
  obtain⟨hd,_⟩:=D0u hk.symm
  exact⟨_,s,goInt n,rfl,.refl s,by subst hd;simp only[Builtin.len_,hat,show(#[u]:Array Value)[0]?=some u from rfl,Sem.run_bind,T.run_und,Result.andThen_ok];rfl,by unfold VRel;rfl⟩
 case slice e sz=>
  obtain⟨hd,_⟩:=A0S hk.symm
  cases a<;>simp only[] at g⊢<;>first
   |exact g.elim
   |skip
  case dsl c l=>
   unfold VRel at ha
   obtain⟨A,cap,rfl⟩:=D0a ha
   exact⟨_,s,goInt l.length,rfl,.refl s,by subst hd;simp only[Builtin.len_,hat,show(#[Value.slice A l.length cap]:Array Value)[0]?=some (.slice A l.length cap) from rfl,Sem.run_bind,T.run_und,Result.andThen_ok];rfl,by unfold VRel;rfl⟩
  case asl c m off k=>
   unfold VRel at ha
   obtain⟨i,_,_,o,cap,rfl,_⟩:=ha
   exact⟨_,s,goInt k,rfl,.refl s,by subst hd;simp only[Builtin.len_,hat,show(#[Value.slice (some ⟨i.b,o,none⟩) k cap]:Array Value)[0]?=some (.slice (some ⟨i.b,o,none⟩) k cap) from rfl,Sem.run_bind,T.run_und,Result.andThen_ok];rfl,by unfold VRel;rfl⟩
  case slice n off k cap esz=>
   have hu:∃a c,u=.slice (some a) k c:=by
    unfold VRel at ha
    obtain⟨i,_,_,ha⟩:=ha
    cases cap with
    |none=>
         rcases ha.2 with⟨C,e,_⟩|⟨k0,_,y,e⟩
         ·exact⟨_,_,e⟩
         ·subst k0;exact⟨_,_,e⟩
    |some c=>exact⟨_,_,ha.1⟩
   obtain⟨x,c,rfl⟩:=hu
   exact⟨_,s,goInt k,rfl,.refl s,by simp[Builtin.len_,hat,T.run_und,hd],by unfold VRel;rfl⟩
  case nils=>
   unfold VRel at ha;subst ha
   exact⟨_,s,goInt 0,rfl,.refl s,by simp[Builtin.len_,hat,T.run_und,hd],by unfold VRel;rfl⟩
 case map k e=>
  have hd:=C0u hk.symm
  cases a<;>simp only[] at g⊢<;>first
   |exact g.elim
   |skip
  case dmp kc vc m c=>
   unfold VRel at ha
   obtain⟨b,ents,clock,rfl,hfz,hM⟩:=ha
   have hb:=R.stay _ _ hfz
   have hsz:ents.size=c:=by have :=hM.size;simpa using this
   exact⟨_,s,goInt ents.size,rfl,.refl s,by simp[Builtin.len_,hat,T.run_und,hd,getObj,Sem.run,hb],by unfold VRel;rw[hsz];rfl⟩
  case map n=>
   obtain⟨d1,s0,e0,q0,hd1⟩:=D0s (A0a g)
   rw[A0d e0] at g⊢
   cases d1 with
   |
    some d1=>
    have ho:=hd1 _ rfl
    cases d1 with
    |iter _ _ _ _=>exact g.elim
    |
     map kc vc m c=>
     unfold VRel at ha
     obtain⟨i,hi,rfl⟩:=ha
     obtain⟨i',hi',_,ob,hb,ents,clock,rfl,hM⟩:=R.obj n _ (R.dom n i hi).1 ho
     rw[hi] at hi';cases hi'
     have hsz:ents.size=c:=by have :=hM.size;simpa using this
     exact⟨_,s0,goInt ents.size,rfl,q0,by simp[Builtin.len_,hat,T.run_und,hd,getObj,Sem.run,hb],by unfold VRel;rw[hsz];rfl⟩
   |none=>
   simp only[] at g⊢
   have R:Rel E base w0 Γ s0.h w:=by rw[q0.h];exact R
   obtain⟨kt,es,c,s',ho,e1,q1⟩:=E0w (A0a g)
   rw[A0d e1]
   have q1:=q0.trans q1
   unfold VRel at ha
   obtain⟨i,hi,rfl⟩:=ha
   obtain⟨i',hi',ents,hb,hrel⟩:=R.obj n _ (R.dom n i hi).1 ho
   rw[hi] at hi';cases hi'
   obtain⟨l,hp,hz⟩:=hrel.zip
   have hlen:ents.size=es.length:=by have :=hz.1;have :=hp.length_eq;simp at *;omega
   refine⟨_,s',goInt ents.size,by rw[B0F,A0O];rfl,q1,?_,by unfold VRel;rw[hlen];rfl⟩
   simp[Builtin.len_,hat,T.run_und,hd,getObj,Sem.run,hb]
  case nilm=>
   unfold VRel at ha;subst ha
   exact⟨_,s,goInt 0,rfl,.refl s,by simp[Builtin.len_,hat,T.run_und,hd],by unfold VRel;rfl⟩
theorem T0N{a:AVal}{u:Value}(ha:VRel Γ a u)(g:(a0K a s).Good):
  ∃c:Nat,a0K a s=.ok (.int .i64 c) s∧∃x n,u=.slice x n c:=by
 cases a<;>first
  |exact g.elim
  |skip
 case slice n off k cap esz=>
  cases cap with
  |none=>exact g.elim
  |
   some c=>
   unfold VRel at ha
   obtain⟨i,_,_,ha,_⟩:=ha
   exact⟨c,rfl,_,_,ha⟩
 case nils=>
  unfold VRel at ha;subst ha
  exact⟨0,rfl,_,_,rfl⟩
theorem I0s(lt:Bool):∀(l:List AVal)(x:AVal)(u:Value)(us:List Value),VRel Γ x u→VRels Γ l us→(G0L lt x l s).Good→
  ∃a v,G0L lt x l s=.ok a s∧(us.foldlM (if lt=true then Builtin.min2 else Builtin.max2) u).run P w=.ok v w∧VRel Γ a v
 |[],x,u,us,hx,hl,_=>by rw[hl.nil_inv];exact⟨x,u,rfl,rfl,hx⟩
 |
  y::l,x,u,us,hx,hl,g=>by
  obtain⟨v,vs,rfl,hy,hl'⟩:=hl.cons_inv
  have step:∀(k:IntKind)(a:Int)(k':IntKind)(b:Int)(x':AVal),u=.int k a→v=.int k' b→(VRel Γ x' (.int k (if lt=true then(if b<a then b else a) else(if b>a then b else a))))→(G0L lt x' l s).Good→
    ∃r q,G0L lt x' l s=.ok r s∧((v::vs).foldlM (if lt=true then Builtin.min2 else Builtin.max2) u).run P w=.ok q w∧VRel Γ r q:=by
   intro k a k' b x' hu hv hx' g'
   subst hu;subst hv
   obtain⟨r,q,e1,e2,e3⟩:=I0s lt l x' _ vs hx' hl' g'
   refine⟨r,q,e1,?_,e3⟩
   have k1:(if lt=true then Builtin.min2 else Builtin.max2) (.int k a) (.int k' b)=pure (.int k (if lt=true then(if b<a then b else a) else(if b>a then b else a))):=by
    cases lt<;>rfl
   simp only[List.foldlM_cons,k1,pure_bind]
   exact e2
  unfold G0L at g⊢
  split at g
  ·rename_i k a k' b
   unfold VRel at hx hy
   refine step k a k' b _ hx hy ?_ g
   unfold VRel
   congr 1
   cases lt with
   |true=>rw[A0e,G0t,B0v];simp
   |false=>rw[A0f,G0t,B0v];simp
  ·cases hk:kInt x with
   |none=>rw[hk] at g;exact g.elim
   |
    some p=>
    obtain⟨k,a⟩:=p
    rw[hk] at g
    simp only[] at g⊢
    cases hb:sInt y with
    |none=>rw[hb] at g;exact g.elim
    |
     some b=>
     rw[hb] at g
     simp only[] at g⊢
     have hu:u=.int k a:=by
      unfold kInt at hk
      cases x<;>simp only[reduceCtorEq,Option.some.injEq,Prod.mk.injEq] at hk
      all_goals
       obtain⟨rfl,rfl⟩:=hk
       unfold VRel at hx;exact hx
     obtain⟨k',hv⟩:∃k',v=.int k' b:=by
      unfold sInt at hb
      cases y<;>simp only[reduceCtorEq,Option.some.injEq] at hb
      all_goals
       subst hb
       unfold VRel at hy;exact⟨_,hy⟩
     refine step k a k' b _ hu hv ?_ g
     unfold VRel
     congr 1
     cases lt with
     |
      true=>
      rw[A0e,if_pos rfl]
      split<;>omega
     |
      false=>
      rw[A0f,if_neg (by simp)]
      split<;>omega
end
end Go.Ev
