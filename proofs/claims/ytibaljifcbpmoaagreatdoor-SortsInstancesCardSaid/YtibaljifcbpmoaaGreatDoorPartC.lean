/- A part of the proof of the statement: no conditions. -/
import Derived.Test.YtibaljifcbpmoaaGreatDoorPartB
import Derived.Orders
import Derived.RangeFuncRecord
import Derived.OrdersIn
import Derived.RangeFuncNested
set_option linter.unusedSectionVars false
set_option linter.unusedVariables false
set_option linter.unusedSimpArgs false
namespace Go.Ev
open Go Go.RowKit
variable[Univ]
section
variable{P:Program}{E:Env}{base:Bs}{w0:World}{Γ:Gam}{w:World}{s:St}{t kt:TypeId}
theorem O0Z{a:AVal}{n:Int}{v:Value}(h:sInt a=some n)(hv:VRel Γ a v):∃k,v=.int k n:=by
 unfold sInt at h
 cases a<;>simp only[reduceCtorEq,Option.some.injEq] at h<;>subst h<;>unfold VRel at hv<;>exact⟨_,hv⟩
theorem O0E{lo:Option AVal}{low:Option Value}(h:G0I Γ lo low){d:Nat}{n:Int}(hb:U0e lo d=some n)(hn:0≤n):∃lo',G0I Γ lo' low∧B0x lo' d=some n.toNat:=by
 unfold U0e at hb
 cases lo with
 |
  none=>
  refine⟨none,h,?_⟩
  simp only[Option.some.injEq] at hb
  subst hb
  simp[B0x]
 |
  some a=>
  obtain⟨u,rfl,hu⟩:=h
  obtain⟨k,rfl⟩:=O0Z hb hu
  refine⟨some (.int k (.ofNat n.toNat)),⟨_,rfl,by unfold VRel;rw[Value.int.injEq];exact⟨rfl,by simp;omega⟩⟩,rfl⟩
theorem N0s(hE:EnvOk E P){a:AVal}{u:Value}(ha:VRel Γ a u){lo hi mx:Option AVal}{low high max:Option Value}
  (hlo:G0I Γ lo low) (hhi:G0I Γ hi high) (hmx:G0I Γ mx max) (g:(H0n E t a lo hi mx s).Good):ReadsH Γ s (H0n E t a lo hi mx s) ((Instr.sliceAt t u low high max).run P w) w:=by
 unfold H0n at g⊢
 obtain⟨ti,inf,d,z,hty,he,T⟩:=A0o hE (A0a g)
 rw[A0d he] at g⊢
 have hk:=T.k
 cases hc:ti.k<;>rw[hc] at g hk<;>simp only[] at g⊢<;>first
  |exact g.elim
  |skip
 rename_i e sz
 obtain⟨hd,hsz⟩:=A0S hk.symm
 cases a<;>simp only[] at g⊢<;>first
  |exact g.elim
  |skip
 rename_i c n off k
 cases mx with
 |some _=>exact g.elim
 |none=>
 have :max=none:=hmx
 subst this
 simp only[] at g⊢
 obtain⟨l,h1,e1⟩:=A0k (A0a g)
 rw[A0d e1] at g⊢
 obtain⟨h,h2,e2⟩:=A0k (A0a g)
 rw[A0d e2] at g⊢
 obtain⟨hq,hr⟩:=A0i g
 rw[hr] at g⊢
 have hes:sz=Univ.esz c:=Nat.eq_of_beq_eq_true hq
 obtain⟨hn,_,hh⟩:=A0W g
 simp only[Bool.and_eq_true,decide_eq_true_eq] at hn
 obtain⟨⟨n1,n2⟩,n3⟩:=hn
 unfold VRel at ha
 obtain⟨i,hi',hbd,o,cap,rfl,hcap,ho⟩:=ha
 obtain⟨lo',ql,bl⟩:=O0E (d:=0) hlo h1 n1
 obtain⟨hi2,qh,bh⟩:=O0E (d:=k) hhi h2 (by omega)
 have hp:=Univ.pos c
 have hsize:∀w,(sizeOf e).run P w=.ok sz w:=fun w=>by
  rw[hsz]
  exact A0B (by rw[←hsz,hes];exact hp) w
 have hb:=E0x (P:=P) (C:=cap) ql qh bl bh (by omega) (by omega) true w
 refine⟨_,s,.slice (some ⟨i.b,if cap=l.toNat then o else o+l.toNat*sz,none⟩) (h.toNat-l.toNat) (cap-l.toNat),hh _ _ ⟨rfl,rfl⟩,.refl s,?_,?_⟩
 ·have hsl:P.underlying t=some (.slice e):=by rw[T.und,hd]
  have hat:(Instr.sliceAt t (.slice (some ⟨i.b,o,none⟩) k cap) low high none).run P w=(Instr.slice t (.slice (some ⟨i.b,o,none⟩) k cap) low high none).run P w:=by
   subst hd
   simp[Instr.sliceAt,T.run_und]
  rw[hat]
  have :(Instr.slice t (.slice (some ⟨i.b,o,none⟩) k cap) low high none).run P w=.ok (.slice (if cap=l.toNat then some ⟨i.b,o,none⟩ else(some (⟨i.b,o,none⟩:Addr)).map (·.add (l.toNat*sz))) (h.toNat-l.toNat) (cap-l.toNat)) w:=by
   simp only[Instr.slice,Sem.run_bind,run_underlying hsl,Result.andThen_ok,hb,hsize,Sem.run_pure]
  rw[this]
  by_cases cm:cap=l.toNat
  ·rw[if_pos cm,if_pos cm]
  ·rw[if_neg cm,if_neg cm];simp only[Option.map_some,B0C]
 ·unfold VRel
  refine⟨i,hi',by omega,_,_,rfl,by omega,fun hpos=>?_⟩
  obtain⟨ho1,ho2⟩:=ho (by omega)
  have hm:l.toNat*Univ.esz c+(cap-l.toNat)*Univ.esz c=cap*Univ.esz c:=by rw[←Nat.add_mul];congr 1;omega
  rw[if_neg (by omega),ho1,hes,Nat.add_mul]
  omega
theorem T0d{te:TI}{inf:TypeInfo}{d:TypeDesc}{z:Value}{e:TypeId}(T:TIOk P e te inf d z){c:Univ.C}{x:Univ.S c}(hz:Z0M c te.zero=some x)(hl:te.zero.length=Univ.esz c)(n:Nat):
  ARel Γ.fz c (List.replicate n x) ((Array.range (n*z.cells.size)).map (fun i=>z.cells[i % z.cells.size]!))∧n*Univ.esz c=((Array.range (n*z.cells.size)).map (fun i=>z.cells[i % z.cells.size]!)).size:=by
 have hp:=Univ.pos c
 have hzs:z.cells.size=Univ.esz c:=by have :=(T.zeros Γ).length;simp at this;omega
 refine⟨?_,by simp[hzs]⟩
 unfold Z0M at hz
 cases hcs:cellsOf te.zero with
 |none=>rw[hcs] at hz;cases hz
 |some cs=>
 rw[hcs] at hz
 have hx:=Univ.unc_ok c cs x hz
 obtain⟨_,hr⟩:=C0M hcs
 intro j y hj k cl hk
 rw[List.getElem?_replicate] at hj
 by_cases hjn:j<n
 ·rw[if_pos hjn] at hj
  cases hj
  rw[hx] at hk
  obtain⟨a,a1,a2⟩:=hr k cl hk
  obtain⟨v,v1,v2⟩:=(T.zeros Γ).get a1
  have hkl:k<Univ.esz c:=by
   have :=(List.getElem?_eq_some_iff.1 a1).1
   omega
  have hlt:j*Univ.esz c+k<n*Univ.esz c:=by
   have :(j+1)*Univ.esz c≤n*Univ.esz c:=Nat.mul_le_mul_right _ hjn
   rw[Nat.succ_mul] at this;omega
  refine⟨v,?_,F0y a2 v2⟩
  rw[hzs,Array.getElem?_map,Array.getElem?_range,if_pos hlt]
  simp only[Option.map_some,Option.some.injEq]
  rw[Nat.mul_comm j,Nat.mul_add_mod,Nat.mod_eq_of_lt hkl,getElem!_def]
  have :z.cells[k]?=some v:=by simpa using v1
  rw[this]
 ·rw[if_neg hjn] at hj;cases hj
theorem T0F(hE:EnvOk E P)(R:Rel E base w0 Γ s.h w){a b:AVal}{u v:Value}(ha:VRel Γ a u)(hb:VRel Γ b v)(g:(K0f E t a b s).Good):
  B0G E base w0 Γ s (K0f E t a b s) ((do pure (.value (←Instr.makeSlice t u v)):Sem Next).run P w):=by
 unfold K0f at g⊢
 obtain⟨ti,inf,d,z,hty,he,T⟩:=A0o hE (A0a g)
 rw[A0d he] at g⊢
 have hk:=T.k
 cases hc:ti.k<;>rw[hc] at g hk<;>simp only[] at g⊢<;>first
  |exact g.elim
  |skip
 rename_i e sz
 obtain⟨hd,hsz⟩:=A0S hk.symm
 obtain⟨l,h1,h2⟩:=A0k (A0a g)
 rw[A0d h2] at g⊢
 obtain⟨m,h3,h4⟩:=A0k (A0a g)
 rw[A0d h4] at g⊢
 obtain⟨c,h5,h6⟩:=A0k (A0a g)
 rw[A0d h6] at g⊢
 obtain⟨te,inf',d',z',hty',he',T'⟩:=A0o hE (A0a g)
 rw[A0d he'] at g⊢
 obtain⟨x,h7,h8⟩:=A0k (A0a g)
 rw[A0d h8] at g⊢
 obtain⟨hq,hr⟩:=A0i g
 rw[hr] at g⊢
 simp only[Bool.and_eq_true,A0O] at hq
 obtain⟨⟨q1,q2⟩,q3⟩:=hq
 have q1:sz=Univ.esz c:=Nat.eq_of_beq_eq_true q1
 have q2:=Nat.le_of_ble_eq_true q2
 have q3:te.zero.length=sz:=Nat.eq_of_beq_eq_true q3
 obtain⟨hn,g2,hh⟩:=A0W g
 simp only[Bool.and_eq_true,decide_eq_true_eq] at hn
 obtain⟨⟨n1,n2⟩,rfl⟩:=hn
 obtain⟨kd,rfl⟩:=O0Z h1 ha
 obtain⟨kd',rfl⟩:=O0Z h3 hb
 obtain⟨q,rfl⟩:∃q:Nat,m=q:=⟨m.toNat,by omega⟩
 simp only[Int.toNat_natCast] at g2 hh⊢
 obtain⟨s',a1,a2,a3,a4⟩:=C0Q (A0a g2)
 obtain⟨hA,hAs⟩:=T0d (Γ:=Γ) T' h7 (by omega) q
 have hzs:z'.cells.size=sz:=by have :=(T'.zeros Γ).length;simp at this;omega
 have hte:te.size=sz:=by rw[←T'.cells,hsz]
 generalize hC:(Array.range (q*z'.cells.size)).map (fun i=>z'.cells[i % z'.cells.size]!)=C at hA hAs
 have hp:=Univ.pos c
 refine⟨.asl c s.nx 0 q,s',hh _ _ (by rw[A0d a2];exact⟨rfl,rfl⟩),fun N hN hf=>?_⟩
 have hnn:Γ s.nx=none:=hf s.nx (Nat.le_refl _) (by omega)
 have hx:Ext Γ (Γ.add s.nx ⟨w.heap.size,0,q,C.size,default⟩):=Gam.ext_add hnn
 refine⟨Γ.add s.nx ⟨w.heap.size,0,q,C.size,default⟩,.value (.slice (some ⟨w.heap.size,0,none⟩) q q),{w with heap:=w.heap.push (.cells C e)},?_,.inl ⟨_,rfl,?_⟩,hx,fun n hn'=>Gam.add_ne (by omega),by omega,fun n a b=>?_,?_⟩
 ·have hby:inf'.bytes≤4096:=by rw[←T'.bytes];exact q2
  have wl:IntKind.i64.wrap (q:Int)=q:=wrap_i64 q (by omega)
  have big:∀n:Nat,n≤100000→¬((inf'.bytes:Int)*n>2^48):=by
   intro n hn hgt
   have :inf'.bytes*n≤4096*100000:=Nat.mul_le_mul hby hn
   have h9:((inf'.bytes*n:Nat):Int)>2^48:=by exact_mod_cast hgt
   omega
  have tl1:(decide ((q:Int)<0)||decide ((inf'.bytes:Int)*q>2^48))=false:=by
   have :=big q (by omega)
   simp only[Bool.or_eq_false_iff,decide_eq_false_iff_not]
   exact⟨by omega,this⟩
  have hmk:(Instr.makeSlice t (.int kd q) (.int kd' q)).run P w=.ok (.slice (some ⟨w.heap.size,0,none⟩) q q) {w with heap:=w.heap.push (.cells C e)}:=by
   simp only[Instr.makeSlice,Sem.run_bind,T.run_und,Result.andThen_ok,hd,asInt,asIntOf,Sem.run_pure,T'.run_info,wl]
   simp only[tl1,Bool.false_or]
   have c1:decide ((q:Int)<0)=false:=by simp
   have c2:decide ((q:Int)>q)=false:=by simp
   simp only[c1,c2,Bool.or_self,Bool.false_eq_true,if_false,Sem.run_bind,run_askRoom,Result.andThen_ok,T'.run_size,hte,Int.toNat_natCast]
   by_cases h0:q=0
   ·subst h0
    simp only[Nat.zero_mul] at hC
    rw[R0x] at hC
    subst hC
    simp only[Nat.zero_mul,if_true,Sem.run_pure,Result.andThen_ok,newRow,Sem.run_bind,run_newObj,R0x]
   ·have h00:q*sz≠0:=Nat.mul_ne_zero h0 (by omega)
    simp only[h00,if_false,Sem.run_bind,T'.run_zero,Sem.run_pure,Result.andThen_ok,newRow,run_newObj,hzs]
    rw[hzs] at hC
    rw[hC]
  simp[hmk]
 ·unfold VRel
  exact⟨_,Gam.add_at,by simp,0,q,rfl,Nat.le_refl _,fun _=>⟨by simp,by rw[Nat.zero_add];exact Nat.le_of_eq hAs⟩⟩
 ·rw[Gam.add_ne (by omega)];exact hf n (by omega) b
 ·rw[a3]
  refine R.alloc a1 hnn _ rfl _ _ ?_ ?_ ?_
  ·exact⟨_,Gam.add_at,by simp,C,e,(0,0),by simp,rfl,hA.mono hx.fz,by simp;omega,fun k _ _ h=>by simp at h⟩
  ·intro cs e' frz root rel al h;cases h
  ·intro m since seen h;cases h
theorem G0o{c:Univ.C}:∀(k:Nat){cs:List (Cell Univ.C Univ.S)}{l:List (Univ.S c)},G0W c k cs=some l→cs.length=k*Univ.esz c→l.length=k∧∀(j:Nat)(x:Univ.S c),l[j]?=some x→∀(q:Nat)(cl:Cell Univ.C Univ.S),(Univ.cells c x)[q]?=some cl→cs[j*Univ.esz c+q]?=some cl
 |0,cs,l,h,hl=>by cases h;exact⟨rfl,fun j x e=>by simp at e⟩
 |
  k+1,cs,l,h,hl=>by
  unfold G0W at h
  rw[F0g,G0s] at h
  cases h1:Univ.unc c (cs.take (Univ.esz c)) with
  |none=>rw[h1] at h;cases h
  |
   some x=>
   rw[h1] at h
   simp only[] at h
   cases h2:G0W c k (cs.drop (Univ.esz c)) with
   |none=>rw[h2] at h;cases h
   |
    some r=>
    rw[h2] at h
    cases h
    rw[Nat.succ_mul] at hl
    obtain⟨r1,r2⟩:=G0o k h2 (by simp;omega)
    refine⟨by simp[r1],fun j y hj q cl hq=>?_⟩
    cases j with
    |
     zero=>
     simp at hj
     subst hj
     rw[Univ.unc_ok c _ _ h1,List.getElem?_take] at hq
     split at hq
     ·simpa using hq
     ·cases hq
    |
     succ j=>
     have :=r2 j y (by simpa using hj) q cl hq
     rw[List.getElem?_drop] at this
     rw[Nat.succ_mul]
     rw[show j*Univ.esz c+Univ.esz c+q=Univ.esz c+(j*Univ.esz c+q) by omega]
     exact this
def Row(fz:Nat→Option Obj)(c:Univ.C)(l:List (Univ.S c))(us:Array Value):Prop:=us.size=l.length*Univ.esz c∧ARel fz c l us
theorem D0S{c:Univ.C}{x:Univ.S c}{q:Nat}{cl:Cell Univ.C Univ.S}(h:(Univ.cells c x)[q]?=some cl):q<Univ.esz c:=by
 have :=(List.getElem?_eq_some_iff.1 h).1
 rwa[Univ.len] at this
theorem R0w{fz:Nat→Option Obj}{c:Cell Univ.C Univ.S}{v:Value}(h:CRel fz c v):G0k v:=by
 cases h<;>exact⟨fun c e=>(by cases e),fun c e=>(by cases e)⟩
theorem L0N{fz:Nat→Option Obj}{c:Univ.C}{l:List (Univ.S c)}{us:Array Value}(h:Row fz c l us):∀u∈us.toList,G0k u:=by
 intro u hu
 obtain⟨q,hq,e⟩:=List.mem_iff_getElem.1 hu
 have hp:=Univ.pos c
 have hq':q<l.length*Univ.esz c:=by have :=h.1;simp at hq;omega
 have hj:q/Univ.esz c<l.length:=(Nat.div_lt_iff_lt_mul hp).2 hq'
 have hm:q % Univ.esz c<Univ.esz c:=Nat.mod_lt _ hp
 have hc:q % Univ.esz c<(Univ.cells c (l[q/Univ.esz c])).length:=by rw[Univ.len];exact hm
 obtain⟨v,v1,v2⟩:=h.2 (q/Univ.esz c) _ (List.getElem?_eq_getElem hj) (q % Univ.esz c) _ (List.getElem?_eq_getElem hc)
 rw[Nat.mul_comm,Nat.div_add_mod] at v1
 have :us[q]?=some u:=by
  rw[←Array.getElem?_toList,List.getElem?_eq_getElem hq,e]
 rw[this] at v1
 cases v1
 exact R0w v2
theorem M0G:∀{xs:List (Cell Univ.C Univ.S)}{l:List AVal}{cs:List (Cell Univ.C Univ.S)},C0f xs l=some cs→cs.length=l.length
 |[],[],cs,h=>by unfold C0f at h;cases h;rfl
 |[],_::_,_,h=>by unfold C0f at h;cases h
 |_::_,[],_,h=>by unfold C0f at h;cases h
 |
  x::xs,a::l,cs,h=>by
  unfold C0f at h
  split at h
  ·cases h
  ·split at h
   ·cases h
   ·rename_i cs' e
    cases h
    simp[M0G e]
theorem P0x{c:Univ.C}{as:List AVal}{vs:List Value}(h:VRels Γ as vs){cs:List (Cell Univ.C Univ.S)}(hc:L0k c as=some cs):vs.length=cs.length∧(∀v∈vs,G0k v)∧∀(j:Nat)(c:Cell Univ.C Univ.S),cs[j]?=some c→∃v,vs[j]?=some v∧CRel Γ.fz c v:=by
 unfold L0k at hc
 split at hc
 ·rename_i cs' e
  cases hc
  exact O0l h e
 ·have hL:=G0i hc h
  have hlen:vs.length=cs.length:=by have :=hL.1;omega
  refine⟨hlen,fun v hv=>?_,hL.2⟩
  obtain⟨j,hj⟩:=List.mem_iff_getElem?.1 hv
  have hjl:j<cs.length:=by have :=(List.getElem?_eq_some_iff.1 hj).1;omega
  obtain⟨v',h1,h2⟩:=hL.2 j _ (List.getElem?_eq_getElem hjl)
  rw[hj] at h1;cases h1
  generalize cs[j]=cl at h2
  cases h2<;>exact⟨fun _ q=>(by cases q),fun _ q=>(by cases q)⟩
theorem J0z(R:Rel E base w0 Γ s.h w){c:Univ.C}{x:AVal}{v:Value}(hv:VRel Γ x v)(g:(F0n c x s).Good):
  ∃l s' us,F0n c x s=.ok l s'∧Same s s'∧(∀d,(Builtin.lenOf v).run P {w with drawn:=d}=.ok l.length {w with drawn:=d})∧(∀k,k≤l.length→∃us',(∀d,(Builtin.firstCells (Univ.esz c) k v).run P {w with drawn:=d}=.ok us' {w with drawn:=d})∧us'.toList=us.toList.take (k*Univ.esz c))∧Row Γ.fz c l us:=by
 have hp:=Univ.pos c
 have part:∀{b o cap n:Nat}{C:Array Value}{e:TypeId}{fz:Nat×Nat},w.heap[b]?=some (.cells C e fz)→o+n*Univ.esz c≤C.size→∀k,k≤n→
   ∃us',(∀d,(Builtin.firstCells (Univ.esz c) k (.slice (some ⟨b,o,none⟩) n cap)).run P {w with drawn:=d}=.ok us' {w with drawn:=d})∧us'.toList=(C.extract o (o+n*Univ.esz c)).toList.take (k*Univ.esz c):=by
  intro b o cap n C e fz hb hsz k hk
  have hkn:k*Univ.esz c≤n*Univ.esz c:=Nat.mul_le_mul_right _ hk
  refine⟨C.extract o (o+k*Univ.esz c),fun d=>?_,?_⟩
  ·simp only[Builtin.firstCells,loadCells]
   rw[B0B (w:={w with drawn:=d}) hb (k*Univ.esz c) 0 #[] (by omega)]
   simp
  ·simp only[Array.toList_extract,List.extract_eq_take_drop]
   rw[List.take_take]
   congr 1;omega
 unfold F0n at g⊢
 cases x<;>simp only[] at g⊢<;>first
  |exact g.elim
  |skip
 case asl c' n off k=>
  obtain⟨hq,hr⟩:=A0i g
  rw[hr] at g⊢
  have :=G0n hq
  subst this
  obtain⟨l,s1,ho,e1,q1⟩:=D0o (A0a g)
  rw[A0d e1]
  unfold VRel at hv
  obtain⟨i,hi,hbd,o,cap,rfl,hcap,hoo⟩:=hv
  obtain⟨hasz,C,e0,fz,hb,hcs0,hA,hsz0,_⟩:=Q0s R hi ho
  have hlen:(subL l off k).length=k:=by unfold subL;simp;omega
  by_cases k0:k=0
  ·subst k0
   refine⟨_,s1,#[],rfl,q1,fun d=>by simp[Builtin.lenOf,hlen],fun k hk=>?_,⟨by simp[hlen],?_⟩⟩
   ·rw[hlen] at hk
    obtain rfl:k=0:=by omega
    exact⟨#[],fun d=>by simp[Builtin.firstCells,loadCells,loadCellsFrom],by simp⟩
   ·intro j y hj
    have :j<0:=by rw[←hlen];exact(List.getElem?_eq_some_iff.1 hj).1
    omega
  ·obtain⟨rfl,_⟩:=hoo (by omega)
   have hsz:off*Univ.esz c'+k*Univ.esz c'≤C.size:=by
    have :(off+k)*Univ.esz c'≤l.length*Univ.esz c':=Nat.mul_le_mul_right _ (by omega)
    rw[Nat.add_mul] at this;omega
   refine⟨_,s1,C.extract (off*Univ.esz c') (off*Univ.esz c'+k*Univ.esz c'),rfl,q1,fun d=>by simp[Builtin.lenOf,hlen],fun q hq=>part hb hsz q (by omega),⟨by simp[hlen];omega,?_⟩⟩
   intro j y hj q cl hq
   have hjk:j<k:=by rw[←hlen];exact(List.getElem?_eq_some_iff.1 hj).1
   unfold subL at hj
   rw[List.getElem?_take,if_pos hjk,List.getElem?_drop] at hj
   obtain⟨v,v1,v2⟩:=hA _ y hj q cl hq
   refine⟨v,?_,v2⟩
   have hql:=D0S hq
   have :(j+1)*Univ.esz c'≤k*Univ.esz c':=Nat.mul_le_mul_right _ hjk
   rw[Nat.succ_mul] at this
   rw[Array.getElem?_extract,if_pos (by omega),←v1,Nat.add_mul]
   congr 1;omega
 case slice n off k cap esz=>
  obtain⟨hq,hr⟩:=A0i g
  rw[hr] at g⊢
  have :=Nat.eq_of_beq_eq_true hq
  subst this
  obtain⟨cs0,e0,frz,root,rel,al,s1,ho,hbd,e1,q1⟩:=C0l (A0a g)
  rw[A0d e1] at g⊢
  obtain⟨cs,e2,e3⟩:=A0k (A0a g)
  rw[A0d e3] at g⊢
  obtain⟨l,e4,e5⟩:=A0k g
  obtain⟨_,i,hi,o,C0,rfl,hoo⟩:=C0a hv
  obtain⟨C,fz,hb,hsz,hvals⟩:=R.cells hi ho hbd
  obtain⟨hvl,hvc,hvr⟩:=P0x hvals e2
  have hl0:((cs0.drop off).take (k*Univ.esz c)).length=k*Univ.esz c:=by simp;omega
  have hcs:cs.length=k*Univ.esz c:=by have :=hvals.length;omega
  obtain⟨hlen,hget⟩:=G0o k e4 hcs
  by_cases k0:k=0
  ·subst k0
   refine⟨l,s1,#[],e5,q1,fun d=>by simp[Builtin.lenOf,hlen],fun k hk=>?_,⟨by simp[hlen],?_⟩⟩
   ·rw[hlen] at hk
    obtain rfl:k=0:=by omega
    exact⟨#[],fun d=>by simp[Builtin.firstCells,loadCells,loadCellsFrom],by simp⟩
   ·intro j y hj
    have :j<0:=by rw[←hlen];exact(List.getElem?_eq_some_iff.1 hj).1
    omega
  ·obtain rfl:=hoo (by omega)
   refine⟨l,s1,C.extract (i.o+off) (i.o+off+k*Univ.esz c),e5,q1,fun d=>by simp[Builtin.lenOf,hlen],fun q hq=>part hb hsz q (by omega),⟨by simp[hlen];omega,?_⟩⟩
   intro j y hj q cl hq
   have :=hget j y hj q cl hq
   obtain⟨v,v1,v2⟩:=hvr _ _ this
   exact⟨v,by rw[←Array.getElem?_toList];exact v1,v2⟩
 case dsl c' l=>
  obtain⟨m,e1,e2⟩:=A0k g
  have :=D0U e1
  cases this
  unfold VRel at hv
  generalize hdat:(Cell.sl c m:Cell Univ.C Univ.S)=dat at hv
  cases hv with
  |b x=>cases hdat
  |i k x=>cases hdat
  |s x=>cases hdat
  |f n=>cases hdat
  |
   nil c' A cap=>
   cases hdat
   refine⟨_,s,#[],e2,.refl s,fun d=>by simp[Builtin.lenOf],fun k hk=>?_,⟨by simp,fun j y hj=>by simp at hj⟩⟩
   have :k=0:=by simpa using hk
   subst this
   refine⟨#[],fun d=>?_,by simp⟩
   cases A<;>simp[Builtin.firstCells,loadCells,loadCellsFrom]
  |
   sl c' l' b o cap C e' z' g' hb' hc' hg' hh'=>
   cases hdat
   have hb:=R.stay _ _ hb'
   by_cases l0:m=[]
   ·subst l0
    refine⟨_,s,#[],e2,.refl s,fun d=>by simp[Builtin.lenOf],fun k hk=>?_,⟨by simp,fun j y hj=>by simp at hj⟩⟩
    have :k=0:=by simpa using hk
    subst this
    exact⟨#[],fun d=>by simp[Builtin.firstCells,loadCells,loadCellsFrom],by simp⟩
   ·have hpos:0<m.length:=List.length_pos_iff.2 l0
    have hsz:o+m.length*Univ.esz c≤C.size:=by
     have :=hg' (m.length-1) _ (List.getElem?_eq_getElem (by omega)) (Univ.esz c-1) (by omega)
     have :=(Array.getElem?_eq_some_iff.1 this).1
     have h2:(m.length-1+1)*Univ.esz c=(m.length-1)*Univ.esz c+Univ.esz c:=Nat.succ_mul _ _
     rw[Nat.sub_add_cancel hpos] at h2
     omega
    refine⟨_,s,C.extract o (o+m.length*Univ.esz c),e2,.refl s,fun d=>by simp[Builtin.lenOf],fun q hq=>part hb hsz q hq,⟨by simp;omega,?_⟩⟩
    intro j y hj q cl hq
    have hql:=D0S hq
    have hjl:=(List.getElem?_eq_some_iff.1 hj).1
    have :(j+1)*Univ.esz c≤m.length*Univ.esz c:=Nat.mul_le_mul_right _ hjl
    rw[Nat.succ_mul] at this
    refine⟨g' j q,?_,hh' j y hj q cl hq⟩
    rw[Array.getElem?_extract,if_pos (by omega),←hg' j y hj q hql]
    congr 1;omega
theorem Z0u{α:Type}(l:List α)(off k:Nat)(m:List α)(h:off+k≤l.length)(j:Nat):(X0g l off k m)[j]?=if off≤j∧j<off+min m.length k then m[j-off]? else l[j]?:=by
 unfold X0g
 by_cases h1:j<off
 ·rw[List.getElem?_append_left (by simp;omega),List.getElem?_take,if_pos h1,if_neg (by omega)]
 ·rw[List.getElem?_append_right (by simp;omega)]
  simp only[List.length_take,Nat.min_eq_left (show off≤l.length by omega)]
  by_cases h2:j<off+min m.length k
  ·rw[List.getElem?_append_left (by simp;omega),if_pos ⟨by omega,h2⟩,List.getElem?_take,if_pos (by omega)]
  ·rw[List.getElem?_append_right (by simp;omega),if_neg (by omega),List.getElem?_drop]
   congr 1;simp;omega
theorem T0V(hE:EnvOk E P)(R:Rel E base w0 Γ s.h w){a b:AVal}{u v:Value}(ha:VRel Γ a u)(hb:VRel Γ b v){ats:Array TypeId}(hat:ats[0]?=some t)(ty:TypeId)(g:(K0u E t a b s).Good):
  Makes E base w0 Γ s (K0u E t a b s) ((Builtin.copy_ ats ty #[u,v]).run P w):=by
 unfold K0u at g⊢
 obtain⟨ti,inf,d,z,hty,he,T⟩:=A0o hE (A0a g)
 rw[A0d he] at g⊢
 have hk:=T.k
 cases hc:ti.k<;>rw[hc] at g hk<;>simp only[] at g⊢<;>first
  |exact g.elim
  |skip
 rename_i e sz
 obtain⟨hd,hsz⟩:=A0S hk.symm
 cases a<;>simp only[] at g⊢<;>first
  |exact g.elim
  |skip
 rename_i c n off k
 obtain⟨hq,hr⟩:=A0i g
 rw[hr] at g⊢
 have hes:sz=Univ.esz c:=Nat.eq_of_beq_eq_true hq
 have hp:=Univ.pos c
 have hsize:(sizeOf e).run P w=.ok sz w:=by
  rw[hsz]
  exact A0B (by rw[←hsz,hes];exact hp) w
 obtain⟨m,s1,us,k1,k2,k30,k40,krow⟩:=J0z (P:=P) R hb (A0a g)
 have k3:(Builtin.lenOf v).run P w=.ok m.length w:=k30 w.drawn
 have k4:∀k,k≤m.length→∃us',(Builtin.firstCells (Univ.esz c) k v).run P w=.ok us' w∧us'.toList=us.toList.take (k*Univ.esz c):=fun k hk=>let⟨us',h1,h2⟩:=k40 k hk;⟨us',h1 w.drawn,h2⟩
 rw[A0d k1] at g⊢
 have R1:Rel E base w0 Γ s1.h w:=by rw[k2.h];exact R
 obtain⟨l,s2,ho,e1,q1⟩:=D0o (A0a g)
 rw[A0d e1] at g⊢
 obtain⟨_,_,s3,ho2,e4,st2⟩:=N0N (A0a g)
 rw[A0d e4]
 unfold VRel at ha
 obtain⟨i,hi,hbd,o,cap,rfl,hcap,hoo⟩:=ha
 obtain⟨hasz,C,e0,fz,hbk,hcs0,hA,hsz0,hfr⟩:=Q0s R1 hi ho
 have hmn:min m.length k≤m.length:=Nat.min_le_left _ _
 have hmk:min m.length k≤k:=Nat.min_le_right _ _
 obtain⟨us',f1,f2⟩:=k4 _ hmn
 have hul:us'.toList.length=min m.length k*Univ.esz c:=by
  rw[f2,List.length_take]
  have :=krow.1
  have h2:min m.length k*Univ.esz c≤m.length*Univ.esz c:=Nat.mul_le_mul_right _ hmn
  simp;omega
 have g0:(#[Value.slice (some ⟨i.b,o,none⟩) k cap,v]:Array Value)[0]?=some (.slice (some ⟨i.b,o,none⟩) k cap):=rfl
 have g1:(#[Value.slice (some ⟨i.b,o,none⟩) k cap,v]:Array Value)[1]?=some v:=rfl
 have hcs:∀x∈us'.toList,G0k x:=fun x hx=>L0N krow x (by rw[f2] at hx;exact List.mem_of_mem_take hx)
 --nothing,or a part of the block,is written
 have fin:∃w',(storeCells ⟨i.b,o,none⟩ us'.toList).run P w=.ok () w'∧G0X w i.b (E0O C (off*Univ.esz c) us'.toList) e0 fz w':=by
  by_cases h0:min m.length k=0
  ·have :us'.toList=[]:=List.length_eq_zero_iff.1 (by rw[hul,h0];simp)
   rw[this]
   exact⟨w,by simp[storeCells],⟨rfl,rfl,rfl,rfl,hbk,fun _ _=>rfl⟩⟩
  ·obtain⟨rfl,_⟩:=hoo (by omega)
   have hfit:(off+min m.length k)*Univ.esz c≤l.length*Univ.esz c:=Nat.mul_le_mul_right _ (by omega)
   rw[Nat.add_mul] at hfit
   obtain⟨w',r1,st,_⟩:=B0Z (P:=P) us'.toList w i.b (off*Univ.esz c) 0 C e0 fz hcs hbk (by omega) hfr
   exact⟨w',r1,st⟩
 obtain⟨w',r1,st⟩:=fin
 refine⟨_,s3,rfl,fun N hN hf=>⟨Γ,goInt (min m.length k:Nat),w',?_,by unfold VRel;rfl,Got.same hf (by rw[st2.nx,q1.nx,k2.nx]) ?_⟩⟩
 ·rw[hes] at hsize
  have r1':(storeCells ⟨i.b,o,none⟩ us'.toList).run P w=.ok () w':=r1
  simp only[Builtin.copy_,hat,g0,g1,Sem.run_bind,T.run_und,Result.andThen_ok,hd,k3,hsize,Sem.run_pure]
  first
   |(simp only[f1,r1',Result.andThen_ok,Sem.run_pure])
   |(show _=_;simp[f1,r1'])
 ·rw[st2.h,q1.h]
  have hle:off*Univ.esz c+us'.toList.length≤C.size:=by
   have hfit:(off+min m.length k)*Univ.esz c≤l.length*Univ.esz c:=Nat.mul_le_mul_right _ (by omega)
   rw[Nat.add_mul] at hfit
   omega
  have hll:(X0g l off k m).length=l.length:=by unfold X0g;simp;omega
  refine R1.putArr hi ho hbk st (A0I _ _ _) ⟨i,hi,by simp only[];omega,_,e0,fz,st.at',by rw[A0I];exact hcs0,?_,by rw[A0I];simp only[];rw[hll];exact hsz0,by rw[A0I];exact hfr⟩
  show ARel Γ.fz c (X0g l off k m) _
  intro j y hj q cl hq
  rw[Z0u _ _ _ _ (by omega)] at hj
  have hql:=D0S hq
  rw[C0g _ _ _ _ hle]
  by_cases hin:off≤j∧j<off+min m.length k
  ·rw[if_pos hin] at hj
   obtain⟨v,v1,v2⟩:=krow.2 _ y hj q cl hq
   refine⟨v,?_,v2⟩
   have h1:off*Univ.esz c≤j*Univ.esz c:=Nat.mul_le_mul_right _ hin.1
   have h2:(j+1)*Univ.esz c≤(off+min m.length k)*Univ.esz c:=Nat.mul_le_mul_right _ hin.2
   rw[Nat.succ_mul,Nat.add_mul] at h2
   have h3:(j-off)*Univ.esz c=j*Univ.esz c-off*Univ.esz c:=Nat.sub_mul _ _ _
   rw[if_pos (by omega),f2,List.getElem?_take,if_pos (by omega),Array.getElem?_toList,←v1]
   congr 1;omega
  ·rw[if_neg hin] at hj
   rw[if_neg]
   ·exact hA j y hj q cl hq
   ·intro hh
    by_cases q1:j<off
    ·have :(j+1)*Univ.esz c≤off*Univ.esz c:=Nat.mul_le_mul_right _ q1
     rw[Nat.succ_mul] at this;omega
    ·have :(off+min m.length k)*Univ.esz c≤j*Univ.esz c:=Nat.mul_le_mul_right _ (by omega)
     rw[Nat.add_mul] at this;omega
theorem O0L{x:Sem Value}{v:Value}{w':World}(h:x.run P w=.ok v w'):(do pure (.value (←x)):Sem Next).run P w=.ok (.value v) w':=by simp[h]
theorem S0Z{x:AVal}{c:Univ.C}{m:List (Univ.S c)}{s1:St}(h:T0T x=true)(hm:F0n c x s=.ok m s1):0<m.length:=by
 unfold T0T at h
 cases x<;>simp only[reduceCtorEq] at h
 rename_i n off k cap esz
 have hk:0<k:=by simpa [Nat.blt_eq] using h
 have g:(F0n c (.slice n off k cap esz) s).Good:=by rw[hm];trivial
 unfold F0n at g hm
 simp only[] at g hm
 obtain⟨hq,hr⟩:=A0i g
 rw[hr] at g hm
 have :=Nat.eq_of_beq_eq_true hq
 subst this
 obtain⟨cs0,e0,frz,root,rel,al,s2,ho,hbd,e1,q1⟩:=C0l (A0a g)
 rw[A0d e1] at g hm
 obtain⟨cs,e2,e3⟩:=A0k (A0a g)
 rw[A0d e3] at g hm
 obtain⟨l,e4,e5⟩:=A0k g
 rw[e5] at hm
 cases hm
 have hl:∀{l:List AVal}{cs:List (Cell Univ.C Univ.S)},cellsOf l=some cs→cs.length=l.length:=by
  intro l
  induction l with
  |nil=>intro cs h;cases h;rfl
  |
   cons a l ih=>
   intro cs h
   unfold cellsOf at h
   cases h1:F0B a with
   |none=>rw[h1] at h;cases h
   |
    some x=>
    rw[h1] at h
    simp only[] at h
    cases h2:cellsOf l with
    |none=>rw[h2] at h;cases h
    |some y=>rw[h2] at h;cases h;simp[ih h2]
 have hl3:cs.length=((cs0.drop off).take (k*Univ.esz c)).length:=by
  unfold L0k at e2
  split at e2
  ·rename_i e;cases e2;exact hl e
  ·exact M0G e2
 have :=(G0o k e4 (by rw[hl3];simp;omega)).1
 omega
theorem I0h{fz:Nat→Option Obj}{c:Univ.C}{l m:List (Univ.S c)}{C us:Array Value}(hl:ARel fz c l C)(hm:Row fz c m us){D:Array Value}
  (h1:∀k,k<l.length*Univ.esz c→D[k]?=C[k]?) (h2:∀k,k<m.length*Univ.esz c→D[l.length*Univ.esz c+k]?=us[k]?):ARel fz c (l++m) D:=by
 intro j y hj q cl hq
 have hql:=D0S hq
 by_cases c1:j<l.length
 ·rw[List.getElem?_append_left c1] at hj
  obtain⟨v,v1,v2⟩:=hl j y hj q cl hq
  have :(j+1)*Univ.esz c≤l.length*Univ.esz c:=Nat.mul_le_mul_right _ c1
  rw[Nat.succ_mul] at this
  exact⟨v,by rw[h1 _ (by omega)];exact v1,v2⟩
 ·rw[List.getElem?_append_right (by omega)] at hj
  obtain⟨v,v1,v2⟩:=hm.2 _ y hj q cl hq
  have hjl:=(List.getElem?_eq_some_iff.1 hj).1
  have :(j-l.length+1)*Univ.esz c≤m.length*Univ.esz c:=Nat.mul_le_mul_right _ hjl
  rw[Nat.succ_mul] at this
  refine⟨v,?_,v2⟩
  rw[←v1,←h2 _ (by omega)]
  have :j*Univ.esz c=l.length*Univ.esz c+(j-l.length)*Univ.esz c:=by rw[←Nat.add_mul];congr 1;omega
  rw[this,Nat.add_assoc]
set_option maxHeartbeats 1000000 in
theorem J0B(hE:EnvOk E P)(R:Rel E base w0 Γ s.h w)(ty:TypeId){ats:List TypeId}{a b:AVal}{u v:Value}(ha:VRel Γ a u)(hb:VRel Γ b v)(g:(E0A E ats a b s).Good):
  B0G E base w0 Γ s (E0A E ats a b s) ((do pure (.value (←Builtin.append_ ats.toArray ty #[u,v])):Sem Next).run P w):=by
 unfold E0A at g⊢
 rcases ats with _|⟨ta,_|⟨tb,_|⟨x,l⟩⟩⟩<;>simp only[] at g⊢<;>first
  |exact g.elim
  |skip
 obtain⟨ti,inf,d,z,hty,he,T⟩:=A0o hE (A0a g)
 rw[A0d he] at g⊢
 obtain⟨tj,infj,dj,zj,htyj,hej,Tj⟩:=A0o hE (A0a g)
 rw[A0d hej] at g⊢
 have hk:=T.k
 cases hc:ti.k<;>rw[hc] at g hk<;>simp only[] at g⊢<;>first
  |exact g.elim
  |skip
 rename_i e sz
 obtain⟨hd,hsz⟩:=A0S hk.symm
 obtain⟨te,inf',d',z',hty',he',T'⟩:=A0o hE (A0a g)
 rw[A0d he'] at g⊢
 obtain⟨c,h5,h6⟩:=A0k (A0a g)
 rw[A0d h6] at g⊢
 obtain⟨hq,hr⟩:=A0i g
 rw[hr] at g⊢
 simp only[Bool.and_eq_true,A0O,Bool.not_eq_true'] at hq
 obtain⟨⟨⟨q0,q1⟩,q2⟩,q3⟩:=hq
 have q1:sz=Univ.esz c:=Nat.eq_of_beq_eq_true q1
 have q2:=Nat.le_of_ble_eq_true q2
 have q3:te.zero.length=sz:=Nat.eq_of_beq_eq_true q3
 have hp:=Univ.pos c
 have hu:P.underlying ta=some (.slice e):=by rw[T.und,hd]
 have hzs:z'.cells.size=sz:=by have :=(T'.zeros Γ).length;simp at this;omega
 have hte:inf'.size=sz:=by rw[←T'.size,←T'.cells,hsz]
 have hby:inf'.bytes≤4096:=by rw[←T'.bytes];exact q2
 have hz:if false=true then∃kk,dj=.int kk else∀kk,dj=.int kk→False:=by
  have :=N0U (P:=P) (d:=dj)
  rw[←Tj.k,q0] at this
  exact this
 obtain⟨m,s1,us0,k1,k2,k3,k40,krow0⟩:=J0z (P:=P) R hb (A0a g)
 rw[A0d k1] at g⊢
 have R1:Rel E base w0 Γ s1.h w:=by rw[k2.h];exact R
 --what is added
 obtain⟨us,k4,k5⟩:=k40 m.length (Nat.le_refl _)
 have hus:us.size=m.length*sz:=by
  have h1:us.toList.length=min (m.length*Univ.esz c) us0.toList.length:=by rw[k5,List.length_take]
  have h2:=krow0.1
  simp at h1;rw[q1];omega
 have krow:Row Γ.fz c m us:=by
  refine⟨by rw[hus,q1],fun j y hj q cl hq=>?_⟩
  obtain⟨v,v1,v2⟩:=krow0.2 j y hj q cl hq
  have hql:=D0S hq
  have hjl:=(List.getElem?_eq_some_iff.1 hj).1
  have :(j+1)*Univ.esz c≤m.length*Univ.esz c:=Nat.mul_le_mul_right _ hjl
  rw[Nat.succ_mul] at this
  refine⟨v,?_,v2⟩
  rw[←Array.getElem?_toList,k5,List.getElem?_take,if_pos (by omega),Array.getElem?_toList]
  exact v1
 rw[←q1] at k4
 have A:X0K P Γ w false e inf' sz m.length (us.toList.map fun _=>AVal.any) us v:=
  ⟨fun _=>⟨k3,k4⟩,fun h=>(by cases h),by
   have :=VRels.map (Γ:=Γ) (fun _:Value=>AVal.any) id us.toList (fun _ _=>by unfold VRel;trivial)
   simpa using this,by simp[hus]⟩
 cases a<;>simp only[] at g⊢<;>first
  |exact g.elim
  |skip
 case nils=>
  obtain⟨hone,hr1⟩:=A0i g
  rw[hr1] at g⊢
  have hm0:=S0Z hone k1
  obtain⟨hn,g2,hh⟩:=A0W g
  simp only[decide_eq_true_eq] at hn
  obtain⟨s',a1,a2,a3,a4⟩:=C0Q (A0a g2)
  unfold VRel at ha;subst ha
  obtain⟨cp,rest,z1,z2,z3⟩:=D0Q (P:=P) (ats:=#[ta,tb]) (bs:=none) (k:=0) (C:=0) (old:=#[]) rfl rfl hu Tj.und T'.info hte T'.hz hzs hby ty hz A (by omega) (by omega) (fun d=>by simp[Builtin.firstCells])
  refine⟨.asl c s1.nx 0 m.length,s',hh _ _ (by rw[A0d a2];exact⟨rfl,rfl⟩),fun N hN hf=>?_⟩
  rw[k2.nx] at a1 a2 a3 a4
  have hnn:Γ s.nx=none:=hf s.nx (Nat.le_refl _) (by omega)
  have hCs:(#[]++us++rest:Array Value).size=cp*sz:=by
   simp[z2,hus]
   rw[←Nat.add_mul];congr 1;omega
  have hx:Ext Γ (Γ.add s.nx ⟨w.heap.size,0,m.length,(#[]++us++rest:Array Value).size,default⟩):=Gam.ext_add hnn
  refine⟨Γ.add s.nx ⟨w.heap.size,0,m.length,(#[]++us++rest:Array Value).size,default⟩,.value (.slice (some ⟨w.heap.size,0,none⟩) (0+m.length) cp),_,O0L z3,.inl ⟨_,rfl,?_⟩,hx,fun n hn'=>Gam.add_ne (by omega),by omega,fun n a b=>?_,?_⟩
  ·rw[k2.nx]
   unfold VRel
   exact⟨_,Gam.add_at,by simp,0,cp,by simp,by omega,fun _=>⟨by simp,by rw[Nat.zero_add,←q1];exact Nat.le_of_eq hCs.symm⟩⟩
  ·rw[Gam.add_ne (by omega)];exact hf n (by omega) b
  ·rw[a3,k2.h]
   refine(R.drawn (w.drawn+1)).alloc a1 hnn _ rfl _ _ ?_ ?_ ?_
   ·refine⟨_,Gam.add_at,by simp,#[]++us++rest,e,(0,0),by simp,rfl,?_,?_,fun k _ _ h=>by simp at h⟩
    ·have :=I0h (fz:=Γ.fz) (c:=c) (l:=[]) (m:=m) (C:=#[]) (us:=us) (D:=#[]++us++rest) (fun j y hj=>by simp at hj) krow (fun k hk=>by simp at hk) (fun k hk=>by
      have :k<us.size:=by rw[hus,q1];exact hk
      simp only[List.length_nil,Nat.zero_mul,Nat.zero_add]
      rw[Array.getElem?_append_left (by simpa using this)]
      simp)
     exact this.mono hx.fz
    ·rw[hCs,←q1];exact Nat.mul_le_mul_right _ (by omega)
   ·intro cs e' frz root rel al h;cases h
   ·intro m since seen h;cases h
 case asl c' n off k=>
  obtain⟨hq2,hr2⟩:=A0i g
  rw[hr2] at g⊢
  simp only[Bool.and_eq_true] at hq2
  have :=G0n hq2.1
  subst this
  have :=Nat.eq_of_beq_eq_true hq2.2
  subst this
  obtain⟨l,s2,ho,e1,p1⟩:=D0o (A0a g)
  rw[A0d e1] at g⊢
  obtain⟨hn,g2,hh⟩:=A0W g
  simp only[Bool.and_eq_true,decide_eq_true_eq] at hn
  obtain⟨rfl,hkm⟩:=hn
  obtain⟨c9,l9,s3,ho9,e2,p2⟩:=I0f (A0a g2)
  rw[A0d e2] at g2
  obtain⟨s4,a1,a2,a3,a4⟩:=C0Q (A0a g2)
  have hh0:s2.h=s.h:=by rw[p1.h,k2.h]
  have hnx3:s3.nx=s.nx:=by rw[p2.nx,p1.nx,k2.nx]
  have ho':s.h.get n=some (.arr c' l):=by rw[←k2.h];exact ho
  unfold VRel at ha
  obtain⟨i,hi,hbd,o,cap,rfl,hcap,hoo⟩:=ha
  obtain⟨hasz,C,e0,fz,hbk,hcs0,hA,hsz0,hfr⟩:=Q0s R hi ho'
  refine⟨.asl c' s3.nx 0 (l.length+m.length),s4,hh _ _ (by rw[A0d e2,A0d a2];exact⟨rfl,rfl⟩),fun N hN hf=>?_⟩
  rw[hnx3] at a1 a2 a3 a4
  have hnn:Γ s.nx=none:=hf s.nx (Nat.le_refl _) (by omega)
  have hni:n≠s.nx:=fun q=>by rw[q,hnn] at hi;cases hi
  by_cases room:l.length+m.length≤cap
  ·--in place
   by_cases cap0:cap=0
   ·--nothing at all
    have hl0:l.length=0:=by omega
    have hm0:m.length=0:=by omega
    have hus0:us.toList=[]:=List.length_eq_zero_iff.1 (by simp[hus,hm0])
    have run:=C0n (P:=P) (ats:=#[ta,tb]) (bs:=some ⟨i.b,o,none⟩) (k:=l.length) (C:=cap) rfl rfl hu Tj.und T'.info hte T'.hz hby ty hz A room (w':=w) (fun a ha=>by rw[hus0];simp[storeCells]) (fun h=>by cases h)
    have st0:G0X w i.b C e0 fz w:=⟨rfl,rfl,rfl,rfl,hbk,fun _ _=>rfl⟩
    obtain⟨RG,apart⟩:=R.gone hi ho' hbk st0 rfl
    have hx:Ext Γ (Γ.add s.nx ⟨i.b,i.o,l.length+m.length,i.csz,i.lp⟩):=Gam.ext_add hnn
    refine⟨Γ.add s.nx ⟨i.b,i.o,l.length+m.length,i.csz,i.lp⟩,.value (.slice (some ⟨i.b,o,none⟩) (l.length+m.length) cap),w,O0L run,.inl ⟨_,rfl,?_⟩,hx,fun q hq=>Gam.add_ne (by omega),by omega,fun q a b=>?_,?_⟩
    ·rw[hnx3]
     unfold VRel
     exact⟨_,Gam.add_at,by simp,o,cap,rfl,room,hoo⟩
    ·rw[Gam.add_ne (by omega)];exact hf q (by omega) b
    ·rw[a3,p2.h,hh0]
     refine RG.named a1 hnn ⟨i.b,i.o,l.length+m.length,i.csz,i.lp⟩ (R.dom n i hi).2.1 (R.dom n i hi).2.2 (R.hid_move hi ho' trivial (by intros;simp) (by intros;simp) a1 hnn rfl fun _ _ _=>rfl) apart (R.sep n i _ (R.dom n i hi).1 ho' trivial hi) ?_
     refine⟨_,Gam.add_at,by simp,C,e0,fz,hbk,hcs0,?_,?_,hfr⟩
     ·intro j y hj
      have :=(List.getElem?_eq_some_iff.1 hj).1
      simp at this;omega
     ·simp[hl0,hm0]
   ·obtain⟨rfl,hfit⟩:=hoo (by omega)
    simp only[Nat.zero_mul,Nat.zero_add] at hfit
    have hle:(l.length+m.length)*Univ.esz c'≤cap*Univ.esz c':=Nat.mul_le_mul_right _ room
    rw[Nat.add_mul] at hle
    obtain⟨w',r1,st,hdr⟩:=B0Z (P:=P) us.toList w i.b (l.length*Univ.esz c') 0 C e0 fz (L0N krow) hbk (by simp[hus,q1];omega) hfr
    have run:=C0n (P:=P) (ats:=#[ta,tb]) (bs:=some ⟨i.b,0*Univ.esz c',none⟩) (k:=l.length) (C:=cap) rfl rfl hu Tj.und T'.info hte T'.hz hby ty hz A room (w':=w') (fun a ha=>by
     cases ha
     rw[B0C,q1,Nat.zero_mul,Nat.zero_add];exact r1) (fun h=>by cases h)
    obtain⟨RG,apart⟩:=R.gone hi ho' hbk st (A0I _ _ _)
    have hx:Ext Γ (Γ.add s.nx ⟨i.b,i.o,l.length+m.length,i.csz,i.lp⟩):=Gam.ext_add hnn
    refine⟨Γ.add s.nx ⟨i.b,i.o,l.length+m.length,i.csz,i.lp⟩,.value (.slice (some ⟨i.b,0*Univ.esz c',none⟩) (l.length+m.length) cap),w',O0L run,.inl ⟨_,rfl,?_⟩,hx,fun q hq=>Gam.add_ne (by omega),by omega,fun q a b=>?_,?_⟩
    ·rw[hnx3]
     unfold VRel
     exact⟨_,Gam.add_at,by simp,_,cap,rfl,room,fun _=>⟨rfl,by simpa using hfit⟩⟩
    ·rw[Gam.add_ne (by omega)];exact hf q (by omega) b
    ·rw[a3,p2.h,hh0]
     refine RG.named a1 hnn ⟨i.b,i.o,l.length+m.length,i.csz,i.lp⟩ (R.dom n i hi).2.1 (by rw[st.size];exact(R.dom n i hi).2.2) (R.hid_move hi ho' trivial (by intros;simp) (by intros;simp) a1 hnn rfl fun k _=>st.ne k) apart (R.sep n i _ (R.dom n i hi).1 ho' trivial hi) ?_
     refine⟨_,Gam.add_at,by simp,_,e0,fz,st.at',by rw[A0I];exact hcs0,?_,?_,by rw[A0I];exact hfr⟩
     ·have hput:=fun k=>C0g us.toList C (l.length*Univ.esz c') k (by simp[hus,q1];omega)
      refine(I0h hA krow (fun k hk=>?_) (fun k hk=>?_)).mono hx.fz
      ·rw[Nat.add_zero,hput,if_neg (by omega)]
      ·rw[Nat.add_zero,hput,if_pos (by simp[hus,q1];omega),Nat.add_sub_cancel_left,Array.getElem?_toList]
     ·rw[A0I,List.length_append,Nat.add_mul];omega
  ·--in a block of its own
   have hCl:l.length*Univ.esz c'≤C.size:=hsz0
   have hold:∀d,(Builtin.firstCells sz l.length (.slice (some ⟨i.b,o,none⟩) l.length cap)).run P {w with drawn:=d}=.ok (C.extract 0 (l.length*sz)) {w with drawn:=d}:=by
    intro d
    by_cases l0:l.length=0
    ·rw[l0];simp[Builtin.firstCells,loadCells,loadCellsFrom]
    ·obtain⟨rfl,_⟩:=hoo (by omega)
     simp only[Builtin.firstCells,loadCells]
     rw[B0B (w:={w with drawn:=d}) hbk (l.length*sz) 0 #[] (by rw[q1];omega)]
     simp
   obtain⟨cp,rest,z1,z2,z3⟩:=D0Q (P:=P) (ats:=#[ta,tb]) rfl rfl hu Tj.und T'.info hte T'.hz hzs hby ty hz A (by omega) hkm hold
   have hes:(C.extract 0 (l.length*sz)).size=l.length*sz:=by simp only[Array.size_extract,Nat.sub_zero];rw[q1];omega
   have st0:G0X w i.b C e0 fz w:=⟨rfl,rfl,rfl,rfl,hbk,fun _ _=>rfl⟩
   obtain⟨RG,apart⟩:=R.gone hi ho' hbk st0 rfl
   generalize hD:C.extract 0 (l.length*sz)++us++rest=D at z3
   have hDs:D.size=cp*sz:=by
    rw[←hD]
    simp only[Array.size_append,hes,hus,z2]
    rw[←Nat.add_mul,←Nat.add_mul];congr 1;omega
   have hx:Ext Γ (Γ.add s.nx ⟨w.heap.size,0,l.length+m.length,D.size,default⟩):=Gam.ext_add hnn
   refine⟨Γ.add s.nx ⟨w.heap.size,0,l.length+m.length,D.size,default⟩,.value (.slice (some ⟨w.heap.size,0,none⟩) (l.length+m.length) cp),_,O0L z3,.inl ⟨_,rfl,?_⟩,hx,fun q hq=>Gam.add_ne (by omega),by omega,fun q a b=>?_,?_⟩
   ·rw[hnx3]
    unfold VRel
    exact⟨_,Gam.add_at,by simp,0,cp,rfl,z1,fun _=>⟨by simp,by rw[Nat.zero_add,←q1];exact Nat.le_of_eq hDs.symm⟩⟩
   ·rw[Gam.add_ne (by omega)];exact hf q (by omega) b
   ·rw[a3,p2.h,hh0]
    refine(RG.drawn (w.drawn+1)).alloc a1 hnn _ rfl _ _ ?_ ?_ ?_
    ·refine⟨_,Gam.add_at,by simp,D,e,(0,0),by simp,rfl,?_,?_,fun k _ _ h=>by simp at h⟩
     ·refine(I0h hA krow (fun k hk=>?_) (fun k hk=>?_)).mono hx.fz
      ·rw[←hD,Array.getElem?_append_left (by simp only[Array.size_append,hes];rw[q1];omega),Array.getElem?_append_left (by rw[hes,q1];exact hk),Array.getElem?_extract,if_pos (by rw[q1];omega),Nat.zero_add]
      ·rw[←hD,Array.getElem?_append_left (by simp only[Array.size_append,hes,hus];rw[q1];omega),Array.getElem?_append_right (by rw[hes,q1];omega),hes,q1,Nat.add_sub_cancel_left]
     ·rw[hDs,←q1,List.length_append];exact Nat.mul_le_mul_right _ z1
    ·intro cs e' frz root rel al h;cases h
    ·intro m since seen h;cases h
theorem Y0d(hE:EnvOk E P)(R:Rel E base w0 Γ s.h w)(ty:TypeId){ats:List TypeId}{as:List AVal}{vs:Array Value}(ha:VRels Γ as vs.toList)(g:(W0l E ats as s).Good):
  B0G E base w0 Γ s (W0l E ats as s) ((do pure (.value (←Builtin.append_ ats.toArray ty vs)):Sem Next).run P w):=by
 unfold W0l at g⊢
 rcases as with _|⟨a,_|⟨b,_|⟨y,l⟩⟩⟩<;>simp only[] at g⊢<;>first
  |exact g.elim
  |skip
 have ha0:=ha
 obtain⟨u,us1,e1,ha1,ha2⟩:=ha.cons_inv
 obtain⟨v,us2,e2,ha3,ha4⟩:=ha2.cons_inv
 have e3:=ha4.nil_inv
 subst e3;subst e2
 have :vs=#[u,v]:=by rw[←Array.toArray_toList (xs:=vs),e1]
 subst this
 unfold Y0q at g⊢
 split at g
 ·exact J0B hE R ty ha1 ha3 g
 ·--is it told?
  have src:∃b1 s1,U0Q b s=.ok b1 s1∧Same s s1:=by
   have g1:=A0a g
   unfold U0Q at g1⊢
   split at g1
   ·obtain⟨_,_,_,_,_,_,s1,_,_,e1,q1⟩:=C0l (A0a g1)
    exact⟨_,s1,by rw[A0d e1];rfl,q1⟩
   ·rename_i hne
    exact⟨false,s,rfl,.refl s⟩
  obtain⟨b1,s1,k1,k2⟩:=src
  rw[A0d k1] at g⊢
  have R1:Rel E base w0 Γ s1.h w:=by rw[k2.h];exact R
  have fin:∀{r:Res AVal}{run:Result Next},B0G E base w0 Γ s1 r run→B0G E base w0 Γ s r run:=by
   rintro r run⟨a,s',h1,h2⟩
   exact⟨a,s',h1,fun N hN hf=>let⟨Γ',n,w',p1,p2,p3⟩:=h2 N hN (by rw[k2.nx];exact hf);⟨Γ',n,w',p1,p2,p3.after k2⟩⟩
  cases hb1:(b1||c0k E ats) with
  |true=>rw[hb1,A0e] at g;simp only[hb1,A0e];exact fin (J0B hE R1 ty ha1 ha3 g)
  |false=>rw[hb1,A0f] at g;simp only[hb1,A0f];exact fin ((H0K (ats:=ats) hE R1 ty ha0 g).got)
 ·exact(H0K (ats:=ats) hE R ty ha0 g).got
theorem L0e{ρa:Rho}{ρ:Operand→Value}(hρ:∀x,VRel Γ (ρa x) (ρ x))(l:Array Operand):VRels Γ (map1 ρa l.toList) (l.map ρ).toList:=by
 rw[C0m,Array.toList_map]
 exact VRels.map _ _ _ fun x _=>hρ x
theorem F0Z{ρa:Rho}{ρ:Operand→Value}(hρ:∀x,VRel Γ (ρa x) (ρ x))(o:Option Operand):G0I Γ (o.map ρa) (o.map ρ):=by
 cases o with
 |none=>rfl
 |some x=>exact⟨ρ x,rfl,hρ x⟩
theorem S0R(hE:EnvOk E P)(R:Rel E base w0 Γ s.h w){b:Builtin}{ats:Array TypeId}{ty:TypeId}{cs:Array Bool}{as:List AVal}{vs:Array Value}(ha:VRels Γ as vs.toList)(g:(J0n b E ats.toList as s).Good):
  B0G E base w0 Γ s (J0n b E ats.toList as s) ((builtin b ats ty cs vs).run P w):=by
 have one:∀f:TypeId→AVal→M AVal,(ev1 f ats.toList as s).Good→∃t a u,ats[0]?=some t∧as=[a]∧vs=#[u]∧VRel Γ a u∧ev1 f ats.toList as=f t a:=by
  intro f g
  unfold ev1 at g
  cases hl:ats.toList with
  |nil=>rw[hl] at g;exact g.elim
  |
   cons t l=>
   rw[hl] at g
   rcases as with _|⟨a,_|⟨y,m⟩⟩<;>simp only[] at g<;>first
    |exact g.elim
    |skip
   obtain⟨u,us,e,h1,h2⟩:=ha.cons_inv
   have :=h2.nil_inv
   subst this
   refine⟨t,a,u,?_,rfl,by rw[←Array.toArray_toList (xs:=vs),e],h1,rfl⟩
   rw[←Array.getElem?_toList,hl];rfl
 have two:∀f:TypeId→AVal→AVal→M AVal,(ev2 f ats.toList as s).Good→∃t a b u v,ats[0]?=some t∧as=[a,b]∧vs=#[u,v]∧VRel Γ a u∧VRel Γ b v∧ev2 f ats.toList as=f t a b:=by
  intro f g
  unfold ev2 at g
  cases hl:ats.toList with
  |nil=>rw[hl] at g;exact g.elim
  |
   cons t l=>
   rw[hl] at g
   rcases as with _|⟨a,_|⟨b,_|⟨y,m⟩⟩⟩<;>simp only[] at g<;>first
    |exact g.elim
    |skip
   obtain⟨u,us,e,h1,h2⟩:=ha.cons_inv
   obtain⟨v,us2,e2,h3,h4⟩:=h2.cons_inv
   have :=h4.nil_inv
   subst this
   subst e2
   refine⟨t,a,b,u,v,?_,rfl,by rw[←Array.toArray_toList (xs:=vs),e],h1,h3,rfl⟩
   rw[←Array.getElem?_toList,hl];rfl
 cases b<;>first
  |exact g.elim
  |skip
 case append=>exact Y0d (ats:=ats.toList) hE R ty ha g
 case len=>
  obtain⟨t,a,u,h1,rfl,rfl,h2,h3⟩:=one (P0M E) g
  change(ev1 (P0M E) ats.toList [a] s).Good at g
  show B0G E base w0 Γ s (ev1 (P0M E) ats.toList [a] s) _
  rw[h3] at g⊢
  exact(T0c hE R h2 h1 ty g).got R
 case cap=>
  obtain⟨t,a,u,h1,rfl,rfl,h2,h3⟩:=one (L0I E) g
  change(ev1 (L0I E) ats.toList [a] s).Good at g
  show B0G E base w0 Γ s (ev1 (L0I E) ats.toList [a] s) _
  rw[h3] at g⊢
  unfold L0I at g⊢
  obtain⟨ti,inf,d,z,hty,he,T⟩:=A0o hE (A0a g)
  rw[A0d he] at g⊢
  have hk:=T.k
  cases hc:ti.k<;>rw[hc] at g hk<;>simp only[] at g⊢<;>first
   |exact g.elim
   |skip
  obtain⟨hd,_⟩:=A0S hk.symm
  subst hd
  obtain⟨c,e1,x,n,rfl⟩:=T0N h2 g
  refine Reads.got (x:=Builtin.cap_ ats ty #[.slice x n c]) R ⟨_,s,goInt c,e1,.refl s,?_,by unfold VRel;rfl⟩
  simp[Builtin.cap_,h1,T.run_und]
 case copy=>
  obtain⟨t,a,b,u,v,h1,rfl,rfl,h2,h3,h4⟩:=two (evCp E) g
  change(ev2 (evCp E) ats.toList [a,b] s).Good at g
  show B0G E base w0 Γ s (ev2 (evCp E) ats.toList [a,b] s) _
  rw[h4] at g⊢
  unfold evCp at g⊢
  cases hA:a0z a with
  |true=>rw[hA,A0e] at g;rw[A0e];exact(T0V hE R h2 h3 h1 ty g).got
  |false=>rw[hA,A0f] at g;rw[A0f];exact(Q0E hE R h2 h3 h1 ty g).got
 case unsafeSliceData=>
  obtain⟨t,a,u,h1,rfl,rfl,h2,h3⟩:=one (fun _=>B0U) g
  change(ev1 (fun _=>B0U) ats.toList [a] s).Good at g
  show B0G E base w0 Γ s (ev1 (fun _=>B0U) ats.toList [a] s) _
  rw[h3] at g⊢
  exact(K0x h2 ats ty g).got R
 case unsafeString=>
  obtain⟨t,a,b,u,v,h1,rfl,rfl,h2,h3,h4⟩:=two (B0g E) g
  change(ev2 (B0g E) ats.toList [a,b] s).Good at g
  show B0G E base w0 Γ s (ev2 (B0g E) ats.toList [a,b] s) _
  rw[h4] at g⊢
  exact(H0G hE R h2 h3 h1 ty g).got
 case clear=>
  obtain⟨t,a,u,h1,rfl,rfl,h2,h3⟩:=one (F0X E) g
  change(ev1 (F0X E) ats.toList [a] s).Good at g
  show B0G E base w0 Γ s (ev1 (F0X E) ats.toList [a] s) _
  rw[h3] at g⊢
  exact(P0C hE R h2 h1 ty g).got
 case min=>
  change(evL (G0L true) as s).Good at g
  show B0G E base w0 Γ s (evL (G0L true) as s) _
  cases as with
  |nil=>exact g.elim
  |
   cons a l=>
   obtain⟨u,us,e,h1,h2⟩:=ha.cons_inv
   obtain⟨b,v,k1,k2,k3⟩:=I0s (P:=P) (w:=w) true l a u us h1 h2 g
   show B0G E base w0 Γ s (G0L true a l s) _
   refine(Reads.got (x:=Builtin.min_ ats ty vs) R ⟨b,s,v,k1,.refl s,?_,k3⟩)
   simp only[Builtin.min_,e]
   exact k2
 case max=>
  change(evL (G0L false) as s).Good at g
  show B0G E base w0 Γ s (evL (G0L false) as s) _
  cases as with
  |nil=>exact g.elim
  |
   cons a l=>
   obtain⟨u,us,e,h1,h2⟩:=ha.cons_inv
   obtain⟨b,v,k1,k2,k3⟩:=I0s (P:=P) (w:=w) false l a u us h1 h2 g
   show B0G E base w0 Γ s (G0L false a l s) _
   refine(Reads.got (x:=Builtin.max_ ats ty vs) R ⟨b,s,v,k1,.refl s,?_,k3⟩)
   simp only[Builtin.max_,e]
   exact k2
def P0N(o:Op):Bool:=match o with
 |
  .call c=>match c.callee with
  |.builtin _=>true
  |_=>false
 |_=>true
theorem R0a{ρa:Rho}{ρ:Operand→Value}(hρ:∀x,VRel Γ (ρa x) (ρ x))(ps:Array (Nat×Operand)):d0n Γ (map1 (fun p=>(p.1,ρa p.2)) ps.toList) (ps.map fun(i,x)=>(i,ρ x)).toList:=by
 rw[C0m,Array.toList_map]
 refine⟨by simp,fun k p q h1 h2=>?_⟩
 rw[List.getElem?_map] at h1 h2
 cases h:ps.toList[k]? with
 |none=>rw[h] at h1;cases h1
 |
  some r=>
  rw[h] at h1 h2
  simp at h1 h2
  subst h1;subst h2
  exact⟨rfl,hρ r.2⟩
theorem S0i(R:Rel E base w0 Γ s.h w){a:AVal}{v:Value}(h:VRel Γ a v){ρa:Rho}{ρ:Operand→Value}{x:Operand}{det:Bool}{call:C0r}(e1:ρa x=a)(e2:ρ x=v){o:Oper}(ho:o.op=.nilCheck x)
  (g:(D0G x E det call ρa s).Good):B0G E base w0 Γ s (D0G x E det call ρa s) ((execOp ρ o).run P w):=by
 unfold D0G at g⊢
 rw[e1] at g⊢
 have ok:(execOp ρ o).run P w=.ok (.value v) w→B0G E base w0 Γ s (M.pure a s) ((execOp ρ o).run P w):=by
  intro h5
  rw[h5];exact H0u (P:=P) (w:=w) R h
 cases a<;>simp only[] at g⊢<;>first
  |exact g.elim
  |skip
 all_goals (refine ok ?_;unfold VRel at h;simp only[execOp,ho,e2])
 case bool=>subst h;rfl
 case int=>subst h;rfl
 case str=>subst h;rfl
 case ptr=>obtain⟨i,_,rfl⟩:=h;rfl
 case slice n off k cap sz=>obtain⟨i,_,h⟩:=h;obtain⟨_,_,_,rfl⟩:=E0p h;rfl
 case nils=>subst h;rfl
 case map=>obtain⟨i,_,rfl⟩:=h;rfl
 case nilm=>subst h;rfl
 case fn=>obtain⟨vs,ws,rfl,_⟩:=h;rfl
 case yld=>obtain⟨i,_,rfl⟩:=h;rfl
 case iface=>obtain⟨u,rfl,_⟩:=h;rfl
 case agg=>obtain⟨u,rfl,_⟩:=h;rfl
 case tup=>obtain⟨u,rfl,_⟩:=h;rfl
 case sb=>subst h;rfl
 case si=>subst h;rfl
 case ss=>subst h;rfl
 case dsl=>obtain⟨A,cap,rfl⟩:=D0a h;rfl
 case dptr=>obtain⟨_,b,z,cap,_,rfl⟩:=h;rfl
 case asl=>obtain⟨_,_,_,_,_,rfl,_⟩:=h;rfl
 case aptr=>obtain⟨_,_,_,rfl⟩:=h;rfl
 case dmp=>obtain⟨_,_,_,rfl,_⟩:=h;rfl
set_option maxHeartbeats 2000000 in
theorem W0w(hE:EnvOk E P)(R:Rel E base w0 Γ s.h w){ρa:Rho}{ρ:Operand→Value}(hρ:∀x,VRel Γ (ρa x) (ρ x))(det:Bool)(call:C0r){o:Oper}(hp:P0N o.op=true)(g:(evOp o.op E det call ρa s).Good):
  B0G E base w0 Γ s (evOp o.op E det call ρa s) ((execOp ρ o).run P w):=by
 cases ho:o.op<;>rw[ho] at g hp<;>first
  |exact g.elim
  |skip
 case move x=>simp only[execOp,ho];exact H0u R (hρ x)
 case assign x=>simp only[execOp,ho];exact H0u R (hρ x)
 case pick c a b=>
  simp only[execOp,ho]
  change(M0g c a b E det call ρa s).Good at g
  show B0G E base w0 Γ s (M0g c a b E det call ρa s) _
  unfold M0g at g⊢
  have hc:=hρ c
  cases hca:ρa c<;>rw[hca] at g<;>simp only[] at g⊢<;>first
   |exact g.elim
   |skip
  all_goals
   rename_i bb
   rw[hca] at hc
   unfold VRel at hc
   rw[hc]
  case bool=>
   refine(H0u (P:=P) (w:=w) R (v:=if bb then ρ a else ρ b) ?_)
   cases bb with
   |true=>rw[A0e];exact hρ a
   |false=>rw[A0f];exact hρ b
  case sb=>
   cases bb with
   |true=>exact H0u (P:=P) (w:=w) R (v:=ρ a) (hρ a)
   |false=>exact H0u (P:=P) (w:=w) R (v:=ρ b) (hρ b)
 case alloc t=>simp only[execOp,ho];exact(O0W hE R g).got
 case box t v=>simp only[execOp,ho];exact(T0o R (hρ v) g).got
 case build t ps=>simp only[execOp,ho];exact(P0a hE (R0a hρ ps) g).got R
 case buildSlice t n ps=>simp only[execOp,ho];exact(I0O hE R (R0a hρ ps) g).got
 case load t a=>
  simp only[execOp,ho]
  obtain⟨r,s',v,h1,h2,h3,h4,_⟩:=K0I (P:=P) hE R (hρ a) g
  exact Reads.got (x:=Instr.loadAt t (ρ a)) R ⟨r,s',v,h1,h2,h3,h4⟩
 case store t a v=>simp only[execOp,ho];exact L0h (P0o hE R (hρ a) (hρ v) g)
 case nilCheck x=>exact S0i (det:=det) (call:=call) R (hρ x) rfl rfl ho g
 case binOp op t x y fl=>simp only[execOp,ho];exact(T0x hE (hρ x) (hρ y) g).got R
 case unOp op t x=>simp only[execOp,ho];exact(V0r (hρ x) g).got R
 case convert a b x=>simp only[execOp,ho];exact(L0P hE R (hρ x) g).got R
 case makeInterface t x=>
  simp only[execOp,ho]
  change(H0W t x E det call ρa s).Good at g
  show B0G E base w0 Γ s (H0W t x E det call ρa s) _
  unfold H0W at g⊢
  obtain⟨ti,inf,d,z,hty,he,T⟩:=A0o hE (A0a g)
  rw[A0d he] at g⊢
  have hk:=T.k
  have :B0G E base w0 Γ s (M.pure (.iface t (ρa x)) s) ((do pure (.value (←Instr.makeInterface t (ρ x))):Sem Next).run P w)∨∃ms,d=.interface ms:=by
   cases d<;>first
    |exact .inr ⟨_,rfl⟩
    |(refine .inl (Reads.got (x:=Instr.makeInterface t (ρ x)) R ⟨_,s,.iface t (ρ x),rfl,.refl s,by simp[Instr.makeInterface,T.run_und],by unfold VRel;exact⟨_,rfl,hρ x⟩⟩))
  rcases this with h|⟨ms,rfl⟩
  ·cases hc:ti.k<;>rw[hc] at g<;>simp only[] at g⊢<;>first
    |exact g.elim
    |exact h
  ·rw[hk] at g;exact g.elim
 case makeFunc fn first captured=>
  simp only[execOp,ho]
  cases fn<;>first
   |exact g.elim
   |skip
  rename_i f
  refine Reads.got (x:=Instr.makeFunc (.func f) (first.map ρ) (captured.map ρ)) R ⟨_,s,.func (.func f) (first.map ρ) (captured.map ρ),rfl,.refl s,rfl,?_⟩
  unfold VRel
  exact⟨_,_,rfl,L0e hρ first,L0e hρ captured⟩
 case makeMap t r=>simp only[execOp,ho];exact(P0e hE R (F0Z hρ r) g).got
 case makeSlice t l c=>
  simp only[execOp,ho]
  change(R0T E t (ρa l) (ρa c) s).Good at g
  show B0G E base w0 Γ s (R0T E t (ρa l) (ρa c) s) _
  unfold R0T at g⊢
  cases hA:isSi (ρa l) with
  |true=>rw[hA,A0e] at g;rw[A0e];exact T0F hE R (hρ l) (hρ c) g
  |false=>rw[hA,A0f] at g;rw[A0f];exact(J0H hE R (hρ l) (hρ c) g).got
 case slice t x lo hi mx=>
  simp only[execOp,ho]
  change(evSl E t (ρa x) (lo.map ρa) (hi.map ρa) (mx.map ρa) s).Good at g
  show B0G E base w0 Γ s (evSl E t (ρa x) (lo.map ρa) (hi.map ρa) (mx.map ρa) s) _
  unfold evSl at g⊢
  cases hA:a0z (ρa x) with
  |true=>rw[hA,A0e] at g;rw[A0e];exact(N0s hE (hρ x) (F0Z hρ lo) (F0Z hρ hi) (F0Z hρ mx) g).got R
  |false=>rw[hA,A0f] at g;rw[A0f];exact(O0Y hE R (hρ x) (F0Z hρ lo) (F0Z hρ hi) (F0Z hρ mx) g).got R
 case fieldAddr t x f=>simp only[execOp,ho];exact(P0W hE (hρ x) g).got R
 case field t x f=>simp only[execOp,ho];exact(Q0R hE (hρ x) g).got R
 case indexAddr t x i=>simp only[execOp,ho];exact(J0Y hE (hρ x) (hρ i) g).got R
 case index t x i=>simp only[execOp,ho];exact(P0J hE (hρ x) (hρ i) g).got R
 case lookup t x i ok=>simp only[execOp,ho];exact b0C hE R (hρ x) (hρ i) ok g
 case mapUpdate t m k v=>simp only[execOp,ho];exact U0v hE R false (hρ m) (hρ k) (hρ v) g
 case insert t m k v=>
  simp only[execOp,ho]
  change(sel det (A0J E true t (ρa m) (ρa k) (ρa v)) (evMu E false t (ρa m) (ρa k) (ρa v)) s).Good at g
  show B0G E base w0 Γ s (sel det (A0J E true t (ρa m) (ρa k) (ρa v)) (evMu E false t (ρa m) (ρa k) (ρa v)) s) _
  cases det with
  |true=>rw[A0e] at g⊢;exact L0h (D0z hE R true (hρ m) (hρ k) (hρ v) g)
  |false=>rw[A0f] at g⊢;exact U0v hE R false (hρ m) (hρ k) (hρ v) g
 case range t x=>simp only[execOp,ho];exact(W0Y hE R (hρ x) g).got
 case next it str=>
  simp only[execOp,ho]
  change(sel str (G0K (ρa it)) (evNx det (ρa it)) s).Good at g
  show B0G E base w0 Γ s (sel str (G0K (ρa it)) (evNx det (ρa it)) s) _
  cases str with
  |true=>rw[A0e] at g⊢;exact(P0v R (hρ it) o.type g).got
  |false=>rw[A0f] at g⊢;exact(V0y hE R det (hρ it) o.type g).got
 case entry it=>simp only[execOp,ho];exact(V0s hE R (hρ it) g).got R
 case extract x i=>
  simp only[execOp,ho]
  change(E0F x i E det call ρa s).Good at g
  show B0G E base w0 Γ s (E0F x i E det call ρa s) _
  unfold E0F at g⊢
  have hx:=hρ x
  cases hca:ρa x<;>rw[hca] at g<;>simp only[] at g⊢<;>first
   |exact g.elim
   |skip
  rename_i l
  rw[hca] at hx
  unfold VRel at hx
  obtain⟨vs,hv,hr⟩:=hx
  obtain⟨a,h1,h2⟩:=A0k g
  rw[E0Z] at h1
  obtain⟨v,h3,h4⟩:=hr.get h1
  refine Reads.got (x:=Instr.extract (ρ x) i) R ⟨a,s,v,h2,.refl s,?_,h4⟩
  have h3':vs[i]?=some v:=by simpa using h3
  simp[Instr.extract,hv,h3']
 case call c=>
  simp only[P0N] at hp
  split at hp
  ·rename_i b hb
   change(C0J c E call ρa s).Good at g
   show B0G E base w0 Γ s (C0J c E call ρa s) _
   unfold C0J at g⊢
   rw[hb] at g⊢
   simp only[] at g⊢
   have :=S0R (P:=P) (ty:=o.type) (cs:=c.args.map fun |.const _=>true|_=>false) hE R (L0e hρ c.args) g
   simp only[execOp,ho,resolve,hb,Sem.run_bind,Sem.run_pure,Result.andThen_ok,invoke]
   exact this
  ·cases hp
end
section
variable{P:Program}{E:Env}{base:Bs}{w0:World}{Γ:Gam}{w:World}{s:St}{t kt:TypeId}
def MarksRel(Γ:Gam):List Nat→List Deferred→Prop
 |[],ds=>ds=[]
 |n::l,ds=>∃i ds',Γ n=some i∧ds={target:=.collected i.b,args:=#[]}::ds'∧MarksRel Γ l ds'
theorem MarksRel.ext{Γ Γ':Gam}(hx:Ext Γ Γ'):∀{l:List Nat}{ds:List Deferred},MarksRel Γ l ds→MarksRel Γ' l ds
 |[],_,h=>h
 |_::_,_,h=>by obtain⟨i,ds',h1,h2,h3⟩:=h;exact⟨i,ds',hx _ _ h1,h2,h3.ext hx⟩
def RoundRel(Γ:Gam)(r:Option Nat)(ro:Option Nat):Prop:=match r with
 |none=>ro=none
 |some n=>∃i,Γ n=some i∧ro=some i.b
theorem RoundRel.ext{Γ Γ':Gam}(hx:Ext Γ Γ'){r ro:Option Nat}(h:RoundRel Γ r ro):RoundRel Γ' r ro:=by
 cases r with
 |none=>exact h
 |some n=>obtain⟨i,h1,h2⟩:=h;exact⟨i,hx _ _ h1,h2⟩
structure TRel(Γ:Gam)(ro:Option Nat)(T:Tm)(a:Act):Prop where
 deep:T.t.deep DT
 marks:MarksRel Γ T.mks a.defers
 rnd:RoundRel Γ T.rnd ro
 size:a.tmps.size=T.n
 le:T.n≤LT
 get:∀i,VRel Γ (getT T.t i) (a.tmps.getD i undef)
theorem TRel.ext{Γ':Gam}(hx:Ext Γ Γ'){ro:Option Nat}{T:Tm}{a:Act}(h:TRel Γ ro T a):TRel Γ' ro T a:=⟨h.deep,h.marks.ext hx,h.rnd.ext hx,h.size,h.le,fun i=>(h.get i).ext hx⟩
theorem TRel.rho{ro:Option Nat}{T:Tm}{a:Act}(h:TRel Γ ro T a)(x:Operand):VRel Γ (T.rho x) (a.eval x):=by
 obtain⟨t,n,ms,rnd⟩:=T
 cases x with
 |tmp i=>exact h.get i
 |const v=>exact H0t Γ v
 |global g=>show VRel Γ (.raw _) _;unfold VRel;exact⟨rfl,by intro cs q;cases q⟩
 |func f=>show VRel Γ (.fn f [] []) _;unfold VRel;exact⟨#[],#[],rfl,.nil,.nil⟩
theorem D0B(Γ:Gam):VRel Γ .undef undef:=by unfold AVal.undef VRel;exact⟨#[],rfl,.nil⟩
theorem TRel.put{ro:Option Nat}{T:Tm}{a:Act}(h:TRel Γ ro T a){v:AVal}{u:Value}(hv:VRel Γ v u){dst:Option Nat}(g:(T.put dst v s).Good):∃T',T.put dst v s=.ok T' s∧TRel Γ ro T' (a.put dst u):=by
 cases dst with
 |none=>exact⟨T,rfl,h⟩
 |
  some d=>
  obtain⟨t,n,ms,rnd⟩:=T
  change(M.req (Nat.blt d n) (M.pure (⟨t.set d v,n,ms,rnd⟩:Tm)) s).Good at g
  obtain⟨hq,hr⟩:=A0i g
  have hd:d<n:=by simpa [Nat.blt_eq] using hq
  refine⟨⟨t.set d v,n,ms,rnd⟩,hr,A0j _ DT t d h.deep,h.marks,h.rnd,by simp[Act.put];exact h.size,h.le,fun i=>?_⟩
  have hdl:d<LT:=Nat.lt_of_lt_of_le hd h.le
  have hsz:a.tmps.size=n:=h.size
  have hg:=h.get i
  unfold getT at hg⊢
  cases hi:Nat.blt i LT with
  |
   true=>
   rw[hi,A0e] at hg
   rw[A0e]
   have hil:i<LT:=by simpa [Nat.blt_eq] using hi
   rw[A0y v DT t d i h.deep hdl hil]
   by_cases c:i=d
   ·subst c
    rw[if_pos rfl]
    simp[Act.put,hsz,hd];exact hv
   ·rw[if_neg c]
    have :(a.put (some d) u).tmps.getD i undef=a.tmps.getD i undef:=by
     simp[Act.put,Array.getElem?_setIfInBounds_ne (Ne.symm c)]
    rw[this];exact hg
  |
   false=>
   rw[hi,A0f] at hg
   rw[A0f]
   have hil:¬(i<LT):=fun q=>by
    have :Nat.blt i LT=true:=by simpa [Nat.blt_eq] using q
    rw[this] at hi;cases hi
   have c:d≠i:=by omega
   have :(a.put (some d) u).tmps.getD i undef=a.tmps.getD i undef:=by
    simp[Act.put,Array.getElem?_setIfInBounds_ne c]
   rw[this];exact hg
theorem Y0L{x:AVal}{c:Bool}(h:VRel Γ x (.bool c)):x=.bool c∨x=.sb c∨(∃v,x=.raw v)∨x=.any:=by
 cases x with
 |bool b=>unfold VRel at h;cases h;exact .inl rfl
 |sb b=>unfold VRel at h;cases h;exact .inr (.inl rfl)
 |raw v=>exact .inr (.inr (.inl ⟨v,rfl⟩))
 |any=>exact .inr (.inr (.inr rfl))
 |si k n=>unfold VRel at h;cases h
 |ss l=>unfold VRel at h;cases h
 |dsl c l=>unfold VRel at h;obtain⟨_,_,h⟩:=D0a h;cases h
 |dptr c l i o=>unfold VRel at h;obtain⟨_,_,_,_,_,h⟩:=h;cases h
 |asl c n off k=>unfold VRel at h;obtain⟨_,_,_,_,_,h,_⟩:=h;cases h
 |aptr c n j o=>unfold VRel at h;obtain⟨_,_,_,h⟩:=h;cases h
 |dmp k v m n=>unfold VRel at h;obtain⟨_,_,_,h,_⟩:=h;cases h
 |int k n=>unfold VRel at h;cases h
 |str l=>unfold VRel at h;cases h
 |ptr n o=>unfold VRel at h;obtain⟨_,_,h⟩:=h;cases h
 |nilp=>unfold VRel at h;cases h
 |slice n o k c sz=>unfold VRel at h;obtain⟨_,_,h⟩:=h;obtain⟨_,_,_,h⟩:=E0p h;cases h
 |nils=>unfold VRel at h;cases h
 |map n=>unfold VRel at h;obtain⟨_,_,h⟩:=h;cases h
 |nilm=>unfold VRel at h;cases h
 |fn f l m=>unfold VRel at h;obtain⟨_,_,h,_⟩:=h;cases h
 |nilf=>unfold VRel at h;cases h
 |iface t v=>unfold VRel at h;obtain⟨_,h,_⟩:=h;cases h
 |nili=>unfold VRel at h;cases h
 |agg l=>unfold VRel at h;obtain⟨_,h,_⟩:=h;cases h
 |tup l=>unfold VRel at h;obtain⟨_,h,_⟩:=h;cases h
 |yld n=>unfold VRel at h;obtain⟨_,_,h⟩:=h;cases h
theorem V0u{ro:Option Nat}{T:Tm}{a:Act}(h:TRel Γ ro T a){ops:Array Oper}{o:Oper}{b:GB}(hw:F0s ops.toList T o.guard=some b):Region.wanted o (yielded ops a.tmps)=b.b:=by
 unfold F0s at hw
 unfold Region.wanted
 cases hg:o.guard with
 |none=>rw[hg] at hw;simp at hw;subst hw;rfl
 |
  some q=>
  obtain⟨j,want⟩:=q
  rw[hg] at hw
  simp only[E0Z] at hw
  simp only[]
  unfold yielded
  have hj:ops.toList[j]?=ops[j]?:=by simp
  rw[hj] at hw
  cases hp:ops[j]? with
  |none=>rw[hp] at hw;simp at hw;subst hw;rfl
  |
   some p=>
   rw[hp] at hw
   simp only[Option.bind_some] at hw⊢
   cases hd:p.dst with
   |none=>rw[hd] at hw;simp at hw;subst hw;rfl
   |
    some d=>
    rw[hd] at hw
    simp only[Option.bind_some] at hw⊢
    have hv:=h.get d
    obtain⟨t,n,ms,rnd⟩:=T
    change Q0T (getT t d) want=some b at hw
    simp only[] at hv
    have hval:∀v,a.tmps[d]?=some v→VRel Γ (getT t d) v:=by
     intro v e
     have :a.tmps.getD d undef=v:=by simp[e]
     rw[←this];exact hv
    have hnone:a.tmps[d]?=none→VRel Γ (getT t d) undef:=by
     intro e
     have :a.tmps.getD d undef=undef:=by simp[e]
     rw[←this];exact hv
    unfold Q0T at hw
    have notbool:(∀c,getT t d≠.bool c)→(∀c,getT t d≠.sb c)→(∀v,getT t d≠.raw v)→getT t d≠.any→∀c,a.tmps[d]?≠some (.bool c):=by
     intro h1 h0 h2 h3 c e
     rcases Y0L (hval _ e) with q|q|⟨v,q⟩|q
     ·exact h1 _ q
     ·exact h0 _ q
     ·exact h2 _ q
     ·exact h3 q
    have other:(∀c,a.tmps[d]?≠some (.bool c))→((match a.tmps[d]? with |some (.bool b)=>some b|_=>none)==some want)=false:=by
     intro hn
     cases he:a.tmps[d]? with
     |none=>rfl
     |some v=>cases v<;>first|rfl|exact absurd he (hn _)
    cases hx:getT t d<;>rw[hx] at hw notbool<;>simp only[Option.some.injEq,reduceCtorEq] at hw
    case bool c=>
     rw[hx] at hval hnone
     cases he:a.tmps[d]? with
     |none=>have :=hnone he;unfold VRel at this;cases this
     |
      some v=>
      have :=hval v he
      unfold VRel at this
      subst this
      rw[←hw]
      cases c<;>cases want<;>rfl
    case sb c=>
     rw[hx] at hval hnone
     cases he:a.tmps[d]? with
     |none=>have :=hnone he;unfold VRel at this;cases this
     |
      some v=>
      have :=hval v he
      unfold VRel at this
      subst this
      rw[←hw]
      cases c<;>cases want<;>rfl
    all_goals (subst hw;exact other (notbool (by intros;simp) (by intros;simp) (by intros;simp) (by simp)))
end
def E0z(o:Option AObj):Option (Option (Nat×TypeId×Bool×Bool×Nat×Nat)×Option AObj):=match o with
 |none=>none
 |some (.cells cs e frz dead root rel _)=>some (some (cs.length,e,frz,dead,root,rel),none)
 |some o=>some (none,some o)
def F0M(o:Option AObj):Option (List (Nat×Nat×Nat)):=match o with
 |some (.cells _ _ _ _ _ _ al)=>some al
 |_=>none
def H0l(o:Option AObj)(i:Nat):Option AVal:=match o with
 |some (.cells cs _ _ _ _ _ _)=>cs[i]?
 |_=>none
def Agree(p:Nat)(x y:Option AObj):Prop:=match p with
 |0=>E0z x=E0z y
 |1=>F0M x=F0M y
 |i+2=>H0l x i=H0l y i
theorem Agree.refl(p:Nat)(x:Option AObj):Agree p x x:=by unfold Agree;split<;>rfl
theorem Agree.symm{p:Nat}{x y:Option AObj}(h:Agree p x y):Agree p y x:=by unfold Agree at *;split<;>exact h.symm
theorem Agree.trans{p:Nat}{x y z:Option AObj}(h:Agree p x y)(k:Agree p y z):Agree p x z:=by unfold Agree at *;split<;>exact h.trans k
theorem Agree.all{x y:Option AObj}(h:∀p,Agree p x y):x=y:=by
 have h0:E0z x=E0z y:=h 0
 have h1:F0M x=F0M y:=h 1
 have hc:∀i,H0l x i=H0l y i:=fun i=>h (i+2)
 cases x with
 |
  none=>
  cases y with
  |none=>rfl
  |some o=>cases o<;>simp[E0z] at h0
 |
  some o=>
  cases y with
  |none=>cases o<;>simp[E0z] at h0
  |
   some o'=>
   cases o<;>cases o'<;>simp only[E0z,Option.some.injEq,Prod.mk.injEq,reduceCtorEq,false_and,and_false] at h0
   case cells.cells cs e frz dead root rel al cs' e' frz' dead' root' rel' al'=>
    obtain⟨⟨_,rfl,rfl,rfl,rfl,rfl⟩,_⟩:=h0
    simp only[F0M,Option.some.injEq] at h1
    subst h1
    have :cs=cs':=List.ext_getElem? fun i=>by simpa [H0l] using hc i
    rw[this]
   all_goals simp_all
def Rg.covers(r:Rg)(n p:Nat):Prop:=r.n=n∧r.i≤p∧p<r.i+r.k
def Cov(l:List Rg)(n p:Nat):Prop:=∃r∈l,r.covers n p
theorem Cov.append{l m:List Rg}{n p:Nat}:Cov (l++m) n p↔Cov l n p∨Cov m n p:=by
 unfold Cov;simp only[List.mem_append]
 constructor
 ·rintro⟨r,h|h,k⟩
  ·exact .inl ⟨r,h,k⟩
  ·exact .inr ⟨r,h,k⟩
 ·rintro(⟨r,h,k⟩|⟨r,h,k⟩)
  ·exact⟨r,.inl h,k⟩
  ·exact⟨r,.inr h,k⟩
structure Sim(A:List Rg)(s s2:St):Prop where
 nx:s2.nx=s.nx
 lo:s2.lo=s.lo
 deep:s2.h.deep DH
 own:∀n,s.lo≤n→n<s.nx→s2.h.get n=s.h.get n
 at':∀n p,n<s.lo→Cov A n p→Agree p (s.h.get n) (s2.h.get n)
structure d0T(s:St)(dw:List Rg)(s':St):Prop where
 lo:s'.lo=s.lo
 nx:s.nx≤s'.nx
 deep:s'.h.deep DH
 far:∀n,s'.nx≤n→n<LH→s'.h.get n=s.h.get n
 keep:∀n p,n<s.lo→¬Cov dw n p→Agree p (s.h.get n) (s'.h.get n)
structure Logs(s:St)(dr dw:List Rg)(s':St):Prop where
 rd:s'.rd=dr++s.rd
 wr:s'.wr=dw++s.wr
 lo:∀r∈dr++dw,r.n<s.lo
structure f0l(s:St)(dr dw:List Rg)(s' s2 s2':St):Prop where
 nx:s2'.nx=s'.nx
 logs:Logs s2 dr dw s2'
 touch:d0T s2 dw s2'
 own:∀n,s.lo≤n→n<s'.nx→s2'.h.get n=s'.h.get n
 wrote:∀n p,n<s.lo→Cov dw n p→Agree p (s'.h.get n) (s2'.h.get n)
structure Ok(s:St):Prop where
 lo:s.lo≤s.nx
 deep:s.h.deep DH
 le:s.nx≤LH
def Res.det{α:Type}:Res α→Option (α×St)
 |.ok a s=>some (a,s)
 |.br _ _=>none
 |
  .ite b l r=>match b with
  |true=>l.det
  |false=>r.det
 |.fail _=>none
 |.each _ _ _=>none
def Res.plain{α:Type}:Res α→Prop
 |.ite _ _ _=>False
 |_=>True
theorem M0o{α:Type}{r:Res α}(hp:r.plain){a:α}{s:St}(h:r.det=some (a,s)):r=.ok a s:=by
 cases r with
 |ok b t=>cases h;rfl
 |br l r=>cases h
 |ite b l r=>exact hp.elim
 |fail w=>cases h
 |each _ _ _=>cases h
theorem J0k{α β:Type}{f:α→St→Res β}{a:α}{s:St}:∀{r:Res α},r.det=some (a,s)→(r.bind f).det=(f a s).det
 |.ok b t,h=>by cases h;rfl
 |.br _ _,h=>by cases h
 |.ite true l _,h=>J0k (r:=l) h
 |.ite false _ r,h=>J0k (r:=r) h
 |.fail _,h=>by cases h
 |.each _ _ _,h=>by cases h
theorem B0P{α β:Type}{f:α→St→Res β}{q:β×St}:∀{r:Res α},(r.bind f).det=some q→∃a s,r.det=some (a,s)∧(f a s).det=some q
 |.ok b t,h=>⟨b,t,rfl,h⟩
 |.br _ _,h=>by cases h
 |.ite true l _,h=>B0P (r:=l) h
 |.ite false _ r,h=>B0P (r:=r) h
 |.fail _,h=>by cases h
 |.each _ _ _,h=>by cases h
theorem D0y{α:Type}{a:α}{s:St}:∀{r:Res α},r.det=some (a,s)→r.Good∧r.Has a s
 |.ok b t,h=>by cases h;exact⟨trivial,rfl,rfl⟩
 |.br _ _,h=>by cases h
 |.ite true l _,h=>D0y (r:=l) h
 |.ite false _ r,h=>D0y (r:=r) h
 |.fail _,h=>by cases h
 |.each _ _ _,h=>by cases h
theorem C0t{α:Type}{a b:α}{s t:St}:∀{r:Res α},r.det=some (a,s)→r.Has b t→b=a∧t=s
 |.ok _ _,h,k=>by cases h;exact⟨k.1.symm,k.2.symm⟩
 |.br _ _,h,_=>by cases h
 |.ite true l _,h,k=>C0t (r:=l) h k
 |.ite false _ r,h,k=>C0t (r:=r) h k
 |.fail _,h,_=>by cases h
 |.each _ _ _,h,_=>by cases h
def Fr0{α:Type}(m:M α):Prop:=∀s a s',m s=.ok a s'→Ok s→∃dr dw,Ok s'∧Logs s dr dw s'∧d0T s dw s'∧
 ∀s2,Sim (dr++dw) s s2→∃s2',m s2=.ok a s2'∧f0l s dr dw s' s2 s2'
def Fr{α:Type}(m:M α):Prop:=∀s a s',(m s).det=some (a,s')→Ok s→∃dr dw,Ok s'∧Logs s dr dw s'∧d0T s dw s'∧
 ∀s2,Sim (dr++dw) s s2→∃s2',(m s2).det=some (a,s2')∧f0l s dr dw s' s2 s2'
theorem Fr0.fr{α:Type}{m:M α}(h:Fr0 m)(hp:∀s,(m s).plain):Fr m:=by
 intro s a s' e ok
 obtain⟨dr,dw,h1,h2,h3,h4⟩:=h s a s' (M0o (hp s) e) ok
 refine⟨dr,dw,h1,h2,h3,fun s2 hs=>?_⟩
 obtain⟨s2',e2,h5⟩:=h4 s2 hs
 exact⟨s2',by rw[e2];rfl,h5⟩
theorem Fr.ite{α:Type}{b:Bool}{m n:M α}(h:Fr m)(k:Fr n):Fr (M.ite b m n):=by
 cases b with
 |true=>exact h
 |false=>exact k
theorem Fr.pure{α:Type}(a:α):Fr (M.pure a):=by
 intro s b s' h ok
 have h:some (a,s)=some (b,s'):=h
 cases h
 refine⟨[],[],ok,⟨rfl,rfl,by simp⟩,⟨rfl,Nat.le_refl _,ok.deep,fun _ _ _=>rfl,fun _ p _ _=>.refl p _⟩,fun s2 hs=>⟨s2,rfl,hs.nx,⟨rfl,rfl,by simp⟩,⟨rfl,Nat.le_refl _,hs.deep,fun _ _ _=>rfl,fun _ p _ _=>.refl p _⟩,hs.own,?_⟩⟩
 rintro n p _⟨r,hr,_⟩
 cases hr
theorem Fr.fail{α:Type}:Fr (M.fail:M α):=by
 intro s a s' h
 have h:(none:Option (α×St))=some (a,s'):=h
 cases h
theorem Fr.req{α:Type}{b:Bool}{m:M α}(h:Fr m):Fr (M.req b m):=by
 unfold M.req
 cases b with
 |true=>exact h
 |false=>exact Fr.fail
theorem Fr.opt{α:Type}(o:Option α):Fr (M.opt o):=by
 cases o with
 |none=>exact Fr.fail
 |some a=>exact Fr.pure a
theorem Fr.sel{α:Type}{b:Bool}{m n:M α}(h:Fr m)(k:Fr n):Fr (sel b m n):=by
 cases b with
 |true=>exact h
 |false=>exact k
theorem Fr.bind{α β:Type}{m:M α}{f:α→M β}(hm:Fr m)(hf:∀a,Fr (f a)):Fr (M.bind m f):=by
 intro s b s' h ok
 obtain⟨a,s1,h1,h2⟩:=B0P h
 obtain⟨dr1,dw1,ok1,L1,T1,S1⟩:=hm s a s1 h1 ok
 obtain⟨dr2,dw2,ok2,L2,T2,S2⟩:=hf a s1 b s' h2 ok1
 have cov:∀n p,Cov ((dr2++dr1)++(dw2++dw1)) n p↔Cov dr2 n p∨Cov dr1 n p∨Cov dw2 n p∨Cov dw1 n p:=by
  intro n p
  simp only[Cov.append]
  constructor
  ·rintro((h|h)|(h|h))
   ·exact .inl h
   ·exact .inr (.inl h)
   ·exact .inr (.inr (.inl h))
   ·exact .inr (.inr (.inr h))
  ·rintro(h|h|h|h)
   ·exact .inl (.inl h)
   ·exact .inl (.inr h)
   ·exact .inr (.inl h)
   ·exact .inr (.inr h)
 refine⟨dr2++dr1,dw2++dw1,ok2,⟨by rw[L2.rd,L1.rd,List.append_assoc],by rw[L2.wr,L1.wr,List.append_assoc],?_⟩,⟨T2.lo.trans T1.lo,Nat.le_trans T1.nx T2.nx,T2.deep,?_,?_⟩,?_⟩
 ·intro r hr
  simp only[List.mem_append] at hr
  rcases hr with(h|h)|(h|h)
  ·rw[←T1.lo];exact L2.lo r (by simp[h])
  ·exact L1.lo r (by simp[h])
  ·rw[←T1.lo];exact L2.lo r (by simp[h])
  ·exact L1.lo r (by simp[h])
 ·intro n h3 h4
  rw[T2.far n h3 h4,T1.far n (Nat.le_trans T2.nx h3) h4]
 ·intro n p h3 h4
  rw[Cov.append] at h4
  exact(T1.keep n p h3 fun q=>h4 (.inr q)).trans (T2.keep n p (by rw[T1.lo];exact h3) fun q=>h4 (.inl q))
 ·intro s2 hs
  obtain⟨s21,e1,A1⟩:=S1 s2 ⟨hs.nx,hs.lo,hs.deep,hs.own,fun n p h3 h4=>hs.at' n p h3 (by rw[cov];rw[Cov.append] at h4;rcases h4 with q|q<;>simp[q])⟩
  have hs21:Sim (dr2++dw2) s1 s21:=by
   refine⟨A1.nx,?_,A1.touch.deep,fun n h3 h4=>A1.own n (by rw[←T1.lo];exact h3) h4,fun n p h3 h4=>?_⟩
   ·rw[A1.touch.lo,hs.lo,T1.lo]
   ·rw[T1.lo] at h3
    by_cases c:Cov dw1 n p
    ·exact A1.wrote n p h3 c
    ·have k1:=T1.keep n p h3 c
     have k2:=A1.touch.keep n p (by rw[hs.lo];exact h3) c
     have k3:=hs.at' n p h3 (by rw[cov];rw[Cov.append] at h4;rcases h4 with q|q<;>simp[q])
     exact(k1.symm.trans k3).trans k2
  obtain⟨s22,e2,A2⟩:=S2 s21 hs21
  refine⟨s22,?_,A2.nx,⟨by rw[A2.logs.rd,A1.logs.rd,List.append_assoc],by rw[A2.logs.wr,A1.logs.wr,List.append_assoc],?_⟩,⟨A2.touch.lo.trans A1.touch.lo,Nat.le_trans A1.touch.nx A2.touch.nx,A2.touch.deep,?_,?_⟩,?_,?_⟩
  ·exact(J0k (f:=fun a t=>f a t) e1).trans e2
  ·intro r hr
   simp only[List.mem_append] at hr
   rcases hr with(h|h)|(h|h)
   ·rw[←A1.touch.lo];exact A2.logs.lo r (by simp[h])
   ·exact A1.logs.lo r (by simp[h])
   ·rw[←A1.touch.lo];exact A2.logs.lo r (by simp[h])
   ·exact A1.logs.lo r (by simp[h])
  ·intro n h3 h4
   rw[A2.touch.far n h3 h4,A1.touch.far n (Nat.le_trans A2.touch.nx h3) h4]
  ·intro n p h3 h4
   rw[Cov.append] at h4
   exact(A1.touch.keep n p h3 fun q=>h4 (.inr q)).trans (A2.touch.keep n p (by rw[A1.touch.lo];exact h3) fun q=>h4 (.inl q))
  ·intro n h3 h4
   exact A2.own n (by rw[T1.lo];exact h3) h4
  ·intro n p h3 h4
   by_cases c:Cov dw2 n p
   ·exact A2.wrote n p (by rw[T1.lo];exact h3) c
   ·rw[Cov.append] at h4
    have c1:=h4.resolve_left c
    have k1:=T2.keep n p (by rw[T1.lo];exact h3) c
    have k2:=A2.touch.keep n p (by rw[A1.touch.lo,hs.lo];exact h3) c
    exact(k1.symm.trans (A1.wrote n p h3 c1)).trans k2
def told(lo n:Nat)(L:List Rg):List Rg:=if lo≤n then[] else L
theorem C0b(s:St)(n i k:Nat):s.logR n i k=⟨s.h,s.nx,s.lo,told s.lo n [⟨n,i,k⟩]++s.rd,s.wr⟩:=by
 obtain⟨h,nx,lo,rd,wr⟩:=s
 show T0p n i k h nx lo rd wr=_
 unfold T0p told
 cases hb:Nat.ble lo n with
 |true=>rw[A0e,if_pos (Nat.le_of_ble_eq_true hb)];rfl
 |
  false=>
  rw[A0f,if_neg]
  ·rfl
  ·intro q;rw[Nat.ble_eq_true_of_le q] at hb;cases hb
theorem I0H(s:St)(n i k:Nat)(o:AObj):s.put n o i k=⟨s.h.set n o,s.nx,s.lo,s.rd,told s.lo n [⟨n,i,k⟩]++s.wr⟩:=by
 obtain⟨h,nx,lo,rd,wr⟩:=s
 show T0a n i k (h.set n o) nx lo rd wr=_
 unfold T0a told
 cases hb:Nat.ble lo n with
 |true=>rw[A0e,if_pos (Nat.le_of_ble_eq_true hb)];rfl
 |
  false=>
  rw[A0f,if_neg]
  ·rfl
  ·intro q;rw[Nat.ble_eq_true_of_le q] at hb;cases hb
def InL(L:List Rg)(p:Nat):Prop:=∃r∈L,r.i≤p∧p<r.i+r.k
theorem H0s{lo n m p:Nat}{L:List Rg}(hL:∀r∈L,r.n=n):Cov (told lo n L) m p↔n<lo∧m=n∧InL L p:=by
 unfold told Cov InL Rg.covers
 by_cases c:lo≤n
 ·rw[if_pos c]
  constructor
  ·rintro⟨r,h,_⟩;cases h
  ·rintro⟨h,_⟩;omega
 ·rw[if_neg c]
  constructor
  ·rintro⟨r,h,h1,h2⟩
   exact⟨by omega,by rw[←h1,hL r h],r,h,h2⟩
  ·rintro⟨_,rfl,r,h,h2⟩
   exact⟨r,h,hL r h,h2⟩
theorem K0b{lo n:Nat}{L:List Rg}(hL:∀r∈L,r.n=n):∀r∈told lo n L,r.n<lo:=by
 unfold told
 by_cases c:lo≤n
 ·rw[if_pos c];intro r h;cases h
 ·rw[if_neg c];intro r h;rw[hL r h];omega
theorem O0K{α:Type}{m:M α}{n:Nat}{L:List Rg}(hL:∀r∈L,r.n=n)
  (H:∀s a s',m s=.ok a s'→n<s.nx∧s'=⟨s.h,s.nx,s.lo,told s.lo n L++s.rd,s.wr⟩∧∀s2:St,n<s2.nx→(∀p,InL L p→Agree p (s.h.get n) (s2.h.get n))→m s2=.ok a ⟨s2.h,s2.nx,s2.lo,told s2.lo n L++s2.rd,s2.wr⟩):Fr0 m:=by
 intro s a s' h ok
 obtain⟨h1,rfl,h2⟩:=H s a s' h
 refine⟨told s.lo n L,[],⟨ok.lo,ok.deep,ok.le⟩,⟨rfl,rfl,by simpa using K0b hL⟩,⟨rfl,Nat.le_refl _,ok.deep,fun _ _ _=>rfl,fun _ p _ _=>.refl p _⟩,fun s2 hs=>?_⟩
 have e2:=h2 s2 (by rw[hs.nx];exact h1) (fun p hp=>by
  by_cases c:s.lo≤n
  ·rw[hs.own n c h1];exact .refl p _
  ·exact hs.at' n p (by omega) (by rw[List.append_nil,H0s hL];exact⟨by omega,rfl,hp⟩))
 rw[hs.lo] at e2
 refine⟨_,e2,hs.nx,⟨rfl,rfl,by simpa [hs.lo] using K0b hL⟩,⟨hs.lo.symm,Nat.le_refl _,hs.deep,fun _ _ _=>rfl,fun _ p _ _=>.refl p _⟩,hs.own,?_⟩
 rintro n p _⟨r,hr,_⟩
 cases hr
theorem P0t{m:M Unit}{n:Nat}{L W:List Rg}(hL:∀r∈L,r.n=n)(hW:∀r∈W,r.n=n)
  (H:∀s a s',m s=.ok a s'→∃o o',n<s.nx∧s.h.get n=some o∧s'=⟨s.h.set n o',s.nx,s.lo,told s.lo n L++s.rd,told s.lo n W++s.wr⟩∧(∀p,¬InL W p→Agree p (some o) (some o'))∧
   ∀
    (s2:St),n<s2.nx→(∀p,InL (L++W) p→Agree p (some o) (s2.h.get n))→∃o2 o2',s2.h.get n=some o2∧m s2=.ok a ⟨s2.h.set n o2',s2.nx,s2.lo,told s2.lo n L++s2.rd,told s2.lo n W++s2.wr⟩∧
    (∀p,InL W p→Agree p (some o') (some o2'))∧(∀p,¬InL W p→Agree p (some o2) (some o2'))):Fr0 m:=by
 intro s a s' h ok
 obtain⟨o,o',h1,hg,rfl,h3,h2⟩:=H s a s' h
 have hn:n<LH:=Nat.lt_of_lt_of_le h1 ok.le
 have gs:=fun k (hk:k<LH)=>A0y o' DH s.h n k ok.deep hn hk
 refine⟨told s.lo n L,told s.lo n W,⟨ok.lo,A0j _ DH s.h n ok.deep,ok.le⟩,⟨rfl,rfl,?_⟩,⟨rfl,Nat.le_refl _,A0j _ DH s.h n ok.deep,fun k h4 h5=>?_,fun k p h4 h5=>?_⟩,fun s2 hs=>?_⟩
 ·intro r hr
  rcases List.mem_append.1 hr with q|q
  ·exact K0b hL r q
  ·exact K0b hW r q
 ·show(s.h.set n o').get k=_
  rw[gs k h5,if_neg (by simp only[] at h4;omega)]
 ·show Agree p (s.h.get k) ((s.h.set n o').get k)
  rw[gs k (by have :=ok.le;have :=ok.lo;omega)]
  by_cases c:k=n
  ·subst c
   rw[if_pos rfl,hg]
   refine h3 p fun q=>h5 ?_
   rw[H0s hW]
   exact⟨h4,rfl,q⟩
  ·rw[if_neg c];exact .refl p _
 ·have hag:∀p,InL (L++W) p→Agree p (some o) (s2.h.get n):=fun p hp=>by
   by_cases c:s.lo≤n
   ·rw[hs.own n c h1,hg];exact .refl p _
   ·rw[←hg]
    refine hs.at' n p (by omega) ?_
    rw[Cov.append,H0s hL,H0s hW]
    obtain⟨r,hr,hp⟩:=hp
    rcases List.mem_append.1 hr with q|q
    ·exact .inl ⟨by omega,rfl,r,q,hp⟩
    ·exact .inr ⟨by omega,rfl,r,q,hp⟩
  have hn2:n<s2.nx:=by rw[hs.nx];exact h1
  obtain⟨o2,o2',ho2,e2,k1,k2⟩:=h2 s2 hn2 hag
  have gs2:=fun k (hk:k<LH)=>A0y o2' DH s2.h n k hs.deep hn hk
  rw[hs.lo] at e2
  refine⟨_,e2,hs.nx,⟨rfl,rfl,?_⟩,⟨hs.lo.symm,Nat.le_refl _,A0j _ DH s2.h n hs.deep,fun k h4 h5=>?_,fun k p h4 h5=>?_⟩,fun k h4 h5=>?_,fun k p h4 h5=>?_⟩
  ·intro r hr
   rw[hs.lo]
   rcases List.mem_append.1 hr with q|q
   ·exact K0b hL r q
   ·exact K0b hW r q
  ·show(s2.h.set n o2').get k=_
   rw[gs2 k h5,if_neg (by simp only[] at h4;omega)]
  ·show Agree p (s2.h.get k) ((s2.h.set n o2').get k)
   rw[hs.lo] at h4
   rw[gs2 k (by have :=ok.le;have :=ok.lo;omega)]
   by_cases c:k=n
   ·subst c
    rw[if_pos rfl,ho2]
    refine k2 p fun q=>h5 ?_
    rw[H0s hW]
    exact⟨h4,rfl,q⟩
   ·rw[if_neg c];exact .refl p _
  ·show(s2.h.set n o2').get k=(s.h.set n o').get k
   have h5:k<s.nx:=h5
   have hk:k<LH:=Nat.lt_of_lt_of_le h5 ok.le
   rw[gs k hk,gs2 k hk]
   by_cases c:k=n
   ·rw[if_pos c,if_pos c]
    subst c
    have :o2=o:=by
     have :=hs.own k h4 h5
     rw[ho2,hg] at this;exact Option.some.inj this
    subst this
    refine Agree.all fun p=>?_
    by_cases cp:InL W p
    ·exact(k1 p cp).symm
    ·exact(k2 p cp).symm.trans (h3 p cp)
   ·rw[if_neg c,if_neg c];exact hs.own k h4 h5
  ·show Agree p ((s.h.set n o').get k) ((s2.h.set n o2').get k)
   rw[H0s hW] at h5
   obtain⟨_,rfl,hp⟩:=h5
   rw[gs k hn,gs2 k hn,if_pos rfl,if_pos rfl]
   exact k1 p hp
theorem E0S{α:Type}{n:Nat}{k:AObj→St→Res α}{s s':St}{a:α}(h:look n k s=.ok a s'):∃o,n<s.nx∧s.h.get n=some o∧k o s=.ok a s':=by
 have hb:=B0a (s:=s) (n:=n) (k:=k) (by rw[h];trivial)
 rw[A0X hb] at h
 cases ho:s.h.get n with
 |none=>rw[ho] at h;cases h
 |some o=>rw[ho] at h;exact⟨o,by simpa [Nat.blt_eq] using hb,rfl,h⟩
theorem C0K{α:Type}{n:Nat}{k:AObj→St→Res α}{s:St}{o:AObj}(hn:n<s.nx)(ho:s.h.get n=some o):look n k s=k o s:=by
 rw[A0X (by simpa [Nat.blt_eq] using hn),ho]
theorem inL1{n i k p:Nat}:InL [⟨n,i,k⟩] p↔i≤p∧p<i+k:=by
 unfold InL
 constructor
 ·rintro⟨r,h,h1⟩;simp at h;subst h;exact h1
 ·intro h;exact⟨⟨n,i,k⟩,by simp,h⟩
theorem inL2{n i k j l p:Nat}:InL [⟨n,i,k⟩,⟨n,j,l⟩] p↔(i≤p∧p<i+k)∨(j≤p∧p<j+l):=by
 unfold InL
 constructor
 ·rintro⟨r,h,h1⟩
  simp at h
  rcases h with h|h
  ·subst h;exact .inl h1
  ·subst h;exact .inr h1
 ·rintro(h|h)
  ·exact⟨⟨n,i,k⟩,by simp,h⟩
  ·exact⟨⟨n,j,l⟩,by simp,h⟩
theorem E0v{cs:List AVal}{e:TypeId}{frz dead:Bool}{root rel:Nat}{al:List (Nat×Nat×Nat)}{x:Option AObj}(h:Agree 0 (some (.cells cs e frz dead root rel al)) x):
  ∃cs' al',x=some (.cells cs' e frz dead root rel al')∧cs'.length=cs.length:=by
 have h:E0z _=E0z x:=h
 cases x with
 |none=>simp[E0z] at h
 |
  some o=>
  cases o<;>simp only[E0z,Option.some.injEq,Prod.mk.injEq,reduceCtorEq,and_false,false_and] at h
  obtain⟨⟨h1,rfl,rfl,rfl,rfl,rfl⟩,_⟩:=h
  exact⟨_,_,rfl,h1.symm⟩
theorem K0k{o:AObj}{x:Option AObj}(hp:o.plain)(h:Agree 0 (some o) x):x=some o:=by
 have h:E0z _=E0z x:=h
 cases x with
 |none=>cases o<;>simp[E0z] at h
 |some o'=>cases o<;>first|exact hp.elim|(cases o'<;>first|(simp[E0z] at h;obtain⟨rfl,h⟩:=h;cases h;rfl)|(simp[E0z] at h;obtain⟨rfl,rfl,h3,rfl,h5⟩:=h;cases h3;cases h5;rfl)|simp_all [E0z])
theorem L0X{cs:List AVal}{e:TypeId}{frz dead:Bool}{root rel:Nat}{al:List (Nat×Nat×Nat)}{x:Option AObj}(h:Agree 1 (some (.cells cs e frz dead root rel al)) x):
  ∃cs' e' frz' dead' root' rel',x=some (.cells cs' e' frz' dead' root' rel' al):=by
 have h:F0M _=F0M x:=h
 cases x with
 |none=>simp[F0M] at h
 |some o=>cases o<;>simp[F0M] at h;subst h;exact⟨_,_,_,_,_,_,rfl⟩
theorem V0I{l m:List AVal}{off k:Nat}(hl:off+k≤l.length)(hm:m.length=l.length)(h:∀i,off≤i→i<off+k→l[i]?=m[i]?):(l.drop off).take k=(m.drop off).take k:=by
 apply List.ext_getElem?
 intro i
 rw[List.getElem?_take,List.getElem?_take]
 by_cases c:i<k
 ·rw[if_pos c,if_pos c,List.getElem?_drop,List.getElem?_drop]
  exact h _ (by omega) (by omega)
 ·rw[if_neg c,if_neg c]
section
variable{n off k:Nat}
theorem fr_rdHead:Fr0 (rdHead n):=by
 refine O0K (n:=n) (L:=[⟨n,0,1⟩]) (by simp) fun s a s' h=>?_
 obtain⟨o,h1,h2,h3⟩:=E0S h
 cases o<;>simp only[reduceCtorEq] at h3
 rw[A0F,C0b] at h3
 cases h3
 refine⟨h1,rfl,fun s2 hn hag=>?_⟩
 have h0:=hag 0 (by rw[inL1];omega)
 rw[h2] at h0
 obtain⟨cs',al',hx,hl⟩:=E0v h0
 unfold rdHead
 rw[C0K hn hx]
 simp only[A0F,C0b,A0O,hl]
theorem fr_rdAlive:Fr0 (rdAlive n):=by
 refine O0K (n:=n) (L:=[⟨n,1,1⟩]) (by simp) fun s a s' h=>?_
 obtain⟨o,h1,h2,h3⟩:=E0S h
 cases o<;>simp only[reduceCtorEq] at h3
 rw[A0F,C0b] at h3
 cases h3
 refine⟨h1,rfl,fun s2 hn hag=>?_⟩
 have h0:=hag 1 (by rw[inL1];omega)
 rw[h2] at h0
 obtain⟨_,_,_,_,_,_,hx⟩:=L0X h0
 unfold rdAlive
 rw[C0K hn hx]
 simp only[A0F,C0b]
theorem a0r{lo n:Nat}{a b:Rg}{rd:List Rg}:told lo n [b]++(told lo n [a]++rd)=told lo n [b,a]++rd:=by
 unfold told
 by_cases c:lo≤n
 ·simp[c]
 ·simp[c]
theorem fr_rdCells:Fr0 (rdCells n off k):=by
 refine O0K (n:=n) (L:=[⟨n,off+2,k⟩,⟨n,0,1⟩]) (by simp) fun s a s' h=>?_
 obtain⟨o,h1,h2,h3⟩:=E0S h
 cases o<;>simp only[reduceCtorEq] at h3
 rename_i cs e frz dead root rel al
 cases dead with
 |true=>cases h3
 |
  false=>
  rw[A0f] at h3
  cases hb:Nat.ble (off+k) (len cs) with
  |false=>rw[hb] at h3;cases h3
  |
   true=>
   rw[hb,A0e,A0F,C0b,C0b] at h3
   cases h3
   refine⟨h1,by simp only[a0r],fun s2 hn hag=>?_⟩
   have h0:=hag 0 (by rw[inL2];omega)
   have hc:∀i,off≤i→i<off+k→H0l (s.h.get n) i=H0l (s2.h.get n) i:=fun i p q=>hag (i+2) (by rw[inL2];omega)
   rw[h2] at h0 hc
   obtain⟨cs',al',hx,hl⟩:=E0v h0
   rw[hx] at hc
   have hle:off+k≤cs.length:=by have :=Nat.le_of_ble_eq_true hb;rwa[A0O] at this
   have hb':Nat.ble (off+k) (len cs')=true:=by rw[A0O,hl,←A0O];exact hb
   unfold rdCells
   rw[C0K hn hx]
   simp only[A0f,hb',A0e,A0F,C0b,a0r]
   rw[F0g,G0s,F0g,G0s,V0I hle hl hc]
theorem fr_rdCell:Fr0 (rdCell n off):=by
 refine O0K (n:=n) (L:=[⟨n,off+2,1⟩,⟨n,0,1⟩]) (by simp) fun s a s' h=>?_
 obtain⟨o,h1,h2,h3⟩:=E0S h
 cases o<;>simp only[reduceCtorEq] at h3
 rename_i cs e frz dead root rel al
 cases dead with
 |true=>cases h3
 |
  false=>
  rw[A0f,E0Z] at h3
  cases hv:cs[off]? with
  |none=>rw[hv] at h3;cases h3
  |
   some v=>
   rw[hv] at h3
   simp only[] at h3
   rw[A0F,C0b,C0b] at h3
   cases h3
   refine⟨h1,by simp only[a0r],fun s2 hn hag=>?_⟩
   have h0:=hag 0 (by rw[inL2];omega)
   have hc:H0l (s.h.get n) off=H0l (s2.h.get n) off:=hag (off+2) (by rw[inL2];omega)
   rw[h2] at h0 hc
   obtain⟨cs',al',hx,hl⟩:=E0v h0
   rw[hx] at hc
   have hc':cs'[off]?=some a:=by rw[←hv];exact hc.symm
   unfold rdCell
   rw[C0K hn hx]
   simp only[A0f,E0Z,hc',A0F,C0b,a0r]
noncomputable def C0A{α:Type}(f:AObj→Option α)(n:Nat):M α:=look n fun o s=>match f o with |some a=>okS a (s.logR n 0 1)|none=>.fail []
theorem C0k{α:Type}(f:AObj→Option α)(hf:∀o a,f o=some a→o.plain):Fr0 (C0A f n):=by
 refine O0K (n:=n) (L:=[⟨n,0,1⟩]) (by simp) fun s a s' h=>?_
 obtain⟨o,h1,h2,h3⟩:=E0S h
 cases hfo:f o with
 |none=>rw[hfo] at h3;cases h3
 |
  some b=>
  rw[hfo] at h3
  simp only[] at h3
  rw[A0F,C0b] at h3
  cases h3
  refine⟨h1,rfl,fun s2 hn hag=>?_⟩
  have h0:=hag 0 (by rw[inL1];omega)
  rw[h2] at h0
  have hx:=K0k (hf o a hfo) h0
  unfold C0A
  rw[C0K hn hx]
  simp only[hfo,A0F,C0b]
def f0J(o:AObj):Option Ents:=match o with |.map kt es c=>some ⟨kt,es,c⟩|_=>none
def c0j(o:AObj):Option (Option Nat×Nat×List AVal):=match o with |.miter m since seen=>some (m,since,seen)|_=>none
def Z0v(o:AObj):Option (Bool×List UInt8×Nat):=match o with |.siter y l pos=>some (y,l,pos)|_=>none
theorem fr_rdMap:Fr0 (rdMap n):=by
 have :rdMap n=C0A f0J n:=by
  unfold rdMap C0A;congr 1;funext o s;cases o<;>rfl
 rw[this]
 exact C0k f0J (by intro o a h;cases o<;>first|trivial|cases h)
theorem fr_rdIter:Fr0 (rdIter n):=by
 have :rdIter n=C0A c0j n:=by
  unfold rdIter C0A;congr 1;funext o s;cases o<;>rfl
 rw[this]
 exact C0k c0j (by intro o a h;cases o<;>first|trivial|cases h)
theorem fr_rdSiter:Fr0 (rdSiter n):=by
 have :rdSiter n=C0A Z0v n:=by
  unfold rdSiter C0A;congr 1;funext o s;cases o<;>rfl
 rw[this]
 exact C0k Z0v (by intro o a h;cases o<;>first|trivial|cases h)
def e0T(o:AObj):Option Arr:=match o with |.arr c l=>some ⟨c,l⟩|_=>none
theorem fr_rdArr:Fr0 (rdArr n):=by
 have :rdArr n=C0A e0T n:=by
  unfold rdArr C0A;congr 1;funext o s;cases o<;>rfl
 rw[this]
 exact C0k e0T (by intro o a h;cases o<;>first|trivial|cases h)
def e0S(o:AObj):Option DObj:=match o with |.dat d=>some d|_=>none
def b0P(o:AObj):Option (Option DObj):=match o with |.dat d=>some (some d)|.map _ _ _=>some none|.miter _ _ _=>some none|_=>none
theorem fr_rdDat:Fr0 (rdDat n):=by
 have :rdDat n=C0A e0S n:=by
  unfold rdDat C0A;congr 1;funext o s;cases o<;>rfl
 rw[this]
 exact C0k e0S (by intro o a h;cases o<;>first|trivial|cases h)
theorem fr_rdDat?:Fr0 (rdDat? n):=by
 have :rdDat? n=C0A b0P n:=by
  unfold rdDat? C0A;congr 1;funext o s;cases o<;>rfl
 rw[this]
 exact C0k b0P (by intro o a h;cases o<;>first|trivial|cases h)
def d0B(o:AObj):Option MpS:=match o with |.mps k c m q l=>some ⟨k,c,m,q,l⟩|_=>none
theorem fr_rdMps?:Fr0 (rdMps? n):=by
 have he:rdMps? n=look n fun o s=>okS (d0B o) (s.logR n 0 1):=by
  unfold rdMps?;congr 1;funext o s;cases o<;>rfl
 rw[he]
 refine O0K (n:=n) (L:=[⟨n,0,1⟩]) (by simp) fun s a s' h=>?_
 obtain⟨o,h1,h2,h3⟩:=E0S h
 rw[A0F,C0b] at h3
 cases h3
 refine⟨h1,rfl,fun s2 hn hag=>?_⟩
 have h0:=hag 0 (by rw[inL1];omega)
 rw[h2] at h0
 have hx:∃o',s2.h.get n=some o'∧d0B o'=d0B o:=by
  by_cases hp:o.plain
  ·exact⟨o,K0k hp h0,rfl⟩
  ·cases o with
   |
    cells cs e f d r l al=>
    obtain⟨cs',al',h,_⟩:=E0v h0
    exact⟨_,h,rfl⟩
   |_=>exact absurd trivial hp
 obtain⟨o',ho',hm⟩:=hx
 rw[C0K hn ho']
 simp only[hm,A0F,C0b]
def c0c(o:AObj):Option LSt:=match o with |.rcd (.loop st pend)=>some ⟨st,pend⟩|_=>none
theorem fr_rdLoop:Fr0 (rdLoop n):=by
 have :rdLoop n=C0A c0c n:=by
  unfold rdLoop C0A;congr 1;funext o s;cases o with |rcd k=>cases k<;>rfl|_=>rfl
 rw[this]
 exact C0k c0c (by intro o a h;cases o<;>first|trivial|cases h)
end
section
variable{n off k:Nat}
theorem H0v{L W:List Rg}{p:Nat}:InL (L++W) p↔InL L p∨InL W p:=by
 unfold InL
 constructor
 ·rintro⟨r,h,h1⟩
  rcases List.mem_append.1 h with q|q
  ·exact .inl ⟨r,q,h1⟩
  ·exact .inr ⟨r,q,h1⟩
 ·rintro(⟨r,h,h1⟩|⟨r,h,h1⟩)
  ·exact⟨r,List.mem_append.2 (.inl h),h1⟩
  ·exact⟨r,List.mem_append.2 (.inr h),h1⟩
theorem W0O{lo n:Nat}:told lo n []=[]:=by unfold told;split<;>rfl
theorem fr_wrCells{vs:List AVal}:Fr0 (wrCells n off vs):=by
 refine P0t (n:=n) (L:=[⟨n,0,1⟩]) (W:=[⟨n,off+2,vs.length⟩]) (by simp) (by simp) fun s a s' h=>?_
 obtain⟨o,h1,h2,h3⟩:=E0S h
 cases o<;>simp only[reduceCtorEq] at h3
 rename_i cs e frz dead root rel al
 cases frz with
 |true=>cases h3
 |false=>
 cases dead with
 |true=>cases h3
 |
  false=>
  simp only[A0f] at h3
  cases hc:E0V vs with
  |false=>rw[hc] at h3;cases h3
  |
   true=>
   rw[hc,A0e] at h3
   cases hb:Nat.ble (off+len vs) (len cs) with
   |false=>rw[hb] at h3;cases h3
   |
    true=>
    rw[hb,A0e,A0F,C0b,I0H,A0O] at h3
    cases h3
    have hle:off+vs.length≤cs.length:=by have :=Nat.le_of_ble_eq_true hb;rwa[A0O,A0O] at this
    have keep:∀cs':List AVal,off+vs.length≤cs'.length→∀p al,¬InL [⟨n,off+2,vs.length⟩] p→Agree p (some (.cells cs' e false false root rel al)) (some (.cells (over cs' off vs) e false false root rel al)):=by
     intro cs' hle' p al hp
     rw[inL1] at hp
     match p with
     |0=>show E0z _=E0z _;simp[E0z,M0k cs' off vs hle']
     |1=>show F0M _=F0M _;rfl
     |
      p+2=>
      show H0l _ p=H0l _ p
      simp only[H0l]
      rw[L0c cs' off vs hle' p,if_neg (by omega)]
    refine⟨.cells cs e false false root rel al,.cells (over cs off vs) e false false root rel al,h1,h2,rfl,fun p hp=>keep cs hle p al hp,fun s2 hn hag=>?_⟩
    have h0:=hag 0 (by rw[H0v,inL1];omega)
    obtain⟨cs',al',hx,hl⟩:=E0v h0
    have hle':off+vs.length≤cs'.length:=by omega
    refine⟨.cells cs' e false false root rel al',.cells (over cs' off vs) e false false root rel al',hx,?_,fun p hp=>?_,fun p hp=>keep cs' hle' p al' hp⟩
    ·unfold wrCells
     rw[C0K hn hx]
     have hb':Nat.ble (off+len vs) (len cs')=true:=by rw[A0O cs',hl,←A0O];exact hb
     simp only[A0f,hc,A0e]
     rw[hb',A0e]
     simp only[A0F,C0b,I0H,A0O]
    ·rw[inL1] at hp
     match p with
     |0=>omega
     |1=>omega
     |
      p+2=>
      show H0l _ p=H0l _ p
      simp only[H0l]
      rw[L0c cs off vs hle p,L0c cs' off vs hle' p,if_pos (by omega),if_pos (by omega)]
theorem Y0D{f:AObj→Option AObj}(hk:∀o o',f o=some o'→∃cs e frz dead root rel al frz' dead',o=.cells cs e frz dead root rel al∧o'=.cells cs e frz' dead' root rel al∧∀cs2 al2,f (.cells cs2 e frz dead root rel al2)=some (.cells cs2 e frz' dead' root rel al2)){m:M Unit}
  (hm:m=look n fun o s=>match f o with |some o'=>okS () (s.put n o' 0 1)|none=>.fail []):Fr0 m:=by
 subst hm
 refine P0t (n:=n) (L:=[]) (W:=[⟨n,0,1⟩]) (by simp) (by simp) fun s a s' h=>?_
 obtain⟨o,h1,h2,h3⟩:=E0S h
 cases hf:f o with
 |none=>rw[hf] at h3;cases h3
 |
  some o'=>
  rw[hf] at h3
  simp only[] at h3
  rw[A0F,I0H] at h3
  cases h3
  obtain⟨cs,e,frz,dead,root,rel,al,frz',dead',rfl,rfl,hall⟩:=hk o o' hf
  have keep:∀(cs:List AVal) al p,¬InL [⟨n,0,1⟩] p→Agree p (some (.cells cs e frz dead root rel al)) (some (.cells cs e frz' dead' root rel al)):=by
   intro cs al p hp
   rw[inL1] at hp
   match p with
   |0=>omega
   |1=>rfl
   |p+2=>rfl
  refine⟨_,_,h1,h2,by rw[W0O];rfl,fun p hp=>keep cs al p hp,fun s2 hn hag=>?_⟩
  have h0:=hag 0 (by rw[H0v,inL1];omega)
  obtain⟨cs',al',hx,hl⟩:=E0v h0
  refine⟨_,.cells cs' e frz' dead' root rel al',hx,?_,fun p hp=>?_,fun p hp=>keep cs' al' p hp⟩
  ·rw[C0K hn hx]
   simp only[hall,A0F,I0H,W0O,List.nil_append]
  ·rw[inL1] at hp
   match p with
   |0=>show E0z _=E0z _;simp[E0z,hl]
   |1=>omega
   |p+2=>omega
theorem fr_wrDead:Fr0 (wrDead n):=by
 refine Y0D (n:=n) (f:=fun o=>match o with |.cells cs e frz _ root rel al=>some (.cells cs e frz true root rel al)|_=>none) ?_ ?_
 ·intro o o' h
  cases o<;>simp only[reduceCtorEq,Option.some.injEq] at h
  subst h
  exact⟨_,_,_,_,_,_,_,_,_,rfl,rfl,fun _ _=>rfl⟩
 ·unfold wrDead;congr 1;funext o s;cases o<;>rfl
theorem fr_wrFrz:Fr0 (wrFrz n):=by
 refine Y0D (n:=n) (f:=fun o=>match o with |.cells cs e _ dead root rel al=>some (.cells cs e true dead root rel al)|_=>none) ?_ ?_
 ·intro o o' h
  cases o<;>simp only[reduceCtorEq,Option.some.injEq] at h
  subst h
  exact⟨_,_,_,_,_,_,_,_,_,rfl,rfl,fun _ _=>rfl⟩
 ·unfold wrFrz;congr 1;funext o s;cases o<;>rfl
theorem fr_wrAlive{l:List (Nat×Nat×Nat)}:Fr0 (wrAlive n l):=by
 refine P0t (n:=n) (L:=[]) (W:=[⟨n,1,1⟩]) (by simp) (by simp) fun s a s' h=>?_
 obtain⟨o,h1,h2,h3⟩:=E0S h
 cases o<;>simp only[reduceCtorEq] at h3
 rw[A0F,I0H] at h3
 cases h3
 rename_i cs e frz dead root rel al
 have keep:∀(cs:List AVal) e frz dead root rel al p,¬InL [⟨n,1,1⟩] p→Agree p (some (.cells cs e frz dead root rel al)) (some (.cells cs e frz dead root rel l)):=by
  intro cs e frz dead root rel al p hp
  rw[inL1] at hp
  match p with
  |0=>rfl
  |1=>omega
  |p+2=>rfl
 refine⟨_,_,h1,h2,by rw[W0O];rfl,fun p hp=>keep _ _ _ _ _ _ _ p hp,fun s2 hn hag=>?_⟩
 have h0:=hag 1 (by rw[H0v,inL1];omega)
 obtain⟨cs',e',frz',dead',root',rel',hx⟩:=L0X h0
 refine⟨_,.cells cs' e' frz' dead' root' rel' l,hx,?_,fun p hp=>?_,fun p hp=>keep _ _ _ _ _ _ _ p hp⟩
 ·unfold wrAlive
  rw[C0K hn hx]
  simp only[A0F,I0H,W0O,List.nil_append]
 ·rw[inL1] at hp
  match p with
  |0=>omega
  |1=>rfl
  |p+2=>omega
noncomputable def B0n(f:AObj→Option AObj)(n:Nat):M Unit:=look n fun o s=>match f o with |some o'=>okS () (s.put n o' 0 1)|none=>.fail []
theorem B0M{f:AObj→Option AObj}(hf:∀o o',f o=some o'→o.plain∧o'.plain):Fr0 (B0n f n):=by
 refine P0t (n:=n) (L:=[]) (W:=[⟨n,0,1⟩]) (by simp) (by simp) fun s a s' h=>?_
 obtain⟨o,h1,h2,h3⟩:=E0S h
 cases hfo:f o with
 |none=>rw[hfo] at h3;cases h3
 |
  some o'=>
  rw[hfo] at h3
  simp only[] at h3
  rw[A0F,I0H] at h3
  cases h3
  obtain⟨hp,hp'⟩:=hf o o' hfo
  have keep:∀p,¬InL [⟨n,0,1⟩] p→Agree p (some o) (some o'):=by
   intro p hq
   rw[inL1] at hq
   match p with
   |0=>omega
   |1=>show F0M _=F0M _;cases o<;>cases o'<;>first|rfl|exact hp.elim|exact hp'.elim
   |p+2=>show H0l _ p=H0l _ p;cases o<;>cases o'<;>first|rfl|exact hp.elim|exact hp'.elim
  refine⟨o,o',h1,h2,by rw[W0O];rfl,keep,fun s2 hn hag=>?_⟩
  have h0:=hag 0 (by rw[H0v,inL1];omega)
  have hx:=K0k hp h0
  refine⟨o,o',hx,?_,fun p _=>.refl p _,keep⟩
  unfold B0n
  rw[C0K hn hx]
  simp only[hfo,A0F,I0H,W0O,List.nil_append]
theorem fr_wrMap{kt:TypeId}{es:List (AVal×AVal)}{c:Nat}:Fr0 (wrMap n kt es c):=by
 have :wrMap n kt es c=B0n (fun o=>match o with |.map _ _ _=>some (.map kt es c)|_=>none) n:=by
  unfold wrMap B0n;congr 1;funext o s;cases o<;>rfl
 rw[this]
 exact B0M (by intro o o' h;cases o<;>simp only[reduceCtorEq,Option.some.injEq] at h;subst h;exact⟨trivial,trivial⟩)
theorem fr_wrIter{m:Option Nat}{since:Nat}{seen:List AVal}:Fr0 (wrIter n m since seen):=by
 have :wrIter n m since seen=B0n (fun o=>match o with |.miter _ _ _=>some (.miter m since seen)|_=>none) n:=by
  unfold wrIter B0n;congr 1;funext o s;cases o<;>rfl
 rw[this]
 exact B0M (by intro o o' h;cases o<;>simp only[reduceCtorEq,Option.some.injEq] at h;subst h;exact⟨trivial,trivial⟩)
theorem fr_wrDone:Fr0 (wrDone n):=by
 have :wrDone n=B0n (fun o=>match o with |.miter _ _ _=>some .done|_=>none) n:=by
  unfold wrDone B0n;congr 1;funext o s;cases o<;>rfl
 rw[this]
 exact B0M (by intro o o' h;cases o<;>simp only[reduceCtorEq,Option.some.injEq] at h;subst h;exact⟨trivial,trivial⟩)
theorem fr_wrSiter{l:List UInt8}{pos:Nat}:Fr0 (wrSiter n l pos):=by
 have :wrSiter n l pos=B0n (fun o=>match o with |.siter y _ _=>some (.siter y l pos)|_=>none) n:=by
  unfold wrSiter B0n;congr 1;funext o s;cases o<;>rfl
 rw[this]
 exact B0M (by intro o o' h;cases o<;>simp only[reduceCtorEq,Option.some.injEq] at h;subst h;exact⟨trivial,trivial⟩)
theorem fr_wrArr{a:Arr}:Fr0 (wrArr n a):=by
 have :wrArr n a=B0n (fun o=>match o with |.arr _ _=>some (.arr a.c a.l)|_=>none) n:=by
  unfold wrArr B0n;congr 1;funext o s;cases o<;>rfl
 rw[this]
 exact B0M (by intro o o' h;cases o<;>simp only[reduceCtorEq,Option.some.injEq] at h;subst h;exact⟨trivial,trivial⟩)
theorem fr_wrGone:Fr0 (wrGone n):=by
 have :wrGone n=B0n (fun o=>match o with |.arr _ _=>some .done|_=>none) n:=by
  unfold wrGone B0n;congr 1;funext o s;cases o<;>rfl
 rw[this]
 exact B0M (by intro o o' h;cases o<;>simp only[reduceCtorEq,Option.some.injEq] at h;subst h;exact⟨trivial,trivial⟩)
theorem fr_wrMps{p:MpS}:Fr0 (wrMps n p):=by
 have :wrMps n p=B0n (fun o=>match o with |.mps _ _ _ _ _=>some (.mps p.k p.c p.m p.n p.lent)|_=>none) n:=by
  unfold wrMps B0n;congr 1;funext o s;cases o<;>rfl
 rw[this]
 exact B0M (by intro o o' h;cases o<;>simp only[reduceCtorEq,Option.some.injEq] at h;subst h;exact⟨trivial,trivial⟩)
theorem fr_wrDat{d:DObj}:Fr0 (wrDat n d):=by
 have :wrDat n d=B0n (fun o=>match o with |.dat _=>some (.dat d)|_=>none) n:=by
  unfold wrDat B0n;congr 1;funext o s;cases o<;>rfl
 rw[this]
 exact B0M (by intro o o' h;cases o<;>simp only[reduceCtorEq,Option.some.injEq] at h;subst h;exact⟨trivial,trivial⟩)
theorem fr_wrLost:Fr0 (wrLost n):=by
 have :wrLost n=B0n (fun o=>match o with |.dat _=>some .done|_=>none) n:=by
  unfold wrLost B0n;congr 1;funext o s;cases o<;>rfl
 rw[this]
 exact B0M (by intro o o' h;cases o<;>simp only[reduceCtorEq,Option.some.injEq] at h;subst h;exact⟨trivial,trivial⟩)
theorem fr_wrLoop{st:Nat}{pend:AExit}:Fr0 (wrLoop n st pend):=by
 have :wrLoop n st pend=B0n (fun o=>match o with |.rcd (.loop _ _)=>some (.rcd (.loop st pend))|_=>none) n:=by
  unfold wrLoop B0n;congr 1;funext o s;cases o with |rcd k=>cases k<;>rfl|_=>rfl
 rw[this]
 exact B0M (by
  intro o o' h
  cases o with
  |rcd k=>cases k<;>simp only[reduceCtorEq,Option.some.injEq] at h;subst h;exact⟨trivial,trivial⟩
  |_=>simp only[reduceCtorEq] at h)
theorem fr_wrMark:Fr0 (wrMark n):=by
 have :wrMark n=B0n (fun o=>match o with |.rcd .mark=>some .done|_=>none) n:=by
  unfold wrMark B0n;congr 1;funext o s;cases o with |rcd k=>cases k<;>rfl|_=>rfl
 rw[this]
 exact B0M (by
  intro o o' h
  cases o with
  |rcd k=>cases k<;>simp only[reduceCtorEq,Option.some.injEq] at h;subst h;exact⟨trivial,trivial⟩
  |_=>simp only[reduceCtorEq] at h)
theorem fr_alloc{o:Nat→AObj}:Fr0 (alloc o):=by
 intro s a s' h ok
 obtain⟨h0,nx,lo,rd,wr⟩:=s
 unfold alloc at h
 simp only[] at h
 cases hb:Nat.blt nx LH with
 |false=>rw[hb] at h;cases h
 |
  true=>
  rw[hb,A0e] at h
  cases h
  have hn:a<LH:=by simpa [Nat.blt_eq] using hb
  have gs:=fun k (hk:k<LH)=>A0y (o a) DH h0 a k ok.deep hn hk
  have hlo:lo≤a:=ok.lo
  refine⟨[],[],⟨by show lo≤Nat.succ a;omega,A0j _ DH h0 a ok.deep,hn⟩,⟨rfl,rfl,by simp⟩,⟨rfl,Nat.le_succ a,A0j _ DH h0 a ok.deep,fun k h4 h5=>?_,fun k p h4 _=>?_⟩,fun s2 hs=>?_⟩
  ·show(h0.set a (o a)).get k=_
   have h4:Nat.succ a≤k:=h4
   rw[gs k h5,if_neg (by omega)]
  ·show Agree p (h0.get k) ((h0.set a (o a)).get k)
   have h4:k<lo:=h4
   rw[gs k (by omega),if_neg (by omega)];exact .refl p _
  ·obtain⟨h2,nx2,lo2,rd2,wr2⟩:=s2
   have e1:nx2=a:=hs.nx
   have e2:lo2=lo:=hs.lo
   subst e1;subst e2
   have gs2:=fun k (hk:k<LH)=>A0y (o nx2) DH h2 nx2 k hs.deep hn hk
   refine⟨⟨h2.set nx2 (o nx2),Nat.succ nx2,lo2,rd2,wr2⟩,by unfold alloc;simp only[hb,A0e],rfl,⟨rfl,rfl,by simp⟩,⟨rfl,Nat.le_succ _,A0j _ DH h2 nx2 hs.deep,fun k h4 h5=>?_,fun k p h4 _=>?_⟩,fun k h4 h5=>?_,?_⟩
   ·show(h2.set nx2 (o nx2)).get k=_
    have h4:Nat.succ nx2≤k:=h4
    rw[gs2 k h5,if_neg (by omega)]
   ·show Agree p (h2.get k) ((h2.set nx2 (o nx2)).get k)
    have h4:k<lo2:=h4
    rw[gs2 k (by omega),if_neg (by omega)];exact .refl p _
   ·show(h2.set nx2 (o nx2)).get k=(h0.set nx2 (o nx2)).get k
    have h5:k<Nat.succ nx2:=h5
    rw[gs2 k (by omega),gs k (by omega)]
    by_cases c:k=nx2
    ·rw[if_pos c,if_pos c]
    ·rw[if_neg c,if_neg c];exact hs.own k h4 (by show k<nx2;omega)
   ·rintro k p _⟨r,hr,_⟩;cases hr
end
structure Cl(Q:∀α:Type,M α→Prop):Prop where
 pure:∀{α:Type}(a:α),Q _ (M.pure a)
 fail:∀{α:Type},Q _ (M.fail:M α)
 req:∀{α:Type}{b:Bool}{m:M α},Q _ m→Q _ (M.req b m)
 opt:∀{α:Type}(o:Option α),Q _ (M.opt o)
 sel:∀{α:Type}{b:Bool}{m n:M α},Q _ m→Q _ n→Q _ (sel b m n)
 ite:∀{α:Type}{b:Bool}{m n:M α},Q _ m→Q _ n→Q _ (M.ite b m n)
 bind:∀{α β:Type}{m:M α}{f:α→M β},Q _ m→(∀a,Q _ (f a))→Q _ (M.bind m f)
 branch:∀{α:Type}{l:List (M α)},(∀m∈l,Q _ m)→Q _ (branch l)
 rdHead:∀{n:Nat},Q _ (rdHead n)
 rdAlive:∀{n:Nat},Q _ (rdAlive n)
 rdCells:∀{n off k:Nat},Q _ (rdCells n off k)
 rdCell:∀{n off:Nat},Q _ (rdCell n off)
 rdMap:∀{n:Nat},Q _ (rdMap n)
 rdIter:∀{n:Nat},Q _ (rdIter n)
 rdSiter:∀{n:Nat},Q _ (rdSiter n)
 rdLoop:∀{n:Nat},Q _ (rdLoop n)
 rdArr:∀{n:Nat},Q _ (rdArr n)
 wrArr:∀{n:Nat}{a:Arr},Q _ (wrArr n a)
 all:∀{α:Type}{c:Univ.C}{p:Univ.S c→Bool}{f:Univ.S c→M α},(∀x,Q _ (f x))→Q _ (M.all c p f)
 rdDat:∀{n:Nat},Q _ (rdDat n)
 rdDat?:∀{n:Nat},Q _ (rdDat? n)
 wrDat:∀{n:Nat}{d:DObj},Q _ (wrDat n d)
 wrLost:∀{n:Nat},Q _ (wrLost n)
 rdMps?:∀{n:Nat},Q _ (rdMps? n)
 wrMps:∀{n:Nat}{p:MpS},Q _ (wrMps n p)
 wrGone:∀{n:Nat},Q _ (wrGone n)
 wrCells:∀{n off:Nat}{vs:List AVal},Q _ (wrCells n off vs)
 wrDead:∀{n:Nat},Q _ (wrDead n)
 wrFrz:∀{n:Nat},Q _ (wrFrz n)
 wrAlive:∀{n:Nat}{l:List (Nat×Nat×Nat)},Q _ (wrAlive n l)
 wrMap:∀{n:Nat}{kt:TypeId}{es:List (AVal×AVal)}{c:Nat},Q _ (wrMap n kt es c)
 wrIter:∀{n:Nat}{m:Option Nat}{since:Nat}{seen:List AVal},Q _ (wrIter n m since seen)
 wrDone:∀{n:Nat},Q _ (wrDone n)
 wrSiter:∀{n:Nat}{l:List UInt8}{pos:Nat},Q _ (wrSiter n l pos)
 wrLoop:∀{n st:Nat}{pend:AExit},Q _ (wrLoop n st pend)
 wrMark:∀{n:Nat},Q _ (wrMark n)
 alloc:∀{o:Nat→AObj},Q _ (alloc o)
section
variable{Q:∀α:Type,M α→Prop}
theorem Cl.need(C:Cl Q){α:Type}{b:Bool}{m:M α}(h:Q _ m):Q _ (M.need b m):=C.ite h C.fail
theorem Cl.gate(C:Cl Q){α:Type}{q b:Bool}{m n:M α}(h:Q _ m)(k:Q _ n):Q _ (M.gate q b m n):=C.sel (C.ite h k) (C.sel h k)
theorem Cl.forced(_:Cl Q){α:Type}{m:Nat}{k:Nat→M α}(h:Q _ (k m)):Q _ (forced m k):=by rw[B0F];exact h
theorem A0s(C:Cl Q){lo hi keep:Nat}:∀{l:List (Nat×Nat×Nat)},Q _ (F0q lo hi keep l)
 |[]=>C.pure _
 |
  x::l=>by
  have :=A0s C (lo:=lo) (hi:=hi) (keep:=keep) (l:=l)
  unfold F0q
  repeat' (first
   |exact C.pure _|exact C.fail|exact C.opt _|apply C.req|apply C.need|apply C.ite|apply C.sel|apply C.forced|apply C.bind
   |exact C.rdHead|exact C.rdAlive|exact C.rdCells|exact C.rdCell|exact C.rdMap|exact C.rdIter|exact C.rdSiter
   |exact C.wrCells|exact C.wrDead|exact C.wrFrz|exact C.wrAlive|exact C.wrMap|exact C.wrIter|exact C.wrDone|exact C.wrSiter|exact C.alloc
   |assumption
   |intro _|split)
theorem A0r(C:Cl Q){n off:Nat}{vs:List AVal}:Q _ (storeAt n off vs):=by
 have hk:=fun(lo hi keep:Nat) l=>A0s C (lo:=lo) (hi:=hi) (keep:=keep) (l:=l)
 unfold storeAt
 cases vs with
 |nil=>exact C.pure _
 |
  cons v vs=>
  simp only[]
  refine C.bind C.rdHead fun h=>C.bind C.rdAlive fun l=>?_
  unfold E0Q
  split
  ·exact C.wrCells
  ·unfold H0i
   exact C.bind (hk _ _ _ _) fun r=>C.bind C.wrAlive fun _=>C.wrCells
theorem J0A(C:Cl Q){α:Type}:∀c:CT α,Q _ c.run
 |.ret a=>C.pure a
 |.need _ k=>C.need (J0A C k)
 |.ite _ l r=>C.ite (J0A C l) (J0A C r)
 |.rd _ _ k=>C.bind C.rdCell fun v=>J0A C (k v)
 |.wr _ _ _ k=>C.bind (A0r C) fun _=>J0A C k
 |.rda _ k=>C.bind C.rdArr fun a=>J0A C (k a)
 |.rdd _ k=>C.bind C.rdDat fun a=>J0A C (k a)
 |.newA _ _ k=>C.bind C.alloc fun n=>J0A C (k n)
 |.gone _ k=>C.bind C.wrGone fun _=>J0A C k
 |.wrd _ _ k=>C.bind C.wrDat fun _=>J0A C k
 |
  .rdm _ k=>by
  unfold CT.run
  refine C.bind C.rdMps? fun p=>?_
  split
  ·exact J0A C _
  ·exact C.fail
 |.wrm _ _ k=>C.bind C.wrMps fun _=>J0A C k
 |.one _ _ k=>C.bind C.rdHead fun _=>C.bind C.rdAlive fun _=>C.req (C.bind C.rdCell fun v=>J0A C (k v))
 |.fail=>C.fail
theorem F0R(C:Cl Q){c:Univ.C}{n:Nat}:Q _ (E0U c n):=C.bind C.rdArr fun _=>C.opt _
theorem A0l(C:Cl Q){e:TypeId}{cs:List AVal}:Q _ (B0i e cs):=C.alloc
section
variable{E:Env}
theorem Z0m(C:Cl Q){k:IntKind}{f:BitVec k.bits→BitVec k.bits→BitVec k.bits}{a b:Int}:Q _ (S0d k f a b):=C.pure _
theorem W0r(C:Cl Q){op:BinOp}{k:IntKind}{a b:Int}:Q _ (D0W op k a b):=by
 unfold D0W
 cases op<;>first|exact Z0m C|exact C.pure _|exact C.fail|exact C.sel C.fail (C.pure _)
theorem S0O(C:Cl Q){op:BinOp}{k:IntKind}{a b:Int}:Q _ (J0o op k a b):=by
 unfold J0o
 repeat' (first|exact C.pure _|exact C.fail|split)
theorem V0F(C:Cl Q){op:BinOp}{k:IntKind}{a b:Int}:Q _ (M0C op k a b):=by
 unfold M0C
 repeat' (first
  |exact A0r C|exact A0l C|exact A0s C
  |exact C.pure _|exact C.fail|exact C.opt _|apply C.req|apply C.need|apply C.ite|apply C.sel|apply C.forced|apply C.bind
  |exact C.rdHead|exact C.rdAlive|exact C.rdCells|exact C.rdCell|exact C.rdMap|exact C.rdIter|exact C.rdSiter
  |exact C.wrCells|exact C.wrDead|exact C.wrFrz|exact C.wrAlive|exact C.wrMap|exact C.wrIter|exact C.wrDone|exact C.wrSiter|exact C.alloc
  |assumption
  |intro _|split)
theorem b0w(C:Cl Q){op:BinOp}{a b:List UInt8}:Q _ (Q0x op a b):=by
 unfold Q0x
 repeat' (first
  |exact A0r C|exact A0l C|exact A0s C
  |exact C.pure _|exact C.fail|exact C.opt _|apply C.req|apply C.need|apply C.ite|apply C.sel|apply C.forced|apply C.bind
  |exact C.rdHead|exact C.rdAlive|exact C.rdCells|exact C.rdCell|exact C.rdMap|exact C.rdIter|exact C.rdSiter
  |exact C.wrCells|exact C.wrDead|exact C.wrFrz|exact C.wrAlive|exact C.wrMap|exact C.wrIter|exact C.wrDone|exact C.wrSiter|exact C.alloc
  |assumption
  |intro _|split)
theorem d0j(C:Cl Q){neg:Bool}{t:TypeId}{x y:Operand}{a b:AVal}:Q _ (evEq E neg t x y a b):=by
 unfold evEq
 refine C.bind (C.opt _) fun ti=>C.req ?_
 split
 ·exact C.pure _
 ·exact C.bind (C.opt _) fun _=>C.pure _
theorem b0v(C:Cl Q){op:BinOp}{t:TypeId}{x y:Operand}{a b:AVal}:Q _ (Z0T E op t x y a b):=by unfold Z0T;cases op<;>first|exact(d0j C)|exact C.fail
theorem S0M(C:Cl Q){op:BinOp}{k:IntKind}{a b:Int}:Q _ (I0Q op k a b):=by
 unfold I0Q
 cases op<;>first|exact C.pure _|exact C.fail|exact C.need (C.pure _)
theorem X0M(C:Cl Q){op:BinOp}{a b:ByteArray}:Q _ (Q0q op a b):=by
 unfold Q0q
 cases op<;>first|exact C.pure _|exact C.fail|exact C.need (C.pure _)
theorem W0u(C:Cl Q){op:BinOp}{a b:Bool}:Q _ (T0v op a b):=by
 unfold T0v
 cases op<;>first|exact C.pure _|exact C.fail
theorem Y0c(C:Cl Q){op:BinOp}{t:TypeId}{x y:Operand}{a b:AVal}:Q _ (O0k E op t x y a b):=by
 unfold O0k
 split
 ·split
  ·exact C.sel (V0F C) (C.sel (W0r C) C.fail)
  ·exact C.fail
 ·split
  ·exact(b0w C)
  ·exact C.fail
 ·exact(b0v C)
theorem a0H(C:Cl Q){op:BinOp}{t:TypeId}{x y:Operand}{a b:AVal}:Q _ (W0q E op t x y a b):=by
 unfold W0q
 split
 ·unfold S0b
  split
  ·exact C.sel (S0O C) (C.sel (S0M C) C.fail)
  ·exact X0M C
  ·exact C.bind (C.opt _) fun _=>C.req (W0u C)
 ·exact Y0c C
theorem d0O(C:Cl Q){op:UnOp}{a:AVal}:Q _ (evUn op a):=by
 unfold evUn
 repeat' (first
  |exact A0r C|exact A0l C|exact A0s C
  |exact C.pure _|exact C.fail|exact C.opt _|apply C.req|apply C.need|apply C.ite|apply C.sel|apply C.forced|apply C.bind
  |exact C.rdHead|exact C.rdAlive|exact C.rdCells|exact C.rdCell|exact C.rdMap|exact C.rdIter|exact C.rdSiter
  |exact C.wrCells|exact C.wrDead|exact C.wrFrz|exact C.wrAlive|exact C.wrMap|exact C.wrIter|exact C.wrDone|exact C.wrSiter|exact C.alloc
  |assumption
  |intro _|split)
theorem R0o(C:Cl Q){t t':TypeId}{a:AVal}:Q _ (F0C E t t' a):=by
 unfold F0C U0m
 repeat' (first
  |exact A0r C|exact A0l C|exact A0s C
  |exact C.pure _|exact C.fail|exact C.opt _|apply C.req|apply C.need|apply C.ite|apply C.sel|apply C.forced|apply C.bind
  |exact C.rdHead|exact C.rdAlive|exact C.rdCells|exact C.rdCell|exact C.rdMap|exact C.rdIter|exact C.rdSiter
  |exact C.wrCells|exact C.wrDead|exact C.wrFrz|exact C.wrAlive|exact C.wrMap|exact C.wrIter|exact C.wrDone|exact C.wrSiter|exact C.alloc
  |assumption
  |intro _|split)
theorem W0v(C:Cl Q){t:TypeId}{ps:List (Nat×AVal)}:Q _ (K0l E t ps):=by
 unfold K0l
 repeat' (first
  |exact A0r C|exact A0l C|exact A0s C
  |exact C.pure _|exact C.fail|exact C.opt _|apply C.req|apply C.need|apply C.ite|apply C.sel|apply C.forced|apply C.bind
  |exact C.rdHead|exact C.rdAlive|exact C.rdCells|exact C.rdCell|exact C.rdMap|exact C.rdIter|exact C.rdSiter
  |exact C.wrCells|exact C.wrDead|exact C.wrFrz|exact C.wrAlive|exact C.wrMap|exact C.wrIter|exact C.wrDone|exact C.wrSiter|exact C.alloc
  |assumption
  |intro _|split)
theorem N0h(C:Cl Q){t:TypeId}{k:Nat}{ps:List (Nat×AVal)}:Q _ (C0S E t k ps):=by
 unfold C0S
 repeat' (first
  |exact A0r C|exact A0l C|exact A0s C
  |exact C.pure _|exact C.fail|exact C.opt _|apply C.req|apply C.need|apply C.ite|apply C.sel|apply C.forced|apply C.bind
  |exact C.rdHead|exact C.rdAlive|exact C.rdCells|exact C.rdCell|exact C.rdMap|exact C.rdIter|exact C.rdSiter
  |exact C.wrCells|exact C.wrDead|exact C.wrFrz|exact C.wrAlive|exact C.wrMap|exact C.wrIter|exact C.wrDone|exact C.wrSiter|exact C.alloc
  |assumption
  |intro _|split)
theorem Q0B(C:Cl Q){t:TypeId}{a:AVal}:Q _ (O0f E t a):=by
 unfold O0f
 repeat' (first
  |exact F0R C|exact C.wrArr
  |exact A0r C|exact A0l C|exact A0s C
  |exact C.pure _|exact C.fail|exact C.opt _|apply C.req|apply C.need|apply C.ite|apply C.sel|apply C.forced|apply C.bind
  |exact C.rdHead|exact C.rdAlive|exact C.rdCells|exact C.rdCell|exact C.rdMap|exact C.rdIter|exact C.rdSiter
  |exact C.wrCells|exact C.wrDead|exact C.wrFrz|exact C.wrAlive|exact C.wrMap|exact C.wrIter|exact C.wrDone|exact C.wrSiter|exact C.alloc
  |assumption
  |intro _|split)
theorem W0Q(C:Cl Q){t:TypeId}{a b:AVal}:Q _ (M0P E t a b):=by
 unfold M0P
 repeat' (first
  |exact F0R C|exact C.wrArr
  |exact A0r C|exact A0l C|exact A0s C
  |exact C.pure _|exact C.fail|exact C.opt _|apply C.req|apply C.need|apply C.ite|apply C.sel|apply C.forced|apply C.bind
  |exact C.rdHead|exact C.rdAlive|exact C.rdCells|exact C.rdCell|exact C.rdMap|exact C.rdIter|exact C.rdSiter
  |exact C.wrCells|exact C.wrDead|exact C.wrFrz|exact C.wrAlive|exact C.wrMap|exact C.wrIter|exact C.wrDone|exact C.wrSiter|exact C.alloc
  |assumption
  |intro _|split)
theorem X0o(C:Cl Q){t:TypeId}{i:Nat}{a:AVal}:Q _ (M0V E t i a):=by
 unfold M0V
 repeat' (first
  |exact A0r C|exact A0l C|exact A0s C
  |exact C.pure _|exact C.fail|exact C.opt _|apply C.req|apply C.need|apply C.ite|apply C.sel|apply C.forced|apply C.bind
  |exact C.rdHead|exact C.rdAlive|exact C.rdCells|exact C.rdCell|exact C.rdMap|exact C.rdIter|exact C.rdSiter
  |exact C.wrCells|exact C.wrDead|exact C.wrFrz|exact C.wrAlive|exact C.wrMap|exact C.wrIter|exact C.wrDone|exact C.wrSiter|exact C.alloc
  |assumption
  |intro _|split)
theorem Z0c(C:Cl Q){t:TypeId}{i:Nat}{a:AVal}:Q _ (N0Z E t i a):=by
 unfold N0Z
 repeat' (first
  |exact A0r C|exact A0l C|exact A0s C
  |exact C.pure _|exact C.fail|exact C.opt _|apply C.req|apply C.need|apply C.ite|apply C.sel|apply C.forced|apply C.bind
  |exact C.rdHead|exact C.rdAlive|exact C.rdCells|exact C.rdCell|exact C.rdMap|exact C.rdIter|exact C.rdSiter
  |exact C.wrCells|exact C.wrDead|exact C.wrFrz|exact C.wrAlive|exact C.wrMap|exact C.wrIter|exact C.wrDone|exact C.wrSiter|exact C.alloc
  |assumption
  |intro _|split)
theorem T0E(C:Cl Q){t:TypeId}{a b:AVal}:Q _ (H0F E t a b):=by
 unfold H0F
 refine C.bind (C.opt _) fun _=>C.bind (C.opt _) fun ti=>?_
 split
 ·split
  ·exact C.req (C.need (C.pure _))
  ·exact C.req (C.need (C.pure _))
  ·exact C.fail
 ·exact C.fail
theorem E0H(C:Cl Q){t:TypeId}{a b:AVal}:Q _ (B0p E t a b):=by
 unfold B0p
 repeat' (first
  |exact A0r C|exact A0l C|exact A0s C
  |exact C.pure _|exact C.fail|exact C.opt _|apply C.req|apply C.need|apply C.ite|apply C.sel|apply C.forced|apply C.bind
  |exact C.rdHead|exact C.rdAlive|exact C.rdCells|exact C.rdCell|exact C.rdMap|exact C.rdIter|exact C.rdSiter
  |exact C.wrCells|exact C.wrDead|exact C.wrFrz|exact C.wrAlive|exact C.wrMap|exact C.wrIter|exact C.wrDone|exact C.wrSiter|exact C.alloc
  |assumption
  |intro _|split)
theorem K0w(C:Cl Q){f:Nat→M AVal}(h:∀j,Q _ (f j)){n:Int}:∀k j,Q _ (F0o f n k j)
 |0,_=>C.fail
 |k+1,j=>C.ite (h j) (K0w C h k (j+1))
theorem R0d(C:Cl Q){t:TypeId}{a:AVal}{k:IntKind}{n:Int}:Q _ (F0J E t a k n):=by
 unfold F0J
 refine C.bind (C.opt _) fun ti=>?_
 split
 ·exact K0w C (fun j=>E0H C) _ _
 ·split
  ·exact K0w C (fun j=>E0H C) _ _
  ·exact C.fail
 ·exact C.fail
theorem N0w(C:Cl Q){t:TypeId}{a b:AVal}:Q _ (D0w E t a b):=by
 unfold D0w
 refine C.sel (T0E C) ?_
 split
 ·exact R0d C
 ·exact E0H C
theorem X0f(C:Cl Q){t:TypeId}{a b:AVal}:Q _ (J0N E t a b):=by
 unfold J0N
 repeat' (first
  |exact A0r C|exact A0l C|exact A0s C
  |exact C.pure _|exact C.fail|exact C.opt _|apply C.req|apply C.need|apply C.ite|apply C.sel|apply C.forced|apply C.bind
  |exact C.rdHead|exact C.rdAlive|exact C.rdCells|exact C.rdCell|exact C.rdMap|exact C.rdIter|exact C.rdSiter
  |exact C.wrCells|exact C.wrDead|exact C.wrFrz|exact C.wrAlive|exact C.wrMap|exact C.wrIter|exact C.wrDone|exact C.wrSiter|exact C.alloc
  |assumption
  |intro _|split)
theorem K0W(C:Cl Q){e:TypeId}{m off k:Nat}{cap:Option Nat}{sz n:Nat}{xs:List AVal}:Q _ (C0s e m off k cap sz n xs):=by
 unfold C0s
 repeat' (first
  |exact A0r C|exact A0l C|exact A0s C
  |exact C.pure _|exact C.fail|exact C.opt _|apply C.req|apply C.need|apply C.ite|apply C.sel|apply C.forced|apply C.bind
  |exact C.rdHead|exact C.rdAlive|exact C.rdCells|exact C.rdCell|exact C.rdMap|exact C.rdIter|exact C.rdSiter
  |exact C.wrCells|exact C.wrDead|exact C.wrFrz|exact C.wrAlive|exact C.wrMap|exact C.wrIter|exact C.wrDone|exact C.wrSiter|exact C.alloc
  |assumption
  |intro _|split)
theorem L0w(C:Cl Q){sz:Nat}{x:AVal}:Q _ (D0I sz x):=by
 unfold D0I
 repeat' (first
  |exact A0r C|exact A0l C|exact A0s C
  |exact C.pure _|exact C.fail|exact C.opt _|apply C.req|apply C.need|apply C.ite|apply C.sel|apply C.forced|apply C.bind
  |exact C.rdHead|exact C.rdAlive|exact C.rdCells|exact C.rdCell|exact C.rdMap|exact C.rdIter|exact C.rdSiter
  |exact C.wrCells|exact C.wrDead|exact C.wrFrz|exact C.wrAlive|exact C.wrMap|exact C.wrIter|exact C.wrDone|exact C.wrSiter|exact C.alloc
  |assumption
  |intro _|split)
theorem X0m(C:Cl Q){ti:TI}{x:AVal}:Q _ (N0e ti x):=by
 unfold N0e
 repeat' (first
  |exact A0r C|exact A0l C|exact A0s C
  |exact C.pure _|exact C.fail|exact C.opt _|apply C.req|apply C.need|apply C.ite|apply C.sel|apply C.forced|apply C.bind
  |exact C.rdHead|exact C.rdAlive|exact C.rdCells|exact C.rdCell|exact C.rdMap|exact C.rdIter|exact C.rdSiter
  |exact C.wrCells|exact C.wrDead|exact C.wrFrz|exact C.wrAlive|exact C.wrMap|exact C.wrIter|exact C.wrDone|exact C.wrSiter|exact C.alloc
  |assumption
  |intro _|split)
theorem L0W(C:Cl Q){ats:List TypeId}{as:List AVal}:Q _ (G0e E ats as):=by
 have h1:=fun te x=>X0m C (ti:=te) (x:=x)
 have h2:=fun sz x=>L0w C (sz:=sz) (x:=x)
 have h3:=fun e m off k cap sz n xs=>K0W C (e:=e) (m:=m) (off:=off) (k:=k) (cap:=cap) (sz:=sz) (n:=n) (xs:=xs)
 unfold G0e
 repeat' (first|exact h1 _ _|exact h2 _ _|exact h3 _ _ _ _ _ _ _ _|exact(A0l C)|exact C.pure _|exact C.fail|exact C.opt _|apply C.req|apply C.need|apply C.ite|apply C.sel|apply C.bind|intro _|split)
theorem b0E(C:Cl Q){t:TypeId}{a:AVal}:Q _ (P0M E t a):=by
 unfold P0M
 repeat' (first
  |exact A0r C|exact A0l C|exact A0s C
  |exact C.pure _|exact C.fail|exact C.opt _|apply C.req|apply C.need|apply C.ite|apply C.sel|apply C.forced|apply C.bind
  |exact C.rdHead|exact C.rdAlive|exact C.rdCells|exact C.rdCell|exact C.rdMap|exact C.rdDat?|exact C.rdIter|exact C.rdSiter
  |exact C.wrCells|exact C.wrDead|exact C.wrFrz|exact C.wrAlive|exact C.wrMap|exact C.wrIter|exact C.wrDone|exact C.wrSiter|exact C.alloc
  |assumption
  |intro _|split)
theorem Z0Z(C:Cl Q){t:TypeId}{a:AVal}:Q _ (L0I E t a):=by
 unfold L0I a0K
 repeat' (first
  |exact A0r C|exact A0l C|exact A0s C
  |exact C.pure _|exact C.fail|exact C.opt _|apply C.req|apply C.need|apply C.ite|apply C.sel|apply C.forced|apply C.bind
  |exact C.rdHead|exact C.rdAlive|exact C.rdCells|exact C.rdCell|exact C.rdMap|exact C.rdIter|exact C.rdSiter
  |exact C.wrCells|exact C.wrDead|exact C.wrFrz|exact C.wrAlive|exact C.wrMap|exact C.wrIter|exact C.wrDone|exact C.wrSiter|exact C.alloc
  |assumption
  |intro _|split)
theorem Z0B(C:Cl Q){t:TypeId}{a b:AVal}:Q _ (O0e E t a b):=by
 have h2:=fun sz x=>L0w C (sz:=sz) (x:=x)
 unfold O0e
 repeat' (first|exact h2 _ _|exact(A0r C)|exact C.pure _|exact C.fail|exact C.opt _|apply C.req|apply C.forced|apply C.sel|apply C.bind|intro _|split)
theorem O0c(C:Cl Q){c:Univ.C}{x:AVal}:Q _ (F0n c x):=by
 unfold F0n
 split
 ·exact C.req (C.bind (F0R C) fun _=>C.pure _)
 ·exact C.req (C.bind C.rdCells fun _=>C.bind (C.opt _) fun _=>C.opt _)
 ·exact C.opt _
 ·exact C.fail
theorem K0M(C:Cl Q){ats:List TypeId}{a b:AVal}:Q _ (E0A E ats a b):=by
 unfold E0A
 split
 ·refine C.bind (C.opt _) fun _=>C.bind (C.opt _) fun _=>?_
  split
  ·refine C.bind (C.opt _) fun _=>C.bind (C.opt _) fun _=>C.req (C.bind (O0c C) fun _=>?_)
   split
   ·exact C.req (C.need (C.bind C.alloc fun _=>C.pure _))
   ·exact C.req (C.bind (F0R C) fun _=>C.need (C.bind C.wrGone fun _=>C.bind C.alloc fun _=>C.pure _))
   ·exact C.fail
  ·exact C.fail
 ·exact C.fail
theorem W0W(C:Cl Q){t:TypeId}{a b:AVal}:Q _ (K0u E t a b):=by
 unfold K0u
 refine C.bind (C.opt _) fun ti=>?_
 split
 ·split
  ·exact C.req (C.bind (O0c C) fun _=>C.bind (F0R C) fun _=>C.bind C.wrArr fun _=>C.pure _)
  ·exact C.fail
 ·exact C.fail
theorem b0s(C:Cl Q){ats:List TypeId}{as:List AVal}:Q _ (W0l E ats as):=by
 unfold W0l
 split
 ·unfold Y0q
  split
  ·exact K0M C
  ·refine C.bind ?_ fun _=>C.sel (K0M C) (L0W C)
   unfold U0Q
   split
   ·exact C.bind C.rdCells fun _=>C.pure _
   ·exact C.pure _
  ·exact L0W C
 ·exact C.fail
theorem d0G(C:Cl Q){t:TypeId}{a b:AVal}:Q _ (evCp E t a b):=C.sel (W0W C) (Z0B C)
theorem P0y(C:Cl Q){lt:Bool}:∀{l:List AVal}{x:AVal},Q _ (G0L lt x l)
 |[],x=>C.pure _
 |
  y::l,x=>by
  unfold G0L
  split
  ·exact(P0y C)
  ·split
   ·exact C.fail
   ·split
    ·exact C.fail
    ·exact(P0y C)
theorem W0H(C:Cl Q){t:TypeId}{a:AVal}:Q _ (F0X E t a):=by
 unfold F0X
 repeat' (first
  |exact A0r C|exact A0l C|exact A0s C
  |exact C.pure _|exact C.fail|exact C.opt _|apply C.req|apply C.need|apply C.ite|apply C.sel|apply C.forced|apply C.bind
  |exact C.rdHead|exact C.rdAlive|exact C.rdCells|exact C.rdCell|exact C.rdMap|exact C.rdIter|exact C.rdSiter
  |exact C.wrCells|exact C.wrDead|exact C.wrFrz|exact C.wrAlive|exact C.wrMap|exact C.wrIter|exact C.wrDone|exact C.wrSiter|exact C.alloc
  |assumption
  |intro _|split)
theorem N0r(C:Cl Q){a:AVal}:Q _ (B0U a):=by
 unfold B0U
 repeat' (first
  |exact A0r C|exact A0l C|exact A0s C
  |exact C.pure _|exact C.fail|exact C.opt _|apply C.req|apply C.need|apply C.ite|apply C.sel|apply C.forced|apply C.bind
  |exact C.rdHead|exact C.rdAlive|exact C.rdCells|exact C.rdCell|exact C.rdMap|exact C.rdIter|exact C.rdSiter
  |exact C.wrCells|exact C.wrDead|exact C.wrFrz|exact C.wrAlive|exact C.wrMap|exact C.wrIter|exact C.wrDone|exact C.wrSiter|exact C.alloc
  |assumption
  |intro _|split)
theorem K0s(C:Cl Q){t:TypeId}{a b:AVal}:Q _ (B0g E t a b):=by
 unfold B0g
 repeat' (first
  |exact A0r C|exact A0l C|exact A0s C
  |exact C.pure _|exact C.fail|exact C.opt _|apply C.req|apply C.need|apply C.ite|apply C.sel|apply C.forced|apply C.bind
  |exact C.rdHead|exact C.rdAlive|exact C.rdCells|exact C.rdCell|exact C.rdMap|exact C.rdIter|exact C.rdSiter
  |exact C.wrCells|exact C.wrDead|exact C.wrFrz|exact C.wrAlive|exact C.wrMap|exact C.wrIter|exact C.wrDone|exact C.wrSiter|exact C.alloc
  |assumption
  |intro _|split)
theorem S0n(C:Cl Q){n off:Nat}{cap:Option Nat}{sz lo hi:Nat}{mx:Option Nat}{sure:Nat}:Q _ (C0h n off cap sz lo hi mx sure):=by
 unfold C0h
 repeat' (first
  |exact A0r C|exact A0l C|exact A0s C
  |exact C.pure _|exact C.fail|exact C.opt _|apply C.req|apply C.need|apply C.ite|apply C.sel|apply C.forced|apply C.bind
  |exact C.rdHead|exact C.rdAlive|exact C.rdCells|exact C.rdCell|exact C.rdMap|exact C.rdIter|exact C.rdSiter
  |exact C.wrCells|exact C.wrDead|exact C.wrFrz|exact C.wrAlive|exact C.wrMap|exact C.wrIter|exact C.wrDone|exact C.wrSiter|exact C.alloc
  |assumption
  |intro _|split)
theorem S0x(C:Cl Q){n off k:Nat}{cap:Option Nat}{sz l h:Nat}{mx:Option AVal}:Q _ (F0v n off k cap sz l h mx):=by
 have h1:=fun n off cap sz lo hi mx sure=>S0n C (n:=n) (off:=off) (cap:=cap) (sz:=sz) (lo:=lo) (hi:=hi) (mx:=mx) (sure:=sure)
 unfold F0v
 repeat' (first|exact h1 _ _ _ _ _ _ _ _|exact C.rdHead|exact C.pure _|exact C.fail|exact C.opt _|apply C.req|apply C.need|apply C.ite|apply C.sel|apply C.bind|intro _|split)
theorem V0x(C:Cl Q){t:TypeId}{x:AVal}{lo hi mx:Option AVal}:Q _ (K0e E t x lo hi mx):=by
 have h1:=fun n off k cap sz l h mx=>S0x C (n:=n) (off:=off) (k:=k) (cap:=cap) (sz:=sz) (l:=l) (h:=h) (mx:=mx)
 unfold K0e
 repeat' (first|exact h1 _ _ _ _ _ _ _ _|exact C.pure _|exact C.fail|exact C.opt _|apply C.req|apply C.need|apply C.ite|apply C.sel|apply C.bind|intro _|split)
theorem N0q(C:Cl Q){t:TypeId}{a b:AVal}:Q _ (D0C E t a b):=by
 unfold D0C
 repeat' (first
  |exact A0r C|exact A0l C|exact A0s C
  |exact C.pure _|exact C.fail|exact C.opt _|apply C.req|apply C.need|apply C.ite|apply C.sel|apply C.forced|apply C.bind
  |exact C.rdHead|exact C.rdAlive|exact C.rdCells|exact C.rdCell|exact C.rdMap|exact C.rdIter|exact C.rdSiter
  |exact C.wrCells|exact C.wrDead|exact C.wrFrz|exact C.wrAlive|exact C.wrMap|exact C.wrIter|exact C.wrDone|exact C.wrSiter|exact C.alloc
  |assumption
  |intro _|split)
theorem T0z(C:Cl Q){t:TypeId}{x:AVal}{lo hi mx:Option AVal}:Q _ (H0n E t x lo hi mx):=by
 unfold H0n
 refine C.bind (C.opt _) fun ti=>?_
 split
 ·split
  ·split
   ·exact C.fail
   ·exact C.bind (C.opt _) fun _=>C.bind (C.opt _) fun _=>C.req (C.need (C.pure _))
  ·exact C.fail
 ·exact C.fail
theorem d0k(C:Cl Q){t:TypeId}{x:AVal}{lo hi mx:Option AVal}:Q _ (evSl E t x lo hi mx):=C.sel (T0z C) (V0x C)
theorem W0n(C:Cl Q){t:TypeId}{a b:AVal}:Q _ (K0f E t a b):=by
 unfold K0f
 refine C.bind (C.opt _) fun ti=>?_
 split
 ·exact C.bind (C.opt _) fun _=>C.bind (C.opt _) fun _=>C.bind (C.opt _) fun _=>C.bind (C.opt _) fun _=>C.bind (C.opt _) fun _=>C.req (C.need (C.bind C.alloc fun _=>C.pure _))
 ·exact C.fail
theorem Y0X(C:Cl Q){t:TypeId}{a b:AVal}:Q _ (R0T E t a b):=C.sel (W0n C) (N0q C)
theorem a0N(C:Cl Q){l:List AVal}{b:Bool}:Q _ (X0s l b):=by
 unfold X0s
 repeat' (first
  |exact A0r C|exact A0l C|exact A0s C
  |exact C.pure _|exact C.fail|exact C.opt _|apply C.req|apply C.need|apply C.ite|apply C.sel|apply C.forced|apply C.bind
  |exact C.rdHead|exact C.rdAlive|exact C.rdCells|exact C.rdCell|exact C.rdMap|exact C.rdIter|exact C.rdSiter
  |exact C.wrCells|exact C.wrDead|exact C.wrFrz|exact C.wrAlive|exact C.wrMap|exact C.wrIter|exact C.wrDone|exact C.wrSiter|exact C.alloc
  |assumption
  |intro _|split)
theorem R0A(C:Cl Q){kt:TypeId}{x:AVal}:Q _ (F0D kt x):=by
 unfold F0D
 repeat' (first
  |exact A0r C|exact A0l C|exact A0s C
  |exact C.pure _|exact C.fail|exact C.opt _|apply C.req|apply C.need|apply C.ite|apply C.sel|apply C.forced|apply C.bind
  |exact C.rdHead|exact C.rdAlive|exact C.rdCells|exact C.rdCell|exact C.rdMap|exact C.rdIter|exact C.rdSiter
  |exact C.wrCells|exact C.wrDead|exact C.wrFrz|exact C.wrAlive|exact C.wrMap|exact C.wrIter|exact C.wrDone|exact C.wrSiter|exact C.alloc
  |assumption
  |intro _|split)
theorem M0b(C:Cl Q){t:TypeId}{ok:Bool}{x k:AVal}:Q _ (F0U E t ok x k):=by
 have h1:=fun kt x=>R0A C (kt:=kt) (x:=x)
 have h2:=fun l b=>a0N C (l:=l) (b:=b)
 unfold F0U
 repeat' (first|exact h1 _ _|exact h2 _ _|exact C.pure _|exact C.fail|exact C.opt _|apply C.req|apply C.need|apply C.ite|apply C.sel|apply C.bind|intro _|split)
theorem F0m(C:Cl Q){fresh:Bool}{t:TypeId}{m k v:AVal}:Q _ (A0J E fresh t m k v):=by
 unfold A0J
 repeat' (first
  |exact A0r C|exact A0l C|exact A0s C
  |exact C.pure _|exact C.fail|exact C.opt _|apply C.req|apply C.need|apply C.ite|apply C.sel|apply C.forced|apply C.bind
  |exact C.rdHead|exact C.rdAlive|exact C.rdCells|exact C.rdCell|exact C.rdMap|exact C.rdIter|exact C.rdSiter
  |exact C.wrCells|exact C.wrDead|exact C.wrFrz|exact C.wrAlive|exact C.wrMap|exact C.wrIter|exact C.wrDone|exact C.wrSiter|exact C.alloc
  |assumption
  |intro _|split)
theorem Q0Q(C:Cl Q){t:TypeId}{r:Option AVal}:Q _ (F0G E t r):=by
 unfold F0G
 repeat' (first
  |exact A0r C|exact A0l C|exact A0s C
  |exact C.pure _|exact C.fail|exact C.opt _|apply C.req|apply C.need|apply C.ite|apply C.sel|apply C.forced|apply C.bind
  |exact C.rdHead|exact C.rdAlive|exact C.rdCells|exact C.rdCell|exact C.rdMap|exact C.rdIter|exact C.rdSiter
  |exact C.wrCells|exact C.wrDead|exact C.wrFrz|exact C.wrAlive|exact C.wrMap|exact C.wrIter|exact C.wrDone|exact C.wrSiter|exact C.alloc
  |assumption
  |intro _|split)
theorem N0Q(C:Cl Q){t:TypeId}{x:AVal}:Q _ (I0t E t x):=by
 unfold I0t
 repeat' (first
  |exact A0r C|exact A0l C|exact A0s C
  |exact C.pure _|exact C.fail|exact C.opt _|apply C.req|apply C.need|apply C.ite|apply C.sel|apply C.forced|apply C.bind
  |exact C.rdHead|exact C.rdAlive|exact C.rdCells|exact C.rdCell|exact C.rdMap|exact C.rdIter|exact C.rdSiter
  |exact C.wrCells|exact C.wrDead|exact C.wrFrz|exact C.wrAlive|exact C.wrMap|exact C.wrIter|exact C.wrDone|exact C.wrSiter|exact C.alloc
  |assumption
  |intro _|split)
theorem T0L(C:Cl Q){n m since:Nat}{seen:List AVal}{e:AVal×AVal}:Q _ (E0m n m since seen e):=by
 unfold E0m
 repeat' (first
  |exact A0r C|exact A0l C|exact A0s C
  |exact C.pure _|exact C.fail|exact C.opt _|apply C.req|apply C.need|apply C.ite|apply C.sel|apply C.forced|apply C.bind
  |exact C.rdHead|exact C.rdAlive|exact C.rdCells|exact C.rdCell|exact C.rdMap|exact C.rdIter|exact C.rdSiter
  |exact C.wrCells|exact C.wrDead|exact C.wrFrz|exact C.wrAlive|exact C.wrMap|exact C.wrIter|exact C.wrDone|exact C.wrSiter|exact C.alloc
  |assumption
  |intro _|split)
theorem Q0v(C:Cl Q){det:Bool}{it:AVal}:Q _ (N0g det it):=by
 have h1:=fun n m since seen e=>T0L C (n:=n) (m:=m) (since:=since) (seen:=seen) (e:=e)
 unfold N0g
 repeat' (first|exact h1 _ _ _ _ _|exact C.rdIter|exact C.rdMap|exact C.wrDone|exact C.pure _|exact C.fail|exact C.opt _|apply C.req|apply C.bind|apply C.branch|intro _|split)
 rename_i hm
 obtain⟨e,_,rfl⟩:=List.mem_map.1 hm
 exact h1 _ _ _ _ _
theorem K0y(C:Cl Q){t:TypeId}{ok:Bool}{kc vc:Univ.C}{m:Univ.S kc→Option (Univ.S vc)}{k:AVal}:Q _ (D0P E t ok kc vc m k):=by
 unfold D0P
 refine C.bind (C.opt _) fun ti=>?_
 split
 ·exact C.bind (C.opt _) fun _=>C.req (C.bind (C.opt _) fun _=>C.pure _)
 ·exact C.fail
theorem U0D(C:Cl Q){t:TypeId}{ok:Bool}{x k:AVal}:Q _ (S0J E t ok x k):=by
 unfold S0J
 split
 ·exact K0y C
 ·refine C.bind C.rdDat? fun d=>?_
  split
  ·exact M0b C
  ·split
   ·exact K0y C
   ·exact C.fail
 ·exact M0b C
theorem R0N(C:Cl Q){t:TypeId}{ok:Bool}{n:Nat}{p:MpS}{k:AVal}:Q _ (F0w E t ok n p k):=by
 unfold F0w
 refine C.bind (C.opt _) fun ti=>?_
 split
 ·refine C.bind (C.opt _) fun te=>?_
  split
  ·exact C.fail
  ·exact C.req (C.bind (C.opt _) fun _=>C.bind C.wrMps fun _=>C.ite (C.bind C.alloc fun _=>C.pure _) (C.pure _))
 ·exact C.fail
theorem d0r(C:Cl Q){t:TypeId}{ok:Bool}{x k:AVal}:Q _ (evLk E t ok x k):=by
 unfold evLk
 split
 ·refine C.bind C.rdMps? fun d=>?_
  split
  ·exact R0N C
  ·exact U0D C
 ·exact U0D C
theorem V0a(C:Cl Q){fresh:Bool}{t:TypeId}{m k v:AVal}:Q _ (S0Q E fresh t m k v):=by
 unfold S0Q
 split
 ·refine C.bind C.rdDat? fun d=>?_
  split
  ·exact F0m C
  ·unfold G0F
   split
   ·refine C.bind (C.opt _) fun ti=>?_
    split
    ·exact C.req (C.bind (C.opt _) fun _=>C.bind (C.opt _) fun _=>C.bind C.wrDat fun _=>C.pure _)
    ·exact C.fail
   ·exact C.fail
 ·exact F0m C
theorem S0a(C:Cl Q){fresh:Bool}{t:TypeId}{n:Nat}{p:MpS}{k v:AVal}:Q _ (F0E E fresh t n p k v):=by
 unfold F0E
 refine C.bind (C.opt _) fun ti=>?_
 split
 ·split
  ·exact C.fail
  ·split
   ·exact C.req (C.bind (C.opt _) fun _=>C.need (C.bind (F0R C) fun _=>C.req (C.need (C.bind C.wrGone fun _=>C.bind C.wrMps fun _=>C.pure _))))
   ·exact C.fail
 ·exact C.fail
theorem Z0Q(C:Cl Q){fresh:Bool}{t:TypeId}{m k v:AVal}:Q _ (evMu E fresh t m k v):=by
 unfold evMu
 split
 ·refine C.bind C.rdMps? fun d=>?_
  split
  ·exact S0a C
  ·exact V0a C
 ·exact V0a C
theorem W0i(C:Cl Q){t:TypeId}{r:Option AVal}:Q _ (J0K E t r):=by
 unfold J0K
 split
 ·exact Q0Q C
 ·refine C.bind (C.opt _) fun ti=>?_
  split
  ·exact C.req (C.bind C.alloc fun _=>C.pure _)
  ·exact C.fail
theorem M0Z(C:Cl Q){x:AVal}:Q _ (I0R x):=by
 unfold I0R
 split
 ·exact C.bind C.alloc fun _=>C.pure _
 ·refine C.bind C.rdDat fun d=>?_
  split
  ·exact C.bind C.wrLost fun _=>C.bind C.alloc fun _=>C.pure _
  ·exact C.fail
 ·exact C.fail
theorem c0J(C:Cl Q){t:TypeId}{x:AVal}:Q _ (evRg E t x):=by
 unfold evRg
 split
 ·refine C.bind (C.opt _) fun ti=>?_
  split
  ·exact M0Z C
  ·exact C.fail
 ·refine C.bind C.rdDat? fun d=>?_
  split
  ·exact N0Q C
  ·refine C.bind (C.opt _) fun ti=>?_
   split
   ·exact M0Z C
   ·exact C.fail
 ·exact N0Q C
theorem c0G(C:Cl Q){det:Bool}{it:AVal}:Q _ (evNx det it):=by
 unfold evNx
 split
 ·refine C.req (C.bind C.rdDat? fun d=>?_)
  split
  ·exact Q0v C
  ·unfold L0O
   split
   ·exact C.req (C.ite (C.all fun _=>C.bind C.wrDat fun _=>C.pure _) (C.pure _))
   ·exact C.fail
 ·exact Q0v C
theorem O0n(C:Cl Q){it:AVal}:Q _ (H0T it):=by
 unfold H0T
 repeat' (first
  |exact A0r C|exact A0l C|exact A0s C
  |exact C.pure _|exact C.fail|exact C.opt _|apply C.req|apply C.need|apply C.ite|apply C.sel|apply C.forced|apply C.bind
  |exact C.rdHead|exact C.rdAlive|exact C.rdCells|exact C.rdCell|exact C.rdMap|exact C.rdIter|exact C.rdSiter
  |exact C.wrCells|exact C.wrDead|exact C.wrFrz|exact C.wrAlive|exact C.wrMap|exact C.wrIter|exact C.wrDone|exact C.wrSiter|exact C.alloc
  |assumption
  |intro _|split)
theorem c0r(C:Cl Q){it:AVal}:Q _ (evEn it):=by
 unfold evEn
 split
 ·refine C.req (C.bind C.rdDat? fun d=>?_)
  split
  ·exact O0n C
  ·split
   ·split
    ·exact C.pure _
    ·exact C.fail
   ·exact C.fail
 ·exact O0n C
theorem W0s(C:Cl Q){it:AVal}:Q _ (G0K it):=by
 unfold G0K
 repeat' (first
  |exact A0r C|exact A0l C|exact A0s C
  |exact C.pure _|exact C.fail|exact C.opt _|apply C.req|apply C.need|apply C.ite|apply C.sel|apply C.forced|apply C.bind
  |exact C.rdHead|exact C.rdAlive|exact C.rdCells|exact C.rdCell|exact C.rdMap|exact C.rdIter|exact C.rdSiter
  |exact C.wrCells|exact C.wrDead|exact C.wrFrz|exact C.wrAlive|exact C.wrMap|exact C.wrIter|exact C.wrDone|exact C.wrSiter|exact C.alloc
  |assumption
  |intro _|split)
end
section
variable{E:Env}
theorem U0O(C:Cl Q){f:TypeId→AVal→M AVal}(hf:∀t a,Q _ (f t a)){ats:List TypeId}{as:List AVal}:Q _ (ev1 f ats as):=by
 unfold ev1
 split
 ·split
  ·exact hf _ _
  ·exact C.fail
 ·exact C.fail
theorem c0h(C:Cl Q){f:TypeId→AVal→AVal→M AVal}(hf:∀t a b,Q _ (f t a b)){ats:List TypeId}{as:List AVal}:Q _ (ev2 f ats as):=by
 unfold ev2
 split
 ·split
  ·exact hf _ _ _
  ·exact C.fail
 ·exact C.fail
theorem f0r(C:Cl Q){f:AVal→List AVal→M AVal}(hf:∀a l,Q _ (f a l)){as:List AVal}:Q _ (evL f as):=by
 unfold evL
 split
 ·exact hf _ _
 ·exact C.fail
theorem S0y(C:Cl Q){b:Builtin}{ats:List TypeId}{as:List AVal}:Q _ (J0n b E ats as):=by
 cases b<;>first
  |exact C.fail
  |exact(b0s C)
  |exact U0O C (fun _ _=>(b0E C))
  |exact U0O C (fun _ _=>(Z0Z C))
  |exact c0h C (fun _ _ _=>(d0G C))
  |exact U0O C (fun _ _=>(N0r C))
  |exact c0h C (fun _ _ _=>(K0s C))
  |exact U0O C (fun _ _=>(W0H C))
  |exact f0r C (fun _ _=>(P0y C))
theorem S0H(C:Cl Q){c:Call}{call:C0r}(hc:∀f as,Q _ (call f as)){ρ:Rho}:Q _ (C0J c E call ρ):=by
 unfold C0J
 split
 ·exact(S0y C)
 ·split
  ·exact C.sel (hc _ _) C.fail
  ·exact hc _ _
  ·exact C.fail
 ·exact C.fail
theorem d0X(C:Cl Q){op:Op}{det:Bool}{call:C0r}(hc:∀f as,Q _ (call f as)){ρ:Rho}:Q _ (evOp op E det call ρ):=by
 cases op<;>first
  |exact C.fail
  |exact C.pure _
  |exact(W0v C)
  |exact(N0h C)
  |exact(Q0B C)
  |exact(W0Q C)
  |exact(a0H C)
  |exact(d0O C)
  |exact(R0o C)
  |exact(W0i C)
  |exact(Y0X C)
  |exact(d0k C)
  |exact(X0o C)
  |exact(Z0c C)
  |exact(N0w C)
  |exact(X0f C)
  |exact(d0r C)
  |exact(Z0Q C)
  |exact C.sel (F0m C) (Z0Q C)
  |exact(c0J C)
  |exact(c0r C)
  |exact(S0H C) hc
  |exact C.sel (W0s C) (c0G C)
  |exact C.bind (A0l C) fun _=>C.pure _
  |exact C.bind (C.opt _) fun _=>C.bind (A0l C) fun _=>C.pure _
  |skip
 case pick c a b=>
  show Q _ (M0g c a b E det call ρ)
  unfold M0g
  split<;>first|exact C.pure _|exact C.fail|exact C.ite (C.pure _) (C.pure _)
 case nilCheck x=>
  show Q _ (D0G x E det call ρ)
  unfold D0G
  split<;>first|exact C.pure _|exact C.fail
 case makeInterface t x=>
  show Q _ (H0W t x E det call ρ)
  unfold H0W
  refine C.bind (C.opt _) fun ti=>?_
  split<;>first|exact C.pure _|exact C.fail
 case makeFunc fn a b=>
  show Q _ (U0l fn a b E det call ρ)
  unfold U0l
  split<;>first|exact C.pure _|exact C.fail
 case extract x i=>
  show Q _ (E0F x i E det call ρ)
  unfold E0F
  split<;>first|exact C.opt _|exact C.fail
end
section
variable{E:Env}
theorem U0N(C:Cl Q){T:Tm}{d:Option Nat}{v:AVal}:Q _ (T.put d v):=by
 unfold Tm.put
 split
 ·exact C.pure _
 ·exact C.req (C.pure _)
theorem Z0L(C:Cl Q){ops:List Oper}{d:Option Nat}{v:AVal}:Q _ (O0x ops d v):=by
 unfold O0x
 split
 ·exact C.sel (C.ite (C.pure _) (C.pure _)) (C.pure _)
 ·exact C.pure _
theorem U0B(C:Cl Q){det:Bool}{call:C0r}(hc:∀f as,Q _ (call f as)){ops:List Oper}{d:Option Nat}{op:Op}{ρ:Rho}:Q _ (J0G ops d op E det call ρ):=by
 unfold J0G
 split
 ·exact Z0L C
 ·exact d0X C hc
theorem Q0N(C:Cl Q){det:Bool}{call:C0r}(hc:∀f as,Q _ (call f as)){ops:List Oper}{o:Oper}{T:Tm}:Q _ (D0k E det call ops o T):=by
 unfold D0k
 exact C.bind (C.opt _) fun b=>C.gate (C.bind ((U0B C) hc) fun v=>(U0N C)) (U0N C)
theorem P0O(C:Cl Q){det:Bool}{call:C0r}(hc:∀f as,Q _ (call f as)){ops:List Oper}:∀{l:List Oper}{T:Tm},Q _ (N0o E det call ops l T)
 |[],T=>C.pure _
 |o::l,T=>C.bind ((Q0N C) hc) fun T'=>(P0O C) hc
theorem S0A(C:Cl Q){T:Tm}{r:ResultVar}:Q _ (F0S E T r):=by
 unfold F0S
 split
 ·exact C.pure _
 ·exact(Q0B C)
theorem G0T(C:Cl Q){T:Tm}:∀{l:List ResultVar},Q _ (B0W E T l)
 |[]=>C.pure _
 |r::l=>C.bind (S0A C) fun v=>C.bind (G0T C) fun vs=>C.pure _
end
end
theorem Fr.branch{α:Type}:∀{l:List (M α)},(∀m∈l,Fr m)→Fr (branch l)
 |[],_=>Fr.fail
 |[m],h=>h m (by simp)
 |
  m::m2::l,_=>by
  intro s a s' h
  have h:(none:Option (α×St))=some (a,s'):=h
  cases h
theorem A0x{α:Type}{n:Nat}{k:AObj→St→Res α}(hk:∀o s,(k o s).plain)(s:St):(look n k s).plain:=by
 obtain⟨h,nx,lo,rd,wr⟩:=s
 unfold look
 show(sel (Nat.blt n nx) (match h.get n with |none=>Res.fail []|some o=>k o ⟨h,nx,lo,rd,wr⟩) (Res.fail [])).plain
 cases Nat.blt n nx with
 |false=>trivial
 |
  true=>cases h.get n with
  |none=>trivial
  |some o=>exact hk o _
theorem F0z{α:Type}{b:Bool}{x y:Res α}(h:x.plain)(k:y.plain):(sel b x y).plain:=by cases b<;>assumption
theorem A0D{α:Type}{a:α}{s:St}:(okS a s).plain:=by rw[A0F];trivial
theorem frCl:Cl (fun _ m=>Fr m):=
 {pure:=Fr.pure,fail:=Fr.fail,req:=Fr.req,opt:=Fr.opt,sel:=Fr.sel,ite:=Fr.ite,bind:=Fr.bind,branch:=Fr.branch,
  rdHead:=fr_rdHead.fr (A0x fun o s=>by cases o<;>first|exact A0D|trivial)
  rdAlive:=fr_rdAlive.fr (A0x fun o s=>by cases o<;>first|exact A0D|trivial)
  rdMap:=fr_rdMap.fr (A0x fun o s=>by cases o<;>first|exact A0D|trivial)
  rdIter:=fr_rdIter.fr (A0x fun o s=>by cases o<;>first|exact A0D|trivial)
  rdSiter:=fr_rdSiter.fr (A0x fun o s=>by cases o<;>first|exact A0D|trivial)
  rdArr:=fr_rdArr.fr (A0x fun o s=>by cases o<;>first|exact A0D|trivial)
  wrGone:=fr_wrGone.fr (A0x fun o s=>by cases o<;>first|exact A0D|trivial)
  wrArr:=fr_wrArr.fr (A0x fun o s=>by cases o<;>first|exact A0D|trivial)
  all:=fun{α c p f} _ s a s' h=>by
   have h:(none:Option (α×St))=some (a,s'):=h
   cases h
  rdDat:=fr_rdDat.fr (A0x fun o s=>by cases o<;>first|exact A0D|trivial)
  rdDat?:=fr_rdDat?.fr (A0x fun o s=>by cases o<;>first|exact A0D|trivial)
  wrDat:=fr_wrDat.fr (A0x fun o s=>by cases o<;>first|exact A0D|trivial)
  wrLost:=fr_wrLost.fr (A0x fun o s=>by cases o<;>first|exact A0D|trivial)
  rdMps?:=fr_rdMps?.fr (A0x fun o s=>by cases o<;>first|exact A0D|trivial)
  wrMps:=fr_wrMps.fr (A0x fun o s=>by cases o<;>first|exact A0D|trivial)
  wrDead:=fr_wrDead.fr (A0x fun o s=>by cases o<;>first|exact A0D|trivial)
  wrFrz:=fr_wrFrz.fr (A0x fun o s=>by cases o<;>first|exact A0D|trivial)
  wrAlive:=fr_wrAlive.fr (A0x fun o s=>by cases o<;>first|exact A0D|trivial)
  wrMap:=fr_wrMap.fr (A0x fun o s=>by cases o<;>first|exact A0D|trivial)
  wrIter:=fr_wrIter.fr (A0x fun o s=>by cases o<;>first|exact A0D|trivial)
  wrDone:=fr_wrDone.fr (A0x fun o s=>by cases o<;>first|exact A0D|trivial)
  wrSiter:=fr_wrSiter.fr (A0x fun o s=>by cases o<;>first|exact A0D|trivial)
  rdLoop:=fr_rdLoop.fr (A0x fun o s=>by cases o with |rcd k=>(cases k<;>first|exact A0D|trivial)|_=>trivial)
  wrLoop:=fr_wrLoop.fr (A0x fun o s=>by cases o with |rcd k=>(cases k<;>first|exact A0D|trivial)|_=>trivial)
  wrMark:=fr_wrMark.fr (A0x fun o s=>by cases o with |rcd k=>(cases k<;>first|exact A0D|trivial)|_=>trivial)
  rdCells:=fr_rdCells.fr (A0x fun o s=>by cases o<;>first|exact F0z trivial (F0z A0D trivial)|trivial)
  rdCell:=fr_rdCell.fr (A0x fun o s=>by
   cases o<;>first|trivial|skip
   refine F0z trivial ?_
   split
   ·exact A0D
   ·trivial)
  wrCells:=fr_wrCells.fr (A0x fun o s=>by cases o<;>first|exact F0z trivial (F0z A0D trivial)|trivial)
  alloc:=fr_alloc.fr (fun s=>by obtain⟨h,nx,lo,rd,wr⟩:=s;exact F0z trivial trivial)}
structure Grow(s s':St):Prop where
 nx:s.nx≤s'.nx
 deep:s.h.deep DH→s'.h.deep DH
theorem Grow.refl(s:St):Grow s s:=⟨Nat.le_refl _,id⟩
theorem Grow.trans{a b c:St}(h:Grow a b)(k:Grow b c):Grow a c:=⟨Nat.le_trans h.nx k.nx,fun q=>k.deep (h.deep q)⟩
def Up{α:Type}(m:M α):Prop:=∀s a s',(m s).Has a s'→Grow s s'
theorem G0Z{α:Type}{b:Bool}{x y:Res α}{a:α}{s:St}(h:(sel b x y).Has a s):x.Has a s∨y.Has a s:=by
 cases b with
 |true=>exact .inl h
 |false=>exact .inr h
theorem B0J{α:Type}{s s1:St}(h:Grow s s1){a b:α}{s':St}(g:(okS a s1).Has b s'):Grow s s':=by
 rw[A0F] at g
 obtain⟨_,rfl⟩:=g
 exact h
theorem B0c{α:Type}{n:Nat}{k:AObj→St→Res α}(hk:∀o s b s',(k o s).Has b s'→Grow s s'):Up (look n k):=by
 intro s a s' h
 obtain⟨h0,nx,lo,rd,wr⟩:=s
 unfold look at h
 rcases G0Z h with h|h
 ·cases ho:h0.get n with
  |none=>simp only[ho] at h;exact h.elim
  |some o=>simp only[ho] at h;exact hk o _ _ _ h
 ·exact h.elim
theorem C0B(s:St)(n i k:Nat):Grow s (s.logR n i k):=⟨Nat.le_of_eq (O0w s n i k).2.1.symm,fun q=>by rw[(O0w s n i k).1];exact q⟩
theorem E0c(s:St)(n i k:Nat)(o:AObj):Grow s (s.put n o i k):=⟨Nat.le_of_eq (a0A s n o i k).2.1.symm,fun q=>by rw[(a0A s n o i k).1];exact A0j _ DH _ n q⟩
theorem Up.bind{α β:Type}{m:M α}{f:α→M β}(hm:Up m)(hf:∀a,Up (f a)):Up (M.bind m f):=by
 intro s b s' h
 obtain⟨a,s1,h1,h2⟩:=D0p h
 exact(hm s a s1 h1).trans (hf a s1 b s' h2)
theorem Up.pure{α:Type}(a:α):Up (M.pure a):=by rintro s b s'⟨_,rfl⟩;exact .refl _
theorem Up.fail{α:Type}:Up (M.fail:M α):=by intro s b s' h;exact h.elim
theorem Up.branch{α:Type}:∀{l:List (M α)},(∀m∈l,Up m)→Up (branch l)
 |[],_=>Up.fail
 |[m],h=>h m (by simp)
 |
  m::m2::l,h=>by
  intro s a s' g
  have g:(Res.br (m s) (Go.Ev.branch (m2::l) s)).Has a s':=g
  rcases g with g|g
  ·exact h m (by simp) s a s' g
  ·exact Up.branch (l:=m2::l) (fun q hq=>h q (by simp at hq⊢;exact .inr hq)) s a s' g
theorem a0t{o:Nat→AObj}:Up (alloc o):=by
 intro s a s' h
 obtain⟨h0,nx,lo,rd,wr⟩:=s
 unfold alloc at h
 rcases G0Z h with h|h
 ·obtain⟨_,rfl⟩:=h;exact⟨Nat.le_succ _,fun q=>A0j _ DH _ nx q⟩
 ·exact h.elim
theorem upCl:Cl (fun _ m=>Up m):=
 {pure:=Up.pure,fail:=Up.fail,bind:=Up.bind,branch:=Up.branch,alloc:=a0t,
  req:=fun{α b m} h=>by cases b with |true=>exact h|false=>exact Up.fail
  opt:=fun{α} o=>by cases o with |none=>exact Up.fail|some a=>exact Up.pure a
  sel:=fun{α b m n} h k=>by cases b with |true=>exact h|false=>exact k
  ite:=fun{α b m n} h k=>by cases b with |true=>exact h|false=>exact k
  rdHead:=B0c fun o s b s' h=>by cases o<;>first|exact h.elim|exact B0J (C0B ..) h
  rdAlive:=B0c fun o s b s' h=>by cases o<;>first|exact h.elim|exact B0J (C0B ..) h
  rdCells:=B0c fun o s b s' h=>by
   cases o<;>first|exact h.elim|skip
   rcases G0Z h with h|h
   ·exact h.elim
   ·rcases G0Z h with h|h
    ·exact B0J ((C0B ..).trans (C0B ..)) h
    ·exact h.elim
  rdCell:=B0c fun o s b s' h=>by
   cases o<;>first|exact h.elim|skip
   rcases G0Z h with h|h
   ·exact h.elim
   ·rename_i cs _ _ _ _ _ _
    split at h
    ·exact B0J ((C0B ..).trans (C0B ..)) h
    ·exact h.elim
  rdMap:=B0c fun o s b s' h=>by cases o<;>first|exact h.elim|exact B0J (C0B ..) h
  rdArr:=B0c fun o s b s' h=>by cases o<;>first|exact h.elim|exact B0J (C0B ..) h
  all:=fun{α c p f} hf s a s' h=>by obtain⟨x,_,h⟩:=h;exact hf x s a s' h
  rdDat:=B0c fun o s b s' h=>by cases o<;>first|exact h.elim|exact B0J (C0B ..) h
  rdDat?:=B0c fun o s b s' h=>by cases o<;>first|exact h.elim|exact B0J (C0B ..) h
  wrDat:=B0c fun o s b s' h=>by cases o<;>first|exact h.elim|exact B0J (E0c ..) h
  wrLost:=B0c fun o s b s' h=>by cases o<;>first|exact h.elim|exact B0J (E0c ..) h
  rdMps?:=B0c fun o s b s' h=>by cases o<;>first|exact h.elim|exact B0J (C0B ..) h
  wrMps:=B0c fun o s b s' h=>by cases o<;>first|exact h.elim|exact B0J (E0c ..) h
  wrGone:=B0c fun o s b s' h=>by cases o<;>first|exact h.elim|exact B0J (E0c ..) h
  wrArr:=B0c fun o s b s' h=>by cases o<;>first|exact h.elim|exact B0J ((C0B ..).trans (E0c ..)) h|exact B0J (E0c ..) h
  rdIter:=B0c fun o s b s' h=>by cases o<;>first|exact h.elim|exact B0J (C0B ..) h
  rdSiter:=B0c fun o s b s' h=>by cases o<;>first|exact h.elim|exact B0J (C0B ..) h
  rdLoop:=B0c fun o s b s' h=>by
   cases o with
   |rcd k=>cases k<;>first|exact h.elim|exact B0J (C0B ..) h
   |_=>exact h.elim
  wrCells:=B0c fun o s b s' h=>by
   cases o<;>first|exact h.elim|skip
   rcases G0Z h with h|h
   ·exact h.elim
   ·rcases G0Z h with h|h
    ·exact B0J ((C0B ..).trans (E0c ..)) h
    ·exact h.elim
  wrDead:=B0c fun o s b s' h=>by cases o<;>first|exact h.elim|exact B0J (E0c ..) h
  wrFrz:=B0c fun o s b s' h=>by cases o<;>first|exact h.elim|exact B0J (E0c ..) h
  wrAlive:=B0c fun o s b s' h=>by cases o<;>first|exact h.elim|exact B0J (E0c ..) h
  wrMap:=B0c fun o s b s' h=>by cases o<;>first|exact h.elim|exact B0J (E0c ..) h
  wrIter:=B0c fun o s b s' h=>by cases o<;>first|exact h.elim|exact B0J (E0c ..) h
  wrDone:=B0c fun o s b s' h=>by cases o<;>first|exact h.elim|exact B0J (E0c ..) h
  wrSiter:=B0c fun o s b s' h=>by cases o<;>first|exact h.elim|exact B0J (E0c ..) h
  wrLoop:=B0c fun o s b s' h=>by
   cases o with
   |rcd k=>cases k<;>first|exact h.elim|exact B0J (E0c ..) h
   |_=>exact h.elim
  wrMark:=B0c fun o s b s' h=>by
   cases o with
   |rcd k=>cases k<;>first|exact h.elim|exact B0J (E0c ..) h
   |_=>exact h.elim}
noncomputable def I0a{α:Type}(m:M α):M (α×Nat×Nat×List Rg×List Rg):=fun s=>match s with
 |
  ⟨h,nx,lo,rd,wr⟩=>(m ⟨h,nx,nx,[],[]⟩).onDet fun a s'=>match s' with
  |⟨h',nx',_,rd',wr'⟩=>.ok (a,nx,nx',rd',wr') ⟨h',nx',lo,I0e lo rd'++rd,I0e lo wr'++wr⟩
@[simp] theorem f0R{α β:Type}(a:α)(s:St)(f:α→St→Res β):(Res.ok a s).onDet f=f a s:=rfl
@[simp] theorem f0T{α β:Type}(l r:Res α)(f:α→St→Res β):(Res.br l r).onDet f=.fail []:=rfl
@[simp] theorem Z0y{α β:Type}(b:Bool)(l r:Res α)(f:α→St→Res β):(Res.ite b l r).onDet f=.ite b (l.onDet f) (r.onDet f):=rfl
@[simp] theorem f0f{α β:Type}(c:Univ.C)(p:Univ.S c→Bool)(g:Univ.S c→Res α)(f:α→St→Res β):(Res.each c p g).onDet f=.fail []:=rfl
@[simp] theorem e0d{α β:Type}(w:List Nat)(f:α→St→Res β):(Res.fail w:Res α).onDet f=.fail w:=rfl
theorem J0h{α β:Type}{f:α→St→Res β}{a:α}{s:St}:∀{r:Res α},r.det=some (a,s)→(r.onDet f).det=(f a s).det
 |.ok b t,h=>by cases h;rfl
 |.br _ _,h=>by cases h
 |.ite true l _,h=>J0h (r:=l) h
 |.ite false _ r,h=>J0h (r:=r) h
 |.fail _,h=>by cases h
 |.each _ _ _,h=>by cases h
theorem I0K{α β:Type}{f:α→St→Res β}{q:β×St}:∀{r:Res α},(r.onDet f).det=some q→∃a s,r.det=some (a,s)∧(f a s).det=some q
 |.ok b t,h=>⟨b,t,rfl,h⟩
 |.br _ _,h=>by cases h
 |.ite true l _,h=>I0K (r:=l) h
 |.ite false _ r,h=>I0K (r:=r) h
 |.fail _,h=>by cases h
 |.each _ _ _,h=>by cases h
theorem L0L{α β:Type}{f:α→St→Res β}{b:β}{t:St}:∀{r:Res α},(r.onDet f).Has b t→∃a s,r.det=some (a,s)∧(f a s).Has b t
 |.ok a s,h=>⟨a,s,rfl,h⟩
 |.br _ _,h=>h.elim
 |.ite true l _,h=>L0L (r:=l) h
 |.ite false _ r,h=>L0L (r:=r) h
 |.fail _,h=>h.elim
 |.each _ _ _,h=>h.elim
theorem J0Q{α β:Type}{f:α→St→Res β}:∀{r:Res α},(r.onDet f).Good→∃a s,r.det=some (a,s)∧(f a s).Good
 |.ok a s,h=>⟨a,s,rfl,h⟩
 |.br _ _,h=>h.elim
 |.ite true l _,h=>J0Q (r:=l) h
 |.ite false _ r,h=>J0Q (r:=r) h
 |.fail _,h=>h.elim
 |.each _ _ _,h=>h.elim
theorem J0O{α β γ:Type}{f:α→St→Res β}{g:β→St→Res γ}:∀r:Res α,(r.onDet f).bind g=r.onDet fun a s=>(f a s).bind g
 |.ok a s=>rfl
 |.br _ _=>rfl
 |.ite b l r=>by simp only[Z0y,Z0r,J0O l,J0O r]
 |.fail _=>rfl
 |.each _ _ _=>rfl
theorem S0B{α:Type}(b:Bool)(m:M α)(s:St):M.req b m s=sel b (m s) (.fail []):=by cases b<;>rfl
theorem H0k{E:Env}{call:C0r}{ops:List Oper}{o:Oper}{l:List Oper}{i:Nat}{past:List Past}{T:Tm}:
  D0Z E call ops (o::l) i past T=M.bind (I0a (D0k E true call ops o T)) fun q=>
   M.req (J0E (G0v past (B0D o)) (D0f o q.2.2.2.1 q.2.2.2.2 q.2.1 q.2.2.1) past)
    (D0Z E call ops l (Nat.succ i) (⟨i,G0v past (B0D o),D0f o q.2.2.2.1 q.2.2.2.2 q.2.1 q.2.2.1⟩::past) q.1):=by
 funext s
 obtain⟨h,nx,lo,rd,wr⟩:=s
 show(D0k E true call ops o T ⟨h,nx,nx,[],[]⟩).onDet _=((D0k E true call ops o T ⟨h,nx,nx,[],[]⟩).onDet _).bind _
 refine Eq.trans ?_ (J0O _).symm
 congr 1
 funext T' s'
 obtain⟨h',nx',lo',rd',wr'⟩:=s'
 simp only[a0C,B0F]
 exact(S0B _ _ _).symm
theorem cov_outer{lo:Nat}{l:List Rg}{n p:Nat}:Cov (I0e lo l) n p↔n<lo∧Cov l n p:=by
 unfold Cov I0e
 constructor
 ·rintro⟨r,h,k⟩
  rw[List.mem_filter,Nat.blt_eq] at h
  exact⟨by rw[←k.1];exact h.2,r,h.1,k⟩
 ·rintro⟨hn,r,h,k⟩
  exact⟨r,by rw[List.mem_filter,Nat.blt_eq];exact⟨h,by rw[k.1];exact hn⟩,k⟩
theorem U0R{lo:Nat}{l m:List Rg}:∀r∈I0e lo l++I0e lo m,r.n<lo:=by
 intro r h
 rw[List.mem_append] at h
 unfold I0e at h
 rcases h with h|h<;>(rw[List.mem_filter,Nat.blt_eq] at h;exact h.2)
theorem V0Y{α:Type}{m:M α}(hm:Fr m):Fr (I0a m):=by
 intro s q s' h ok
 obtain⟨h0,nx,lo,rd,wr⟩:=s
 obtain⟨a,t,hr,h⟩:=I0K h
 ·obtain⟨h1,nx1,lo1,rd1,wr1⟩:=t
  have h:some (_,_)=some (q,s'):=h
  cases h
  have okT:Ok (⟨h0,nx,nx,[],[]⟩:St):=⟨Nat.le_refl _,ok.deep,ok.le⟩
  obtain⟨dr,dw,ok1,L,T,S⟩:=hm _ _ _ hr okT
  have e1:rd1=dr:=by have :=L.rd;simpa using this
  have e2:wr1=dw:=by have :=L.wr;simpa using this
  subst e1;subst e2
  have hlo:lo≤nx:=ok.lo
  have hn:nx≤nx1:=T.nx
  refine⟨I0e lo rd1,I0e lo wr1,⟨Nat.le_trans hlo hn,ok1.deep,ok1.le⟩,⟨rfl,rfl,U0R⟩,⟨rfl,hn,ok1.deep,T.far,fun n p h3 h4=>?_⟩,fun s2 hs=>?_⟩
  ·have h3:n<lo:=h3
   exact T.keep n p (Nat.lt_of_lt_of_le h3 hlo) fun q=>h4 (cov_outer.2 ⟨h3,q⟩)
  ·obtain⟨h2,nx2,lo2,rd2,wr2⟩:=s2
   have e1:nx2=nx:=hs.nx
   have e2:lo2=lo:=hs.lo
   subst e1;subst e2
   have own:∀n,lo2≤n→n<nx2→h2.get n=h0.get n:=hs.own
   have at':∀n p,n<lo2→Cov (I0e lo2 rd1++I0e lo2 wr1) n p→Agree p (h0.get n) (h2.get n):=hs.at'
   have sim:Sim (rd1++wr1) (⟨h0,nx2,nx2,[],[]⟩:St) ⟨h2,nx2,nx2,[],[]⟩:=by
    refine⟨rfl,rfl,hs.deep,fun n a b=>?_,fun n p h3 h4=>?_⟩
    ·have a:nx2≤n:=a
     have b:n<nx2:=b
     omega
    ·have h3:n<nx2:=h3
     show Agree p (h0.get n) (h2.get n)
     rcases Nat.lt_or_ge n lo2 with c|c
     ·refine at' n p c ?_
      rw[Cov.append] at h4⊢
      rcases h4 with h4|h4
      ·exact .inl (cov_outer.2 ⟨c,h4⟩)
      ·exact .inr (cov_outer.2 ⟨c,h4⟩)
     ·rw[own n c h3];exact .refl p _
   obtain⟨t2,e,A⟩:=S _ sim
   obtain⟨h3,nx3,lo3,rd3,wr3⟩:=t2
   have e3:rd3=rd1:=by have :=A.logs.rd;simpa using this
   have e4:wr3=wr1:=by have :=A.logs.wr;simpa using this
   have e5:nx3=nx1:=A.nx
   subst e3;subst e4;subst e5
   have keep2:∀n p,n<nx2→¬Cov wr3 n p→Agree p (h2.get n) (h3.get n):=A.touch.keep
   have keep0:∀n p,n<nx2→¬Cov wr3 n p→Agree p (h0.get n) (h1.get n):=T.keep
   have wrote:∀n p,n<nx2→Cov wr3 n p→Agree p (h1.get n) (h3.get n):=A.wrote
   refine⟨⟨h3,nx3,lo2,I0e lo2 rd3++rd2,I0e lo2 wr3++wr2⟩,(J0h e).trans rfl,rfl,⟨rfl,rfl,U0R⟩,⟨rfl,hn,A.touch.deep,A.touch.far,fun n p a b=>?_⟩,fun n a b=>?_,fun n p a b=>?_⟩
   ·have a:n<lo2:=a
    exact keep2 n p (Nat.lt_of_lt_of_le a hlo) fun q=>b (cov_outer.2 ⟨a,q⟩)
   ·have a:lo2≤n:=a
    have b:n<nx3:=b
    rcases Nat.lt_or_ge n nx2 with c|c
    ·refine Agree.all fun p=>?_
     by_cases d:Cov wr3 n p
     ·exact(wrote n p c d).symm
     ·have k1:=keep2 n p c d
      rw[own n a c] at k1
      exact k1.symm.trans (keep0 n p c d)
    ·exact A.own n c b
   ·have a:n<lo2:=a
    exact wrote n p (Nat.lt_of_lt_of_le a hlo) (cov_outer.1 b).2
theorem O0z{α:Type}{m:M α}(hm:Up m):Up (I0a m):=by
 intro s q s' h
 obtain⟨h0,nx,lo,rd,wr⟩:=s
 obtain⟨a,t,hr,h⟩:=L0L h
 obtain⟨h1,nx1,lo1,rd1,wr1⟩:=t
 obtain⟨_,rfl⟩:=h
 have :=hm ⟨h0,nx,nx,[],[]⟩ a ⟨h1,nx1,lo1,rd1,wr1⟩ (D0y hr).2
 exact⟨this.nx,this.deep⟩
section
variable{Q:∀α:Type,M α→Prop}{E:Env}
theorem K0n(C:Cl Q)(hs:∀{α:Type}{m:M α},Q _ m→Q _ (I0a m)){call:C0r}(hc:∀f as,Q _ (call f as)){ops:List Oper}:
  ∀{l:List Oper}{i:Nat}{past:List Past}{T:Tm},Q _ (D0Z E call ops l i past T)
 |[],i,past,T=>C.pure _
 |
  o::l,i,past,T=>by
  rw[H0k]
  exact C.bind (hs (Q0N C hc)) fun q=>C.req (K0n C hs hc)
theorem G0p(C:Cl Q):∀{l:List Nat},Q _ (B0z l)
 |[]=>C.pure _
 |_::_=>C.bind C.wrMark fun _=>G0p C
theorem Q0j(C:Cl Q):∀{ps:List Nat}{vs:List AVal}{T:Tm},Q _ (L0x ps vs T)
 |[],[],_=>C.pure _
 |[],_::_,_=>C.fail
 |_::_,[],_=>C.fail
 |_::_,_::_,_=>C.bind (U0N C) fun _=>Q0j C
theorem d0t(C:Cl Q){x y:AVal}:Q _ (cmpA x y):=by
 have h:∀x y,Q _ (M0z x y):=fun x y=>C.bind (C.opt _) fun _=>C.bind (C.opt _) fun _=>C.pure _
 unfold cmpA
 split
 ·split
  ·exact C.pure _
  ·exact h _ _
 ·exact h _ _
theorem a0D(C:Cl Q){fn:AFn}{code:Code→Tm→M (AExit×Tm)}(hc:∀c T,Q _ (code c T)){args:List AVal}:Q _ (H0S fn E code args):=by
 unfold H0S
 split
 ·refine C.req (C.bind (hc _ _) fun r=>?_)
  split
  ·exact C.fail
  ·exact C.bind (G0p C) fun _=>C.bind (G0T C) fun _=>C.pure _
 ·split
  ·exact d0t C
  ·exact C.fail
 ·split<;>first|exact C.pure _|exact C.fail
theorem W0U(C:Cl Q){d:M0W}{code:Code→Tm→M (AExit×Tm)}(hc:∀c T,Q _ (code c T)){args:List AVal}:Q _ (I0o d code args):=by
 unfold I0o
 exact C.bind C.rdLoop fun _=>C.bind (Q0j C) fun T=>C.bind (hc _ _) fun r=>C.req<|C.bind C.rdLoop fun l=>C.req<|C.bind C.wrLoop fun _=>
  C.bind (hc _ _) fun q=>C.bind C.rdLoop fun _=>C.bind C.wrLoop fun _=>C.pure _
theorem F0V(C:Cl Q){code:Code→Tm→M (AExit×Tm)}(hc:∀c T,Q _ (code c T)){f:FuncId}{args:List AVal}:Q _ (evFn E code f args):=by
 unfold evFn
 refine C.sel ?_ (C.bind (C.opt _) fun _=>W0U C hc)
 split
 ·exact J0A C _
 ·exact C.bind (C.opt _) fun _=>a0D C hc
theorem Y0b(C:Cl Q)(hs:∀{α:Type}{m:M α},Q _ m→Q _ (I0a m)){ih:IH}{det:Bool}(hi:∀E c T,Q _ (ih E det c T))(ht:∀E c T,Q _ (ih E true c T))
  (hc:∀E f as,Q _ (F0b E ih det f as)) (hg:det=false→∀p:B0s,∀T,Q _ (p.run T)) {c:Code} {T:Tm}:Q _ (c0f c E ih det T):=by
 cases c<;>first
  |exact C.fail
  |exact C.pure _
  |skip
 case region id ops draw=>exact C.sel (C.bind (K0n C hs fun f as=>F0V C (ht _)) fun _=>C.pure _) (C.bind (P0O C (hc _)) fun _=>C.pure _)
 case seq a b=>
  refine C.bind (hi _ _ _) fun r=>?_
  split
  ·exact hi _ _ _
  ·exact C.pure _
 case cond x a b=>
  show Q _ (N0n x a b E ih det T)
  unfold N0n
  split
  ·exact C.sel (hi _ _ _) (hi _ _ _)
  ·exact C.ite (hi _ _ _) (hi _ _ _)
  ·exact C.fail
 case goto n=>
  show Q _ (R0V n E ih det T)
  unfold R0V
  cases det with
  |true=>exact C.fail
  |
   false=>
   rw[A0f]
   split
   ·exact hg rfl _ _
   ·exact C.fail
 case block id a=>
  refine C.bind (hi _ _ _) fun r=>?_
  split
  ·exact C.sel (C.pure _) (C.pure _)
  ·exact C.pure _
 case loop a=>
  refine C.bind (hi _ _ _) fun r=>?_
  split
  ·exact hi _ _ _
  ·exact C.pure _
 case rangeFunc g ps a b=>
  show Q _ (C0P g ps a b E ih det T)
  unfold C0P J0I
  split
  ·refine C.req (C.bind ?_ fun mk=>C.bind C.alloc fun n=>C.bind (hc _ _ _) fun _=>C.bind C.rdLoop fun l=>C.req (C.bind C.wrLoop fun _=>C.pure _))
   split
   ·exact C.bind C.alloc fun _=>C.pure _
   ·exact C.bind C.rdLoop fun _=>C.pure _
  ·exact C.fail
end
theorem P0c:∀(n:Nat)(E:Env)(c:Code)(T:Tm),Fr (A0v n E true c T)
 |0,_,_,_=>Fr.fail
 |n+1,E,c,T=>Y0b frCl V0Y (P0c n) (P0c n) (fun E f as=>F0V (E:=E) frCl (P0c n E)) (fun h=>by cases h)
theorem E0I:∀(d:Nat)(a b:Tr AObj),a.deep d→b.deep d→(Tr.common a b).deep d
 |0,.nil,.nil,_,_=>trivial
 |0,.nil,.leaf _,_,_=>trivial
 |0,.leaf _,.nil,_,_=>trivial
 |
  0,.leaf x,.leaf y,_,_=>by
  unfold Tr.common
  cases AObj.same x y<;>exact trivial
 |0,.node _ _,_,h,_=>h.elim
 |0,.nil,.node _ _,_,h=>h.elim
 |0,.leaf _,.node _ _,_,h=>h.elim
 |d+1,.nil,_,h,_=>h.elim
 |d+1,.leaf _,_,h,_=>h.elim
 |d+1,.node _ _,.nil,_,h=>h.elim
 |d+1,.node _ _,.leaf _,_,h=>h.elim
 |d+1,.node l r,.node l' r',h,k=>⟨E0I d l l' h.1 k.1,E0I d r r' h.2 k.2⟩
theorem B0R:∀{r:Res AVal}{s0:St},(∀a s,r.Has a s→Grow s0 s)→∀a s,(B0E r).Has a s→Grow s0 s
 |.ok b t,s0,hg,a,s,h=>hg a s h
 |.fail _,_,_,_,_,h=>h.elim
 |.each _ _ _,s0,hg,a,s,h=>hg a s h
 |.ite true l _,s0,hg,a,s,h=>B0R (r:=l) hg a s h
 |.ite false _ r,s0,hg,a,s,h=>B0R (r:=r) hg a s h
 |
  .br l r,s0,hg,a,s,h=>by
  have hl:=B0R (r:=l) (s0:=s0) (fun a s q=>hg a s (.inl q))
  have hr:=B0R (r:=r) (s0:=s0) (fun a s q=>hg a s (.inr q))
  have other:(Res.br (B0E l) (B0E r)).Has a s→Grow s0 s:=by
   rintro(h|h)
   ·exact hl _ _ h
   ·exact hr _ _ h
  unfold B0E at h
  split at h
  ·rename_i b t b' t' e1 e2
   rcases G0Z h with h|h
   ·obtain⟨_,rfl⟩:=h
    have g1:=hl b t (by rw[e1];exact⟨rfl,rfl⟩)
    have g2:=hr b' t' (by rw[e2];exact⟨rfl,rfl⟩)
    exact⟨g1.nx,fun q=>E0I DH _ _ (g1.deep q) (g2.deep q)⟩
   ·exact other (by rw[e1,e2];exact h)
  ·exact other h
theorem P0K{E:Env}{code:Code→Tm→M (AExit×Tm)}(hc:∀c T,Up (code c T)){f:FuncId}{args:List AVal}:Up (W0y E code f args):=by
 intro s a s' h
 have hu:=F0V (E:=E) upCl hc (f:=f) (args:=args) s
 unfold W0y at h
 cases hr:evFn E code f args s with
 |ok b t=>rw[hr] at h;exact hu a s' (by rw[hr];exact h)
 |each _ _ _=>rw[hr] at h;exact hu a s' (by rw[hr];exact h)
 |fail w=>rw[hr] at h;exact h.elim
 |
  br l r=>
  rw[hr] at h
  exact B0R (fun a s q=>hu a s (by rw[hr];exact q)) a s' h
 |
  ite b l r=>
  rw[hr] at h
  exact B0R (fun a s q=>hu a s (by rw[hr];exact q)) a s' h
theorem D0E:∀(n:Nat)(E:Env)(det:Bool)(c:Code)(T:Tm),Up (A0v n E det c T)
 |0,_,_,_,_=>Up.fail
 |n
   +1,E,det,c,T=>Y0b upCl O0z (fun E=>D0E n E det) (fun E=>D0E n E true) (fun E f as=>by
   unfold F0b
   cases det with
   |true=>exact F0V (E:=E) upCl (D0E n E true)
   |false=>exact P0K (D0E n E false)) (fun _ p T s q t h=>let⟨a,b⟩:=p.up T s q t h;⟨a,b⟩)
theorem R0I{α:Type}:∀(d:Nat)(t u:Tr α),t.deep d→u.deep d→(∀n,n<2^d→t.get n=u.get n)→t=u
  |0,.nil,.nil,_,_,_=>rfl
  |0,.leaf a,.leaf b,_,_,h=>by have :=h 0 (by simp);simp at this;rw[this]
  |0,.nil,.leaf b,_,_,h=>by have :=h 0 (by simp);simp at this
  |0,.leaf a,.nil,_,_,h=>by have :=h 0 (by simp);simp at this
  |0,.node _ _,_,h,_,_=>h.elim
  |0,.nil,.node _ _,_,h,_=>h.elim
  |0,.leaf _,.node _ _,_,h,_=>h.elim
  |d+1,.nil,_,h,_,_=>h.elim
  |d+1,.leaf _,_,h,_,_=>h.elim
  |d+1,.node _ _,.nil,_,h,_=>h.elim
  |d+1,.node _ _,.leaf _,_,h,_=>h.elim
  |
    d+1,.node l r,.node l' r',h,k,e=>by
    have el:l=l':=R0I d l l' h.1 k.1 fun n hn=>by
      have :=e (2*n) (by rw[Nat.pow_succ];omega)
      rw[B0d,B0d,if_pos (by omega),if_pos (by omega)] at this
      rwa[show 2*n/2=n by omega] at this
    have er:r=r':=R0I d r r' h.2 k.2 fun n hn=>by
      have :=e (2*n+1) (by rw[Nat.pow_succ];omega)
      rw[B0d,B0d,if_neg (by omega),if_neg (by omega)] at this
      rwa[show(2*n+1)/2=n by omega] at this
    rw[el,er]
noncomputable def Tm.upd(T:Tm)(dst:Option Nat)(v:AVal):Tm:=match dst with
  |none=>T
  |some d=>⟨T.t.set d v,T.n,T.mks,T.rnd⟩
def N0k(n:Nat)(dst:Option Nat):Prop:=∀d,dst=some d→d<n
structure Tm.Fine(T:Tm):Prop where
  deep:T.t.deep DT
  le:T.n≤LT
theorem X0E{T:Tm}{dst:Option Nat}{v:AVal}{s:St}:(T.put dst v s).plain:=by
  obtain⟨t,n,ms,rnd⟩:=T
  cases dst with
  |none=>trivial
  |
    some d=>
    show(M.req (Nat.blt d n) (M.pure (⟨t.set d v,n,ms,rnd⟩:Tm)) s).plain
    unfold M.req
    cases Nat.blt d n<;>trivial
theorem e0F{T:Tm}{dst:Option Nat}{v:AVal}{s s':St}{T':Tm}(h:(T.put dst v s).det=some (T',s')):T'=T.upd dst v∧s'=s∧N0k T.n dst:=by
  have h:=M0o X0E h
  obtain⟨t,n,ms,rnd⟩:=T
  cases dst with
  |none=>cases h;exact⟨rfl,rfl,by intro d e;cases e⟩
  |
    some d=>
    change M.req (Nat.blt d n) (M.pure (⟨t.set d v,n,ms,rnd⟩:Tm)) s=_ at h
    unfold M.req at h
    cases hb:Nat.blt d n with
    |false=>rw[hb] at h;cases h
    |
      true=>
      rw[hb] at h
      cases h
      exact⟨rfl,rfl,by intro e he;cases he;exact by simpa [Nat.blt_eq] using hb⟩
theorem d0c{T:Tm}{dst:Option Nat}{v:AVal}{s:St}(h:N0k T.n dst):T.put dst v s=.ok (T.upd dst v) s:=by
  obtain⟨t,n,ms,rnd⟩:=T
  cases dst with
  |none=>rfl
  |
    some d=>
    show M.req (Nat.blt d n) (M.pure (⟨t.set d v,n,ms,rnd⟩:Tm)) s=_
    have :Nat.blt d n=true:=by simpa [Nat.blt_eq] using h d rfl
    rw[this];rfl
theorem X0P(T:Tm)(dst:Option Nat)(v:AVal):(T.upd dst v).n=T.n:=by cases dst<;>rfl
theorem V0g{T:Tm}(h:T.Fine)(dst:Option Nat)(v:AVal):(T.upd dst v).Fine:=by
  cases dst with
  |none=>exact h
  |some d=>exact⟨A0j _ DT _ d h.deep,h.le⟩
theorem U0K{T:Tm}(h:T.Fine){dst:Option Nat}(hs:N0k T.n dst){v:AVal}{i:Nat}(hi:dst≠some i):getT (T.upd dst v).t i=getT T.t i:=by
  cases dst with
  |none=>rfl
  |
    some d=>
    unfold getT
    cases hb:Nat.blt i LT with
    |false=>rfl
    |
      true=>
      rw[A0e,A0e]
      have hil:i<LT:=by simpa [Nat.blt_eq] using hb
      have hdl:d<LT:=Nat.lt_of_lt_of_le (hs d rfl) h.le
      show(match(T.t.set d v).get i with |some v=>v|none=>AVal.undef)=_
      rw[A0y v DT T.t d i h.deep hdl hil,if_neg (fun e=>hi (by rw[e]))]
      rfl
theorem V0o{T:Tm}(h:T.Fine){x y:Option Nat}(hx:N0k T.n x)(hy:N0k T.n y)(v u:AVal)(hne:∀d,x=some d→y≠some d):(T.upd x v).upd y u=(T.upd y u).upd x v:=by
  cases x with
  |none=>cases y<;>rfl
  |
    some d=>
    cases y with
    |none=>rfl
    |
      some e=>
      have ne:d≠e:=fun q=>hne d rfl (by rw[q])
      have hd:d<LT:=Nat.lt_of_lt_of_le (hx d rfl) h.le
      have he:e<LT:=Nat.lt_of_lt_of_le (hy e rfl) h.le
      have :(T.t.set d v).set e u=(T.t.set e u).set d v:=by
        refine R0I DT _ _ (A0j _ DT _ e (A0j _ DT _ d h.deep)) (A0j _ DT _ d (A0j _ DT _ e h.deep)) fun n hn=>?_
        rw[A0y u DT _ e n (A0j _ DT _ d h.deep) he hn,A0y v DT _ d n h.deep hd hn,A0y v DT _ d n (A0j _ DT _ e h.deep) hd hn,A0y u DT _ e n h.deep he hn]
        by_cases c1:n=e
        · rw[if_pos c1,if_neg (by omega),if_pos c1]
        · rw[if_neg c1,if_neg c1]
      show(⟨(T.t.set d v).set e u,T.n,T.mks,T.rnd⟩:Tm)=⟨(T.t.set e u).set d v,T.n,T.mks,T.rnd⟩
      rw[this]
noncomputable def I0C(E:Env)(call:C0r)(ops:List Oper)(o:Oper)(T:Tm):M AVal:=
  M.bind (M.opt (F0s ops T o.guard)) fun q=>M.gate q.sym q.b (J0G ops o.dst o.op E true call T.rho) (M.pure .undef)
theorem Q0J(E:Env)(call:C0r)(ops:List Oper)(o:Oper)(T:Tm):D0k E true call ops o T=M.bind (I0C E call ops o T) fun v=>T.put o.dst v:=by
  obtain⟨dst,op,ty,pos,after,guard⟩:=o
  funext s
  unfold D0k I0C M.bind
  simp only[]
  cases hw:F0s ops T guard with
  |none=>rfl
  |
    some q=>
    obtain⟨c,b⟩:=q
    cases c<;>cases b<;>rfl
theorem V0W{E:Env}{det:Bool}{call:C0r}{ρ ρ':Rho}(op:Op)(h:∀x∈op.operands.toList,ρ x=ρ' x):evOp op E det call ρ=evOp op E det call ρ':=by
  have pairs:∀ps:Array (Nat×Operand),(∀p∈ps.toList,ρ p.2=ρ' p.2)→map1 (fun p=>(p.1,ρ p.2)) ps.toList=map1 (fun p=>(p.1,ρ' p.2)) ps.toList:=by
    intro ps hp
    rw[C0m,C0m]
    exact List.map_congr_left fun p hm=>by rw[hp p hm]
  have many:∀l:List Operand,(∀x∈l,ρ x=ρ' x)→map1 ρ l=map1 ρ' l:=by
    intro l hl
    rw[C0m,C0m]
    exact List.map_congr_left hl
  cases op<;>simp only[Op.operands] at h<;>first
    |rfl
    |(
       simp only[evOp,Z0o,M0g,e0g,b0Y,a0c,D0G,e0p,opUn,R0v,H0W,N0f,L0D,a0a,M0B,X0R,U0P,U0s,U0Y,a0d,c0g,Z0K,E0F]
       simp at h
       simp only[h]
       done)
    |skip
  case build t ps=>
    simp only[evOp,Z0i]
    rw[pairs ps fun p hp=>h p.2 (by simp;exact⟨p.1,by simpa using hp⟩)]
  case buildSlice t n ps=>
    simp only[evOp,K0D]
    rw[pairs ps fun p hp=>h p.2 (by simp;exact⟨p.1,by simpa using hp⟩)]
  case makeFunc fn a b=>
    simp only[evOp,U0l]
    rw[many a.toList fun x hx=>h x (by simp at hx⊢;exact .inl hx),many b.toList fun x hx=>h x (by simp at hx⊢;exact .inr hx)]
  case makeMap t r=>
    simp only[evOp,R0k]
    cases r with
    |none=>rfl
    |some x=>simp at h;simp only[Option.map_some,h]
  case slice t x lo hi mx=>
    simp only[evOp,Y0W]
    have e:∀o:Option Operand,(∀y,o=some y→ρ y=ρ' y)→o.map ρ=o.map ρ':=by
      intro o ho
      cases o with
      |none=>rfl
      |some y=>simp[ho y rfl]
    rw[h x (by simp),e lo fun y hy=>h y (by simp[hy]),e hi fun y hy=>h y (by simp[hy]),e mx fun y hy=>h y (by simp[hy])]
  case call c=>
    simp only[evOp,c0a,C0J]
    have ha:map1 ρ c.args.toList=map1 ρ' c.args.toList:=many _ fun x hx=>h x (by simp[Call.operands] at hx⊢;exact .inr hx)
    cases hc:c.callee with
    |builtin b=>simp only[ha]
    |invoke r m=>rfl
    |
      value f=>
      have hf:ρ f=ρ' f:=h f (by simp[Call.operands,hc])
      simp only[ha,hf]
theorem S0S{E:Env}{det:Bool}{call:C0r}{ρ ρ':Rho}{ops:List Oper}{d:Option Nat}(op:Op)(h:∀x∈op.operands.toList,ρ x=ρ' x):J0G ops d op E det call ρ=J0G ops d op E det call ρ':=by
  unfold J0G
  split
  · rename_i x
    have :ρ x=ρ' x:=h x (by simp[Op.operands])
    simp only[this]
  · exact V0W op h
theorem mem_tmpsOf{l:List Operand}{d:Nat}:d∈N0l l↔Operand.tmp d∈l:=by
  unfold N0l
  rw[List.mem_filterMap]
  constructor
  · rintro⟨x,hx,e⟩
    cases x<;>simp at e
    subst e;exact hx
  · intro h;exact⟨_,h,rfl⟩
theorem I0X{E:Env}{call:C0r}{ops:List Oper}{o:Oper}{T:Tm}(h:T.Fine){dst:Option Nat}(hs:N0k T.n dst){v:AVal}(hl:∀d,dst=some d→d∉F0t ops o):
    I0C E call ops o (T.upd dst v)=I0C E call ops o T:=by
  have tm:∀d∈N0l o.op.operands.toList,dst≠some d:=by
    intro d hd e
    refine hl d e ?_
    unfold F0t
    split
    · exact hd
    · split
      · exact hd
      · split
        · exact hd
        · exact List.mem_cons_of_mem _ hd
  have hw:F0s ops (T.upd dst v) o.guard=F0s ops T o.guard:=by
    unfold F0s
    cases hg:o.guard with
    |none=>rfl
    |
      some q=>
      simp only[]
      cases hp:nth ops q.1 with
      |none=>rfl
      |
        some p=>
        simp only[]
        cases hd:p.dst with
        |none=>rfl
        |
          some d=>
          simp only[]
          have :dst≠some d:=fun e=>hl d e (by unfold F0t;rw[hg];simp only[hp,hd];exact List.mem_cons_self ..)
          have g:=U0K (v:=v) h hs this
          show Q0T (getT (T.upd dst v).t d) q.2=Q0T (getT T.t d) q.2
          rw[g]
  have hr:J0G ops o.dst o.op E true call (T.upd dst v).rho=J0G ops o.dst o.op E true call T.rho:=by
    refine S0S o.op fun x hx=>?_
    cases x with
    |
      tmp i=>
      show getT (T.upd dst v).t i=getT T.t i
      exact U0K h hs (tm i (mem_tmpsOf.2 hx))
    |const c=>rfl
    |global g=>rfl
    |func f=>rfl
  unfold I0C
  rw[hw,hr]
structure It where
 i:Nat
 o:Oper
 nx:Nat
 nx':Nat
 rd:List Rg
 wr:List Rg
section
variable{E:Env}{call:C0r}{ops:List Oper}
theorem U0U(hc:∀f as,Fr (call f as)){o:Oper}{T:Tm}:Fr (I0C E call ops o T):=
 Fr.bind (Fr.opt _) fun _=>frCl.gate (U0B frCl hc) (Fr.pure _)
def DoesV(E:Env)(call:C0r)(ops:List Oper)(x:It)(T:Tm)(h:Tr AObj)(v:AVal)(h':Tr AObj):Prop:=
 (I0C E call ops x.o T ⟨h,x.nx,x.nx,[],[]⟩).det=some (v,⟨h',x.nx',x.nx,x.rd,x.wr⟩)
def Does(E:Env)(call:C0r)(ops:List Oper)(x:It)(T:Tm)(h:Tr AObj)(T':Tm)(h':Tr AObj):Prop:=
 ∃v,DoesV E call ops x T h v h'∧N0k T.n x.o.dst∧T'=T.upd x.o.dst v
structure Feet(x:It)(h h':Tr AObj):Prop where
 le:x.nx≤x.nx'
 le':x.nx'≤LH
 deep:h'.deep DH
 lo:∀r∈x.rd++x.wr,r.n<x.nx
 far:∀n,x.nx'≤n→n<LH→h'.get n=h.get n
 keep:∀n p,n<x.nx→¬Cov x.wr n p→Agree p (h.get n) (h'.get n)
theorem DoesV.feet(hc:∀f as,Fr (call f as)){x:It}{T:Tm}{h h':Tr AObj}{v:AVal}(hd:h.deep DH)(hn:x.nx≤LH)(D:DoesV E call ops x T h v h'):
  Feet x h h'∧∀h2:Tr AObj,h2.deep DH→(∀n p,n<x.nx→Cov (x.rd++x.wr) n p→Agree p (h.get n) (h2.get n))→
   ∃h2',DoesV E call ops x T h2 v h2'∧Feet x h2 h2'∧(∀n,x.nx≤n→n<x.nx'→h2'.get n=h'.get n)∧(∀n p,n<x.nx→Cov x.wr n p→Agree p (h'.get n) (h2'.get n)):=by
 obtain⟨i,o,nx,nx',rd,wr⟩:=x
 obtain⟨dr,dw,ok1,L,To,S⟩:=U0U hc _ _ _ D ⟨Nat.le_refl _,hd,hn⟩
 have e1:rd=dr:=by have :=L.rd;simpa using this
 have e2:wr=dw:=by have :=L.wr;simpa using this
 subst e1;subst e2
 refine⟨⟨To.nx,ok1.le,ok1.deep,L.lo,To.far,To.keep⟩,fun h2 hd2 ha=>?_⟩
 obtain⟨s2',e,A⟩:=S ⟨h2,nx,nx,[],[]⟩ ⟨rfl,rfl,hd2,fun n a b=>by have a:nx≤n:=a;have b:n<nx:=b;omega,ha⟩
 obtain⟨h3,nx3,lo3,rd3,wr3⟩:=s2'
 have e3:rd3=rd:=by have :=A.logs.rd;simpa using this
 have e4:wr3=wr:=by have :=A.logs.wr;simpa using this
 have e5:nx3=nx':=A.nx
 have e6:lo3=nx:=A.touch.lo
 subst e3;subst e4;subst e5;subst e6
 exact⟨h3,e,⟨A.touch.nx,ok1.le,A.touch.deep,L.lo,A.touch.far,A.touch.keep⟩,A.own,A.wrote⟩
structure Z0q(a b:It):Prop where
 own:∀n p,a.nx≤n→n<a.nx'→¬Cov (b.rd++b.wr) n p
 ww:∀n p,Cov a.wr n p→¬Cov b.wr n p
 wr:∀n p,Cov a.wr n p→¬Cov b.rd n p
 rw :∀n p,Cov b.wr n p→¬Cov a.rd n p
structure F0N(ops:List Oper)(a b:Oper):Prop where
 ab:∀d,a.dst=some d→d∉F0t ops b
 dd:∀d,a.dst=some d→b.dst≠some d
 ba:∀d,b.dst=some d→d∉F0t ops a
theorem swap(hc:∀f as,Fr (call f as)){a b:It}{T T1 T2:Tm}{h h1 h2:Tr AObj}(D1:Does E call ops a T h T1 h1)(D2:Does E call ops b T1 h1 T2 h2)(hT:T.Fine)(hd:h.deep DH)
  (ha:a.nx≤LH) (ord:a.nx'≤b.nx) (hb:b.nx≤LH) (ap:Z0q a b) (sl:F0N ops a.o b.o):∃T1' h1',Does E call ops b T h T1' h1'∧Does E call ops a T1' h1' T2 h2:=by
 obtain⟨v1,d1,s1,rfl⟩:=D1
 obtain⟨v2,d2,s2,rfl⟩:=D2
 obtain⟨F1,again1⟩:=d1.feet hc hd ha
 have d2':DoesV E call ops b T h1 v2 h2:=by unfold DoesV at d2⊢;rw[I0X hT s1 sl.ab] at d2;exact d2
 obtain⟨F2,again2⟩:=d2'.feet hc F1.deep hb
 rw[X0P] at s2
 have cov1:∀n p,Cov a.wr n p→n<a.nx:=by
  rintro n p⟨r,hr,hk⟩
  have :=F1.lo r (List.mem_append_right _ hr)
  rw[←hk.1];exact this
 obtain⟨h1',e2,G2,own2,wrote2⟩:=again2 h hd (by
  intro n p hn hcv
  have hnL:n<LH:=Nat.lt_of_lt_of_le hn hb
  rcases Nat.lt_or_ge n a.nx with q|q
  ·refine(F1.keep n p q fun c=>?_).symm
   rw[Cov.append] at hcv
   rcases hcv with k|k
   ·exact ap.wr n p c k
   ·exact ap.ww n p c k
  ·rcases Nat.lt_or_ge n a.nx' with q'|q'
   ·exact(ap.own n p q q' hcv).elim
   ·rw[F1.far n q' hnL];exact .refl p _)
 obtain⟨h2',e1,G1,own1,wrote1⟩:=again1 h1' G2.deep (by
  intro n p hn hcv
  refine G2.keep n p (Nat.lt_of_lt_of_le hn (Nat.le_trans F1.le ord)) fun c=>?_
  rw[Cov.append] at hcv
  rcases hcv with k|k
  ·exact ap.rw n p c k
  ·exact ap.ww n p k c)
 have same:h2'=h2:=by
  refine R0I DH _ _ G1.deep F2.deep fun n hn=>?_
  have hn:n<LH:=hn
  have ac:∀p,n<a.nx→Cov a.wr n p→Agree p (h2'.get n) (h2.get n):=fun p q c=>
   (wrote1 n p q c).symm.trans (F2.keep n p (Nat.lt_of_lt_of_le q (Nat.le_trans F1.le ord)) fun k=>ap.ww n p c k)
  rcases Nat.lt_or_ge n a.nx with q|q
  ·refine Agree.all fun p=>?_
   have qb:n<b.nx:=Nat.lt_of_lt_of_le q (Nat.le_trans F1.le ord)
   by_cases c:Cov a.wr n p
   ·exact ac p q c
   ·have k1:=G1.keep n p q c
    by_cases c2:Cov b.wr n p
    ·exact k1.symm.trans (wrote2 n p qb c2).symm
    ·exact k1.symm.trans ((G2.keep n p qb c2).symm.trans ((F1.keep n p q c).trans (F2.keep n p qb c2)))
  ·rcases Nat.lt_or_ge n a.nx' with q'|q'
   ·rw[own1 n q q']
    refine Agree.all fun p=>F2.keep n p (Nat.lt_of_lt_of_le q' ord) fun c=>ap.own n p q q' (Cov.append.2 (.inr c))
   ·rw[G1.far n q' hn]
    rcases Nat.lt_or_ge n b.nx with r|r
    ·refine Agree.all fun p=>?_
     by_cases c:Cov b.wr n p
     ·exact(wrote2 n p r c).symm
     ·have k1:=G2.keep n p r c
      have k2:=F2.keep n p r c
      rw[F1.far n q' hn] at k2
      exact k1.symm.trans k2
    ·rcases Nat.lt_or_ge n b.nx' with r'|r'
     ·exact own2 n r r'
     ·rw[G2.far n r' hn,F2.far n r' hn,F1.far n q' hn]
 subst same
 refine⟨_,h1',⟨v2,e2,s2,rfl⟩,⟨v1,?_,by rw[X0P];exact s1,(V0o hT s1 s2 v1 v2 sl.dd)⟩⟩
 unfold DoesV at e1⊢
 rw[I0X hT s2 sl.ba];exact e1
end
theorem beqT{a b:Nat}(h:a=b):Nat.beq a b=true:=by subst h;exact Nat.beq_refl a
theorem bltT{a b:Nat}(h:a<b):Nat.blt a b=true:=by rw[Nat.blt_eq];exact h
theorem R0B:∀(a b:List UInt8),ltS a b=true→ltS b a=false
 |[],[],h=>by simp[ltS] at h
 |[],_::_,_=>rfl
 |_::_,[],h=>by simp[ltS] at h
 |
  x::a,y::b,h=>by
  unfold ltS at h⊢
  by_cases e:x.toNat=y.toNat
  ·have e1:Nat.beq x.toNat y.toNat=true:=beqT e
   have e2:Nat.beq y.toNat x.toNat=true:=beqT e.symm
   rw[e1,A0e] at h
   rw[e2,A0e]
   exact R0B a b h
  ·have e1:Nat.beq x.toNat y.toNat=false:=by cases h:Nat.beq x.toNat y.toNat<;>simp_all [Nat.beq_eq]
   have e2:Nat.beq y.toNat x.toNat=false:=by cases h:Nat.beq y.toNat x.toNat<;>simp_all [Nat.beq_eq]
   rw[e1,A0f,Nat.blt_eq] at h
   rw[e2,A0f]
   cases hb:Nat.blt y.toNat x.toNat with
   |false=>rfl
   |true=>rw[Nat.blt_eq] at hb;omega
theorem beqN(a b:Nat):Nat.beq a b=decide (a=b):=by
 cases h:Nat.beq a b with
 |true=>rw[Nat.eq_of_beq_eq_true h];simp
 |
  false=>
  have :a≠b:=fun e=>by rw[beqT e] at h;cases h
  simp[this]
theorem bltN(a b:Nat):Nat.blt a b=decide (a<b):=by
 cases h:Nat.blt a b with
 |true=>rw[Nat.blt_eq] at h;simp[h]
 |
  false=>
  have :¬a<b:=fun e=>by rw[bltT e] at h;cases h
  simp[this]
theorem b0R:∀(a b c:List UInt8),ltS a c=true→ltS a b=true∨ltS b c=true
 |_,_,[],h=>by unfold ltS at h;cases h
 |_,[],_::_,_=>.inr rfl
 |[],_::_,_::_,_=>.inl rfl
 |
  x::a,y::b,z::c,h=>by
  unfold ltS at h⊢
  simp only[B0v,beqN,bltN,decide_eq_true_eq] at h⊢
  by_cases e:x.toNat=z.toNat
  ·rw[if_pos e] at h
   by_cases e2:x.toNat=y.toNat
   ·rw[if_pos e2,if_pos (by omega)];exact b0R a b c h
   ·rw[if_neg e2,if_neg (by omega)];simp;omega
  ·rw[if_neg e] at h
   simp at h
   by_cases e2:x.toNat=y.toNat
   ·rw[if_pos e2,if_neg (by omega)];right;simp;omega
   ·rw[if_neg e2]
    by_cases e3:y.toNat=z.toNat
    ·rw[if_pos e3];left;simp;omega
    ·rw[if_neg e3];simp;omega
theorem S0m:∀(a b:List UInt8),eqS a b=false→ltS a b=true∨ltS b a=true
 |[],[],h=>by simp[eqS] at h
 |[],_::_,_=>.inl rfl
 |_::_,[],_=>.inr rfl
 |
  x::a,y::b,h=>by
  unfold eqS at h
  unfold ltS
  simp only[B0v,beqN,bltN,decide_eq_true_eq] at h⊢
  by_cases e:x.toNat=y.toNat
  ·rw[if_pos e] at h
   rw[if_pos e,if_pos e.symm];exact S0m a b h
  ·rw[if_neg e,if_neg (fun q=>e q.symm)];simp;omega
inductive M0f:AVal→Prop
 |bool (b:Bool):M0f (.bool b)
 |int (k:IntKind) (n:Int):M0f (.int k n)
 |str (s:List UInt8):M0f (.str s)
 |oth {a:AVal} (h:∀b,klt0 a b=false) (k:∀x,klt0 (.bool x) a=true) (k2:∀j n,klt0 (.int j n) a=true) (k3:∀s,klt0 (.str s) a=true):M0f a
theorem C0Y(a:AVal):M0f a:=by
 cases a<;>first
  |exact .bool _
  |exact .int _ _
  |exact .str _
  |exact .oth (fun _=>rfl) (fun _=>rfl) (fun _ _=>rfl) (fun _=>rfl)
theorem H0x(a b:AVal)(h:klt0 a b=true):klt0 b a=false:=by
 rcases C0Y a with x|⟨j,n⟩|s|⟨h1,h2,h3,h4⟩
 ·rcases C0Y b with y|⟨k,m⟩|r|⟨g1,g2,g3,g4⟩
  ·simp[klt0] at h⊢;simp[h]
  ·rfl
  ·rfl
  ·exact g1 _
 ·rcases C0Y b with y|⟨k,m⟩|r|⟨g1,g2,g3,g4⟩
  ·simp[klt0] at h
  ·simp only[klt0,G0t,decide_eq_true_eq] at h⊢;simp;omega
  ·rfl
  ·exact g1 _
 ·rcases C0Y b with y|⟨k,m⟩|r|⟨g1,g2,g3,g4⟩
  ·simp[klt0] at h
  ·simp[klt0] at h
  ·exact R0B _ _ h
  ·exact g1 _
 ·rw[h1] at h;cases h
theorem P0Q(a b c:AVal)(h:klt0 a c=true):klt0 a b=true∨klt0 b c=true:=by
 rcases C0Y a with x|⟨j,n⟩|s|⟨h1,h2,h3,h4⟩
 ·rcases C0Y b with y|⟨k,m⟩|r|⟨g1,g2,g3,g4⟩
  ·rcases C0Y c with z|⟨l,o⟩|t|⟨f1,f2,f3,f4⟩
   ·simp only[klt0] at h⊢;cases x<;>cases y<;>cases z<;>simp_all
   ·exact .inr rfl
   ·exact .inr rfl
   ·exact .inr (f2 _)
  ·exact .inl rfl
  ·exact .inl rfl
  ·exact .inl (g2 _)
 ·rcases C0Y b with y|⟨k,m⟩|r|⟨g1,g2,g3,g4⟩
  ·rcases C0Y c with z|⟨l,o⟩|t|⟨f1,f2,f3,f4⟩
   ·simp[klt0] at h
   ·exact .inr rfl
   ·exact .inr rfl
   ·exact .inr (f2 _)
  ·rcases C0Y c with z|⟨l,o⟩|t|⟨f1,f2,f3,f4⟩
   ·simp[klt0] at h
   ·simp only[klt0,G0t,decide_eq_true_eq] at h⊢;omega
   ·exact .inr rfl
   ·exact .inr (f3 _ _)
  ·exact .inl rfl
  ·exact .inl (g3 _ _)
 ·rcases C0Y b with y|⟨k,m⟩|r|⟨g1,g2,g3,g4⟩
  ·rcases C0Y c with z|⟨l,o⟩|t|⟨f1,f2,f3,f4⟩
   ·simp[klt0] at h
   ·exact .inr rfl
   ·exact .inr rfl
   ·exact .inr (f2 _)
  ·rcases C0Y c with z|⟨l,o⟩|t|⟨f1,f2,f3,f4⟩
   ·simp[klt0] at h
   ·simp[klt0] at h
   ·exact .inr rfl
   ·exact .inr (f3 _ _)
  ·rcases C0Y c with z|⟨l,o⟩|t|⟨f1,f2,f3,f4⟩
   ·simp[klt0] at h
   ·simp[klt0] at h
   ·exact b0R _ _ _ h
   ·exact .inr (f4 _)
  ·exact .inl (g4 _)
 ·rw[h1] at h;cases h
theorem N0R:∀(l m:List AVal),klts l m=true→klts m l=false
 |[],[],h=>by simp[klts] at h
 |[],_::_,_=>rfl
 |_::_,[],h=>by simp[klts] at h
 |
  a::l,b::m,h=>by
  simp only[klts,Bool.or_eq_true,Bool.and_eq_true,Bool.not_eq_true'] at h⊢
  rcases h with h|⟨h,k⟩
  ·rw[H0x a b h,h];rfl
  ·rw[h,N0R l m k];simp
theorem Y0U:∀(l m n:List AVal),klts l n=true→klts l m=true∨klts m n=true
 |[],m,[],h=>by simp[klts] at h
 |_::_,m,[],h=>by simp[klts] at h
 |[],[],_::_,h=>.inr rfl
 |[],_::_,_::_,h=>.inl rfl
 |_::_,[],_::_,h=>.inr rfl
 |
  a::l,b::m,c::n,h=>by
  simp only[klts,Bool.or_eq_true,Bool.and_eq_true,Bool.not_eq_true'] at h⊢
  rcases h with h|⟨h,k⟩
  ·rcases P0Q a b c h with q|q
   ·exact .inl (.inl q)
   ·exact .inr (.inl q)
  ·by_cases q1:klt0 a b=true
   ·exact .inl (.inl q1)
   by_cases q2:klt0 b c=true
   ·exact .inr (.inl q2)
   have q3:klt0 b a=false:=by
    cases hb:klt0 b a with
    |false=>rfl
    |true=>
         rcases P0Q b c a hb with r|r
         ·exact absurd r q2
         ·rw[h] at r;cases r
   have q4:klt0 c b=false:=by
    cases hb:klt0 c b with
    |false=>rfl
    |true=>
         rcases P0Q c a b hb with r|r
         ·rw[h] at r;cases r
         ·exact absurd r q1
   rcases Y0U l m n k with r|r
   ·exact .inl (.inr ⟨q3,r⟩)
   ·exact .inr (.inr ⟨q4,r⟩)
theorem L0H(l:List AVal){b:AVal}(hb:∀m,b≠.agg m):klt (.agg l) b=false:=by
 cases b<;>first|rfl|exact absurd rfl (hb _)
theorem L0Q{a:AVal}(ha:∀m,a≠.agg m)(m:List AVal):klt a (.agg m)=true:=by
 cases a<;>first|rfl|exact absurd rfl (ha _)
theorem E0G{a b:AVal}(ha:∀m,a≠.agg m)(hb:∀m,b≠.agg m):klt a b=klt0 a b:=by
 cases a<;>first
  |exact absurd rfl (ha _)
  |(cases b<;>first|rfl|exact absurd rfl (hb _))
theorem G0M(a b:AVal)(h:klt a b=true):klt b a=false:=by
 by_cases ha:∃l,a=.agg l
 ·obtain⟨l,rfl⟩:=ha
  by_cases hb:∃m,b=.agg m
  ·obtain⟨m,rfl⟩:=hb;exact N0R l m h
  ·rw[L0H l fun m e=>hb ⟨m,e⟩] at h;cases h
 ·have ha':∀m,a≠.agg m:=fun m e=>ha ⟨m,e⟩
  by_cases hb:∃m,b=.agg m
  ·obtain⟨m,rfl⟩:=hb;exact L0H m ha'
  ·have hb':∀m,b≠.agg m:=fun m e=>hb ⟨m,e⟩
   rw[E0G ha' hb'] at h
   rw[E0G hb' ha'];exact H0x a b h
theorem f0A(a b c:AVal)(h:klt a c=true):klt a b=true∨klt b c=true:=by
 by_cases ha:∃l,a=.agg l
 ·obtain⟨l,rfl⟩:=ha
  by_cases hc:∃n,c=.agg n
  ·obtain⟨n,rfl⟩:=hc
   by_cases hb:∃m,b=.agg m
   ·obtain⟨m,rfl⟩:=hb;exact Y0U l m n h
   ·exact .inr (L0Q (fun m e=>hb ⟨m,e⟩) n)
  ·rw[L0H l fun m e=>hc ⟨m,e⟩] at h;cases h
 ·have ha':∀m,a≠.agg m:=fun m e=>ha ⟨m,e⟩
  by_cases hb:∃m,b=.agg m
  ·obtain⟨m,rfl⟩:=hb;exact .inl (L0Q ha' m)
  ·have hb':∀m,b≠.agg m:=fun m e=>hb ⟨m,e⟩
   by_cases hc:∃n,c=.agg n
   ·obtain⟨n,rfl⟩:=hc;exact .inr (L0Q hb' n)
   ·have hc':∀m,c≠.agg m:=fun m e=>hc ⟨m,e⟩
    rw[E0G ha' hc'] at h
    rw[E0G ha' hb',E0G hb' hc'];exact P0Q a b c h
theorem R0Y{a b c:AVal}(h:klt a b=true)(k:klt b c=true):klt a c=true:=by
 rcases f0A a c b h with q|q
 ·exact q
 ·rw[G0M b c k] at q;cases q
theorem I0m{E:Env}{t:TypeId}{a b:AVal}(ha:B0k E t a=true)(hb:B0k E t b=true)(h:keq0 a b=false):klt0 a b=true∨klt0 b a=true:=by
 unfold B0k at ha hb
 cases ht:E.tyOf t with
 |none=>rw[ht] at ha;cases ha
 |
  some ti=>
  rw[ht] at ha hb
  simp only[] at ha hb
  cases hk:ti.k<;>rw[hk] at ha hb<;>simp only[] at ha hb<;>first
   |cases ha
   |skip
  case bool=>
   cases a<;>simp only[] at ha<;>first|cases ha|skip
   cases b<;>simp only[] at hb<;>first|cases hb|skip
   rename_i x y
   cases x<;>cases y<;>simp[keq0,klt0,A0e,A0f] at h⊢
  case int k=>
   cases a<;>simp only[] at ha<;>first|cases ha|skip
   cases b<;>simp only[] at hb<;>first|cases hb|skip
   rename_i j x l y
   have e1:k=j:=eq_of_beq ha
   have e2:k=l:=eq_of_beq hb
   subst e1;subst e2
   simp[keq0,E0e] at h
   simp only[klt0,G0t,decide_eq_true_eq]
   omega
  case str=>
   cases a<;>simp only[] at ha<;>first|cases ha|skip
   cases b<;>simp only[] at hb<;>first|cases hb|skip
   rename_i x y
   exact S0m x y h
theorem K0S{E:Env}:∀{fs:List FI}{i:Nat}{l m:List AVal},B0o E i fs l=true→B0o E i fs m=true→keqs l m=false→klts l m=true∨klts m l=true
 |[],i,[],[],_,_,h=>by simp[keqs] at h
 |[],i,_::_,_,h,_,_=>by simp[B0o] at h
 |[],i,[],_::_,_,h,_=>by simp[B0o] at h
 |_::_,i,[],_,h,_,_=>by simp[B0o] at h
 |_::_,i,_::_,[],_,h,_=>by simp[B0o] at h
 |
  f::fs,i,a::l,b::m,h1,h2,h=>by
  simp only[B0o,Bool.and_eq_true] at h1 h2
  have t:=I0m h1.1.2 h2.1.2
  simp only[keqs,klts,B0v,Bool.or_eq_true,Bool.and_eq_true,Bool.not_eq_true'] at h⊢
  by_cases e:keq0 a b=true
  ·rw[if_pos e] at h
   have e':=Q0e e
   subst e'
   have ir:klt0 a a=false:=by
    cases q:klt0 a a with
    |false=>rfl
    |true=>rw[H0x a a q] at q;cases q
   rcases K0S h1.2 h2.2 h with q|q
   ·exact .inl (.inr ⟨ir,q⟩)
   ·exact .inr (.inr ⟨ir,q⟩)
  ·rcases t (by simpa using e) with q|q
   ·exact .inl (.inl q)
   ·exact .inr (.inl q)
theorem I0v{E:Env}{t:TypeId}:∀{l m:List AVal},l.length=m.length→l.all (B0k E t)=true→m.all (B0k E t)=true→keqs l m=false→klts l m=true∨klts m l=true
 |[],[],_,_,_,h=>by simp[keqs] at h
 |[],_::_,h,_,_,_=>by simp at h
 |_::_,[],h,_,_,_=>by simp at h
 |
  a::l,b::m,hl,h1,h2,h=>by
  simp only[List.all_cons,Bool.and_eq_true] at h1 h2
  have t:=I0m h1.1 h2.1
  simp only[keqs,klts,B0v,Bool.or_eq_true,Bool.and_eq_true,Bool.not_eq_true'] at h⊢
  by_cases e:keq0 a b=true
  ·rw[if_pos e] at h
   have e':=Q0e e
   subst e'
   have ir:klt0 a a=false:=by
    cases q:klt0 a a with
    |false=>rfl
    |true=>rw[H0x a a q] at q;cases q
   rcases I0v (by simpa using hl) h1.2 h2.2 h with q|q
   ·exact .inl (.inr ⟨ir,q⟩)
   ·exact .inr (.inr ⟨ir,q⟩)
  ·rcases t (by simpa using e) with q|q
   ·exact .inl (.inl q)
   ·exact .inr (.inl q)
theorem H0m{E:Env}{t:TypeId}{a b:AVal}(ha:A0m E t a=true)(hb:A0m E t b=true):(∃l,a=.agg l)→∃m,b=.agg m:=by
 rintro⟨l,rfl⟩
 by_cases hb':∃m,b=.agg m
 ·exact hb'
 ·exfalso
  have hp:A0m E t b=B0k E t b:=by cases b<;>first|rfl|exact absurd ⟨_,rfl⟩ hb'
  rw[hp] at hb
  unfold A0m at ha
  unfold B0k at hb
  cases ht:E.tyOf t with
  |none=>rw[ht] at hb;cases hb
  |
   some ti=>
   rw[ht] at ha hb
   simp only[] at ha hb
   cases hk:ti.k<;>rw[hk] at ha hb<;>simp only[] at ha hb<;>first|cases ha|cases hb
theorem P0I{E:Env}{t:TypeId}{a b:AVal}(ha:A0m E t a=true)(hb:A0m E t b=true)(h:keq a b=false):klt a b=true∨klt b a=true:=by
 by_cases ha':∃l,a=.agg l
 ·obtain⟨m,rfl⟩:=H0m ha hb ha'
  obtain⟨l,rfl⟩:=ha'
  have h:keqs l m=false:=h
  show klts l m=true∨klts m l=true
  unfold A0m at ha hb
  cases ht:E.tyOf t with
  |none=>rw[ht] at ha;cases ha
  |
   some ti=>
   rw[ht] at ha hb
   simp only[] at ha hb
   cases hk:ti.k<;>rw[hk] at ha hb<;>simp only[] at ha hb<;>first
    |cases ha
    |skip
   case struct fs=>
    simp only[Bool.and_eq_true] at ha hb
    exact K0S ha.2 hb.2 h
   case array n e sz=>
    simp only[Bool.and_eq_true,A0O,beqN,decide_eq_true_eq] at ha hb
    exact I0v (ha.1.2.symm.trans hb.1.2) ha.2 hb.2 h
 ·have hb':¬∃l,b=.agg l:=fun q=>ha' (H0m hb ha q)
  have e1:∀m,a≠.agg m:=fun m e=>ha' ⟨m,e⟩
  have e2:∀m,b≠.agg m:=fun m e=>hb' ⟨m,e⟩
  have f1:A0m E t a=B0k E t a:=by cases a<;>first|rfl|exact absurd rfl (e1 _)
  have f2:A0m E t b=B0k E t b:=by cases b<;>first|rfl|exact absurd rfl (e2 _)
  rw[f1] at ha;rw[f2] at hb
  rw[L0S e1] at h
  rw[E0G e1 e2,E0G e2 e1]
  exact I0m ha hb h
theorem Q0u{j k:AVal}{u v:AVal}(hne:klt j k=true∨klt k j=true):∀es:List (AVal×AVal),insE k v (insE j u es)=insE j u (insE k v es)
 |
  []=>by
  simp only[insE,B0v]
  rcases hne with h|h
  ·rw[if_neg (by rw[G0M _ _ h];simp),if_pos h]
  ·rw[if_pos h,if_neg (by rw[G0M _ _ h];simp)]
 |
  e::es=>by
  have ih:=Q0u hne (u:=u) (v:=v) es
  have s1:∀x y l,insE x y (e::l)=sel (klt x e.1) ((x,y)::e::l) (e::insE x y l):=fun _ _ _=>rfl
  rw[s1,s1]
  simp only[B0v]
  by_cases hj:klt j e.1=true
  ·rw[if_pos hj]
   by_cases hk:klt k e.1=true
   ·rw[if_pos hk]
    simp only[insE,B0v]
    rw[if_pos hj,if_pos hk]
    rcases hne with h|h
    ·rw[if_neg (by rw[G0M _ _ h];simp),if_pos h]
    ·rw[if_pos h,if_neg (by rw[G0M _ _ h];simp)]
   ·rw[if_neg hk]
    have hkj:¬klt k j=true:=fun q=>hk (R0Y q hj)
    simp only[insE,B0v]
    rw[if_neg hkj,if_neg hk,if_pos hj]
  ·rw[if_neg hj]
   by_cases hk:klt k e.1=true
   ·rw[if_pos hk]
    have hjk:¬klt j k=true:=fun q=>hj (R0Y q hk)
    simp only[insE,B0v]
    rw[if_pos hk,if_neg hjk,if_neg hj]
   ·rw[if_neg hk]
    simp only[insE,B0v]
    rw[if_neg hk,if_neg hj,ih]
theorem K0m{k j u:AVal}:∀es:List (AVal×AVal),D0D k (insE j u es)=none↔keq k j=false∧D0D k es=none
 |[]=>by simp only[insE,D0D,B0v];cases keq k j<;>simp
 |
  e::es=>by
  have ih:=K0m (k:=k) (j:=j) (u:=u) es
  simp only[insE,B0v]
  by_cases h:klt j e.1=true
  ·rw[if_pos h];simp only[D0D,B0v];cases keq k j<;>simp
  ·rw[if_neg h];simp only[D0D,B0v]
   cases hk:keq k e.1<;>simp[ih]
section
variable{E:Env}{call:C0r}{ops:List Oper}
theorem N0V{h:Tr AObj}(hd:h.deep DH){n:Nat}(hn:n<LH)(o p:AObj):(h.set n o).set n p=h.set n p:=by
 refine R0I DH _ _ (A0j _ DH _ n (A0j _ DH _ n hd)) (A0j _ DH _ n hd) fun m hm=>?_
 rw[A0y p DH _ n m (A0j _ DH _ n hd) hn hm,A0y p DH _ n m hd hn hm,A0y o DH _ n m hd hn hm]
 by_cases c:m=n
 ·rw[if_pos c,if_pos c]
 ·rw[if_neg c,if_neg c,if_neg c]
theorem T0h{lo n:Nat}{L:List Rg}(h:n<lo):told lo n L=L:=by unfold told;rw[if_neg (by omega)]
theorem Y0s{h:Tr AObj}{n nx:Nat}{kt:TypeId}{es:List (AVal×AVal)}{c:Nat}(hn:n<nx)(hg:h.get n=some (.map kt es c))(rd wr:List Rg):
  rdMap n ⟨h,nx,nx,rd,wr⟩=.ok ⟨kt,es,c⟩ ⟨h,nx,nx,⟨n,0,1⟩::rd,wr⟩:=by
 unfold rdMap
 rw[C0K (s:=⟨h,nx,nx,rd,wr⟩) hn hg]
 simp only[A0F,C0b,T0h hn]
 rfl
theorem S0f{h:Tr AObj}{n nx:Nat}{kt:TypeId}{es:List (AVal×AVal)}{c:Nat}(hn:n<nx)(hg:h.get n=some (.map kt es c))(rd wr:List Rg)(kt':TypeId)(es':List (AVal×AVal))(c':Nat):
  wrMap n kt' es' c' ⟨h,nx,nx,rd,wr⟩=.ok () ⟨h.set n (.map kt' es' c'),nx,nx,rd,⟨n,0,1⟩::wr⟩:=by
 unfold wrMap
 rw[C0K (s:=⟨h,nx,nx,rd,wr⟩) hn hg]
 simp only[A0F,I0H,T0h hn]
 rfl
theorem I0y{α:Type}{w:List Nat}{q:α×St}(h:(Res.fail w:Res α).det=some q):False:=by cases h
theorem P0s{α:Type}{b:Bool}{m:M α}{s:St}{q:α×St}(h:(M.req b m s).det=some q):b=true∧(m s).det=some q:=by
 cases b with
 |true=>exact⟨rfl,h⟩
 |false=>exact(I0y h).elim
theorem d0f{α:Type}{o:Option α}{s s':St}{a:α}(h:(M.opt o s).det=some (a,s')):o=some a∧s'=s:=by
 cases o with
 |none=>exact(I0y h).elim
 |
  some b=>
  have h:some (b,s)=some (a,s'):=h
  cases h;exact⟨rfl,rfl⟩
theorem Y0C{t:TypeId}{a k v:AVal}{h:Tr AObj}{nx:Nat}{u:AVal}{s':St}(H:(A0J E true t a k v ⟨h,nx,nx,[],[]⟩).det=some (u,s')):
  ∃
   n kt es c,n<nx∧h.get n=some (.map kt es c)∧A0m E kt k=true∧D0D k es=none∧u=.undef∧s'=⟨h.set n (.map kt (insE k v es) (c+1)),nx,nx,[⟨n,0,1⟩],[⟨n,0,1⟩]⟩∧
   ∀
    h2 nx2 es2 c2,n<nx2→h2.get n=some (.map kt es2 c2)→D0D k es2=none→
    A0J E true t a k v ⟨h2,nx2,nx2,[],[]⟩=.ok .undef ⟨h2.set n (.map kt (insE k v es2) (c2+1)),nx2,nx2,[⟨n,0,1⟩],[⟨n,0,1⟩]⟩:=by
 unfold A0J at H
 obtain⟨ti,s1,h1,H⟩:=B0P H
 obtain⟨ht,rfl⟩:=d0f h1
 have hmap:∃kt0 et0,ti.k=.map kt0 et0:=by
  cases hk:ti.k with
  |map kt0 et0=>exact⟨kt0,et0,rfl⟩
  |_=>rw[hk] at H;exact(I0y H).elim
 obtain⟨kt0,et0,hk⟩:=hmap
 rw[hk] at H
 simp only[] at H
 have hmp:∃n,a=.map n:=by
  cases a with
  |map n=>exact⟨n,rfl⟩
  |_=>exact(I0y H).elim
 obtain⟨n,rfl⟩:=hmp
 simp only[] at H
 obtain⟨hf,H⟩:=P0s H
 obtain⟨r,s2,h2,H⟩:=B0P H
 have h2:=M0o (A0x (fun o s=>by cases o<;>first|exact A0D|trivial) _) h2
 obtain⟨o,hn,ho,h2⟩:=E0S h2
 have hom:∃kt es c,o=.map kt es c:=by
  cases o with
  |map kt es c=>exact⟨kt,es,c,rfl⟩
  |_=>cases h2
 obtain⟨kt,es,c,rfl⟩:=hom
 have hn:n<nx:=hn
 have ho:h.get n=some (.map kt es c):=ho
 simp only[] at h2
 rw[A0F,C0b] at h2
 cases h2
 obtain⟨hq0,H⟩:=P0s H
 have hkt:kt=kt0:=Nat.eq_of_beq_eq_true hq0
 cases hfk:D0D k es with
 |
  some x=>
  simp only[hfk] at H
  obtain⟨hbad,_⟩:=P0s H
  cases hbad
 |
  none=>
  simp only[hfk] at H
  obtain⟨_,s3,h3,H4⟩:=B0P H
  have H4:some (AVal.undef,s3)=some (u,s'):=H4
  cases H4
  have e:(⟨h,nx,nx,told nx n [⟨n,0,1⟩]++[],[]⟩:St)=⟨h,nx,nx,[⟨n,0,1⟩],[]⟩:=by rw[T0h hn];rfl
  have h3:(wrMap n kt (insE k v es) (Nat.succ c) ⟨h,nx,nx,told nx n [⟨n,0,1⟩]++[],[]⟩).det=some (_,s'):=h3
  rw[e,S0f hn ho] at h3
  cases h3
  refine⟨n,kt,es,c,hn,ho,by rw[hkt];exact hf,hfk,rfl,rfl,fun h2 nx2 es2 c2 hn2 hg2 hf2=>?_⟩
  unfold A0J
  have hti:E.ti t ⟨h2,nx2,nx2,[],[]⟩=.ok ti ⟨h2,nx2,nx2,[],[]⟩:=by unfold Env.ti;rw[ht];rfl
  rw[A0d hti]
  simp only[hk]
  rw[S0B,hf,A0e,A0d (Y0s hn2 hg2 _ _)]
  simp only[]
  rw[S0B,beqT hkt,A0e]
  simp only[hf2]
  rw[A0d (S0f hn2 hg2 _ _ _ _ _)]
  rfl
def G0m(o:Oper):Prop:=∃t m k v,o.op=.insert t m k v
theorem P0r{x:It}(hi:G0m x.o){T:Tm}{h h':Tr AObj}{v:AVal}(D:DoesV E call ops x T h v h'):
  x.nx'=x.nx∧((x.rd=[]∧x.wr=[])∨
   ∃
    (t:TypeId) (a k u:AVal) (n:Nat) (kt:TypeId) (es:List (AVal×AVal)) (c:Nat),(∀s,(I0C E call ops x.o T s).det=(A0J E true t a k u s).det)∧n<x.nx∧h.get n=some (.map kt es c)∧A0m E kt k=true∧D0D k es=none∧v=.undef∧
    h'=h.set n (.map kt (insE k u es) (c+1))∧x.rd=[⟨n,0,1⟩]∧x.wr=[⟨n,0,1⟩]∧
    ∀
     h2 nx2 es2 c2,n<nx2→h2.get n=some (.map kt es2 c2)→D0D k es2=none→
     A0J E true t a k u ⟨h2,nx2,nx2,[],[]⟩=.ok .undef ⟨h2.set n (.map kt (insE k u es2) (c2+1)),nx2,nx2,[⟨n,0,1⟩],[⟨n,0,1⟩]⟩):=by
 obtain⟨i,o,nx,nx',rd,wr⟩:=x
 obtain⟨t,m,k,u,ho⟩:=hi
 unfold DoesV at D
 simp only[] at D ho⊢
 cases hw:F0s ops T o.guard with
 |
  none=>
  unfold I0C at D
  rw[hw] at D;exact(I0y D).elim
 |
  some q=>
  obtain⟨c,b⟩:=q
  have hv:I0C E call ops o T=M.gate c b (J0G ops o.dst o.op E true call T.rho) (M.pure .undef):=by unfold I0C;rw[hw];rfl
  cases b with
  |
   false=>
   have hv:∀s,(I0C E call ops o T s).det=some (.undef,s):=fun s=>by rw[hv];cases c<;>rfl
   rw[hv] at D
   cases D
   exact⟨rfl,.inl ⟨rfl,rfl⟩⟩
  |
   true=>
   have hv:∀s,(I0C E call ops o T s).det=(A0J E true t (T.rho m) (T.rho k) (T.rho u) s).det:=fun s=>by rw[hv,ho];cases c<;>rfl
   rw[hv] at D
   obtain⟨n,kt,es,c,h1,h2,h3,h4,rfl,h6,h7⟩:=Y0C D
   cases h6
   exact⟨rfl,.inr ⟨t,_,_,_,n,kt,es,c,hv,h1,h2,h3,h4,rfl,rfl,rfl,rfl,h7⟩⟩
theorem F0p{n p:Nat}:¬Cov [] n p:=by rintro⟨r,h,_⟩;cases h
theorem J0P{n m p:Nat}(h:Cov [⟨n,0,1⟩] m p):m=n:=by
 obtain⟨r,h,k⟩:=h
 simp at h;subst h;exact k.1.symm
theorem a0W{x:It}(hi:G0m x.o){T:Tm}{h h':Tr AObj}{v:AVal}(D:DoesV E call ops x T h v h'){n p:Nat}(hc:Cov x.rd n p):Cov x.wr n p:=by
 obtain⟨_,⟨e,_⟩|⟨t,a,k,u,m,kt,es,c,_,_,_,_,_,_,_,e1,e2,_⟩⟩:=P0r hi D
 ·rw[e] at hc;exact(F0p hc).elim
 ·rw[e1] at hc;rw[e2];exact hc
theorem a0R(hc:∀f as,Fr (call f as)){a b:It}(ia:G0m a.o)(ib:G0m b.o){T T1 T2:Tm}{h h1 h2:Tr AObj}(D1:Does E call ops a T h T1 h1)(D2:Does E call ops b T1 h1 T2 h2)(hT:T.Fine)(hd:h.deep DH)
  (ha:a.nx≤LH) (ord:a.nx'≤b.nx) (hb:b.nx≤LH) (sl:F0N ops a.o b.o):∃T1' h1',Does E call ops b T h T1' h1'∧Does E call ops a T1' h1' T2 h2:=by
 obtain⟨v1,d1,s1,e1⟩:=D1
 obtain⟨v2,d2,s2,e2⟩:=D2
 have gen:Z0q a b→∃T1' h1',Does E call ops b T h T1' h1'∧Does E call ops a T1' h1' T2 h2:=fun ap=>swap hc ⟨v1,d1,s1,e1⟩ ⟨v2,d2,s2,e2⟩ hT hd ha ord hb ap sl
 obtain⟨n1,c1⟩:=P0r ia d1
 obtain⟨n2,c2⟩:=P0r ib d2
 rcases c1 with⟨r1,w1⟩|⟨t1,a1,k1,u1,m1,kt1,es1,cl1,f1,g1,l1,q1,z1,o1,y1,r1,w1,x1⟩
 ·refine gen ⟨fun n p x y=>by omega,fun n p x=>?_,fun n p x=>?_,fun n p x=>?_⟩
  ·rw[w1] at x;exact(F0p x).elim
  ·rw[w1] at x;exact(F0p x).elim
  ·rw[r1];exact F0p
 rcases c2 with⟨r2,w2⟩|⟨t2,a2,k2,u2,m2,kt2,es2,cl2,f2,g2,l2,q2,z2,o2,y2,r2,w2,x2⟩
 ·refine gen ⟨fun n p x y=>by omega,fun n p x=>?_,fun n p x=>?_,fun n p x=>?_⟩
  ·rw[w2];exact F0p
  ·rw[r2];exact F0p
  ·rw[w2] at x;exact(F0p x).elim
 by_cases hm:m1=m2
 ·subst hm
  have hm:m1<LH:=Nat.lt_of_lt_of_le g1 ha
  subst e1
  have hf2:∀s,(I0C E call ops b.o T s).det=(A0J E true t2 a2 k2 u2 s).det:=fun s=>by rw[←f2 s,I0X hT s1 sl.ab]
  rw[y1,A0y _ DH h m1 m1 hd hm hm,if_pos rfl] at l2
  cases l2
  obtain⟨z3,z4⟩:=(K0m es1).1 z2
  have b1:=x2 h b.nx es1 cl1 (by omega) l1 z4
  have z5:D0D k1 (insE k2 u2 es1)=none:=(K0m es1).2 ⟨L0s z3,z1⟩
  have hl:(h.set m1 (.map kt1 (insE k2 u2 es1) (cl1+1))).get m1=some (.map kt1 (insE k2 u2 es1) (cl1+1)):=by rw[A0y _ DH h m1 m1 hd hm hm,if_pos rfl]
  have b2:=x1 _ a.nx _ _ g1 hl z5
  rw[X0P] at s2
  refine⟨T.upd b.o.dst .undef,h.set m1 (.map kt1 (insE k2 u2 es1) (cl1+1)),⟨.undef,?_,s2,rfl⟩,⟨.undef,?_,by rw[X0P];exact s1,?_⟩⟩
  ·unfold DoesV;rw[hf2,n2,r2,w2,b1];rfl
  ·unfold DoesV
   rw[I0X hT s2 sl.ba,f1,n1,r1,w1,b2,y2,y1,N0V hd hm,N0V hd hm]
   rw[Q0u (P0I q1 q2 (L0s z3))];rfl
  ·rw[e2,o1,o2];exact V0o hT s1 s2 _ _ sl.dd
 ·refine gen ⟨fun n p x y=>by omega,fun n p x y=>?_,fun n p x y=>?_,fun n p x y=>?_⟩
  ·rw[w1] at x;rw[w2] at y;exact hm ((J0P x).symm.trans (J0P y))
  ·rw[w1] at x;rw[r2] at y;exact hm ((J0P x).symm.trans (J0P y))
  ·rw[w2] at x;rw[r1] at y;exact hm ((J0P y).symm.trans (J0P x))
theorem G0O{l m:List Rg}{n p:Nat}(h:Cov l n p)(k:Cov m n p):I0B l m=true:=by
 obtain⟨r,h1,h2,h3,h4⟩:=h
 obtain⟨q,k1,k2,k3,k4⟩:=k
 unfold I0B
 rw[List.any_eq_true]
 refine⟨r,h1,?_⟩
 rw[List.any_eq_true]
 refine⟨q,k1,?_⟩
 unfold Rg.meets
 rw[show Nat.beq r.n q.n=true from beqT (h2.trans k2.symm),A0e,Bool.and_eq_true,Nat.blt_eq,Nat.blt_eq]
 omega
theorem M0S{lo hi:Nat}{l:List Rg}(h:a0I lo hi l=true){n p:Nat}(h1:lo≤n)(h2:n<hi):¬Cov l n p:=by
 rintro⟨r,hr,k1,_⟩
 unfold a0I at h
 cases hb:Nat.ble hi lo with
 |true=>have :=Nat.le_of_ble_eq_true hb;omega
 |
  false=>
  rw[hb,A0f,List.all_eq_true] at h
  have :=h r hr
  rw[Bool.or_eq_true,Nat.blt_eq] at this
  rcases this with q|q
  ·omega
  ·have :=Nat.le_of_ble_eq_true q;omega
theorem E0Y{o:Oper}(h:¬G0m o)(rd wr:List Rg)(lo hi:Nat):D0f o rd wr lo hi=⟨rd,wr,false,lo,hi⟩:=by
 unfold D0f
 cases ho:o.op<;>first|rfl|exact absurd ⟨_,_,_,_,ho⟩ h
theorem N0P(o:Oper)(rd wr:List Rg)(lo hi:Nat):(D0f o rd wr lo hi).wr=wr∧(D0f o rd wr lo hi).lo=lo∧(D0f o rd wr lo hi).hi=hi:=by
 unfold D0f;cases o.op<;>exact⟨rfl,rfl,rfl⟩
theorem P0b{a b:It}(h:Foot.apart (D0f a.o a.rd a.wr a.nx a.nx') (D0f b.o b.rd b.wr b.nx b.nx')=true)
  (la:G0m a.o→∀n p,Cov a.rd n p→Cov a.wr n p) (lb:G0m b.o→∀n p,Cov b.rd n p→Cov b.wr n p):Z0q a b∨(G0m a.o∧G0m b.o):=by
 by_cases hab:G0m a.o∧G0m b.o
 ·exact .inr hab
 ·left
  unfold Foot.apart at h
  simp only[Bool.and_eq_true] at h
  obtain⟨⟨h1,h2⟩,h3⟩:=h
  obtain⟨a1,a2,a3⟩:=N0P a.o a.rd a.wr a.nx a.nx'
  obtain⟨b1,b2,b3⟩:=N0P b.o b.rd b.wr b.nx b.nx'
  rw[a2,a3] at h1 h2
  rw[b1] at h2
  have key:(∀n p,Cov a.wr n p→¬Cov b.wr n p)∧(∀n p,Cov a.wr n p→¬Cov (D0f b.o b.rd b.wr b.nx b.nx').rd n p)∧(∀n p,Cov b.wr n p→¬Cov (D0f a.o a.rd a.wr a.nx a.nx').rd n p):=by
   rw[a1,b1] at h3
   have hins:((D0f a.o a.rd a.wr a.nx a.nx').ins&&(D0f b.o b.rd b.wr b.nx b.nx').ins)=false:=by
    by_cases ia:G0m a.o
    ·have ib:¬G0m b.o:=fun q=>hab ⟨ia,q⟩
     rw[E0Y ib];simp
    ·rw[E0Y ia];simp
   split at h3
   ·rename_i e1 e2
    rw[e1,e2]
    exact⟨fun n p q=>(F0p q).elim,fun n p q=>(F0p q).elim,fun n p q=>(F0p q).elim⟩
   ·rw[hins] at h3
    simp only[Bool.false_or,Bool.not_eq_true',Bool.or_eq_false_iff] at h3
    obtain⟨⟨m1,m2⟩,m3⟩:=h3
    refine⟨fun n p q k=>?_,fun n p q k=>?_,fun n p q k=>?_⟩
    ·rw[G0O q k] at m1;cases m1
    ·rw[G0O q k] at m2;cases m2
    ·rw[G0O k q] at m3;cases m3
  obtain⟨k1,k2,k3⟩:=key
  have ra:∀n p,Cov a.rd n p→Cov (D0f a.o a.rd a.wr a.nx a.nx').rd n p∨Cov a.wr n p:=by
   intro n p q
   by_cases ia:G0m a.o
   ·exact .inr (la ia n p q)
   ·rw[E0Y ia];exact .inl q
  have rb:∀n p,Cov b.rd n p→Cov (D0f b.o b.rd b.wr b.nx b.nx').rd n p∨Cov b.wr n p:=by
   intro n p q
   by_cases ib:G0m b.o
   ·exact .inr (lb ib n p q)
   ·rw[E0Y ib];exact .inl q
  refine⟨fun n p x y q=>?_,k1,fun n p x q=>?_,fun n p x q=>?_⟩
  ·rw[Cov.append] at q
   rcases q with q|q
   ·rcases rb n p q with z|z
    ·exact M0S h1 x y z
    ·exact M0S h2 x y z
   ·exact M0S h2 x y q
  ·rcases rb n p q with z|z
   ·exact k2 n p x z
   ·exact k1 n p x z
  ·rcases ra n p q with z|z
   ·exact k3 n p x z
   ·exact k1 n p z x
end
def Shut(ops:List Oper)(L:Nat→Prop):Prop:=∀(j:Nat)(o:Oper),ops[j]?=some o→L j→∀e∈B0D o,L e
def S0F(ops:List Oper)(y:Oper)(i:Nat):Prop:=∀L,Shut ops L→(∀e∈B0D y,L e)→L i
def PastOk(ops:List Oper)(past:List Past):Prop:=∀p∈past,∃o,ops[p.i]?=some o∧∀b,G0g p.anc b=true→S0F ops o b
theorem E0j(m i:Nat):G0g m i=m.testBit i:=by
 unfold G0g
 rw[beqN]
 show decide ((m>>>i)&&& 1=1)=_
 unfold Nat.testBit
 rw[Nat.and_comm 1 (m>>>i)]
 cases h:(m>>>i)&&& 1 with
 |zero=>rfl
 |
  succ k=>
  have :(m>>>i)&&& 1≤1:=Nat.and_le_right
  have :k=0:=by omega
  subst this;rfl
theorem d0w(j i:Nat):G0g (Nat.shiftLeft 1 j) i=decide (j=i):=by
 rw[E0j]
 show(1<<<j).testBit i=_
 rw[Nat.testBit_shiftLeft]
 by_cases h:i=j
 ·subst h;simp
 ·by_cases h2:i≥j
  ·have :i-j≠0:=by omega
   have :Nat.testBit 1 (i-j)=false:=by
    cases q:i-j with
    |zero=>omega
    |succ k=>simp[Nat.testBit_succ]
   rw[this];simp;omega
  ·have :j≠i:=by omega
   simp[h2,this]
theorem Z0C{past:List Past}{j b:Nat}(h:G0g (S0L j past) b=true):b=j∨∃p∈past,p.i=j∧G0g p.anc b=true:=by
 induction past with
 |nil=>unfold S0L at h;rw[E0j] at h;simp at h
 |
  cons p l ih=>
  unfold S0L at h
  rw[B0v,beqN] at h
  by_cases c:p.i=j
  ·rw[if_pos (by simpa using c)] at h
   have h':G0g (Nat.shiftLeft 1 j|||p.anc) b=true:=h
   rw[E0j,Nat.testBit_or,←E0j,←E0j,d0w,Bool.or_eq_true,decide_eq_true_eq] at h'
   rcases h' with h'|h'
   ·exact .inl h'.symm
   ·exact .inr ⟨p,by simp,c,h'⟩
  ·rw[if_neg (by simpa using c)] at h
   rcases ih h with q|⟨p',q1,q2⟩
   ·exact .inl q
   ·exact .inr ⟨p',by simp[q1],q2⟩
theorem N0W{past:List Past}{b:Nat}:∀{l:List Nat},G0g (G0v past l) b=true→∃j∈l,G0g (S0L j past) b=true
 |[],h=>by unfold G0v at h;rw[E0j] at h;simp at h
 |
  j::l,h=>by
  unfold G0v at h
  have h':G0g (S0L j past|||G0v past l) b=true:=h
  rw[E0j,Nat.testBit_or,←E0j,←E0j,Bool.or_eq_true] at h'
  rcases h' with h'|h'
  ·exact⟨j,by simp,h'⟩
  ·obtain⟨k,k1,k2⟩:=N0W h'
   exact⟨k,by simp[k1],k2⟩
theorem M0v{ops:List Oper}{past:List Past}(hp:PastOk ops past){y:Oper}{b:Nat}(h:G0g (G0v past (B0D y)) b=true):S0F ops y b:=by
 intro L hL hy
 obtain⟨j,hj,hb⟩:=N0W h
 rcases Z0C hb with q|⟨p,h1,h2,h3⟩
 ·subst q;exact hy _ hj
 ·obtain⟨o,k1,k2⟩:=hp p h1
  rw[h2] at k1
  exact k2 b h3 L hL fun e he=>hL j o k1 (hy j hj) e he
theorem PastOk.cons{ops:List Oper}{past:List Past}(hp:PastOk ops past){i:Nat}{o:Oper}(ho:ops[i]?=some o)(f:Foot):PastOk ops (⟨i,G0v past (B0D o),f⟩::past):=by
 intro p hm
 rcases List.mem_cons.1 hm with rfl|hm
 ·exact⟨o,ho,fun b hb=>M0v hp hb⟩
 ·exact hp p hm
theorem J0b{anc:Nat}{f:Foot}:∀{past:List Past},J0E anc f past=true→∀p∈past,G0g anc p.i=true∨Foot.apart p.f f=true
 |[],_,_,h=>by cases h
 |
  p::l,h,q,hq=>by
  unfold J0E at h
  rw[B0v] at h
  by_cases c:sel (G0g anc p.i) true (Foot.apart p.f f)=true
  ·rw[if_pos c] at h
   rcases List.mem_cons.1 hq with rfl|hq
   ·rw[B0v] at c
    by_cases c2:G0g anc q.i=true
    ·exact .inl c2
    ·rw[if_neg c2] at c;exact .inr c
   ·exact J0b h q hq
  ·rw[if_neg c] at h;cases h
structure d0y(ops:List Oper):Prop where
 ahead:∀(j:Nat)(o:Oper),ops[j]?=some o→∀e∈B0D o,e<j
 slots:∀(i j:Nat)(a b:Oper),i<j→ops[i]?=some a→ops[j]?=some b→S0F ops b i∨F0N ops a b
theorem memN_eq{n:Nat}:∀{l:List Nat},memN n l=true↔n∈l
 |[]=>by simp[memN]
 |
  m::l=>by
  unfold memN
  rw[B0v,beqN]
  by_cases c:m=n
  ·subst c;simp
  ·rw[if_neg (by simpa using c),memN_eq];simp;exact fun q=>absurd q.symm c
theorem W0j{ops:List Oper}{i j:Nat}{a b:Oper}(h:Slots.apart ⟨i,a.dst,F0t ops a⟩ ⟨j,b.dst,F0t ops b⟩=true):F0N ops a b:=by
 unfold Slots.apart at h
 simp only[Bool.and_eq_true] at h
 obtain⟨h1,h2⟩:=h
 refine⟨fun d hd hm=>?_,fun d hd he=>?_,fun d hd hm=>?_⟩
 ·rw[hd] at h1;simp only[Bool.and_eq_true,Bool.not_eq_true'] at h1
  rw[memN_eq.2 hm] at h1;exact absurd h1.1 (by simp)
 ·rw[hd] at h1;simp only[Bool.and_eq_true,Bool.not_eq_true'] at h1
  have h1:=h1.2
  rw[he] at h1
  unfold e0G at h1
  simp only[beqN] at h1
  simp at h1
 ·rw[hd] at h2;simp only[Bool.not_eq_true'] at h2
  rw[memN_eq.2 hm] at h2;cases h2
theorem I0E{anc:Nat}{b:Slots}:∀{l:List Slots},K0Y anc b l=true→∀a∈l,G0g anc a.i=true∨Slots.apart a b=true
 |[],_,_,h=>by cases h
 |
  p::l,h,q,hq=>by
  unfold K0Y at h
  rw[B0v] at h
  by_cases c:sel (G0g anc p.i) true (Slots.apart p b)=true
  ·rw[if_pos c] at h
   rcases List.mem_cons.1 hq with rfl|hq
   ·rw[B0v] at c
    by_cases c2:G0g anc q.i=true
    ·exact .inl c2
    ·rw[if_neg c2] at c;exact .inr c
   ·exact I0E h q hq
  ·rw[if_neg c] at h;cases h
theorem K0E{ops:List Oper}:∀(l:List Oper)(i:Nat)(past:List Past)(sl:List Slots),F0f ops l i past sl=true→ops.drop i=l→PastOk ops past→
  (∀k a,k<i→ops[k]?=some a→(⟨k,a.dst,F0t ops a⟩:Slots)∈sl)→
  (∀(j:Nat)(o:Oper),i≤j→ops[j]?=some o→(∀e∈B0D o,e<j)∧∀k a,k<j→ops[k]?=some a→S0F ops o k∨F0N ops a o)
 |
  [],i,past,sl,_,hd,_,_=>by
  intro j o hj ho
  have :ops.length≤i:=List.drop_eq_nil_iff.1 hd
  have :j<ops.length:=(List.getElem?_eq_some_iff.1 ho).1
  omega
 |
  o::l,i,past,sl,h,hd,hp,hsl=>by
  unfold F0f at h
  simp only[Bool.and_eq_true,B0F] at h
  obtain⟨⟨h1,h2⟩,h3⟩:=h
  have hil:i<ops.length:=by
   rcases Nat.lt_or_ge i ops.length with q|q
   ·exact q
   ·rw[List.drop_eq_nil_iff.2 q] at hd;cases hd
  rw[List.drop_eq_getElem_cons hil] at hd
  have e1:ops[i]=o:=(List.cons.inj hd).1
  have hio:ops[i]?=some o:=by rw[List.getElem?_eq_getElem hil,e1]
  have e2:ops.drop (i+1)=l:=(List.cons.inj hd).2
  have rest:=K0E l (i+1) _ _ h3 e2 (hp.cons hio _) (by
   intro k a hk ha
   rcases Nat.lt_or_ge k i with q|q
   ·exact List.mem_cons_of_mem _ (hsl k a q ha)
   ·have :k=i:=by omega
    subst this
    rw[hio] at ha;cases ha;exact List.mem_cons_self ..)
  intro j p hj hjp
  rcases Nat.lt_or_ge i j with q|q
  ·exact rest j p q hjp
  ·have :j=i:=by omega
   subst this
   rw[hio] at hjp;cases hjp
   refine⟨fun e he=>?_,fun k a hk ha=>?_⟩
   ·rw[List.all_eq_true] at h1
    have :=h1 e he
    rwa[Nat.blt_eq] at this
   ·rcases I0E h2 _ (hsl k a hk ha) with z|z
    ·exact .inl (M0v hp z)
    ·exact .inr (W0j z)
theorem a0m{ops:List Oper}(h:F0f ops ops 0 [] []=true):d0y ops:=by
 have :=K0E ops 0 [] [] h rfl (by intro p hp;cases hp) (by intro k a hk;omega)
 exact⟨fun j o ho=>(this j o (Nat.zero_le _) ho).1,fun i j a b hij ha hb=>(this j b (Nat.zero_le _) hb).2 i a hij ha⟩
section
variable{E:Env}{call:C0r}{ops:List Oper}
inductive Path(E:Env)(call:C0r)(ops:List Oper):List It→Tm→Tr AObj→Tm→Tr AObj→Prop
 |nil (T:Tm) (h:Tr AObj):Path E call ops [] T h T h
 |cons {x:It} {l:List It} {T T1 T2:Tm} {h h1 h2:Tr AObj} (d:Does E call ops x T h T1 h1) (p:Path E call ops l T1 h1 T2 h2):Path E call ops (x::l) T h T2 h2
def Chain:List It→Nat→Nat→Prop
 |[],a,b=>a=b
 |x::l,a,b=>x.nx=a∧x.nx≤x.nx'∧Chain l x.nx' b
theorem Chain.le:∀{l:List It}{a b:Nat},Chain l a b→a≤b
 |[],_,_,h=>Nat.le_of_eq h
 |x::l,a,b,h=>by obtain⟨h1,h2,h3⟩:=h;have :=h3.le;omega
theorem Chain.mem:∀{l:List It}{a b:Nat},Chain l a b→∀x∈l,a≤x.nx∧x.nx≤x.nx'∧x.nx'≤b
 |[],_,_,_,x,hx=>by cases hx
 |
  y::l,a,b,h,x,hx=>by
  obtain⟨h1,h2,h3⟩:=h
  rcases List.mem_cons.1 hx with rfl|hx
  ·have :=h3.le;omega
  ·have :=h3.mem x hx;omega
def It.foot(x:It):Foot:=D0f x.o x.rd x.wr x.nx x.nx'
structure Pair(ops:List Oper)(x y:It):Prop where
 lt:x.i<y.i
 ord:x.nx'≤y.nx
 foot:S0F ops y.o x.i∨Foot.apart x.foot y.foot=true
theorem T0y{α:Type}{m:M α}{s s':St}{q:α×Nat×Nat×List Rg×List Rg}(h:(I0a m s).det=some (q,s')):
  q.2.1=s.nx∧s'.nx=q.2.2.1∧s'.lo=s.lo∧∃lo',(m ⟨s.h,s.nx,s.nx,[],[]⟩).det=some (q.1,⟨s'.h,q.2.2.1,lo',q.2.2.2.1,q.2.2.2.2⟩):=by
 obtain⟨h0,nx,lo,rd,wr⟩:=s
 obtain⟨a,t,hr,h⟩:=I0K h
 obtain⟨h1,nx1,lo1,rd1,wr1⟩:=t
 have h:some (_,_)=some (q,s'):=h
 cases h
 exact⟨rfl,rfl,rfl,lo1,hr⟩
theorem K0K(hc:∀f as,Fr (call f as)):∀(l:List Oper)(i:Nat)(past:List Past)(T:Tm)(s:St)(T':Tm)(s':St),(D0Z E call ops l i past T s).det=some (T',s')→s.h.deep DH→s.nx≤LH→T.Fine→
  ops.drop i=l→PastOk ops past→
  ∃
   its:List It,its.map (fun x=>(x.i,x.o))=(l.zipIdx i).map (fun x=>(x.2,x.1))∧Path E call ops its T s.h T' s'.h∧Chain its s.nx s'.nx∧s'.nx≤LH∧its.Pairwise (Pair ops)∧
   (∀x∈its,G0m x.o→∀n p,Cov x.rd n p→Cov x.wr n p)∧∀p∈past,∀y∈its,S0F ops y.o p.i∨Foot.apart p.f y.foot=true
 |
  [],i,past,T,s,T',s',h,_,hn,_,_,_=>by
  have h:some (T,s)=some (T',s'):=h
  cases h
  exact⟨[],rfl,.nil _ _,rfl,hn,.nil,fun x hx=>(by cases hx),fun p _ y hy=>(by cases hy)⟩
 |
  o::l,i,past,T,s,T',s',h,hd,hn,hT,hdr,hp=>by
  rw[H0k] at h
  obtain⟨q,s1,h1,h⟩:=B0P h
  obtain⟨hap,h⟩:=P0s h
  obtain⟨T1,nx,nx',rd,wr⟩:=q
  obtain⟨e1,e2,e3,lo',e4⟩:=T0y h1
  simp only[] at e1 e2 e4 h hap
  subst e1
  rw[Q0J] at e4
  obtain⟨v,s2,g1,g2⟩:=B0P e4
  obtain⟨rfl,rfl,hs⟩:=e0F g2
  obtain⟨dr,dw,ok1,L,To,S⟩:=U0U hc _ _ _ g1 ⟨Nat.le_refl _,hd,hn⟩
  have elo:lo'=s.nx:=To.lo
  subst elo
  have hil:i<ops.length:=by
   rcases Nat.lt_or_ge i ops.length with z|z
   ·exact z
   ·rw[List.drop_eq_nil_iff.2 z] at hdr;cases hdr
  rw[List.drop_eq_getElem_cons hil] at hdr
  have f1:ops[i]=o:=(List.cons.inj hdr).1
  have hio:ops[i]?=some o:=by rw[List.getElem?_eq_getElem hil,f1]
  have f2:ops.drop (i+1)=l:=(List.cons.inj hdr).2
  have hle:s.nx≤nx':=To.nx
  have hle':nx'≤LH:=ok1.le
  obtain⟨its,k1,k2,k3,k4,k5,k6,k7⟩:=K0K hc l (i+1) _ _ s1 T' s' h ok1.deep (by rw[e2];exact hle') (V0g hT _ _) f2 (hp.cons hio _)
  have hx:DoesV E call ops ⟨i,o,s.nx,nx',rd,wr⟩ T s.h v s1.h:=g1
  refine⟨⟨i,o,s.nx,nx',rd,wr⟩::its,by simp[List.zipIdx_cons,k1],.cons ⟨v,hx,hs,rfl⟩ k2,⟨rfl,hle,by rw[←e2];exact k3⟩,k4,?_,?_,?_⟩
  ·refine List.pairwise_cons.2 ⟨fun y hy=>⟨?_,?_,?_⟩,k5⟩
   ·have :(y.i,y.o)∈its.map (fun x=>(x.i,x.o)):=List.mem_map.2 ⟨y,hy,rfl⟩
    rw[k1] at this
    obtain⟨z,hz,ez⟩:=List.mem_map.1 this
    have :=List.mem_zipIdx hz
    have e5:z.2=y.i:=congrArg Prod.fst ez
    show i<y.i
    omega
   ·have :=k3.mem y hy
    show nx'≤y.nx
    rw[e2] at this;exact this.1
   ·exact k7 _ (List.mem_cons_self ..) y hy
  ·intro x hxm hi n p hcv
   rcases List.mem_cons.1 hxm with rfl|hxm
   ·exact a0W hi hx hcv
   ·exact k6 x hxm hi n p hcv
  ·intro p hpm y hy
   rcases List.mem_cons.1 hy with rfl|hy
   ·rcases J0b hap p hpm with z|z
    ·exact .inl (M0v hp z)
    ·exact .inr z
   ·exact k7 p (List.mem_cons_of_mem _ hpm) y hy
theorem Does.fine{x:It}{T T':Tm}{h h':Tr AObj}(D:Does E call ops x T h T' h')(hT:T.Fine):T'.Fine∧T'.n=T.n:=by
 obtain⟨v,_,_,rfl⟩:=D
 exact⟨V0g hT _ _,X0P _ _ _⟩
theorem Does.deep(hc:∀f as,Fr (call f as)){x:It}{T T':Tm}{h h':Tr AObj}(D:Does E call ops x T h T' h')(hd:h.deep DH)(hn:x.nx≤LH):h'.deep DH:=by
 obtain⟨v,d,_,_⟩:=D
 exact(d.feet hc hd hn).1.deep
theorem e0V(hc:∀f as,Fr (call f as))(hr:d0y ops){y:It}{l2:List It}{N:Nat}(hN:N≤LH)(hy:ops[y.i]?=some y.o)(hyn:y.nx≤N)(hyi:G0m y.o→∀n p,Cov y.rd n p→Cov y.wr n p):
  ∀
   (l1:List It) {T T2:Tm} {h h2:Tr AObj},Path E call ops (l1++y::l2) T h T2 h2→T.Fine→h.deep DH→(∀x∈l1,Pair ops x y∧ops[x.i]?=some x.o∧x.nx≤N∧¬S0F ops y.o x.i∧(G0m x.o→∀n p,Cov x.rd n p→Cov x.wr n p))→
   ∃T1 h1,Does E call ops y T h T1 h1∧Path E call ops (l1++l2) T1 h1 T2 h2
 |
  [],T,T2,h,h2,hp,_,_,_=>by
  cases hp with
  |cons d p=>exact⟨_,_,d,p⟩
 |
  x::l1,T,T2,h,h2,hp,hT,hd,hx=>by
  cases hp with
  |
   cons d p=>
   obtain⟨hpair,hxi,hxn,hna,hxl⟩:=hx x (by simp)
   obtain⟨T1,h1,d2,p2⟩:=e0V hc hr hN hy hyn hyi l1 p (d.fine hT).1 (d.deep hc hd (Nat.le_trans hxn hN)) (fun z hz=>hx z (by simp[hz]))
   have sl:=(hr.slots x.i y.i x.o y.o hpair.lt hxi hy).resolve_left hna
   have fo:=hpair.foot.resolve_left hna
   have sw:∃T1' h1',Does E call ops y T h T1' h1'∧Does E call ops x T1' h1' T1 h1:=by
    rcases P0b fo hxl hyi with ap|⟨ia,ib⟩
    ·exact swap hc d d2 hT hd (Nat.le_trans hxn hN) hpair.ord (Nat.le_trans hyn hN) ap sl
    ·exact a0R hc ia ib d d2 hT hd (Nat.le_trans hxn hN) hpair.ord (Nat.le_trans hyn hN) sl
   obtain⟨T1',h1',z1,z2⟩:=sw
   exact⟨T1',h1',z1,.cons z2 p2⟩
end
end Go.Ev
namespace Go.Ev
open Go Go.RowKit
variable[Univ]
theorem a0X{a b:Bool}(h:sel a b (not b)=true):a=b:=by cases a<;>cases b<;>first|rfl|cases h
theorem P0H:∀{a b:List UInt8},eqS a b=true→a=b
 |[],[],_=>rfl
 |[],_::_,h=>by simp[eqS] at h
 |_::_,[],h=>by simp[eqS] at h
 |
  x::a,y::b,h=>by
  unfold eqS at h
  simp only[B0v,beqN,decide_eq_true_eq] at h
  by_cases e:x.toNat=y.toNat
  ·rw[if_pos e] at h
   rw[UInt8.toNat_inj.1 e,P0H h]
  ·rw[if_neg e] at h;cases h
theorem A0E{a b:Nat}(h:Nat.beq a b=true):a=b:=Nat.eq_of_beq_eq_true h
mutual
theorem K0r:∀{a b:AVal},AVal.same a b=true→a=b:=by
 intro a b h
 cases a<;>cases b<;>simp only[AVal.same,Bool.and_eq_true,Bool.false_eq_true] at h
 case bool.bool x y=>rw[a0X h]
 case int.int j x k y=>
  have e1:j=k:=eq_of_beq h.1
  have e2:=h.2
  rw[E0e] at e2
  rw[e1,eq_of_beq e2]
 case str.str x y=>rw[P0H h]
 case ptr.ptr x i y j=>rw[A0E h.1,A0E h.2]
 case nilp.nilp=>rfl
 case slice.slice n o k c e n' o' k' c' e'=>
  obtain⟨⟨⟨⟨h1,h2⟩,h3⟩,h4⟩,h5⟩:=h
  have :c=c':=by
   cases c<;>cases c'<;>simp only[Bool.false_eq_true] at h4
   ·rfl
   ·rw[A0E h4]
  rw[A0E h1,A0E h2,A0E h3,this,A0E h5]
 case nils.nils=>rfl
 case map.map x y=>rw[A0E h]
 case nilm.nilm=>rfl
 case fn.fn f l m f' l' m'=>
  obtain⟨⟨h1,h2⟩,h3⟩:=h
  rw[A0E h1,H0A h2,H0A h3]
 case nilf.nilf=>rfl
 case iface.iface t x t' y=>rw[A0E h.1,K0r h.2]
 case nili.nili=>rfl
 case agg.agg l m=>rw[H0A h]
 case tup.tup l m=>rw[H0A h]
 case yld.yld x y=>rw[A0E h]
theorem H0A:∀{a b:List AVal},AVal.sames a b=true→a=b:=by
 intro a b h
 cases a<;>cases b<;>simp only[AVal.sames,Bool.and_eq_true,Bool.false_eq_true] at h
 ·rfl
 ·rw[K0r h.1,H0A h.2]
end
theorem P0S:∀{l m:List (Nat×Nat×Nat)},Q0m l m=true→l=m
 |[],[],_=>rfl
 |[],_::_,h=>by simp[Q0m] at h
 |_::_,[],h=>by simp[Q0m] at h
 |
  (a,b,c)::l,(a',b',c')::m,h=>by
  simp only[Q0m,Bool.and_eq_true] at h
  obtain⟨⟨⟨h1,h2⟩,h3⟩,h4⟩:=h
  rw[A0E h1,A0E h2,A0E h3,P0S h4]
theorem R0p:∀{l m:List (AVal×AVal)},O0D l m=true→l=m
 |[],[],_=>rfl
 |[],_::_,h=>by simp[O0D] at h
 |_::_,[],h=>by simp[O0D] at h
 |
  (a,b)::l,(a',b')::m,h=>by
  simp only[O0D,Bool.and_eq_true] at h
  obtain⟨⟨h1,h2⟩,h3⟩:=h
  rw[K0r h1,K0r h2,R0p h3]
theorem N0I{x y:AObj}(h:AObj.same x y=true):x=y:=by
 cases x<;>cases y<;>simp only[AObj.same,Bool.and_eq_true,Bool.false_eq_true] at h
 case cells.cells cs e f d r l al cs' e' f' d' r' l' al'=>
  obtain⟨⟨⟨⟨⟨⟨h1,h2⟩,h3⟩,h4⟩,h5⟩,h6⟩,h7⟩:=h
  rw[H0A h1,A0E h2,eq_of_beq h3,eq_of_beq h4,A0E h5,A0E h6,P0S h7]
 case map.map kt es c kt' es' c'=>
  obtain⟨⟨h1,h2⟩,h3⟩:=h
  rw[A0E h1,R0p h2,A0E h3]
 case siter.siter y l p y' l' p'=>
  simp only[Bool.not_eq_true'] at h
  rw[P0H h.1.2,A0E h.2,h.1.1.1,h.1.1.2]
 case rcd.rcd k k'=>
  cases k<;>cases k'<;>simp only[Rcd.same,Bool.and_eq_true,Bool.false_eq_true] at h
  case mark.mark=>rfl
  case loop.loop a x b y=>
   have :x=y:=by
    have h2:=h.2
    cases x<;>cases y<;>simp only[AExit.same,Bool.false_eq_true] at h2
    ·rfl
    ·rw[A0E h2]
    ·rfl
   rw[A0E h.1,this]
 case done.done=>rfl
theorem K0v:∀(d:Nat)(a b:Tr AObj),a.deep d→b.deep d→∀n,n<2^d→((Tr.common a b).get n=none∨(Tr.common a b).get n=some .done)∨((Tr.common a b).get n=a.get n∧(Tr.common a b).get n=b.get n)
 |0,.nil,.nil,_,_,n,_=>.inl (.inl rfl)
 |0,.nil,.leaf _,_,_,n,_=>.inl (.inl rfl)
 |0,.leaf _,.nil,_,_,n,_=>.inl (.inl rfl)
 |
  0,.leaf x,.leaf y,_,_,n,_=>by
  unfold Tr.common
  cases h:AObj.same x y with
  |
   true=>
   have :=N0I h
   subst this
   exact .inr ⟨rfl,rfl⟩
  |false=>exact .inl (.inr rfl)
 |0,.node _ _,_,h,_,_,_=>h.elim
 |0,.nil,.node _ _,_,h,_,_=>h.elim
 |0,.leaf _,.node _ _,_,h,_,_=>h.elim
 |d+1,.nil,_,h,_,_,_=>h.elim
 |d+1,.leaf _,_,h,_,_,_=>h.elim
 |d+1,.node _ _,.nil,_,h,_,_=>h.elim
 |d+1,.node _ _,.leaf _,_,h,_,_=>h.elim
 |
  d+1,.node l r,.node l' r',h,k,n,hn=>by
  have hp:2^(d+1)=2*2^d:=by rw[Nat.pow_succ];omega
  rw[hp] at hn
  have e:Tr.common (.node l r) (.node l' r')=.node (Tr.common l l') (Tr.common r r'):=rfl
  rw[e,B0d,B0d,B0d]
  by_cases c:n % 2=0
  ·rw[if_pos c,if_pos c,if_pos c];exact K0v d l l' h.1 k.1 _ (by omega)
  ·rw[if_neg c,if_neg c,if_neg c];exact K0v d r r' h.2 k.2 _ (by omega)
section
variable{P:Program}{E:Env}{base:Bs}{w0:World}{Γ:Gam}{w:World}{s:St}
theorem Rel.fewer{h h':Tr AObj}(R:Rel E base w0 Γ h w)(hd:h'.deep DH)(hg:∀n,n<LH→(h'.get n=none∨h'.get n=some .done)∨h'.get n=h.get n):Rel E base w0 Γ h' w:=by
 have back:∀n o,n<LH→h'.get n=some o→o≠.done→h.get n=some o:=by
  intro n o hn ho hne
  rcases hg n hn with(q|q)|q
  ·rw[q] at ho;cases ho
  ·rw[q] at ho;cases ho;exact absurd rfl hne
  ·rw[←q];exact ho
 refine R.weak hd (fun n hn=>?_) (fun n cs e frz root rel al hn h1 cs' e' frz' d' root' rel' al' hr h2=>?_) (fun n cs e frz d root rel al hn h1=>?_)
 ·rcases hg n hn with(q|q)|q
  ·exact .inr (.inl q)
  ·exact .inr (.inr (.inl q))
  ·exact .inl q
 ·exact R.fam n cs e frz root rel al hn (back n _ hn h1 (by simp)) _ _ _ _ _ _ _ (back root _ hr h2 (by simp))
 ·obtain⟨_,_,_,⟨_,q⟩,_⟩:=R.obj n _ hn (back n _ hn h1 (by simp))
  exact q
structure Kept(a:AVal)(s:St)(b:AVal)(t:St):Prop where
 val:b=a
 nx:t.nx=s.nx
 rel:∀{E:Env}{base:Bs}{w0:World}{Γ:Gam}{w:World},Rel E base w0 Γ s.h w→Rel E base w0 Γ t.h w
theorem Kept.refl(a:AVal)(s:St):Kept a s a s:=⟨rfl,rfl,id⟩
theorem Kept.trans{a b c:AVal}{s t u:St}(h:Kept a s b t)(k:Kept b t c u):Kept a s c u:=⟨k.val.trans h.val,k.nx.trans h.nx,fun r=>k.rel (h.rel r)⟩
theorem C0W:∀{r:Res AVal},(B0E r).Good→r.Good
 |.ok _ _,_=>trivial
 |.fail _,h=>h
 |.each _ _ _,h=>h
 |.ite true l _,h=>C0W (r:=l) h
 |.ite false _ r,h=>C0W (r:=r) h
 |
  .br l r,h=>by
  have hl:=C0W (r:=l)
  have hr:=C0W (r:=r)
  unfold B0E at h
  split at h
  ·rename_i e1 e2
   exact⟨hl (by rw[e1];trivial),hr (by rw[e2];trivial)⟩
  ·exact⟨hl h.1,hr h.2⟩
theorem C0Z:∀{r:Res AVal}{s0:St},(∀a s,r.Has a s→Grow s0 s)→s0.h.deep DH→∀a s,r.Has a s→∃b t,(B0E r).Has b t∧Kept a s b t
 |.ok b t,s0,_,_,a,s,h=>⟨b,t,⟨rfl,rfl⟩,by obtain⟨rfl,rfl⟩:=h;exact .refl _ _⟩
 |.fail _,_,_,_,_,_,h=>h.elim
 |.each c p f,s0,_,_,a,s,h=>⟨a,s,h,.refl _ _⟩
 |.ite true l _,s0,hg,hd,a,s,h=>C0Z (r:=l) hg hd a s h
 |.ite false _ r,s0,hg,hd,a,s,h=>C0Z (r:=r) hg hd a s h
 |
  .br l r,s0,hg,hd,a,s,h=>by
  have gl:∀a s,l.Has a s→Grow s0 s:=fun a s q=>hg a s (.inl q)
  have gr:∀a s,r.Has a s→Grow s0 s:=fun a s q=>hg a s (.inr q)
  have hl:=C0Z (r:=l) gl hd
  have hr:=C0Z (r:=r) gr hd
  have both:∃b t,(Res.br (B0E l) (B0E r)).Has b t∧Kept a s b t:=by
   rcases h with h|h
   ·obtain⟨b,t,h1,h2⟩:=hl a s h;exact⟨b,t,.inl h1,h2⟩
   ·obtain⟨b,t,h1,h2⟩:=hr a s h;exact⟨b,t,.inr h1,h2⟩
  unfold B0E
  split
  ·rename_i b t b' t' e1 e2
   cases hc:(AVal.same b b'&&Nat.beq t.nx t'.nx&&Nat.beq t.lo t'.lo) with
   |false=>rw[A0f];rw[e1,e2] at both;exact both
   |
    true=>
    rw[A0e]
    simp only[Bool.and_eq_true] at hc
    obtain⟨⟨h1,h2⟩,_⟩:=hc
    have hb:=K0r h1
    have hn:=A0E h2
    have d1:=(B0R gl b t (by rw[e1];exact⟨rfl,rfl⟩)).deep hd
    have d2:=(B0R gr b' t' (by rw[e2];exact⟨rfl,rfl⟩)).deep hd
    have hget:=K0v DH t.h t'.h d1 d2
    refine⟨_,_,⟨rfl,rfl⟩,?_⟩
    rcases h with h|h
    ·obtain⟨c,u,k1,k2⟩:=hl a s h
     rw[e1] at k1
     obtain⟨rfl,rfl⟩:=k1
     refine k2.trans ⟨rfl,rfl,fun R=>R.fewer (E0I DH _ _ d1 d2) fun n hm=>?_⟩
     rcases hget n hm with q|q
     ·exact .inl q
     ·exact .inr q.1
    ·obtain⟨c,u,k1,k2⟩:=hr a s h
     rw[e2] at k1
     obtain⟨rfl,rfl⟩:=k1
     refine k2.trans ⟨hb,hn,fun R=>R.fewer (E0I DH _ _ d1 d2) fun n hm=>?_⟩
     rcases hget n hm with q|q
     ·exact .inl q
     ·exact .inr q.2
  ·exact both
end
end Go.Ev

namespace Go.Ev
open Go Go.RowKit
variable[Univ]
def FW(r:Option Nat):Fence:={fn:=fun _=>True,depth:=none,alive:=false,round:=r}
def AExit.ex(x:AExit):Exit:=match x with
 |.normal=>.normal
 |.exit id=>.exit id
 |.ret=>.ret
section
variable{P:Program}{E:Env}{base:Bs}{w0:World}{Γ:Gam}{w:World}{s:St}
def E0i(E:Env)(base:Bs)(w0:World)(Γ:Gam)(ro:Option Nat)(s:St)(N:Nat)(r:Res (AExit×Tm))(e:Exit)(a:Act)(w':World):Prop:=
 ∃x T' s' Γ',r.Has (x,T') s'∧e=x.ex∧TRel Γ' ro T' a∧Got E base w0 Γ s N Γ' s' w'
def CallPost(E:Env)(base:Bs)(w0:World)(Γ:Gam)(s:St)(N:Nat)(r:Res AVal)(e:Ending)(w':World):Prop:=
 ∃v a s' Γ',e=.returned v∧r.Has a s'∧VRel Γ' a v∧Got E base w0 Γ s N Γ' s' w'
inductive Inv(P:Program)(E:Env)(base:Bs)(w0:World)(Γ:Gam)(s:St)(N:Nat)(r:Res AVal):Result Next→Prop
 |val {v:Value} {w1:World} (h:CallPost E base w0 Γ s N r (.returned v) w1):Inv P E base w0 Γ s N r (.ok (.value v) w1)
 |enter {f:FuncId} {args:Array Value} {w1:World} (h:∀m,CallsIn (FW none) m P f args w1 (CallPost E base w0 Γ s N r)):Inv P E base w0 Γ s N r (.ok (.enter f args) w1)
 |round {l:Nat} {f:FuncId} {tmps:Array Value} {x y:Code} {w1:World} (h:∀m,RoundIn (FW none) m P l f tmps x y w1 (CallPost E base w0 Γ s N r)):Inv P E base w0 Γ s N r (.ok (.round l f tmps x y) w1)
end
def CtrSound(P:Program)(f:FuncId)(g:List AVal→CT AVal):Prop:=∀(E:Env)(base:Bs)(w0:World)(Γ:Gam)(s:St)(w:World)(as:List AVal)(vs:Array Value)(N:Nat),E.ty=(G0x P).ty→
 Rel E base w0 Γ s.h w→VRels Γ as vs.toList→((g as).run s).Good→(∀a s',((g as).run s).Has a s'→s'.nx≤N)→C0q Γ s.nx N→N≤LH→Inv P E base w0 Γ s N ((g as).run s) ((callFunc f vs).run P w)
def M0i(so:Bool)(P:Program)(f:FuncId)(g:List AVal→CT AVal):Prop:=∀(E:Env)(base:Bs)(w0:World)(Γ:Gam)(s:St)(w:World)(as:List AVal)(vs:Array Value)(N:Nat),E.ty=(G0x P).ty→E.solo=so→
 Rel E base w0 Γ s.h w→VRels Γ as vs.toList→((g as).run s).Good→(∀a s',((g as).run s).Has a s'→s'.nx≤N)→C0q Γ s.nx N→N≤LH→Inv P E base w0 Γ s N ((g as).run s) ((callFunc f vs).run P w)
theorem CtrSound.to{P:Program}{f:FuncId}{g:List AVal→CT AVal}(h:CtrSound P f g)(so:Bool):M0i so P f g:=fun E base w0 Γ s w as vs N h1 _=>h E base w0 Γ s w as vs N h1
def A0h(P:Program)(p:B0s):Prop:=∀(E:Env)(base:Bs)(w0:World)(Γ:Gam)(s:St)(w:World)(T:Tm)(ro:Option Nat)(a:Act)(N m:Nat),E.ty=(G0x P).ty→
 Rel E base w0 Γ s.h w→TRel Γ ro T a→(p.run T s).Good→(∀q s',(p.run T s).Has q s'→s'.nx≤N)→C0q Γ s.nx N→N≤LH→
 (Code.loop p.body).wpIn (FW ro) m P (E0i E base w0 Γ ro s N (p.run T s)) a w
structure EnvR(E:Env)(P:Program):Prop where
 ty0:E.ty=(G0x P).ty
 fn:∀f fn,f<LY→E.fn.get f=some fn→mkFn P f=some fn
 ctr:∀f g,E0N f E.ctr=some g→M0i E.solo P f g
 lps:∀n p,E0N n E.lps=some p→A0h P p
theorem EnvR.ty{E:Env}{P:Program}(h:EnvR E P):EnvOk E P:=by
 unfold EnvOk Env.tyOf
 rw[h.ty0]
 exact d0R P
def LoopsOk(Γ:Gam)(l:List M0W):Prop:=∀d∈l,∃i,Γ d.n=some i∧i.lp.params=d.ps.toArray∧i.lp.assign=d.assign∧i.lp.body=d.body∧
 (d.T.t.deep DT∧i.lp.tmps.size=d.T.n∧d.T.n≤LT∧∀k,VRel Γ (getT d.T.t k) (i.lp.tmps.getD k undef))∧B0q d.assign=true∧B0q d.body=true
theorem LoopsOk.ext{Γ Γ':Gam}(hx:Ext Γ Γ'){l:List M0W}(h:LoopsOk Γ l):LoopsOk Γ' l:=fun d hd=>by
 obtain⟨i,h1,h2,h3,h4,⟨h5,h6,h7,h8⟩,h9⟩:=h d hd
 exact⟨i,hx _ _ h1,h2,h3,h4,⟨h5,h6,h7,fun k=>(h8 k).ext hx⟩,h9⟩
theorem E0M{α:Type}:∀{r:Res α},r.Good→∃a s,r.Has a s
 |.ok a s,_=>⟨a,s,rfl,rfl⟩
 |.br _ _,h=>let⟨a,s,k⟩:=E0M h.1;⟨a,s,.inl k⟩
 |.ite true l _,h=>E0M (r:=l) h
 |.ite false _ r,h=>E0M (r:=r) h
 |.fail _,h=>h.elim
 |.each _ _ f,h=>let⟨y,hy⟩:=h.1;let⟨a,s,k⟩:=E0M (r:=f y) (h.2 y hy);⟨a,s,⟨y,hy,k⟩⟩
theorem A0V{α β:Type}{m:M α}{f:α→M β}{s:St}{N:Nat}(g:(M.bind m f s).Good)(hu:∀a,Up (f a))(hN:∀b t,(M.bind m f s).Has b t→t.nx≤N){a:α}{s1:St}(h:(m s).Has a s1):s1.nx≤N:=by
 obtain⟨b,t,k⟩:=E0M (A0z g h)
 exact Nat.le_trans (hu a s1 b t k).nx (hN b t (A0K h k))
section
variable{P:Program}{E:Env}{base:Bs}{w0:World}{Γ:Gam}{w:World}{s:St}
def F0H(P:Program)(E:Env)(base:Bs)(w0:World)(call:C0r):Prop:=
 ∀
  (Γ:Gam) (s:St) (w:World) (f:FuncId) (as:List AVal) (vs:Array Value) (N:Nat),Rel E base w0 Γ s.h w→LoopsOk Γ E.loops→VRels Γ as vs.toList→(call f as s).Good→
  (∀a s',(call f as s).Has a s'→s'.nx≤N)→C0q Γ s.nx N→N≤LH→
  (f<LY→Inv P E base w0 Γ s N (call f as s) ((callFunc f vs).run P w))∧(∀n i,f=LY+n→Γ n=some i→Inv P E base w0 Γ s N (call f as s) ((Instr.yield i.b vs).run P w))
theorem W0J(E:Env)(det:Bool)(call:C0r)(ops:List Oper)(o:Oper)(T:Tm):D0k E det call ops o T=
  M.bind (M.opt (F0s ops T o.guard)) fun q=>M.gate q.sym q.b (M.bind (J0G ops o.dst o.op E det call T.rho) fun v=>T.put o.dst v) (T.put o.dst .undef):=by
 cases o;rfl
theorem Y0t{ops:List Oper}{d:Option Nat}{v:AVal}{u:Value}(h:VRel Γ v u):∃v',(O0x ops d v s).Has v' s∧VRel Γ v' u:=by
 unfold O0x
 split
 ·rename_i b
  cases Y0I ops d with
  |false=>exact⟨_,⟨rfl,rfl⟩,h⟩
  |
   true=>
   unfold VRel at h
   cases b with
   |true=>exact⟨.bool true,⟨rfl,rfl⟩,by unfold VRel;exact h⟩
   |false=>exact⟨.bool false,⟨rfl,rfl⟩,by unfold VRel;exact h⟩
 ·exact⟨_,⟨rfl,rfl⟩,h⟩
theorem a0x{ops:List Oper}{d:Option Nat}{op:Op}(h:∀x,op≠.move x):J0G ops d op=evOp op:=by
 cases op<;>first|rfl|exact absurd rfl (h _)
set_option maxHeartbeats 1000000 in
theorem O0I{ops:Array Oper}{i:Nat}{o:Oper}(hi:ops[i]?=some o)(hE:EnvR E P)(R:Rel E base w0 Γ s.h w){ro:Option Nat}{T:Tm}{a:Act}(hT:TRel Γ ro T a)(hL:LoopsOk Γ E.loops)
  {call:C0r} (hcall:F0H P E base w0 call) (hup:∀f as,Up (call f as)) (det:Bool) (g:(D0k E det call ops.toList o T s).Good) {N:Nat} (hN:∀T' s',(D0k E det call ops.toList o T s).Has T' s'→s'.nx≤N)
  (hF:C0q Γ s.nx N) (hLH:N≤LH) {m:Nat} {Q:Exit→Act→World→Prop} {K:Act→World→Prop}
  (hK:∀T' s' Γ' a' w',(D0k E det call ops.toList o T s).Has T' s'→TRel Γ' ro T' a'→Got E base w0 Γ s N Γ' s' w'→K a' w'):wpOpIn (FW ro) m P ops Q i K a w:=by
 rw[W0J] at g hN hK
 obtain⟨b,hb,he⟩:=A0k (A0a g)
 rw[A0d he] at g hN hK
 have hw:=V0u hT hb
 obtain⟨sy,b⟩:=b
 simp only[] at g hN hK hw
 rw[Y0M] at g
 simp only[b0A] at hN hK
 unfold wpOpIn
 simp only[hi,hw]
 cases b with
 |
  false=>
  simp only[A0f] at g hN hK
  simp only[Bool.false_eq_true,if_false]
  refine⟨fun _ _=>trivial,?_⟩
  obtain⟨T',e1,hT'⟩:=hT.put (D0B Γ) g
  exact hK T' s Γ _ w (by rw[e1];exact⟨rfl,rfl⟩) hT' (Got.same hF rfl R)
 |
  true=>
  simp only[A0e] at g hN hK
  simp only[if_true]
  refine⟨fun _ _=>trivial,?_⟩
  have hsem:o.semAt (FW ro).round a.eval=execOp a.eval o:=Oper.semAt_eq _ _ o fun c hc=>by
   have g1:=A0a g
   rw[hc] at g1;exact g1.elim
  rw[hsem]
  by_cases hmv:∃x,o.op=.move x
  ·obtain⟨x,hx⟩:=hmv
   have hv:=hT.rho x
   obtain⟨v',hh,hr⟩:=Y0t (s:=s) (ops:=ops.toList) (d:=o.dst) hv
   have e0:J0G ops.toList o.dst o.op E det call T.rho=O0x ops.toList o.dst (T.rho x):=by rw[hx];rfl
   rw[e0] at g hK
   obtain⟨T',e1,hT'⟩:=hT.put hr (A0z g hh)
   have hrun:(execOp a.eval o).run P w=.ok (.value (a.eval x)) w:=by simp only[execOp,hx];rfl
   rw[hrun,Oper.uponIn_value]
   exact hK T' s Γ _ w (A0K hh (by rw[e1];exact⟨rfl,rfl⟩)) hT' (Got.same hF rfl R)
  have hmv':∀x,o.op≠.move x:=fun x hx=>hmv ⟨x,hx⟩
  rw[a0x hmv'] at g hN hK
  have upPut:∀v,Up (T.put o.dst v):=fun v=>U0N upCl
  have fin:∀{v1:AVal}{s1:St}{Γ':Gam}{v:Value}{w':World},(evOp o.op E det call T.rho s).Has v1 s1→VRel Γ' v1 v→Got E base w0 Γ s N Γ' s1 w'→K (a.put o.dst v) w':=by
   intro v1 s1 Γ' v w' hv hr hG
   obtain⟨T',e1,hT'⟩:=(hT.ext hG.ext).put hr (A0z g hv)
   exact hK T' s1 Γ' _ w' (A0K hv (by rw[e1];exact⟨rfl,rfl⟩)) hT' hG
  by_cases hp:P0N o.op=true
  ·obtain⟨v1,s1,hv,hgot⟩:=W0w (P:=P) (w:=w) hE.ty R hT.rho det call hp (A0a g)
   obtain⟨Γ',nxt,w',hrun,hval,hG⟩:=hgot N (A0V g upPut hN hv) hF
   rw[hrun]
   rcases hval with⟨v,rfl,hr⟩|⟨rfl,rfl⟩
   ·rw[Oper.uponIn_value];exact fin hv hr hG
   ·rw[Oper.uponIn_skip];exact fin hv (D0B _) hG
  ·have hb':∀v1 s1,(evOp o.op E det call T.rho s).Has v1 s1→s1.nx≤N:=fun v1 s1 hv=>A0V g upPut hN hv
   have g1:=A0a g
   have inv:∀{r:Res AVal}{run:Result Next},r=evOp o.op E det call T.rho s→Inv P E base w0 Γ s N r run→o.uponIn (FW ro) m P a K Q run:=by
    intro r run hr hinv
    have post:∀e w',CallPost E base w0 Γ s N r e w'→(match e,w' with
      |.returned v,w''=>K (a.put o.dst v) w''
      |.panicked chain,w''=>Q (.panic chain) a w''
      |.outgrown,_=>LetsOut Q:Prop):=by
     rintro e w'⟨v,a1,s1,Γ1,rfl,h1,h2,h3⟩
     rw[hr] at h1
     exact fin h1 h2 h3
    cases hinv with
    |val h=>rw[Oper.uponIn_value];exact post _ _ h
    |
     enter h=>
     rw[Oper.uponIn_enter]
     refine⟨fun q=>(by cases q),?_⟩
     exact CallsIn.mono (h (m-1)) post
    |
     round h=>
     rw[Oper.uponIn_round]
     refine⟨fun q=>(by cases q),?_⟩
     exact RoundIn.mono (h (m-1)) post
   cases ho:o.op<;>rw[ho] at hp<;>simp only[P0N,not_true_eq_false] at hp
   rename_i c
   rw[ho] at g1 hb' inv
   change(C0J c E call T.rho s).Good at g1
   change∀v1 s1,(C0J c E call T.rho s).Has v1 s1→s1.nx≤N at hb'
   change∀{r:Res AVal}{run:Result Next},r=C0J c E call T.rho s→Inv P E base w0 Γ s N r run→o.uponIn (FW ro) m P a K Q run at inv
   have hargs:=L0e hT.rho c.args
   cases hc:c.callee with
   |builtin b=>rw[hc] at hp;simp at hp
   |invoke r n=>unfold C0J at g1;rw[hc] at g1;exact g1.elim
   |
    value f=>
    have hf:=hT.rho f
    unfold C0J at g1 hb' inv
    rw[hc] at g1 hb' inv
    simp only[] at g1 hb' inv
    cases hv:T.rho f<;>rw[hv] at g1 hb' inv hf<;>simp only[] at g1 hb' inv<;>first
     |exact g1.elim
     |skip
    case fn gf first captured=>
     unfold VRel at hf
     obtain⟨vs,ws,hfv,h1,h2⟩:=hf
     cases hlt:Nat.blt gf LY with
     |false=>rw[hlt] at g1;exact g1.elim
     |
      true=>
      rw[hlt] at g1 hb' inv
      simp only[A0e] at g1 hb' inv
      have hall:VRels Γ (first++map1 T.rho c.args.toList++captured) (vs++c.args.map a.eval++ws).toList:=by
       rw[Array.toList_append,Array.toList_append]
       exact(h1.append hargs).append h2
      have :=(hcall Γ s w gf _ _ N R hL hall g1 hb' hF hLH).1 (by simpa [Nat.blt_eq] using hlt)
      have hrun:(execOp a.eval o).run P w=(callFunc gf (vs++c.args.map a.eval++ws)).run P w:=by
       simp only[execOp,ho,resolve,hc,hfv,Deferred.ofValue,Sem.run_bind,Sem.run_pure,Result.andThen_ok,invoke]
      rw[hrun]
      exact inv rfl this
    case yld n=>
     unfold VRel at hf
     obtain⟨k,hk,hfv⟩:=hf
     have :=(hcall Γ s w (LY+n) _ _ N R hL hargs g1 hb' hF hLH).2 n k rfl hk
     have hrun:(execOp a.eval o).run P w=(Instr.yield k.b (c.args.map a.eval)).run P w:=by
      simp only[execOp,ho,resolve,hc,hfv,Deferred.ofValue,Sem.run_bind,Sem.run_pure,Result.andThen_ok,invoke]
      simp
     rw[hrun]
     exact inv rfl this
theorem Q0K{ops:Array Oper}(hE:EnvR E P){call:C0r}(hcall:F0H P E base w0 call)(hup:∀f as,Up (call f as))(det:Bool){N:Nat}(hLH:N≤LH){ro:Option Nat}{m:Nat}{Q:Exit→Act→World→Prop}:
  ∀(l:List Oper)(i:Nat),ops.toList.drop i=l→∀{Γ:Gam}{s:St}{w:World}{T:Tm}{a:Act},Rel E base w0 Γ s.h w→TRel Γ ro T a→LoopsOk Γ E.loops→(N0o E det call ops.toList l T s).Good→
  (∀T' s',(N0o E det call ops.toList l T s).Has T' s'→s'.nx≤N)→C0q Γ s.nx N→
  (∀T' s' Γ' a' w',(N0o E det call ops.toList l T s).Has T' s'→TRel Γ' ro T' a'→Got E base w0 Γ s N Γ' s' w'→Q .normal a' w')→wpOpsIn (FW ro) m P ops Q (List.range' i l.length) a w
 |[],i,_,Γ,s,w,T,a,R,hT,hL,g,hN,hF,hK=>hK T s Γ a w ⟨rfl,rfl⟩ hT (Got.same hF rfl R)
 |
  o::l,i,hd,Γ,s,w,T,a,R,hT,hL,g,hN,hF,hK=>by
  have hil:i<ops.toList.length:=by
   rcases Nat.lt_or_ge i ops.toList.length with z|z
   ·exact z
   ·rw[List.drop_eq_nil_iff.2 z] at hd;cases hd
  rw[List.drop_eq_getElem_cons hil] at hd
  have f1:ops.toList[i]=o:=(List.cons.inj hd).1
  have f2:ops.toList.drop (i+1)=l:=(List.cons.inj hd).2
  have hio:ops[i]?=some o:=by
   rw[←Array.getElem?_toList,List.getElem?_eq_getElem hil,f1]
  change(M.bind (D0k E det call ops.toList o T) (N0o E det call ops.toList l) s).Good at g
  change∀T' s',(M.bind (D0k E det call ops.toList o T) (N0o E det call ops.toList l) s).Has T' s'→s'.nx≤N at hN
  change∀T' s' Γ' a' w',(M.bind (D0k E det call ops.toList o T) (N0o E det call ops.toList l) s).Has T' s'→TRel Γ' ro T' a'→Got E base w0 Γ s N Γ' s' w'→Q .normal a' w' at hK
  rw[List.length_cons,List.range'_succ,wpOpsIn_cons]
  refine O0I hio hE R hT hL hcall hup det (A0a g) (fun T' s' hh=>A0V g (fun T=>P0O upCl hup) hN hh) hF hLH ?_
  intro T' s' Γ' a' w' hh hT' hG
  exact Q0K hE hcall hup det hLH l (i+1) f2 hG.rel hT' (hL.ext hG.ext) (A0z g hh) (fun T2 s2 h2=>hN T2 s2 (A0K hh h2)) hG.fresh
   fun T2 s2 Γ2 a2 w2 h2 hT2 hG2=>hK T2 s2 Γ2 a2 w2 (A0K hh h2) hT2 (hG.trans hG2)
end
theorem binding_mem{o:Oper}{i:Nat}:i∈B0D o↔∃e∈o.after,Region.binds .any e=true∧e.on=i:=by
 unfold B0D
 rw[List.mem_filterMap]
 constructor
 ·rintro⟨e,he,h⟩
  refine⟨e,by simpa using he,?_⟩
  unfold Region.binds
  cases hg:e.ground<;>rw[hg] at h<;>simp at h<;>exact⟨rfl,h⟩
 ·rintro⟨e,he,hb,rfl⟩
  refine⟨e,by simpa using he,?_⟩
  unfold Region.binds at hb
  cases hg:e.ground<;>rw[hg] at hb<;>simp at hb<;>rfl
theorem Z0w{α β:Type}{m:M α}{f:α→M β}{s t:St}{a:α}(h:(m s).det=some (a,t)):(M.bind m f s).det=(f a t).det:=J0k (f:=fun a t=>f a t) h
theorem Does.run{E:Env}{call:C0r}{ops:List Oper}{x:It}{T T':Tm}{h h':Tr AObj}(D:Does E call ops x T h T' h'):
  (D0k E true call ops x.o T ⟨h,x.nx,x.nx,[],[]⟩).det=some (T',⟨h',x.nx',x.nx,x.rd,x.wr⟩):=by
 obtain⟨v,d,hs,rfl⟩:=D
 rw[Q0J]
 refine(J0k (f:=fun v=>T.put x.o.dst v) d).trans ?_
 rw[d0c hs];rfl
theorem O0J{E:Env}{call:C0r}{ops:List Oper}:∀{l:List Oper}{i:Nat}{past:List Past}{T:Tm}{s:St},(D0Z E call ops l i past T s).Good→∃T' s',(D0Z E call ops l i past T s).det=some (T',s')
 |[],_,_,T,s,_=>⟨T,s,rfl⟩
 |
  o::l,i,past,T,s,h=>by
  rw[H0k] at h⊢
  have g1:=A0a h
  have :∃q s1,(I0a (D0k E true call ops o T) s).det=some (q,s1):=by
   obtain⟨h0,nx,lo,rd,wr⟩:=s
   obtain⟨a,t,hr,g2⟩:=J0Q g1
   exact⟨_,_,J0h hr⟩
  obtain⟨q,s1,e⟩:=this
  have h2:=A0z h (D0y e).2
  obtain⟨_,hr⟩:=A0i h2
  rw[hr] at h2
  obtain⟨T',s',h3⟩:=O0J h2
  refine⟨T',s',?_⟩
  exact(Z0w e).trans ((congrArg Res.det hr).trans h3)
section
variable{P:Program}{E:Env}{base:Bs}{w0:World}
set_option maxHeartbeats 1000000 in
theorem Z0N{ops:Array Oper}(hE:EnvR E P){call:C0r}(hcall:F0H P E base w0 call)(hup:∀f as,Up (call f as))(hfr:∀f as,Fr (call f as))(hr:d0y ops.toList){A B:Nat}(hB:B≤LH)
  {ro:Option Nat} {m:Nat} {Q:Exit→Act→World→Prop} {T2:Tm} {h2:Tr AObj} {Γ0:Gam} {N:Nat} (hBN:B≤N)
  (hQ:∀Γ' a' w',TRel Γ' ro T2 a'→Ext Γ0 Γ'→(∀n,n<A∨N≤n→Γ' n=Γ0 n)→C0q Γ' B N→Rel E base w0 Γ' h2 w'→Q .normal a' w'):
  ∀(k:Nat)(its:List It)(listed:Array Bool){Γ:Gam}{w:World}{T:Tm}{h:Tr AObj}{a:Act},its.length=k→Rel E base w0 Γ h w→TRel Γ ro T a→LoopsOk Γ E.loops→T.Fine→
  Path E call ops.toList its T h T2 h2→its.Pairwise (Pair ops.toList)→(∀x∈its,ops[x.i]?=some x.o∧A≤x.nx∧x.nx≤x.nx'∧x.nx'≤B∧(G0m x.o→∀n p,Cov x.rd n p→Cov x.wr n p))→
  (∀x∈its,C0q Γ x.nx x.nx')→Ext Γ0 Γ→(∀n,n<A∨B≤n→Γ n=Γ0 n)→C0q Γ B N→listed.size=ops.size→
  (∀j,j<ops.size→(listed.getD j true=false↔∃x∈its,x.i=j))→Shut ops.toList (fun j=>listed.getD j false=true)→
  wpAnyIn (FW ro) m P .any ops Q k listed a w:=by
 intro k
 induction k with
 |
  zero=>
  intro its listed Γ w T h a hk R hT hL hTf hp hpw hits hfr' hx hoff hfN hsz hun hsh
  have :its=[]:=List.length_eq_zero_iff.1 hk
  subst this
  cases hp with
  |
   nil=>
   refine⟨?_,hQ Γ a w hT hx (fun n hn=>hoff n (by omega)) hfN R⟩
   rw[List.eq_nil_iff_forall_not_mem]
   intro j hj
   obtain⟨h0,o,ho,_⟩:=mem_ready.1 hj
   obtain⟨x,hx,_⟩:=(hun j (Array.getElem?_eq_some_iff.1 ho).1).1 h0
   cases hx
 |
  succ k ih=>
  intro its listed Γ w T h a hk R hT hL hTf hp hpw hits hfr' hx hoff hfN hsz hun hsh
  have idx:∀x∈its,x.i<ops.size:=fun x hx=>(Array.getElem?_eq_some_iff.1 (hits x hx).1).1
  have lst:∀j,j<ops.size→(¬∃x∈its,x.i=j)→listed.getD j false=true:=by
   intro j hj hne
   have h1:listed.getD j true≠false:=fun q=>hne ((hun j hj).1 q)
   have hjl:j<listed.size:=by omega
   have e1:listed.getD j true=listed[j]:=by simp[Array.getD,hjl]
   have e2:listed.getD j false=listed[j]:=by simp[Array.getD,hjl]
   rw[e2];rw[e1] at h1
   cases hb:listed[j] with
   |true=>rfl
   |false=>exact absurd hb h1
  have unl:∀j,listed.getD j true=false→¬listed.getD j false=true:=by
   intro j h1 h2
   rcases Nat.lt_or_ge j listed.size with hjl|hjl
   ·have e1:listed.getD j true=listed[j]:=by simp[Array.getD,hjl]
    have e2:listed.getD j false=listed[j]:=by simp[Array.getD,hjl]
    rw[e1] at h1;rw[e2,h1] at h2;cases h2
   ·simp[Array.getD,Nat.not_lt.2 hjl] at h1
  refine⟨fun hnil=>?_,fun j hj=>?_⟩
  ·--the first one that is left can come up
   exfalso
   cases its with
   |nil=>simp at hk
   |
    cons x l=>
    have hxm:x∈x::l:=List.mem_cons_self ..
    have :x.i∈Region.ready .any ops listed:=by
     rw[mem_ready]
     refine⟨(hun x.i (idx x hxm)).2 ⟨x,hxm,rfl⟩,x.o,(hits x hxm).1,fun e he hb=>?_⟩
     have hlt:=hr.ahead x.i x.o (by rw[Array.getElem?_toList];exact(hits x hxm).1) e.on (binding_mem.2 ⟨e,he,hb,rfl⟩)
     refine lst e.on (by have :=idx x hxm;omega) ?_
     rintro⟨y,hy,hyi⟩
     rcases List.mem_cons.1 hy with rfl|hy
     ·omega
     ·have :=((List.pairwise_cons.1 hpw).1 y hy).lt
      omega
    rw[hnil] at this;cases this
  ·obtain⟨h0,o,ho,hall⟩:=mem_ready.1 hj
   obtain⟨y,hy,hyj⟩:=(hun j (Array.getElem?_eq_some_iff.1 ho).1).1 h0
   subst hyj
   obtain⟨hyo,hyA,hyn,hyB,hyi⟩:=hits y hy
   obtain⟨l1,l2,hsplit⟩:=List.append_of_mem hy
   subst hsplit
   have hpw1:∀x∈l1,Pair ops.toList x y:=fun x hx=>(List.pairwise_append.1 hpw).2.2 x hx y (List.mem_cons_self ..)
   have hpw2:∀x∈l2,Pair ops.toList y x:=fun x hx=>(List.pairwise_cons.1 (List.pairwise_append.1 hpw).2.1).1 x hx
   have oy:o=y.o:=by rw[hyo] at ho;exact(Option.some.inj ho).symm
   subst oy
   obtain⟨T1,h1,hd,hp'⟩:=e0V (N:=B) hfr hr hB (by rw[Array.getElem?_toList];exact hyo) (Nat.le_trans hyn hyB) hyi l1 hp hTf R.deep (by
    intro x hx'
    have hxm:x∈l1++y::l2:=List.mem_append_left _ hx'
    obtain⟨q1,q2,q3,q4,q5⟩:=hits x hxm
    refine⟨hpw1 x hx',by rw[Array.getElem?_toList];exact q1,Nat.le_trans q3 q4,fun hA=>?_,q5⟩
    have hl:=hA _ hsh (by
     intro e he
     obtain⟨ed,he1,he2,rfl⟩:=binding_mem.1 he
     exact hall ed he1 he2)
    exact unl x.i ((hun x.i (idx x hxm)).2 ⟨x,hxm,rfl⟩) hl)
   have hrun:=hd.run
   refine O0I (s:=⟨h,y.nx,y.nx,[],[]⟩) (N:=y.nx') hyo hE R hT hL hcall hup true (D0y hrun).1 (by intro T' s' hh;obtain⟨rfl,rfl⟩:=C0t hrun hh;exact Nat.le_refl _) (hfr' y hy) (Nat.le_trans hyB hB) ?_
   intro T' s' Γ' a' w' hh hT' hG
   obtain⟨rfl,rfl⟩:=C0t hrun hh
   have goff:∀n,n<y.nx∨y.nx'≤n→Γ' n=Γ n:=hG.off
   have ym:∀x∈l1++l2,x∈l1++y::l2:=by
    intro x hx'
    rcases List.mem_append.1 hx' with q|q
    ·exact List.mem_append_left _ q
    ·exact List.mem_append_right _ (List.mem_cons_of_mem _ q)
   have nei:∀x∈l1++l2,x.i≠y.i:=by
    intro x hx'
    rcases List.mem_append.1 hx' with q|q
    ·have :=(hpw1 x q).lt;omega
    ·have :=(hpw2 x q).lt;omega
   refine ih (l1++l2) (listed.setIfInBounds y.i true) (by simp at hk⊢;omega) hG.rel hT' (hL.ext hG.ext) (hd.fine hTf).1 hp' ?_ (fun x hx'=>hits x (ym x hx')) ?_ (hx.trans hG.ext) ?_ ?_ (by simpa using hsz) ?_ ?_
   ·exact List.Pairwise.sublist (List.Sublist.append (List.Sublist.refl _) (List.sublist_cons_self ..)) hpw
   ·intro x hx' n hn1 hn2
    have hxf:=hfr' x (ym x hx') n hn1 hn2
    rw[goff n ?_]
    ·exact hxf
    ·rcases List.mem_append.1 hx' with q|q
     ·have :=(hpw1 x q).ord;omega
     ·have :=(hpw2 x q).ord;omega
   ·intro n hn
    rw[goff n (by omega),hoff n hn]
   ·intro n hn1 hn2
    rw[goff n (by omega)];exact hfN n hn1 hn2
   ·intro j hjs
    by_cases c:y.i=j
    ·subst c
     constructor
     ·intro q
      have hjl:y.i<listed.size:=by omega
      simp[hjl] at q
     ·rintro⟨x,hx',hxi⟩
      exact absurd hxi (nei x hx')
    ·rw[getD_set_ne true c,hun j hjs]
     constructor
     ·rintro⟨x,hx',rfl⟩
      refine⟨x,?_,rfl⟩
      rcases List.mem_append.1 hx' with q|q
      ·exact List.mem_append_left _ q
      ·rcases List.mem_cons.1 q with rfl|q
       ·exact absurd rfl c
       ·exact List.mem_append_right _ q
     ·rintro⟨x,hx',rfl⟩
      exact⟨x,ym x hx',rfl⟩
   ·intro i oi hio hli e he
    show(listed.setIfInBounds y.i true).getD e false=true
    by_cases c:y.i=i
    ·subst c
     rw[Array.getElem?_toList,hyo] at hio
     cases hio
     obtain⟨ed,he1,he2,rfl⟩:=binding_mem.1 he
     exact getD_set_true (hall ed he1 he2)
    ·have hli:(listed.setIfInBounds y.i true).getD i false=true:=hli
     rw[getD_set_ne false c] at hli
     exact getD_set_true (hsh i oi hio hli e he)
theorem T0J{ops:Array Oper}(hE:EnvR E P){call:C0r}(hcall:F0H P E base w0 call)(hup:∀f as,Up (call f as))(hfr:∀f as,Fr (call f as))(hok:F0f ops.toList ops.toList 0 [] []=true)
  {Γ:Gam} {s:St} {w:World} {ro:Option Nat} {T:Tm} {a:Act} (R:Rel E base w0 Γ s.h w) (hT:TRel Γ ro T a) (hL:LoopsOk Γ E.loops) (g:(D0Z E call ops.toList ops.toList 0 [] T s).Good) {N:Nat}
  (hN:∀T' s',(D0Z E call ops.toList ops.toList 0 [] T s).Has T' s'→s'.nx≤N) (hF:C0q Γ s.nx N) (hLH:N≤LH) {m:Nat} {Q:Exit→Act→World→Prop}
  (hK:∀T' s' Γ' a' w',(D0Z E call ops.toList ops.toList 0 [] T s).Has T' s'→TRel Γ' ro T' a'→Got E base w0 Γ s N Γ' s' w'→Q .normal a' w'):
  wpAnyIn (FW ro) m P .any ops Q ops.size (Array.replicate ops.size false) a w:=by
 obtain⟨T2,s2,e⟩:=O0J g
 have hs2:s2.nx≤N:=hN T2 s2 (D0y e).2
 have hgr:=K0n (E:=E) upCl O0z hup (ops:=ops.toList) (l:=ops.toList) (i:=0) (past:=[]) (T:=T) s T2 s2 (D0y e).2
 have hTf:T.Fine:=⟨hT.deep,hT.le⟩
 obtain⟨its,k1,k2,k3,k4,k5,k6,k7⟩:=K0K hfr ops.toList 0 [] T s T2 s2 e R.deep (by have :=hgr.nx;omega) hTf rfl (by intro p hp;cases hp)
 have hlen:its.length=ops.size:=by
  have :=congrArg List.length k1
  simpa using this
 have hat:∀x∈its,ops[x.i]?=some x.o:=by
  intro x hx
  have :(x.i,x.o)∈its.map (fun x=>(x.i,x.o)):=List.mem_map.2 ⟨x,hx,rfl⟩
  rw[k1] at this
  obtain⟨z,hz,ez⟩:=List.mem_map.1 this
  have e1:z.2=x.i:=congrArg Prod.fst ez
  have e2:z.1=x.o:=congrArg Prod.snd ez
  rw[List.mem_zipIdx_iff_getElem?] at hz
  rw[←Array.getElem?_toList,←e1,hz,e2]
 have hin:∀j,j<ops.size→∃x∈its,x.i=j:=by
  intro j hj
  have hjl:j<ops.toList.length:=by simpa using hj
  have :(j,ops.toList[j])∈(ops.toList.zipIdx 0).map (fun x=>(x.2,x.1)):=List.mem_map.2 ⟨(ops.toList[j],j),by rw[List.mem_zipIdx_iff_getElem?];simp,rfl⟩
  rw[←k1] at this
  obtain⟨x,hx,ex⟩:=List.mem_map.1 this
  exact⟨x,hx,congrArg Prod.fst ex⟩
 refine Z0N (A:=s.nx) (B:=s2.nx) (N:=N) (Γ0:=Γ) (T2:=T2) (h2:=s2.h) hE hcall hup hfr (a0m hok) (by omega) hs2 ?_ ops.size its (Array.replicate ops.size false) hlen R hT hL hTf k2 k5 ?_ ?_ (Ext.refl _) (fun _ _=>rfl) ?_ (by simp) ?_ ?_
 ·intro Γ' a' w' hT' hx hoff hf hR
  exact hK T2 s2 Γ' a' w' (D0y e).2 hT' ⟨hx,hoff,hgr.nx,hf,hR⟩
 ·intro x hx
  obtain⟨c1,c2,c3⟩:=k3.mem x hx
  exact⟨hat x hx,c1,c2,c3,k6 x hx⟩
 ·intro x hx n hn1 hn2
  obtain⟨c1,c2,c3⟩:=k3.mem x hx
  exact hF n (by omega) (by omega)
 ·intro n hn1 hn2
  exact hF n (by have :=hgr.nx;omega) hn2
 ·intro j hj
  constructor
  ·intro _;exact hin j hj
  ·intro _;simp[hj]
 ·intro j o hjo hl e he
  have hj:j<ops.toList.length:=(List.getElem?_eq_some_iff.1 hjo).1
  have hl:(Array.replicate ops.size false).getD j false=true:=hl
  simp at hj
  simp[hj] at hl
end
theorem R0n:∀(l:List AVal)(i:Nat)(t:Tr AVal),t.deep DT→i+l.length≤LT→(P0d i l t).deep DT∧∀k,k<LT→(P0d i l t).get k=if i≤k∧k<i+l.length then l[k-i]? else t.get k
 |[],i,t,hd,_=>⟨hd,fun k _=>by rw[if_neg (by simp only[List.length_nil];omega)];rfl⟩
 |
  v::l,i,t,hd,hl=>by
  simp only[List.length_cons] at hl
  obtain⟨h1,h2⟩:=R0n l (i+1) (t.set i v) (A0j _ DT _ i hd) (by omega)
  refine⟨h1,fun k hk=>?_⟩
  show(P0d (Nat.succ i) l (t.set i v)).get k=_
  rw[h2 k hk,A0y v DT t i k hd (by show i<LT;omega) hk]
  simp only[List.length_cons]
  by_cases c:k=i
  ·subst c
   rw[if_neg (by omega),if_pos rfl,if_pos (by omega)]
   simp
  ·by_cases c2:i+1≤k∧k<i+1+l.length
   ·rw[if_pos c2,if_pos (by omega)]
    rw[show k-i=(k-(i+1))+1 by omega,List.getElem?_cons_succ]
   ·rw[if_neg c2,if_neg c,if_neg (by omega)]
theorem K0X{t:Tr AVal}{k:Nat}(h:¬k<LT):getT t k=.undef:=by
 unfold getT
 have :Nat.blt k LT=false:=by rw[bltN];simp;omega
 rw[this,A0f]
theorem Q0c{t:Tr AVal}{k:Nat}(h:k<LT):getT t k=match t.get k with |some v=>v|none=>.undef:=by
 unfold getT
 have :Nat.blt k LT=true:=by rw[bltN];simp;exact h
 rw[this,A0e]
 rfl
theorem Q0O{Γ:Gam}{as:List AVal}{vs:Array Value}(h:VRels Γ as vs.toList){nt:Nat}(h1:nt≤LT)(h2:as.length≤nt):
  TRel Γ none ⟨P0d 0 as (Tr.full DT),nt,[],none⟩ {tmps:=vs++Array.replicate (nt-vs.size) undef,defers:=[]}:=by
 have hl:vs.size=as.length:=by have :=h.length;simpa using this
 obtain⟨d1,d2⟩:=R0n as 0 (Tr.full DT) (A0Z DT) (by omega)
 refine⟨d1,rfl,rfl,by simp;omega,h1,fun k=>?_⟩
 show VRel Γ (getT (P0d 0 as (Tr.full DT)) k) ((vs++Array.replicate (nt-vs.size) undef).getD k undef)
 by_cases hk:k<LT
 ·rw[Q0c hk,d2 k hk]
  by_cases c:k<as.length
  ·rw[if_pos ⟨Nat.zero_le _,by omega⟩,Nat.sub_zero,List.getElem?_eq_getElem c]
   obtain⟨v,e1,e2⟩:=h.get (List.getElem?_eq_getElem c)
   have :(vs++Array.replicate (nt-vs.size) undef).getD k undef=v:=by
    have hk2:k<vs.size:=by omega
    have e1':vs[k]?=some v:=by simpa using e1
    rw[Array.getD_eq_getD_getElem?,Array.getElem?_append_left hk2,e1'];rfl
   rw[this];exact e2
  ·rw[if_neg (by omega),A0q]
   have :(vs++Array.replicate (nt-vs.size) undef).getD k undef=undef:=by
    rw[Array.getD_eq_getD_getElem?,Array.getElem?_append_right (by omega)]
    cases hx:(Array.replicate (nt-vs.size) undef)[k-vs.size]? with
    |none=>rfl
    |
     some v=>
     obtain⟨_,q⟩:=Array.getElem?_eq_some_iff.1 hx
     simp at q;subst q;rfl
   rw[this];exact D0B Γ
 ·rw[K0X hk]
  have :(vs++Array.replicate (nt-vs.size) undef).getD k undef=undef:=by
   rw[Array.getD_eq_getD_getElem?,Array.getElem?_append_right (by omega)]
   cases hx:(Array.replicate (nt-vs.size) undef)[k-vs.size]? with
   |none=>rfl
   |
    some v=>
    obtain⟨_,q⟩:=Array.getElem?_eq_some_iff.1 hx
    simp at q;subst q;rfl
  rw[this];exact D0B Γ
section
variable{P:Program}{E:Env}{base:Bs}{w0:World}{Γ:Gam}{w:World}{s:St}
def resF(tmps:Array Value):ResultVar→Sem Value
 |.tmp t=>pure (tmps.getD t undef)
 |.cell a t=>do loadVar t (←asAddr (tmps.getD a undef))
theorem N0B(hE:EnvOk E P)(R:Rel E base w0 Γ s.h w){ro:Option Nat}{T:Tm}{a:Act}(hT:TRel Γ ro T a){r:ResultVar}(g:(F0S E T r s).Good):
  ∃x s' v,F0S E T r s=.ok x s'∧Same s s'∧(resF a.tmps r).run P w=.ok v w∧VRel Γ x v:=by
 have hgt:∀i,VRel Γ (T.get i) (a.tmps.getD i undef):=by
  intro i
  obtain⟨t,n,ms,rnd⟩:=T
  exact hT.get i
 cases r with
 |tmp t=>exact⟨_,s,_,rfl,.refl s,rfl,hgt t⟩
 |
  cell ad t=>
  obtain⟨x,s',v,h1,h2,h3,h4,b,o,h5⟩:=K0I (P:=P) hE R (hgt ad) g
  refine⟨x,s',v,h1,h2,?_,h4⟩
  rw[h5] at h3
  show(do loadVar t (←asAddr (a.tmps.getD ad undef)):Sem Value).run P w=_
  rw[h5]
  exact h3
theorem H0a(hE:EnvOk E P){ro:Option Nat}{T:Tm}{a:Act}:∀(l:List ResultVar){s:St},Rel E base w0 Γ s.h w→TRel Γ ro T a→(B0W E T l s).Good→
  ∃xs s' vs,B0W E T l s=.ok xs s'∧Same s s'∧(l.mapM (resF a.tmps)).run P w=.ok vs w∧VRels Γ xs vs
 |[],s,_,_,_=>⟨[],s,[],rfl,.refl s,rfl,.nil⟩
 |
  r::l,s,R,hT,g=>by
  change(M.bind (F0S E T r) (fun v=>M.bind (B0W E T l) fun vs=>M.pure (v::vs)) s).Good at g
  obtain⟨x,s1,v,h1,h2,h3,h4⟩:=N0B (P:=P) hE R hT (A0a g)
  rw[A0d h1] at g
  obtain⟨xs,s2,vs,k1,k2,k3,k4⟩:=H0a hE l (s:=s1) (by rw[h2.h];exact R) hT (A0a g)
  refine⟨x::xs,s2,v::vs,?_,h2.trans k2,?_,.cons h4 k4⟩
  ·show M.bind (F0S E T r) (fun v=>M.bind (B0W E T l) fun vs=>M.pure (v::vs)) s=_
   rw[A0d h1,A0d k1];rfl
  ·rw[List.mapM_cons]
   simp only[Sem.run_bind,h3,Result.andThen_ok,k3,Sem.run_pure]
theorem T0r{fn:Func}{tmps:Array Value}{vs:List Value}(h:(fn.results.toList.mapM (resF tmps)).run P w=.ok vs w){Γ:Gam}{xs:List AVal}(hr:VRels Γ xs vs):
  ∃v,(results fn tmps).run P w=.ok v w∧VRel Γ (N0y xs) v:=by
 have e:(fn.results.mapM (resF tmps)).run P w=.ok vs.toArray w:=by
  rw[Array.mapM_eq_mapM_toList,map_eq_pure_bind]
  simp only[Sem.run_bind,h,Result.andThen_ok,Sem.run_pure]
 have e2:(results fn tmps).run P w=.ok (if h:vs.toArray.size=1 then vs.toArray[0] else .tuple vs.toArray) w:=by
  show(do let vs←fn.results.mapM (resF tmps);pure (if h:vs.size=1 then vs[0] else .tuple vs):Sem Value).run P w=_
  simp only[Sem.run_bind,e,Result.andThen_ok,Sem.run_pure]
 refine⟨_,e2,?_⟩
 rcases xs with _|⟨x,_|⟨y,l⟩⟩
 ·have :=hr.nil_inv
  subst this
  unfold N0y VRel
  exact⟨#[],rfl,.nil⟩
 ·obtain⟨v,us,rfl,h1,h2⟩:=hr.cons_inv
  have :=h2.nil_inv
  subst this
  exact h1
 ·obtain⟨v,us,rfl,h1,h2⟩:=hr.cons_inv
  obtain⟨v2,us2,rfl,h3,h4⟩:=h2.cons_inv
  have hs:¬(v::v2::us2).toArray.size=1:=by simp
  rw[dif_neg hs]
  unfold N0y VRel
  exact⟨_,rfl,by simpa using hr⟩
theorem c0H{n:Nat}(h:Nat.beq n 0=true):stOf n=.ready:=by rw[A0E h];rfl
theorem Rel.rcd(R:Rel E base w0 Γ s.h w){n:Nat}{i:Info}(hi:Γ n=some i){k:Rcd}(ho:s.h.get n=some (.rcd k)):∃ob,w.heap[i.b]?=some ob∧c0m i k ob:=by
 obtain⟨j,hj,ob,h1,h2⟩:=R.obj n _ (R.dom n i hi).1 ho
 rw[hi] at hj;cases hj
 exact⟨ob,h1,h2⟩
theorem Rel.turnRcd(R:Rel E base w0 Γ s.h w){n:Nat}{i:Info}(hi:Γ n=some i){k:Rcd}(ho:s.h.get n=some (.rcd k)){o':AObj}{ob':Obj}(hp:o'.plain)(hO:ORel E Γ (w.putObj i.b ob') n o')
  (h1:∀m since seen,o'≠.miter m since seen) (h2:∀kt es c,o'≠.map kt es c) (h3:∀k c m q l,o'≠.mps k c m q l:=by intros;simp):Rel E base w0 Γ (s.h.set n o') (w.putObj i.b ob'):=by
 obtain⟨ob,hb,hk⟩:=R.rcd hi ho
 refine R.turn hi ho trivial trivial hp hb ?_ hO ?_ ?_ (hnm2:=h3)
 ·intro c e f q
  subst q
  cases k<;>cases hk
 ·intro q since seen kt es clock j ents b borns stepped _ _ e
  exact absurd e (h1 _ _ _)
 ·intro m since seen kt es clock j ents b borns stepped _ _ _ _ e
  exact absurd e (h2 _ _ _)
theorem K0Q{ro:Option Nat}:∀(ps:List Nat)(as:List AVal)(vs:List Value){T:Tm}{a:Act},VRels Γ as vs→TRel Γ ro T a→(L0x ps as T s).Good→
  ps.length=as.length∧∃T',L0x ps as T s=.ok T' s∧TRel Γ ro T' {a with tmps:=(ps.zip vs).foldl (fun tmps x=>tmps.setIfInBounds x.1 x.2) a.tmps}
 |[],[],vs,T,a,_,hT,_=>⟨rfl,T,rfl,by simpa using hT⟩
 |[],_::_,_,_,_,_,_,g=>g.elim
 |_::_,[],_,_,_,_,_,g=>g.elim
 |
  d::ps,v::as,vs,T,a,hv,hT,g=>by
  obtain⟨u,us,rfl,h1,h2⟩:=hv.cons_inv
  change(M.bind (T.put (some d) v) (fun T=>L0x ps as T) s).Good at g
  obtain⟨T1,e1,hT1⟩:=hT.put h1 (A0a g)
  rw[A0d e1] at g
  obtain⟨hl,T',e2,hT'⟩:=K0Q ps as us h2 hT1 g
  refine⟨by simp[hl],T',?_,?_⟩
  ·show M.bind (T.put (some d) v) (fun T=>L0x ps as T) s=_
   rw[A0d e1];exact e2
  ·simpa [Act.put] using hT'
theorem M0p{F:Fence}{n:Nat}{fn:Func}{tmps:Array Value}:∀(l:List Nat)(ds:List Deferred){s:St}{w:World},MarksRel Γ l ds→Rel E base w0 Γ s.h w→(B0z l s).Good→
  ∃s' w',B0z l s=.ok () s'∧s'.nx=s.nx∧Rel E base w0 Γ s'.h w'∧∀Q:Ending→World→Prop,LeavesInM F n P fn tmps Q [] .returning w'→LeavesInM F n P fn tmps Q ds .returning w
 |
  [],ds,s,w,h,R,_=>by
  have :ds=[]:=h
  subst this
  exact⟨s,w,rfl,rfl,R,fun Q q=>q⟩
 |
  m::l,ds,s,w,h,R,g=>by
  obtain⟨i,ds',hi,rfl,hm⟩:=h
  change(M.bind (wrMark m) (fun _=>B0z l) s).Good at g
  obtain⟨s1,ho,e1,st⟩:=S0X (A0a g)
  rw[A0d e1] at g
  obtain⟨ob,hb,hk⟩:=R.rcd hi ho
  have hk:ob=.deferred (some []):=hk
  subst hk
  have R1:Rel E base w0 Γ s1.h (w.putObj i.b (.deferred none)):=by
   rw[st.h]
   exact R.turnRcd hi ho trivial trivial (by intros;simp) (by intros;simp)
  obtain⟨s2,w2,e2,n2,R2,L⟩:=M0p l ds' hm R1 g
  refine⟨s2,w2,?_,by rw[n2,st.nx],R2,fun Q q=>?_⟩
  ·show M.bind (wrMark m) (fun _=>B0z l) s=_
   rw[A0d e1];exact e2
  ·exact⟨by simp,.inl ⟨i.b,w.putObj i.b (.deferred none),rfl,run_takeDeferred hb,L Q q⟩⟩
theorem M0q{E E':Env}(he:E.ty=E'.ty)(t:TypeId)(v:AVal):B0k E t v=B0k E' t v:=by
 unfold B0k Env.tyOf;rw[he]
theorem O0r{E E':Env}(he:E.ty=E'.ty):∀(fs:List FI)(i:Nat)(l:List AVal),B0o E i fs l=B0o E' i fs l
 |[],_,[]=>rfl
 |[],_,_::_=>rfl
 |_::_,_,[]=>rfl
 |
  f::fs,i,v::l=>by
  simp only[B0o]
  rw[M0q he,O0r he fs (i+1) l]
theorem T0P{E E':Env}(he:E.ty=E'.ty)(t:TypeId)(v:AVal):A0m E t v=A0m E' t v:=by
 by_cases hv:∃l,v=.agg l
 ·obtain⟨l,rfl⟩:=hv
  unfold A0m
  have e:E.tyOf t=E'.tyOf t:=by unfold Env.tyOf;rw[he]
  simp only[e]
  cases E'.tyOf t with
  |none=>rfl
  |
   some ti=>
   simp only[]
   cases ti.k with
   |struct fs=>simp only[O0r he]
   |
    array n e sz=>
    have :B0k E e=B0k E' e:=funext fun v=>M0q he e v
    simp only[this]
   |_=>rfl
 ·have h1:A0m E t v=B0k E t v:=by cases v<;>first|rfl|exact absurd ⟨_,rfl⟩ hv
  have h2:A0m E' t v=B0k E' t v:=by cases v<;>first|rfl|exact absurd ⟨_,rfl⟩ hv
  rw[h1,h2];exact M0q he t v
theorem Rel.envS{E E':Env}(he:E.ty=E'.ty){h:Tr AObj}(R:Rel E base w0 Γ h w)(hs:E'.solo=true→(∀b,¬base.ex b)∧Γ.lo≤base.n):Rel E' base w0 Γ h w:=by
 refine⟨R.deep,R.below,R.room,R.dom,fun n o hn ho=>?_,R.inj,R.fam,R.iter,R.own,R.stay,R.sep,R.lo,hs,R.hid⟩
 have :=R.obj n o hn ho
 cases o with
 |
  map kt es c=>
  obtain⟨i,h1,ents,h2,h3⟩:=this
  exact⟨i,h1,ents,h2,⟨h3.zip,h3.keys,fun e q=>by rw[←T0P he];exact h3.fits e q,h3.borns,h3.old⟩⟩
 |cells _ _ _ _ _ _ _=>exact this
 |miter _ _ _=>exact this
 |siter _ _=>exact this
 |arr _ _=>exact this
 |rcd _=>exact this
 |dat _=>exact this
 |mps _ _ _ _ _=>exact this
 |done=>trivial
theorem Rel.env{E E':Env}(he:E.ty=E'.ty){h:Tr AObj}(R:Rel E base w0 Γ h w)(hs:E'.solo=E.solo:=by rfl):Rel E' base w0 Γ h w:=R.envS he fun q=>R.solo (hs▸q)
theorem Rel.less{E E':Env}(he:E.ty=E'.ty){h:Tr AObj}(R:Rel E base w0 Γ h w)(hs:E'.solo=false):Rel E' base w0 Γ h w:=R.envS he fun q=>by rw[hs] at q;cases q
theorem Got.more{E E':Env}(he:E.ty=E'.ty){N:Nat}{Γ':Gam}{s':St}{w':World}(h:Got E base w0 Γ s N Γ' s' w')(R:Rel E' base w0 Γ s.h w):Got E' base w0 Γ s N Γ' s' w':=⟨h.ext,h.off,h.nx,h.fresh,h.rel.envS he fun q=>by rw[h.ext.lo];exact R.solo q⟩
theorem Got.env{E E':Env}(he:E.ty=E'.ty){N:Nat}{Γ':Gam}{s':St}{w':World}(h:Got E base w0 Γ s N Γ' s' w')(hs:E'.solo=E.solo:=by rfl):Got E' base w0 Γ s N Γ' s' w':=⟨h.ext,h.off,h.nx,h.fresh,h.rel.env he hs⟩
end
structure C0U(P:Program):Prop where
 cmp:∀f,mkFn P f=some .cmpstr→∀(a b:List UInt8)(w:World),(callFunc f #[.string ⟨a.toArray⟩,.string ⟨b.toArray⟩]).run P w=.ok (.value (.int .i64 (cmpS a b))) w
 same:∀f,mkFn P f=some .same→∀(v:Value)(w:World),(callFunc f #[v]).run P w=.ok (.value v) w
section
variable{P:Program}{E:Env}{base:Bs}{w0:World}{Γ:Gam}{w:World}{s:St}
def CodeSound(P:Program)(base:Bs)(w0:World)(ih:IH):Prop:=∀(E:Env),EnvR E P→∀(det:Bool)(c:Code)(T:Tm)(s:St)(Γ:Gam)(w:World)(ro:Option Nat)(a:Act)(N m:Nat),A0M c=true→
 Rel E base w0 Γ s.h w→TRel Γ ro T a→LoopsOk Γ E.loops→(ih E det c T s).Good→(∀q s',(ih E det c T s).Has q s'→s'.nx≤N)→C0q Γ s.nx N→N≤LH→
 (A0u E.lps c).wpIn (FW ro) m P (E0i E base w0 Γ ro s N (ih E det c T s)) a w
theorem B0S(l:List (Nat×B0s)):∀c:Code,B0q c=true→A0M c=true∧A0u l c=c
 |.skip,_=>⟨rfl,rfl⟩
 |.region _ _ _,h=>⟨h,rfl⟩
 |
  .seq a b,h=>by
  have h:(B0q a&&B0q b)=true:=h
  rw[Bool.and_eq_true] at h
  obtain⟨a1,a2⟩:=B0S l a h.1
  obtain⟨b1,b2⟩:=B0S l b h.2
  exact⟨by show(A0M a&&A0M b)=true;rw[a1,b1];rfl,by show Code.seq (A0u l a) (A0u l b)=_;rw[a2,b2]⟩
 |
  .cond x a b,h=>by
  have h:(B0q a&&B0q b)=true:=h
  rw[Bool.and_eq_true] at h
  obtain⟨a1,a2⟩:=B0S l a h.1
  obtain⟨b1,b2⟩:=B0S l b h.2
  exact⟨by show(A0M a&&A0M b)=true;rw[a1,b1];rfl,by show Code.cond x (A0u l a) (A0u l b)=_;rw[a2,b2]⟩
 |
  .block id a,h=>by
  obtain⟨a1,a2⟩:=B0S l a h
  exact⟨a1,by show Code.block id (A0u l a)=_;rw[a2]⟩
 |
  .loop a,h=>by
  obtain⟨a1,a2⟩:=B0S l a h
  exact⟨a1,by show Code.loop (A0u l a)=_;rw[a2]⟩
 |.rangeFunc _ _ _ _,h=>⟨h,rfl⟩
 |.exit _,_=>⟨rfl,rfl⟩
 |.scope _,_=>⟨rfl,rfl⟩
 |.label _,_=>⟨rfl,rfl⟩
 |.goto _,h=>by cases h
 |.ret,_=>⟨rfl,rfl⟩
 |.refuse _,_=>⟨rfl,rfl⟩
theorem CodeSound.plain{ih:IH}(hs:CodeSound P base w0 ih){E:Env}(hE:EnvR E P){det:Bool}{c:Code}{T:Tm}{s:St}{Γ:Gam}{w:World}{ro:Option Nat}{a:Act}{N m:Nat}(hc:B0q c=true)
  (R:Rel E base w0 Γ s.h w) (hT:TRel Γ ro T a) (hL:LoopsOk Γ E.loops) (g:(ih E det c T s).Good) (hN:∀q s',(ih E det c T s).Has q s'→s'.nx≤N) (hF:C0q Γ s.nx N) (hLH:N≤LH):
  c.wpIn (FW ro) m P (E0i E base w0 Γ ro s N (ih E det c T s)) a w:=by
 obtain⟨h1,h2⟩:=B0S E.lps c hc
 have :=hs E hE det c T s Γ w ro a N m h1 R hT hL g hN hF hLH
 rw[h2] at this
 exact this
theorem C0X{f:FuncId}{c:Code}{nt:Nat}{rs:List ResultVar}(h:mkFn P f=some (.code c nt rs)):
  ∃fn,P.funcs[f]?=some fn∧fn.body=some c∧nt=fn.ntmps∧rs=fn.results.toList∧B0q c=true∧∀args w,(callFunc f args).run P w=.ok (.enter f args) w:=by
 unfold mkFn at h
 cases hf:P.funcs[f]? with
 |none=>rw[hf] at h;cases h
 |
  some fn=>
  rw[hf] at h
  simp only[] at h
  cases hn:(fn.name== "runtime.NumGoroutine") with
  |true=>rw[hn] at h;cases h
  |
   false=>
   rw[hn,A0f] at h
   cases hb:fn.body with
   |
    none=>
    rw[hb] at h
    simp only[B0v] at h
    split at h
    ·cases h
    ·split at h<;>cases h
   |
    some c'=>
    rw[hb] at h
    simp only[] at h
    cases hc:B0q c' with
    |false=>rw[hc] at h;cases h
    |
     true=>
     rw[hc,A0e] at h
     cases h
     refine⟨fn,rfl,hb,rfl,rfl,hc,fun args w=>?_⟩
     have hn':fn.name≠ "runtime.NumGoroutine" :=by simpa using hn
     simp[callFunc,hf,hn',hb]
theorem I0w{n:Nat}{d:M0W}:∀{l:List M0W},L0i n l=some d→d∈l∧d.n=n
 |[],h=>by cases h
 |
  e::l,h=>by
  unfold L0i at h
  rw[B0v,beqN] at h
  by_cases c:e.n=n
  ·rw[if_pos (by simpa using c)] at h
   cases h;exact⟨List.mem_cons_self ..,c⟩
  ·rw[if_neg (by simpa using c)] at h
   obtain⟨h1,h2⟩:=I0w h
   exact⟨List.mem_cons_of_mem _ h1,h2⟩
theorem D0d{ih:IH}(hs:CodeSound P base w0 ih)(hE:EnvR E P){det:Bool}{f:FuncId}{c:Code}{nt:Nat}{rs:List ResultVar}(hmk:mkFn P f=some (.code c nt rs)){c':Code}(hc':A0M c'=true)(hu:A0u E.lps c'=c){as:List AVal}{vs:Array Value}{N:Nat}
  (R:Rel E base w0 Γ s.h w) (hL:LoopsOk Γ E.loops) (hv:VRels Γ as vs.toList) (g:(H0S (.code c' nt rs) E (ih E det) as s).Good)
  (hN:∀a s',(H0S (.code c' nt rs) E (ih E det) as s).Has a s'→s'.nx≤N) (hF:C0q Γ s.nx N) (hLH:N≤LH) (m:Nat):
  CallsIn (FW none) m P f vs w (CallPost E base w0 Γ s N (H0S (.code c' nt rs) E (ih E det) as s)):=by
 obtain⟨fn,h1,h2,rfl,rfl,h5,h6⟩:=C0X hmk
 unfold H0S at g hN⊢
 simp only[] at g hN⊢
 obtain⟨hq,hr⟩:=A0i g
 rw[hr] at g hN⊢
 simp only[Bool.and_eq_true,A0O] at hq
 have q1:=Nat.le_of_ble_eq_true hq.1
 have q2:=Nat.le_of_ble_eq_true hq.2
 have upf:∀r:AExit×Tm,Up (match r.1 with
   |.exit _=>M.fail
   |_=>M.bind (B0z r.2.mks) fun _=>M.bind (B0W E r.2 fn.results.toList) fun vs=>M.pure (N0y vs)):=by
  intro r
  split
  ·exact upCl.fail
  ·exact upCl.bind (G0p upCl) fun _=>upCl.bind (G0T upCl) fun _=>upCl.pure _
 refine callsIn_of_wp_marks h1 h2 trivial ?_ rfl
 subst hu
 refine wpIn_mono (hs E hE det c' _ s Γ w none _ N m hc' R (Q0O hv q1 q2) hL (A0a g) (fun q s' hh=>A0V g upf hN hh) hF hLH) ?_
 rintro e a w1⟨x,T',s',Γ',hh,rfl,hT',hG⟩
 have g':=A0z g hh
 have fin:(M.bind (B0z T'.mks) (fun _=>M.bind (B0W E T' fn.results.toList) fun vs=>M.pure (N0y vs)) s').Good→
   (∀b t,(M.bind (B0z T'.mks) (fun _=>M.bind (B0W E T' fn.results.toList) fun vs=>M.pure (N0y vs)) s').Has b t→(M.bind (ih E det c' ⟨P0d 0 as (Tr.full DT),fn.ntmps,[],none⟩) (fun r=>match r.1 with
   |.exit _=>M.fail
   |_=>M.bind (B0z r.2.mks) fun _=>M.bind (B0W E r.2 fn.results.toList) fun vs=>M.pure (N0y vs)) s).Has b t)→
   LeavesInM (FW none) m P fn a.tmps (CallPost E base w0 Γ s N (M.bind (ih E det c' ⟨P0d 0 as (Tr.full DT),fn.ntmps,[],none⟩) (fun r=>match r.1 with
   |.exit _=>M.fail
   |_=>M.bind (B0z r.2.mks) fun _=>M.bind (B0W E r.2 fn.results.toList) fun vs=>M.pure (N0y vs)) s)) a.defers .returning w1:=by
  intro g' hh'
  obtain⟨s2,w2,e2,n2,R2,L⟩:=M0p (P:=P) (F:=FW none) (n:=m) (fn:=fn) (tmps:=a.tmps) T'.mks a.defers hT'.marks hG.rel (A0a g')
  rw[A0d e2] at g' hh'
  obtain⟨xs,s3,us,e3,sm,hrun,hxs⟩:=H0a (P:=P) (w:=w2) hE.ty fn.results.toList R2 hT' (A0a g')
  rw[A0d e3] at hh'
  obtain⟨v,hv1,hv2⟩:=T0r (P:=P) (w:=w2) hrun hxs
  refine L _ ⟨v,hv1,v,N0y xs,s3,Γ',rfl,hh' _ _ ⟨rfl,rfl⟩,hv2,hG.ext,hG.off,?_,?_,?_⟩
  ·rw[sm.nx,n2];exact hG.nx
  ·rw[sm.nx,n2];exact hG.fresh
  ·rw[sm.h];exact R2
 cases x with
 |normal=>exact fin g' fun b t q=>A0K hh q
 |ret=>exact fin g' fun b t q=>A0K hh q
 |exit id=>exact g'.elim
set_option maxHeartbeats 1000000 in
theorem S0E{ih:IH}(hs:CodeSound P base w0 ih)(hE:EnvR E P)(hup:∀E det c T,Up (ih E det c T)){det:Bool}{d:M0W}(hd:d∈E.loops){i:Info}(hi:Γ d.n=some i){as:List AVal}{vs:Array Value}{N:Nat}
  (R:Rel E base w0 Γ s.h w) (hL:LoopsOk Γ E.loops) (hv:VRels Γ as vs.toList) (g:(I0o d (ih E det) as s).Good)
  (hN:∀a s',(I0o d (ih E det) as s).Has a s'→s'.nx≤N) (hF:C0q Γ s.nx N) (hLH:N≤LH):
  Inv P E base w0 Γ s N (I0o d (ih E det) as s) ((Instr.yield i.b vs).run P w):=by
 obtain⟨i',hi',e1,e2,e3,⟨t1,t2,t3,t4⟩,o1,o2⟩:=hL d hd
 rw[hi] at hi';cases hi'
 unfold I0o at g hN⊢
 obtain⟨st0,pend0,s1,ho,r1,q1⟩:=E0T (A0a g)
 rw[A0d r1] at g hN⊢
 obtain⟨ob,hb,hk⟩:=R.rcd hi ho
 have hk:ob=.loop {i.lp with state:=stOf st0,pending:=pend0.code}:=hk
 subst hk
 have R1:Rel E base w0 Γ s1.h w:=by rw[q1.h];exact R
 have hT0:TRel Γ (some i.b) ⟨d.T.t,d.T.n,[],some d.n⟩ {tmps:=i.lp.tmps,defers:=[]}:=⟨t1,rfl,⟨i,hi,rfl⟩,t2,t3,t4⟩
 obtain⟨hlen,T1,r2,hT1⟩:=K0Q d.ps as vs.toList hv hT0 (A0a g)
 rw[A0d r2] at g hN⊢
 have hsz:vs.size=i.lp.params.size:=by rw[e1];have :=hv.length;simp at this⊢;omega
 rw[run_yield (P:=P) hb hsz]
 refine Inv.round fun m=>?_
 have hfold:(i.lp.params.zip vs).foldl (fun tmps (x:Tmp×Value)=>tmps.setIfInBounds x.1 x.2) i.lp.tmps=(d.ps.zip vs.toList).foldl (fun tmps x=>tmps.setIfInBounds x.1 x.2) i.lp.tmps:=by
  rw[←Array.foldl_toList,Array.toList_zip,e1]
 show RoundIn (FW none) m P i.b i.lp.fn ((i.lp.params.zip vs).foldl (fun tmps (t,a)=>tmps.setIfInBounds t a) i.lp.tmps) i.lp.assign i.lp.body w _
 rw[show(i.lp.params.zip vs).foldl (fun tmps (t,a)=>tmps.setIfInBounds t a) i.lp.tmps=_ from hfold,e2,e3]
 have upEnd:∀q:AExit×Tm,Up (M.bind (rdLoop d.n) fun _=>M.bind (wrLoop d.n (sel (C0z q.1) 0 2) q.1) fun _=>M.pure (AVal.bool (C0z q.1))):=fun q=>
  upCl.bind upCl.rdLoop fun _=>upCl.bind upCl.wrLoop fun _=>upCl.pure _
 have upMid:∀r:AExit×Tm,Up (M.req (C0z r.1)<|M.bind (rdLoop d.n) fun l=>M.req (Nat.beq l.st 0)<|M.bind (wrLoop d.n 1 l.pend) fun _=>
   M.bind (ih E det d.body r.2) fun q=>M.bind (rdLoop d.n) fun _=>M.bind (wrLoop d.n (sel (C0z q.1) 0 2) q.1) fun _=>M.pure (AVal.bool (C0z q.1))):=fun r=>
  upCl.req<|upCl.bind upCl.rdLoop fun l=>upCl.req<|upCl.bind upCl.wrLoop fun _=>upCl.bind (hup E det _ _) upEnd
 refine roundIn_of_wpIn (F:=FW none) trivial ?_
 show d.assign.wpIn (FW (some i.b)) m P _ _ w
 refine wpIn_mono (hs.plain hE o1 R1 hT1 hL (A0a g) (fun q s' hh=>A0V g upMid hN hh) (by rw[q1.nx];exact hF) hLH) ?_
 rintro e a w1⟨x,T2,s2,Γ2,hh,rfl,hT2,hG2⟩
 have g2:=A0z g hh
 obtain⟨hq2,hr2⟩:=A0i g2
 cases x with
 |exit id=>cases hq2
 |ret=>cases hq2
 |normal=>
 have hN2:∀b t,(M.req (C0z AExit.normal) (M.bind (rdLoop d.n) fun l=>M.req (Nat.beq l.st 0)<|M.bind (wrLoop d.n 1 l.pend) fun _=>
   M.bind (ih E det d.body T2) fun q=>M.bind (rdLoop d.n) fun _=>M.bind (wrLoop d.n (sel (C0z q.1) 0 2) q.1) fun _=>M.pure (AVal.bool (C0z q.1))) s2).Has b t→_:=fun b t q=>A0K (f:=fun r:AExit×Tm=>M.req (C0z r.1)<|M.bind (rdLoop d.n) fun l=>M.req (Nat.beq l.st 0)<|M.bind (wrLoop d.n 1 l.pend) fun _=>
   M.bind (ih E det d.body r.2) fun q=>M.bind (rdLoop d.n) fun _=>M.bind (wrLoop d.n (sel (C0z q.1) 0 2) q.1) fun _=>M.pure (AVal.bool (C0z q.1))) hh q
 simp only[] at g2 hr2 hN2
 rw[hr2] at g2 hN2
 obtain⟨st,pend,s3,ho3,r3,q3⟩:=E0T (A0a g2)
 rw[A0d r3] at g2 hN2
 simp only[] at g2 hN2
 obtain⟨hq4,hr4⟩:=A0i g2
 rw[hr4] at g2 hN2
 obtain⟨_,_,s4,ho4,r4,st4⟩:=I0g (A0a g2)
 rw[A0d r4] at g2 hN2
 have hi2:Γ2 d.n=some i:=hG2.ext _ _ hi
 have R3:Rel E base w0 Γ2 s3.h w1:=by rw[q3.h];exact hG2.rel
 have ho3':s3.h.get d.n=some (.rcd (.loop st pend)):=by rw[q3.h];exact ho3
 obtain⟨ob2,hb2,hk2⟩:=R3.rcd hi2 ho3'
 have hk2:ob2=.loop {i.lp with state:=stOf st,pending:=pend.code}:=hk2
 subst hk2
 have hbeg:=run_beginRound (P:=P) hb2 (c0H hq4)
 refine⟨_,hbeg,?_⟩
 have R4:Rel E base w0 Γ2 s4.h (w1.putObj i.b (.loop {i.lp with state:=.busy,pending:=pend.code})):=by
  rw[st4.h]
  refine R3.turnRcd hi2 ho3' trivial ⟨i,hi2,_,World.putObj_heap_same (R3.dom _ _ hi2).2.2,rfl⟩ (by intros;simp) (by intros;simp)
 have n4:s4.nx=s2.nx:=by rw[st4.nx,q3.nx]
 show d.body.wpIn (FW (some i.b)) m P _ a _
 have hT2':TRel Γ2 (some i.b) T2 a:=hT2
 have hbnd:∀q s',(ih E det d.body T2 s4).Has q s'→s'.nx≤N:=fun q s' hh5=>A0V g2 upEnd (fun b t z=>hN b t (hN2 b t z)) hh5
 refine wpIn_mono (hs.plain hE o2 R4 hT2' (hL.ext hG2.ext) (A0a g2) hbnd (by rw[n4];exact hG2.fresh) hLH) ?_
 rintro e' a' w5⟨x,T5,s5,Γ5,hh5,rfl,hT5,hG5⟩
 have g5:=A0z g2 hh5
 have hN5:=fun b t q=>hN2 b t (A0K (f:=fun q:AExit×Tm=>M.bind (rdLoop d.n) fun _=>M.bind (wrLoop d.n (sel (C0z q.1) 0 2) q.1) fun _=>M.pure (AVal.bool (C0z q.1))) hh5 q)
 simp only[] at g5 hN5
 obtain⟨st6,pend6,s6,ho6,r6,q6⟩:=E0T (A0a g5)
 rw[A0d r6] at g5 hN5
 obtain⟨_,_,s7,ho7,r7,st7⟩:=I0g (A0a g5)
 rw[A0d r7] at g5 hN5
 have hi5:Γ5 d.n=some i:=hG5.ext _ _ hi2
 have R6:Rel E base w0 Γ5 s6.h w5:=by rw[q6.h];exact hG5.rel
 have ho6':s6.h.get d.n=some (.rcd (.loop st6 pend6)):=by rw[q6.h];exact ho6
 obtain⟨ob6,hb6,hk6⟩:=R6.rcd hi5 ho6'
 have hk6:ob6=.loop {i.lp with state:=stOf st6,pending:=pend6.code}:=hk6
 subst hk6
 have fin:∀st':LoopState,stOf (sel (C0z x) 0 2)=st'→CallPost E base w0 Γ s N (M.bind (ih E det d.assign T1) (fun r=>M.req (C0z r.1)<|M.bind (rdLoop d.n) fun l=>M.req (Nat.beq l.st 0)<|M.bind (wrLoop d.n 1 l.pend) fun _=>
   M.bind (ih E det d.body r.2) fun q=>M.bind (rdLoop d.n) fun _=>M.bind (wrLoop d.n (sel (C0z q.1) 0 2) q.1) fun _=>M.pure (AVal.bool (C0z q.1))) s1) (.returned (.bool (C0z x))) (w5.putObj i.b (.loop {i.lp with state:=st',pending:=x.code})):=by
  intro st' hst
  refine⟨_,_,s7,Γ5,rfl,hN5 _ _ ⟨rfl,rfl⟩,by unfold VRel;rfl,hG2.ext.trans hG5.ext,fun n hn=>?_,?_,?_,?_⟩
  ·have h1:=hG2.nx
   rw[hG5.off n (by rw[n4];have :=q1.nx;omega),hG2.off n (by rw[q1.nx];exact hn)]
  ·have h1:=hG2.nx
   have h2:=hG5.nx
   have h3:=q1.nx
   have h4:=q6.nx
   have h5:=st7.nx
   omega
  ·rw[st7.nx,q6.nx];exact hG5.fresh
  ·rw[st7.h]
   exact R6.turnRcd hi5 ho6' trivial ⟨i,hi5,_,World.putObj_heap_same (R6.dom _ _ hi5).2.2,by rw[←hst];rfl⟩ (by intros;simp) (by intros;simp)
 cases x with
 |normal=>exact⟨_,_,run_endRound (P:=P) none hb6,fin .ready rfl⟩
 |ret=>exact⟨_,_,run_endRound (P:=P) (some .ret) hb6,fin .done rfl⟩
 |exit id=>exact⟨_,_,run_endRound (P:=P) (some (.exit id)) hb6,fin .done rfl⟩
theorem U0o{x:AVal}{u:Value}(h:VRel Γ x u){b:ByteArray}(e:strA x=some b):u=.string b:=by
 unfold strA at e
 cases x<;>simp only[reduceCtorEq,Option.some.injEq] at e<;>subst e<;>unfold VRel at h<;>exact h
theorem R0K{x y:AVal}{u v:Value}(h:VRel Γ x u)(k:VRel Γ y v)(g:(M0z x y s).Good):∃(a b:List UInt8)(r:AVal),u=.string ⟨a.toArray⟩∧v=.string ⟨b.toArray⟩∧M0z x y s=.ok r s∧VRel Γ r (.int .i64 (cmpS a b)):=by
 unfold M0z at g⊢
 obtain⟨a,h1,h2⟩:=A0k (A0a g)
 rw[A0d h2] at g⊢
 obtain⟨b,h3,h4⟩:=A0k (A0a g)
 rw[A0d h4]
 exact⟨a.data.toList,b.data.toList,_,by rw[M0Q];exact U0o h h1,by rw[M0Q];exact U0o k h3,rfl,by unfold VRel;rfl⟩
theorem X0k{x y:AVal}{u v:Value}(h:VRel Γ x u)(k:VRel Γ y v)(g:(cmpA x y s).Good):∃(a b:List UInt8)(r:AVal),u=.string ⟨a.toArray⟩∧v=.string ⟨b.toArray⟩∧cmpA x y s=.ok r s∧VRel Γ r (.int .i64 (cmpS a b)):=by
 by_cases hb:∃a b,x=.str a∧y=.str b
 ·obtain⟨a,b,rfl,rfl⟩:=hb
  unfold VRel at h k
  exact⟨a,b,_,h,k,rfl,by unfold VRel;rfl⟩
 ·have e:cmpA x y=M0z x y:=by
   cases x<;>first|rfl|skip
   cases y<;>first|rfl|exact absurd ⟨_,_,rfl,rfl⟩ hb
  rw[e] at g⊢
  exact R0K h k g
theorem O0P{ih:IH}(hX:C0U P)(hs:CodeSound P base w0 ih)(hE:EnvR E P)(hup:∀E det c T,Up (ih E det c T)){det:Bool}:F0H P E base w0 (evFn E (ih E det)):=by
 intro Γ s w f as vs N R hL hv g hN hF hLH
 refine⟨fun hf=>?_,fun n i hf hi=>?_⟩
 ·have hb:Nat.blt f LY=true:=by rw[bltN];simpa using hf
  unfold evFn at g hN⊢
  rw[hb,A0e] at g hN⊢
  cases hct:E0N f E.ctr with
  |some q=>rw[hct] at g hN;exact hE.ctr f q hct E base w0 Γ s w as vs N hE.ty0 rfl R hv g hN hF hLH
  |none=>
  rw[hct] at g hN
  simp only[] at g hN⊢
  obtain⟨fn,h1,h2⟩:=A0k (A0a g)
  rw[A0d h2] at g hN⊢
  have hmk:=hE.fn f fn hf h1
  cases fn with
  |
   code c nt rs=>
   obtain⟨F,_,_,_,_,_,hrun⟩:=C0X hmk
   rw[hrun]
   have hco:B0q c=true:=by obtain⟨_,_,_,_,_,h,_⟩:=C0X hmk;exact h
   exact Inv.enter fun m=>D0d hs hE hmk (B0S E.lps c hco).1 (B0S E.lps c hco).2 R hL hv g hN hF hLH m
  |
   cmpstr=>
   unfold H0S at g hN⊢
   simp only[] at g hN⊢
   rcases as with _|⟨x,_|⟨y,_|⟨z,l⟩⟩⟩<;>first
    |exact g.elim
    |skip
   obtain⟨u,us,k1,k2,k3⟩:=hv.cons_inv
   obtain⟨u2,us2,k4,k5,k6⟩:=k3.cons_inv
   have :=k6.nil_inv
   subst this
   subst k4
   obtain⟨p,q,r,rfl,rfl,hr,hrel⟩:=X0k k2 k5 g
   have e:vs=#[.string ⟨p.toArray⟩,.string ⟨q.toArray⟩]:=by rw[←Array.toArray_toList (xs:=vs),k1]
   subst e
   rw[hX.cmp f hmk]
   exact Inv.val ⟨_,r,s,Γ,rfl,(show(cmpA x y s).Has r s by rw[hr];exact⟨rfl,rfl⟩),hrel,Got.same hF rfl R⟩
  |
   same=>
   unfold H0S at g hN⊢
   simp only[] at g hN⊢
   rcases as with _|⟨x,_|⟨y,l⟩⟩<;>first
    |exact g.elim
    |skip
   obtain⟨u,us,k1,k2,k3⟩:=hv.cons_inv
   have :=k3.nil_inv
   subst this
   have e:vs=#[u]:=by rw[←Array.toArray_toList (xs:=vs),k1]
   subst e
   rw[hX.same f hmk]
   exact Inv.val ⟨_,_,s,Γ,rfl,⟨rfl,rfl⟩,k2,Got.same hF rfl R⟩
 ·have hb:Nat.blt f LY=false:=by
   have hf':(f:Nat)=LY+n:=hf
   rw[bltN,hf'];simp
  have hsub:Nat.sub f LY=n:=by subst hf;show LY+n-LY=n;omega
  unfold evFn at g hN⊢
  rw[hb,A0f,hsub] at g hN⊢
  obtain⟨d,h1,h2⟩:=A0k (A0a g)
  rw[A0d h2] at g hN⊢
  obtain⟨hd,hdn⟩:=I0w h1
  exact S0E hs hE hup hd (by rw[hdn];exact hi) R hL hv g hN hF hLH
theorem CallPost.mono{N:Nat}{r r':Res AVal}{e:Ending}{w':World}(h:CallPost E base w0 Γ s N r e w')(hr:∀a s',r.Has a s'→∃b t,r'.Has b t∧Kept a s' b t):CallPost E base w0 Γ s N r' e w':=by
 obtain⟨v,a,s',Γ',h1,h2,h3,h4⟩:=h
 obtain⟨b,t,k1,k2⟩:=hr a s' h2
 exact⟨v,b,t,Γ',h1,k1,by rw[k2.val];exact h3,h4.ext,h4.off,by rw[k2.nx];exact h4.nx,by rw[k2.nx];exact h4.fresh,k2.rel h4.rel⟩
theorem Inv.mono{N:Nat}{r r':Res AVal}{run:Result Next}(h:Inv P E base w0 Γ s N r run)(hr:∀a s',r.Has a s'→∃b t,r'.Has b t∧Kept a s' b t):Inv P E base w0 Γ s N r' run:=by
 cases h with
 |val h=>exact .val (h.mono hr)
 |enter h=>exact .enter fun m=>CallsIn.mono (h m) fun e w' q=>q.mono hr
 |round h=>exact .round fun m=>RoundIn.mono (h m) fun e w' q=>q.mono hr
theorem K0a{ih:IH}(hX:C0U P)(hs:CodeSound P base w0 ih)(hE:EnvR E P)(hup:∀E det c T,Up (ih E det c T))(det:Bool):F0H P E base w0 (F0b E ih det):=by
 unfold F0b
 cases det with
 |true=>exact O0P hX hs hE hup
 |
  false=>
  rw[A0f]
  intro Γ s w f as vs N R hL hv g hN hF hLH
  have hu:Up (evFn E (ih E false) f as):=F0V upCl (hup E false)
  have eqC:W0y E (ih E false) f as s=B0E (evFn E (ih E false) f as s)∨W0y E (ih E false) f as s=evFn E (ih E false) f as s:=by
   unfold W0y
   cases evFn E (ih E false) f as s<;>first|exact .inr rfl|exact .inl rfl
  rcases eqC with e|e
  ·rw[e] at g hN⊢
   have gr:=C0W g
   have kept:=C0Z (fun a s' h=>hu s a s' h) R.deep
   have hN':∀a s',(evFn E (ih E false) f as s).Has a s'→s'.nx≤N:=by
    intro a s' h
    obtain⟨b,t,k1,k2⟩:=kept a s' h
    rw[←k2.nx];exact hN b t k1
   obtain⟨p1,p2⟩:=O0P hX hs hE hup Γ s w f as vs N R hL hv gr hN' hF hLH
   exact⟨fun h=>(p1 h).mono kept,fun n i h h'=>(p2 n i h h').mono kept⟩
  ·rw[e] at g hN⊢
   exact O0P hX hs hE hup Γ s w f as vs N R hL hv g hN hF hLH
end
end Go.Ev
namespace Go.Ev
open Go Go.RowKit
variable [Univ]
section
variable {P : Program} {base : Bs} {w0 : World}
theorem W0T {E : Env} {Γ : Gam} {ro : Option Nat} {s : St} {N : Nat} {r r' : Res (AExit × Tm)} {e : Exit} {a : Act} {w : World} (h : E0i E base w0 Γ ro s N r e a w) (hr : ∀ q s', r.Has q s' → r'.Has q s') : E0i E base w0 Γ ro s N r' e a w := by
  obtain ⟨x, T', s', Γ', h1, h2⟩ := h
  exact ⟨x, T', s', Γ', hr _ _ h1, h2⟩
theorem T0e {E : Env} {Γ Γ1 : Gam} {ro : Option Nat} {s s1 : St} {N : Nat} {r : Res (AExit × Tm)} {e : Exit} {a : Act} {w w1 : World} (hG : Got E base w0 Γ s N Γ1 s1 w1) (h : E0i E base w0 Γ1 ro s1 N r e a w) : E0i E base w0 Γ ro s N r e a w := by
  obtain ⟨x, T', s', Γ', h1, h2, h3, h4⟩ := h
  exact ⟨x, T', s', Γ', h1, h2, h3, hG.trans h4⟩
theorem C0F {next : Act → World → Prop} {Q : Exit → Act → World → Prop} {x : AExit} {a : Act} {w : World} (hn : x = .normal → next a w) (hq : x ≠ .normal → Q x.ex a w) : Exit.then next Q x.ex a w := by
  cases x with
  | normal => exact hn rfl
  | exit id => exact hq (by simp)
  | ret => exact hq (by simp)
theorem V0M (p : Nat → Prop) (h : ∃ k, p k) : ∃ k, p k ∧ ∀ j, p j → k ≤ j := by
  obtain ⟨n, hn⟩ := h
  induction n using Nat.strongRecOn with
  |
    _ n ih =>
    by_cases c : ∃ m, m < n ∧ p m
    · obtain ⟨m, h1, h2⟩ := c; exact ih m h1 h2
    · exact ⟨n, hn, fun j hj => Nat.le_of_not_lt fun q => c ⟨j, q, hj⟩⟩
set_option maxHeartbeats 1000000 in
theorem V0J {n : Nat} (ih : ∀ k, k < n → CodeSound P base w0 (A0v k)) {E : Env} (hE : EnvR E P) {det : Bool} {c : Code} {T : Tm} {s : St} {Γ : Gam} {w : World} {ro : Option Nat} {a : Act} {N m : Nat} (hc : A0M c = true)
    (R : Rel E base w0 Γ s.h w) (hT : TRel Γ ro T a) (hL : LoopsOk Γ E.loops) (g : (A0v n E det (.loop c) T s).Good) (hN : ∀ q s', (A0v n E det (.loop c) T s).Has q s' → s'.nx ≤ N) (hF : C0q Γ s.nx N) (hLH : N ≤ LH) :
    (Code.loop (A0u E.lps c)).wpIn (FW ro) m P (E0i E base w0 Γ ro s N (A0v n E det (.loop c) T s)) a w := by
  let At : Nat → Act → World → Prop := fun k a' w' => k ≤ n ∧ ∃ T' s' Γ', (∀ q t, (A0v k E det (.loop c) T' s').Has q t → (A0v n E det (.loop c) T s).Has q t) ∧ (A0v k E det (.loop c) T' s').Good ∧ TRel Γ' ro T' a' ∧ Got E base w0 Γ s N Γ' s' w'
  have μex : ∃ μ : Act → World → Nat, ∀ a' w', (∃ k, At k a' w') → At (μ a' w') a' w' ∧ ∀ k, At k a' w' → μ a' w' ≤ k := by
    classical
    refine ⟨fun a' w' => if h : ∃ k, At k a' w' then Classical.choose (V0M _ h) else 0, fun a' w' h => ?_⟩
    simp only [dif_pos h]
    exact Classical.choose_spec (V0M _ h)
  obtain ⟨μ, hμ⟩ := μex
  refine wpIn_loop (fun a' w' => ∃ k, At k a' w') μ ⟨n, Nat.le_refl _, T, s, Γ, fun _ _ h => h, g, hT, Got.same hF rfl R⟩ ?_
  intro a' w' hI
  obtain ⟨hk, -⟩ := hμ a' w' hI
  generalize hkk : μ a' w' = k at hk
  obtain ⟨hkn, T', s', Γ', hsub, g', hT', hG'⟩ := hk
  cases k with
  | zero => exact g'.elim
  |
    succ k =>
    have e : A0v (k + 1) E det (.loop c) T' s' = M.bind (A0v k E det c T') (fun r => match r.1 with
      | .normal => A0v k E det (.loop c) r.2
      | x => M.pure (x, r.2)) s' := rfl
    rw [e] at g' hsub
    have upf : ∀ r : AExit × Tm, Up (match r.1 with
      | .normal => A0v k E det (.loop c) r.2
      | x => M.pure (x, r.2)) := by
      intro r
      split
      · exact D0E k E det _ _
      · exact upCl.pure _
    refine wpIn_mono (ih k (by omega) E hE det c T' s' Γ' w' ro a' N m hc hG'.rel hT' (hL.ext hG'.ext) (A0a g') (fun q t hh => A0V g' upf (fun b t' h => hN b t' (hsub b t' h)) hh) hG'.fresh hLH) ?_
    rintro e a2 w2 ⟨x, T2, s2, Γ2, hh, rfl, hT2, hG2⟩
    have g2 := A0z g' hh
    refine C0F (fun hx => ?_) (fun hx => ?_)
    · subst hx
      have hat : At k a2 w2 := ⟨by omega, T2, s2, Γ2, fun q t h => hsub q t (A0K hh h), g2, hT2, hG'.trans hG2⟩
      refine ⟨⟨k, hat⟩, ?_⟩
      have := (hμ a2 w2 ⟨k, hat⟩).2 k hat
      omega
    · refine ⟨x, T2, s2, Γ2, hsub _ _ (A0K hh ?_), rfl, hT2, hG'.trans hG2⟩
      cases x with
      | normal => exact absurd rfl hx
      | exit id => exact ⟨rfl, rfl⟩
      | ret => exact ⟨rfl, rfl⟩
theorem Z0h {E : Env} (hE : EnvR E P) (l : List M0W) : EnvR ⟨E.ty, E.fn, l, E.ctr, E.lps, E.mps, E.solo⟩ P := ⟨hE.ty0, hE.fn, hE.ctr, hE.lps⟩
end
end Go.Ev

namespace Go.Ev
open Go Go.RowKit
variable[Univ]
section
variable{P:Program}{E:Env}{base:Bs}{w0:World}{Γ:Gam}{w:World}{s:St}
theorem c0v{st:Nat}(h:(not (Nat.beq st 1))=true):stOf st≠.busy:=by
 rw[beqN] at h
 match st with
 |0=>simp[stOf]
 |1=>simp at h
 |2=>simp[stOf]
 |n+3=>simp[stOf]
theorem T0k{α:Type}(R:Rel E base w0 Γ s.h w){ro:Option Nat}{T:Tm}{a:Act}(hT:TRel Γ ro T a){K:List Nat→Nat→M α}(hK:∀mk n,Up (K mk n))(fnid:FuncId)(ps:Array Tmp)(as bd:Code)
  (g:(M.bind (J0I T) (fun mk=>M.bind (alloc fun _=>.rcd (.loop 0 .normal)) fun n=>K mk n) s).Good) {N:Nat}
  (hN:∀b t,(M.bind (J0I T) (fun mk=>M.bind (alloc fun _=>.rcd (.loop 0 .normal)) fun n=>K mk n) s).Has b t→t.nx≤N) (hF:C0q Γ s.nx N):
  ∃
   mk n s2 mark w1 Γ2 i,M.bind (J0I T) (fun mk=>M.bind (alloc fun _=>.rcd (.loop 0 .normal)) fun n=>K mk n) s=K mk n s2∧(Instr.enterLoop fnid a.tmps ps as bd ro).run P w=.ok (i.b,mark) w1∧
   Γ2 n=some i∧i.lp.tmps=a.tmps∧i.lp.params=ps∧i.lp.assign=as∧i.lp.body=bd∧Got E base w0 Γ s N Γ2 s2 w1∧MarksRel Γ2 mk (mark++a.defers):=by
 have upK:∀mk,Up (M.bind (alloc fun _=>.rcd (.loop 0 .normal)) fun n=>K mk n):=fun mk=>upCl.bind upCl.alloc fun n=>hK mk n
 have upA:∀m:Nat,Up (M.pure (m::T.mks):M (List Nat)):=fun m=>upCl.pure _
 unfold J0I at g hN⊢
 have hr:=hT.rnd
 cases hrd:T.rnd with
 |
  none=>
  rw[hrd] at hr
  have hr:ro=none:=hr
  subst hr
  simp only[hrd] at g hN⊢
  have g1:=A0a g
  have hN1:∀b t,(M.bind (alloc fun _=>AObj.rcd .mark) (fun m=>M.pure (m::T.mks)) s).Has b t→t.nx≤N:=fun b t h=>A0V g upK hN h
  obtain⟨s1,e1,n1,f1⟩:=B0r (E:=E) (base:=base) (w0:=w0) (ob:=.deferred (some [])) (o:=fun _=>.rcd .mark) R (fun _=>trivial) default (A0a g1)
   (fun Γ' _ h=>⟨_,h,.deferred (some []),by simp,rfl⟩) (by intro m since seen h;cases h)
  have G1:=f1 N (A0V g1 upA hN1 (by rw[e1];exact⟨rfl,rfl⟩)) hF
  have ee:M.bind (alloc fun _=>AObj.rcd .mark) (fun m=>M.pure (m::T.mks)) s=.ok (s.nx::T.mks) s1:=by rw[A0d e1];rfl
  rw[A0d ee] at g hN⊢
  obtain⟨s2,e2,n2,f2⟩:=B0r (E:=E) (base:=base) (w0:=w0) (ob:=.loop {state:=.ready,pending:=none,fn:=fnid,tmps:=a.tmps,params:=ps,assign:=as,body:=bd,defers:=w.heap.size}) (o:=fun _=>.rcd (.loop 0 .normal)) G1.rel (fun _=>trivial)
   {state:=.ready,pending:=none,fn:=fnid,tmps:=a.tmps,params:=ps,assign:=as,body:=bd,defers:=w.heap.size} (A0a g)
   (fun Γ' _ h=>⟨_,h,_,Array.getElem?_push_size,rfl⟩) (by intro m since seen h;cases h)
  have G2:=f2 N (A0V g (hK _) hN (by rw[e2];exact⟨rfl,rfl⟩)) G1.fresh
  rw[A0d e2]
  refine⟨_,_,s2,[{target:=.collected w.heap.size,args:=#[]}],_,_,_,rfl,?_,Gam.add_at,rfl,rfl,rfl,rfl,G1.trans G2,?_⟩
  ·rw[run_enterLoop_outer (P:=P)]
   show _=Result.ok ((w.heap.push (.deferred (some []))).size,_) _
   rw[Array.size_push]
   rfl
  ·refine⟨⟨w.heap.size,0,0,0,default⟩,a.defers,?_,rfl,hT.marks.ext (G1.trans G2).ext⟩
   exact G2.ext _ _ Gam.add_at
 |
  some l0=>
  rw[hrd] at hr
  obtain⟨i0,hi0,rfl⟩:=hr
  simp only[hrd] at g hN⊢
  obtain⟨st,pend,s1,ho,e1,q1⟩:=E0T (A0a (A0a g))
  obtain⟨ob,hb,hk⟩:=R.rcd hi0 ho
  have hk:ob=.loop {i0.lp with state:=stOf st,pending:=pend.code}:=hk
  subst hk
  have ee:M.bind (rdLoop l0) (fun _=>M.pure T.mks) s=.ok T.mks s1:=by rw[A0d e1];rfl
  rw[A0d ee] at g hN⊢
  have R1:Rel E base w0 Γ s1.h w:=by rw[q1.h];exact R
  obtain⟨s2,e2,n2,f2⟩:=B0r (E:=E) (base:=base) (w0:=w0) (ob:=.loop {state:=.ready,pending:=none,fn:=fnid,tmps:=a.tmps,params:=ps,assign:=as,body:=bd,defers:=i0.lp.defers}) (o:=fun _=>.rcd (.loop 0 .normal)) R1 (fun _=>trivial)
   {state:=.ready,pending:=none,fn:=fnid,tmps:=a.tmps,params:=ps,assign:=as,body:=bd,defers:=i0.lp.defers} (A0a g)
   (fun Γ' _ h=>⟨_,h,_,Array.getElem?_push_size,rfl⟩) (by intro m since seen h;cases h)
  have G2:=f2 N (A0V g (hK _) hN (by rw[e2];exact⟨rfl,rfl⟩)) (by rw[q1.nx];exact hF)
  rw[A0d e2]
  refine⟨_,_,s2,[],_,_,_,rfl,?_,Gam.add_at,rfl,rfl,rfl,rfl,Got.after q1 G2,?_⟩
  ·rw[run_enterLoop_inner (P:=P) hb]
   rfl
  ·exact hT.marks.ext G2.ext
end
section
variable{P:Program}{E:Env}{base:Bs}{w0:World}{Γ:Gam}{w:World}{s:St}
set_option maxHeartbeats 1000000 in
theorem T0H{ih:IH}(hX:C0U P)(hs:CodeSound P base w0 ih)(hup:∀E det c T,Up (ih E det c T))(hE:EnvR E P){det:Bool}{gv:Operand}{ps:Array Tmp}{as bd:Code}(c1:B0q as=true)(c2:B0q bd=true)
  (R:Rel E base w0 Γ s.h w) {ro:Option Nat} {T:Tm} {a:Act} (hT:TRel Γ ro T a) (hL:LoopsOk Γ E.loops) (g:(C0P gv ps as bd E ih det T s).Good) {N:Nat}
  (hN:∀q t,(C0P gv ps as bd E ih det T s).Has q t→t.nx≤N) (hF:C0q Γ s.nx N) (hLH:N≤LH) (m:Nat):
  (Code.rangeFunc gv ps as bd).wpIn (FW ro) m P (E0i E base w0 Γ ro s N (C0P gv ps as bd E ih det T s)) a w:=by
 unfold C0P at g hN⊢
 have hg:=hT.rho gv
 cases hv:T.rho gv<;>rw[hv] at g hg<;>simp only[hv] at g hN⊢<;>first
  |exact g.elim
  |skip
 case fn f first captured=>
 unfold VRel at hg
 obtain⟨vs,ws,hfv,h1,h2⟩:=hg
 obtain⟨hq,hr⟩:=A0i g
 rw[hr] at g hN⊢
 simp only[Bool.and_eq_true] at hq
 have hf:f<LY:=by simpa [Nat.blt_eq] using hq.1
 have hcode:∃c nt rs,E.fn.get f=some (.code c nt rs):=by
  have :=hq.2
  unfold U0k at this
  split at this
  ·rename_i c nt rs heq;exact⟨c,nt,rs,heq⟩
  ·cases this
 obtain⟨c,nt,rs,hget⟩:=hcode
 obtain⟨_,_,_,_,_,_,hrun⟩:=C0X (hE.fn f _ hf hget)
 have upEnd:∀mk n,Up (M.bind (rdLoop n) fun l=>M.req (not (Nat.beq l.st 1))<|M.bind (wrLoop n 3 l.pend) fun _=>M.pure (l.pend,(⟨T.t,T.n,mk,T.rnd⟩:Tm))):=fun mk n=>
  upCl.bind upCl.rdLoop fun l=>upCl.req<|upCl.bind upCl.wrLoop fun _=>upCl.pure _
 have upCall:∀(E':Env) f as,Up (F0b E' ih det f as):=by
  intro E' f as
  unfold F0b
  cases det with
  |true=>exact F0V upCl (hup E' true)
  |false=>exact P0K (hup E' false)
 refine wpIn_rangeFunc fun fnid _=>?_
 obtain⟨mk,n,s2,mark,w1,Γ2,i,ek,hent,hi,p1,p2,p3,p4,G2,hmk⟩:=T0k (P:=P) (K:=fun mk n=>M.bind (F0b ⟨E.ty,E.fn,⟨n,T,ps.toList,as,bd⟩::E.loops,E.ctr,E.lps,E.mps,E.solo⟩ ih det f (first++[.yld n]++captured)) fun _=>
  M.bind (rdLoop n) fun l=>M.req (not (Nat.beq l.st 1))<|M.bind (wrLoop n 3 l.pend) fun _=>M.pure (l.pend,(⟨T.t,T.n,mk,T.rnd⟩:Tm))) R hT (fun mk n=>upCl.bind (upCall _ _ _) fun _=>upEnd mk n) fnid ps as bd g hN hF
 rw[ek] at g hN⊢
 have hL2:LoopsOk Γ2 (⟨n,T,ps.toList,as,bd⟩::E.loops):=by
  intro d hd
  rcases List.mem_cons.1 hd with rfl|hd
  ·exact⟨i,hi,by simpa using p2,p3,p4,⟨hT.deep,by rw[p1];exact hT.size,hT.le,fun k=>by rw[p1];exact(hT.get k).ext G2.ext⟩,c1,c2⟩
  ·exact(hL.ext G2.ext) d hd
 have hE':EnvR ⟨E.ty,E.fn,⟨n,T,ps.toList,as,bd⟩::E.loops,E.ctr,E.lps,E.mps,E.solo⟩ P:=Z0h hE _
 have hargs:VRels Γ2 (first++[.yld n]++captured) (vs++#[Value.func (.yield i.b) #[] #[]]++ws).toList:=by
  rw[Array.toList_append,Array.toList_append]
  refine((h1.ext G2.ext).append (.cons ?_ .nil)).append (h2.ext G2.ext)
  unfold VRel
  exact⟨i,hi,rfl⟩
 have hcall:=(K0a hX hs hE' hup det Γ2 s2 w1 f _ _ N (Rel.env (E:=E) (E':=⟨E.ty,E.fn,⟨n,T,ps.toList,as,bd⟩::E.loops,E.ctr,E.lps,E.mps,E.solo⟩) rfl G2.rel) hL2 hargs (A0a g) (fun b t hh=>A0V g (fun _=>upEnd mk n) hN hh) G2.fresh hLH).1 hf
 rw[hrun] at hcall
 cases hcall with
 |enter hcl=>
 refine⟨i.b,mark,w1,⟨.fn (.func f) ws,vs++#[.func (.yield i.b) #[] #[]]⟩,w1,f,vs++#[.func (.yield i.b) #[] #[]]++ws,w1,hent,?_,fun _ _=>trivial,?_,fun q=>(by cases q),?_⟩
 ·have he:(#[Operand.const (.func (.yield i.b) #[] #[])]:Array Operand).map a.eval=#[.func (.yield i.b) #[] #[]]:=by simp[Act.eval]
  simp only[resolve,rangeCall,he,hfv,Deferred.ofValue,Sem.run_pure]
 ·simp only[invoke];exact hrun _ _
 ·refine CallsIn.mono (hcl (m-1)) ?_
  rintro e w3⟨v,a1,s3,Γ3,rfl,hh,_,G3⟩
  have G3:Got E base w0 Γ2 s2 N Γ3 s3 w3:=Got.env (E:=⟨E.ty,E.fn,⟨n,T,ps.toList,as,bd⟩::E.loops,E.ctr,E.lps,E.mps,E.solo⟩) (E':=E) rfl G3
  have g3:=A0z g hh
  obtain⟨st,pend,s4,ho,e4,q4⟩:=E0T (A0a g3)
  have hN3:=fun b t q=>A0K (f:=fun _=>M.bind (rdLoop n) fun l=>M.req (not (Nat.beq l.st 1))<|M.bind (wrLoop n 3 l.pend) fun _=>M.pure (l.pend,(⟨T.t,T.n,mk,T.rnd⟩:Tm))) (b:=b) (t:=t) hh q
  rw[A0d e4] at g3 hN3
  simp only[] at g3 hN3
  obtain⟨hq5,hr5⟩:=A0i g3
  rw[hr5] at g3 hN3
  obtain⟨_,_,s6,ho6,e6,st6⟩:=I0g (A0a g3)
  rw[A0d e6] at hN3
  have hi3:Γ3 n=some i:=G3.ext _ _ hi
  have R4:Rel E base w0 Γ3 s4.h w3:=by rw[q4.h];exact G3.rel
  have ho4:s4.h.get n=some (.rcd (.loop st pend)):=by rw[q4.h];exact ho
  obtain⟨ob,hb,hk⟩:=R4.rcd hi3 ho4
  have hk:ob=.loop {i.lp with state:=stOf st,pending:=pend.code}:=hk
  subst hk
  have R6:Rel E base w0 Γ3 s6.h (w3.putObj i.b (.loop {i.lp with state:=.exhausted,pending:=pend.code})):=by
   rw[st6.h]
   exact R4.turnRcd hi3 ho4 trivial ⟨i,hi3,_,World.putObj_heap_same (R4.dom _ _ hi3).2.2,rfl⟩ (by intros;simp) (by intros;simp)
  have G6:Got E base w0 Γ s N Γ3 s6 (w3.putObj i.b (.loop {i.lp with state:=.exhausted,pending:=pend.code})):=by
   have G:=G2.trans G3
   refine⟨G.ext,G.off,?_,?_,R6⟩
   ·rw[st6.nx,q4.nx];exact G.nx
   ·rw[st6.nx,q4.nx];exact G.fresh
  have hT6:TRel Γ3 ro ⟨T.t,T.n,mk,T.rnd⟩ {a with defers:=mark++a.defers}:=by
   have hT3:=hT.ext (G2.trans G3).ext
   exact⟨hT3.deep,hmk.ext G3.ext,hT3.rnd,hT3.size,hT3.le,hT3.get⟩
  refine⟨pend.code,_,run_endLoop (P:=P) hb (c0v hq5),?_⟩
  have fin:E0i E base w0 Γ ro s N (M.bind (F0b ⟨E.ty,E.fn,⟨n,T,ps.toList,as,bd⟩::E.loops,E.ctr,E.lps,E.mps,E.solo⟩ ih det f (first++[.yld n]++captured)) (fun _=>
   M.bind (rdLoop n) fun l=>M.req (not (Nat.beq l.st 1))<|M.bind (wrLoop n 3 l.pend) fun _=>M.pure (l.pend,(⟨T.t,T.n,mk,T.rnd⟩:Tm))) s2) pend.ex {a with defers:=mark++a.defers} (w3.putObj i.b (.loop {i.lp with state:=.exhausted,pending:=pend.code})):=
   ⟨pend,_,s6,Γ3,hN3 _ _ ⟨rfl,rfl⟩,rfl,hT6,G6⟩
  cases pend with
  |normal=>exact fin
  |exit id=>exact wpIn_exit fin
  |ret=>exact wpIn_ret fin
end
end Go.Ev
