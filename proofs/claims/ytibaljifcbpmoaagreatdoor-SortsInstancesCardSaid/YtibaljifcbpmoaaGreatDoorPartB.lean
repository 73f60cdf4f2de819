/- A part of the proof of the statement: no conditions. -/
import Derived.Test.YtibaljifcbpmoaaGreatDoorPartA
import Derived.Laws.BytesString
import Derived.MapKept
set_option linter.unusedSectionVars false
set_option linter.unusedVariables false
set_option linter.unusedSimpArgs false
namespace Go.Ev
open Go Go.RowKit
variable[Univ]
def C0q(Γ:Gam)(lo hi:Nat):Prop:=∀n,lo≤n→n<hi→Γ n=none
structure Got(E:Env)(base:Bs)(w0:World)(Γ:Gam)(s:St)(N:Nat)(Γ':Gam)(s':St)(w':World):Prop where
 ext:Ext Γ Γ'
 off:∀n,n<s.nx∨N≤n→Γ' n=Γ n
 nx:s.nx≤s'.nx
 fresh:C0q Γ' s'.nx N
 rel:Rel E base w0 Γ' s'.h w'
section
variable{P:Program}{E:Env}{base:Bs}{w0:World}{Γ:Gam}{w:World}{s:St}{t:TypeId}
theorem Got.same{N:Nat}{s':St}{w':World}(hf:C0q Γ s.nx N)(hs:s'.nx=s.nx)(R:Rel E base w0 Γ s'.h w'):Got E base w0 Γ s N Γ s' w':=
 ⟨.refl _,fun _ _=>rfl,by omega,by rw[hs];exact hf,R⟩
theorem Got.trans{N:Nat}{Γ1 Γ2:Gam}{s1 s2:St}{w1 w2:World}(h:Got E base w0 Γ s N Γ1 s1 w1)(k:Got E base w0 Γ1 s1 N Γ2 s2 w2):Got E base w0 Γ s N Γ2 s2 w2:=
 ⟨h.ext.trans k.ext,fun n hn=>by
  rw[k.off n (by have :=h.nx;omega),h.off n hn],Nat.le_trans h.nx k.nx,k.fresh,k.rel⟩
theorem Got.after{N:Nat}{Γ':Gam}{s1 s':St}{w':World}(hs:Same s s1)(h:Got E base w0 Γ s1 N Γ' s' w'):Got E base w0 Γ s N Γ' s' w':=
 ⟨h.ext,fun n hn=>h.off n (by rw[hs.nx];exact hn),by rw[←hs.nx];exact h.nx,h.fresh,h.rel⟩
theorem O0X{e:TypeId}{cs:List AVal}(g:(B0i e cs s).Good):∃s',s.nx<LH∧B0i e cs s=.ok s.nx s'∧s'.h=s.h.set s.nx (.cells cs e false false s.nx 0 [(s.nx,0,cs.length)])∧s'.nx=s.nx+1:=by
 unfold B0i at g⊢
 obtain⟨s',h1,h2,h3,h4⟩:=C0Q g
 exact⟨s',h1,h2,by rw[h3,A0O],h4⟩
theorem C0H(R:Rel E base w0 Γ s.h w){e:TypeId}{cs:List AVal}{C:Array Value}(hC:cs.length≤C.size)(hv:∀(k:Nat)(a:AVal),cs[k]?=some a→∃v,C[k]?=some v∧VRel Γ a v)
  (g:(B0i e cs s).Good):∃s',B0i e cs s=.ok s.nx s'∧s'.nx=s.nx+1∧∀N,s'.nx≤N→C0q Γ s.nx N→
   Got E base w0 Γ s N (Γ.add s.nx ⟨w.heap.size,0,cs.length,C.size,default⟩) s' {w with heap:=w.heap.push (.cells C e)}:=by
 obtain⟨s',h1,h2,h3,h4⟩:=O0X g
 refine⟨s',h2,h4,fun N hN hf=>?_⟩
 have hn:Γ s.nx=none:=hf s.nx (Nat.le_refl _) (by omega)
 have hx:Ext Γ (Γ.add s.nx ⟨w.heap.size,0,cs.length,C.size,default⟩):=Gam.ext_add hn
 refine⟨hx,fun n hn'=>Gam.add_ne (by omega),by omega,fun n a b=>?_,?_⟩
 ·rw[Gam.add_ne (by omega)];exact hf n (by omega) b
 ·rw[h3]
  refine R.alloc h1 hn _ rfl _ _ ?_ ?_ ?_
  ·refine⟨_,Gam.add_at,rfl,⟨⟨_,Gam.add_at⟩,?_⟩,C,(0,0),by simp,rfl,by simpa using hC,fun _ k a ha=>?_,fun _ _ k _ h1 h2=>by simp at h2⟩
   ·intro x hx';simp at hx';subst hx';exact h1
   ·obtain⟨v,p,q⟩:=hv k a ha
    exact⟨v,by simpa using p,q.ext hx⟩
  ·intro cs' e' frz root rel al h;cases h;exact .inl ⟨rfl,rfl,by simp⟩
  ·intro m since seen h;cases h
theorem G0B{l:List AVal}{vs:Array Value}(h:VRels Γ l vs.toList):l.length≤vs.size∧∀(k:Nat)(a:AVal),l[k]?=some a→∃v,vs[k]?=some v∧VRel Γ a v:=
 ⟨by have :=h.length;simp at this;omega,fun k a ha=>by obtain⟨v,p,q⟩:=h.get ha;exact⟨v,by simpa using p,q⟩⟩
def Makes(E:Env)(base:Bs)(w0:World)(Γ:Gam)(s:St)(r:Res AVal)(run:Result Value):Prop:=
 ∃a s',r=.ok a s'∧∀N,s'.nx≤N→C0q Γ s.nx N→∃Γ' v w',run=.ok v w'∧VRel Γ' a v∧Got E base w0 Γ s N Γ' s' w'
theorem Reads.makes(R:Rel E base w0 Γ s.h w){r:Res AVal}{run:Result Value}(h:Reads Γ s r run w):Makes E base w0 Γ s r run:=by
 obtain⟨a,s',v,h1,h2,h3,h4⟩:=h
 exact⟨a,s',h1,fun N _ hf=>⟨Γ,v,w,h3,h4,Got.same hf h2.nx (by rw[h2.h];exact R)⟩⟩
theorem O0W(hE:EnvOk E P)(R:Rel E base w0 Γ s.h w)(g:((M.bind (E.ti t) fun ti=>M.bind (B0i t ti.zero) fun n=>M.pure (AVal.ptr n 0)) s).Good):
  Makes E base w0 Γ s ((M.bind (E.ti t) fun ti=>M.bind (B0i t ti.zero) fun n=>M.pure (AVal.ptr n 0)) s) ((Instr.alloc t true (.tuple #[])).run P w):=by
 obtain⟨ti,inf,d,z,hty,he,T⟩:=A0o hE (A0a g)
 rw[A0d he] at g⊢
 obtain⟨k1,k2⟩:=G0B (T.zeros Γ)
 obtain⟨s',e1,n1,f1⟩:=C0H (E:=E) (base:=base) (w0:=w0) R k1 k2 (A0a g)
 rw[A0d e1]
 refine⟨_,s',rfl,fun N hN hf=>⟨_,.pointer (some ⟨w.heap.size,0,none⟩),_,?_,?_,f1 N hN hf⟩⟩
 ·simp[Instr.alloc,T.run_zero,newVar,newRow]
 ·unfold VRel;exact⟨_,Gam.add_at,by simp⟩
theorem T0o(R:Rel E base w0 Γ s.h w){a:AVal}{u:Value}(ha:VRel Γ a u)(g:((M.bind (B0i t a.cells) fun n=>M.pure (AVal.ptr n 0)) s).Good):
  Makes E base w0 Γ s ((M.bind (B0i t a.cells) fun n=>M.pure (AVal.ptr n 0)) s) ((Instr.box t u).run P w):=by
 have hk:a.cells.length≤u.cells.size∧∀(k:Nat)(x:AVal),a.cells[k]?=some x→∃v,u.cells[k]?=some v∧VRel Γ x v:=by
  by_cases hn:a=.any
  ·subst hn;exact⟨by simp[AVal.cells],by simp[AVal.cells]⟩
  ·exact G0B (K0j ha hn)
 obtain⟨s',e1,n1,f1⟩:=C0H (E:=E) (base:=base) (w0:=w0) (e:=t) R hk.1 hk.2 (A0a g)
 rw[A0d e1]
 refine⟨_,s',rfl,fun N hN hf=>⟨_,.pointer (some ⟨w.heap.size,0,none⟩),_,?_,?_,f1 N hN hf⟩⟩
 ·simp[Instr.box,newVar,newRow]
 ·unfold VRel;exact⟨_,Gam.add_at,by simp⟩
theorem W0M{cs l:List AVal}{vs us:List Value}(h:VRels Γ cs vs)(k:VRels Γ l us){i:Nat}(hi:i+l.length≤cs.length):
  VRels Γ (over cs i l) (vs.take i++us++vs.drop (i+us.length)):=by
 rw[P0T cs i l hi,k.length]
 exact((h.take i).append k).append (h.drop _)
theorem S0w(cs:Array Value)(off:Nat):∀(us:List Value)(j:Nat)(acc:Array Value),off+j+us.length≤acc.size→
  ((us.zipIdx j).foldl (fun cs (c,j)=>cs.setIfInBounds (off+j) c) acc).toList=acc.toList.take (off+j)++us++acc.toList.drop (off+j+us.length)
 |[],j,acc,_=>by simp
 |
  u::us,j,acc,h=>by
  simp only[List.zipIdx_cons,List.foldl_cons]
  simp at h
  rw[S0w cs off us (j+1) _ (by simp;omega)]
  apply List.ext_getElem?
  intro k
  simp only[Array.toList_setIfInBounds]
  have hl:(acc.toList.take (off+j)).length=off+j:=by simp;omega
  have hl2:((acc.toList.set (off+j) u).take (off+(j+1))).length=off+(j+1):=by simp;omega
  by_cases h1:k<off+j
  ·rw[List.append_assoc,List.append_assoc,List.getElem?_append_left (by omega),List.getElem?_append_left (by omega)]
   simp only[List.getElem?_take]
   rw[if_pos (by omega),if_pos h1,List.getElem?_set_ne (by omega)]
  ·by_cases h2:k=off+j
   ·subst h2
    rw[List.append_assoc,List.append_assoc,List.getElem?_append_left (by omega),List.getElem?_append_right (by omega),hl]
    simp only[List.getElem?_take]
    rw[if_pos (by omega),List.getElem?_set_self (by simp;omega)]
    simp
   ·rw[List.append_assoc,List.append_assoc]
    rw[List.getElem?_append_right (l₁:=(acc.toList.set (off+j) u).take (off+(j+1))) (by omega),List.getElem?_append_right (l₁:=acc.toList.take (off+j)) (by omega),hl,hl2]
    obtain⟨q,hq⟩:∃q,k=off+j+1+q:=⟨k-(off+j+1),by omega⟩
    subst hq
    rw[show off+j+1+q-(off+(j+1))=q from by omega,show off+j+1+q-(off+j)=q+1 from by omega]
    simp only[List.cons_append,List.getElem?_cons_succ]
    by_cases h3:q<us.length
    ·rw[List.getElem?_append_left h3,List.getElem?_append_left h3]
    ·rw[List.getElem?_append_right (by omega),List.getElem?_append_right (by omega)]
     simp only[List.getElem?_drop]
     rw[List.getElem?_set_ne (by simp;omega)]
     congr 1
     simp;omega
theorem G0b{place:Nat→Option (Nat×Nat)}:∀(parts:List (Nat×AVal))(vparts:List (Nat×Value))(cells:List AVal)(vcells:Array Value){out:List AVal},
  VRels Γ cells vcells.toList→vparts.length=parts.length→(∀(k:Nat) p q,parts[k]?=some p→vparts[k]?=some q→p.1=q.1∧VRel Γ p.2 q.2)→
  S0N place cells parts=some out→∃vout,Instr.fill place vcells vparts=some vout∧VRels Γ out vout.toList
 |
  [],vparts,cells,vcells,out,hc,hl,_,h=>by
  cases vparts with
  |nil=>simp[S0N] at h;subst h;exact⟨vcells,rfl,hc⟩
  |cons q l=>simp at hl
 |
  p::parts,vparts,cells,vcells,out,hc,hl,hp,h=>by
  cases vparts with
  |nil=>simp at hl
  |
   cons q vparts=>
   obtain⟨e1,e2⟩:=hp 0 p q rfl rfl
   unfold S0N at h
   obtain⟨qi,qv⟩:=q
   simp only[] at e1 e2
   unfold Instr.fill
   cases hpl:place p.1 with
   |none=>rw[hpl] at h;cases h
   |
    some z=>
    rw[hpl] at h
    rw[←e1,hpl]
    simp only[] at h⊢
    cases hb:(Nat.blt 0 z.2&&Nat.beq (len p.2.cells) z.2&&Nat.ble (z.1+len p.2.cells) (len cells)) with
    |false=>rw[hb] at h;cases h
    |
     true=>
     rw[hb,A0e] at h
     simp[Nat.blt_eq,Nat.beq_eq,A0O] at hb
     obtain⟨⟨b1,b2⟩,b3⟩:=hb
     have hcv:=I0n e2 (by omega)
     have hsz:qv.cells.size=p.2.cells.length:=by have :=hcv.length;simpa using this
     have hvs:vcells.size=cells.length:=by have :=hc.length;simpa using this
     rw[if_neg (by simp;omega)]
     have ho:=W0M hc hcv b3
     have hf:=S0w vcells z.1 qv.cells.toList 0 vcells (by simp;omega)
     refine G0b parts vparts _ _ ?_ (by simpa using hl) (fun k a b h1 h2=>hp (k+1) a b (by simpa using h1) (by simpa using h2)) h
     have e3:(qv.cells.zipIdx.foldl (fun cs (c,j)=>cs.setIfInBounds (z.1+j) c) vcells).toList=vcells.toList.take z.1++qv.cells.toList++vcells.toList.drop (z.1+qv.cells.toList.length):=by
      rw[←Array.foldl_toList,Array.toList_zipIdx]
      simpa using hf
     rw[e3];exact ho
end
section
variable{P:Program}{E:Env}{base:Bs}{w0:World}{Γ:Gam}{w:World}{s:St}{t:TypeId}
theorem M0t{P:Program}(w:World):∀(fs:List Field),(∀f∈fs,∃i,P.info? f.type=some i)→
  (fs.mapM fun f=>(do pure (f.offset,←sizeOf f.type):Sem (Nat×Nat))).run P w=.ok (fs.map fun f=>(f.offset,P.cellsOf f.type)) w
 |[],_=>rfl
 |
  f::fs,h=>by
  obtain⟨i,hi⟩:=h f (by simp)
  have h1:(sizeOf f.type).run P w=.ok (P.cellsOf f.type) w:=run_sizeOf w hi
  simp only[List.mapM_cons,Sem.run_bind,h1,Result.andThen_ok,Sem.run_pure,M0t w fs fun g hg=>h g (by simp[hg]),List.map_cons]
theorem K0N(hE:EnvOk E P):∀(fs:List Field),O0M E (fs.map (fiOf P))=true→∀f∈fs,∃i,P.info? f.type=some i
 |[],_,f,hf=>by cases hf
 |
  g::fs,h,f,hf=>by
  simp only[List.map_cons,O0M] at h
  cases hg:(E.tyOf (fiOf P g).t).isSome with
  |false=>rw[hg] at h;cases h
  |
   true=>
   rw[hg,A0e] at h
   rcases List.mem_cons.1 hf with e|e
   ·subst e
    obtain⟨ti,hti⟩:=Option.isSome_iff_exists.1 hg
    obtain⟨i,d,z,T⟩:=hE.ok hti
    exact⟨i,T.info⟩
   ·exact K0N hE fs h f e
structure d0n(Γ:Gam)(ps:List (Nat×AVal))(qs:List (Nat×Value)):Prop where
 len:qs.length=ps.length
 get:∀(k:Nat) p q,ps[k]?=some p→qs[k]?=some q→p.1=q.1∧VRel Γ p.2 q.2
theorem P0a(hE:EnvOk E P){ps:List (Nat×AVal)}{qs:Array (Nat×Value)}(hp:d0n Γ ps qs.toList)(g:(K0l E t ps s).Good):
  Reads Γ s (K0l E t ps s) ((Instr.build t qs).run P w) w:=by
 unfold K0l at g⊢
 obtain⟨ti,inf,d,z,hty,he,T⟩:=A0o hE (A0a g)
 rw[A0d he] at g⊢
 have hk:=T.k
 cases hc:ti.k<;>rw[hc] at g hk<;>simp only[] at g⊢<;>first
  |exact g.elim
  |skip
 case struct fs=>
  obtain⟨fa,hd,hfs⟩:=C0L hk.symm
  obtain⟨hq,hr⟩:=A0i g
  rw[hr] at g⊢
  obtain⟨l,h1,h2⟩:=A0k (A0a g)
  rw[A0d h2]
  rw[hfs] at hq h1
  have hpl:(fun i=>(nth (fa.toList.map (fiOf P)) i).map fun f=>(f.off,f.size))=fun i=>(fa.map fun f=>(f.offset,P.cellsOf f.type))[i]?:=by
   funext i
   rw[E0Z]
   simp only[List.getElem?_map,Array.getElem?_map,Option.map_map]
   rw[Array.getElem?_toList]
   rfl
  rw[hpl] at h1
  obtain⟨vout,h3,h4⟩:=G0b ps qs.toList ti.zero z.cells (T.zeros Γ) hp.len hp.get h1
  refine⟨_,s,.agg vout,rfl,.refl s,?_,by unfold VRel;exact⟨vout,rfl,h4⟩⟩
  have h5:=M0t (P:=P) w fa.toList (K0N hE fa.toList hq)
  simp only[Instr.build,Sem.run_bind,T.run_zero,T.run_und,Result.andThen_ok,hd]
  rw[←Array.toArray_toList (xs:=fa),List.mapM_toArray,Sem.run_map,h5]
  simp only[Result.andThen_ok]
  have h6:(fun i:Nat=>((fa.toList.map fun f=>(f.offset,P.cellsOf f.type)).toArray)[i]?)=fun i:Nat=>(fa.map fun f=>(f.offset,P.cellsOf f.type))[i]?:=by
   funext i;simp
  rw[h6,h3]
  rfl
 case array n e sz=>
  obtain⟨hd,hsz⟩:=D0u hk.symm
  obtain⟨hq,hr⟩:=A0i g
  rw[hr] at g⊢
  obtain⟨l,h1,h2⟩:=A0k (A0a g)
  rw[A0d h2]
  obtain⟨vout,h3,h4⟩:=G0b ps qs.toList ti.zero z.cells (T.zeros Γ) hp.len hp.get h1
  refine⟨_,s,.agg vout,rfl,.refl s,?_,by unfold VRel;exact⟨vout,rfl,h4⟩⟩
  have hpos:0<sz:=by simpa [Nat.blt_eq] using hq
  have h5:(sizeOf e).run P w=.ok sz w:=by rw[hsz];exact A0B (by omega) w
  simp only[Instr.build,Sem.run_bind,T.run_zero,T.run_und,Result.andThen_ok,hd,h5,h3]
  rfl
theorem C0C(l:List AVal):∀n,(D0X l n).length=n*l.length
 |0=>by simp[D0X]
 |n+1=>by simp[D0X,C0C l n,Nat.succ_mul];omega
theorem M0A(l:List AVal):∀(n k:Nat),k<n*l.length→(D0X l n)[k]?=l[k % l.length]?
 |0,k,h=>by simp at h
 |
  n+1,k,h=>by
  unfold D0X
  by_cases h1:k<l.length
  ·rw[List.getElem?_append_left h1,Nat.mod_eq_of_lt h1]
  ·rw[List.getElem?_append_right (by omega),M0A l n (k-l.length) (by rw[Nat.succ_mul] at h;omega)]
   congr 1
   rw[Nat.mod_eq_sub_mod (a:=k) (by omega)]
theorem J0s{l:List AVal}{z:Array Value}(h:VRels Γ l z.toList)(n:Nat)(hp:0<l.length):
  VRels Γ (D0X l n) ((Array.range (n*z.size)).map (fun i=>z[i % z.size]!)).toList:=by
 have hz:z.size=l.length:=by have :=h.length;simpa using this
 refine VRels.of_get (by simp[C0C,hz]) fun k a ha=>?_
 have hk:k<n*l.length:=by
  rcases Nat.lt_or_ge k (n*l.length) with q|q
  ·exact q
  ·rw[List.getElem?_eq_none (by rw[C0C];exact q)] at ha;cases ha
 rw[M0A l n k hk] at ha
 obtain⟨v,h1,h2⟩:=h.get ha
 refine⟨v,?_,h2⟩
 have hm:k % z.size<z.size:=Nat.mod_lt _ (by omega)
 have h1':z[k % z.size]?=some v:=by rw[hz];simpa using h1
 simp only[Array.toList_map,List.getElem?_map,Array.getElem?_toList]
 rw[Array.getElem?_range,if_pos (by rw[hz];exact hk)]
 simp only[Option.map_some,Option.some.injEq]
 rw[getElem!_def,h1']
theorem R0x(f:Nat→Value):(Array.range 0).map f=#[]:=Array.eq_empty_of_size_eq_zero (by simp)
theorem N0G(off:Nat):∀(zz:List (Value×Nat))(c:Array Value),(zz.foldl (fun cs x=>cs.setIfInBounds (off+x.2) x.1) c).size=c.size
 |[],_=>rfl
 |a::zz,c=>by simp only[List.foldl_cons];rw[N0G off zz];simp
theorem S0h{place:Nat→Option (Nat×Nat)}:∀(q:List (Nat×Value))(c o:Array Value),Instr.fill place c q=some o→o.size=c.size
 |[],c,o,h=>by simp[Instr.fill] at h;rw[h]
 |
  (i,v)::q,c,o,h=>by
  simp only[Instr.fill] at h
  split at h
  ·cases h
  ·split at h
   ·cases h
   ·rw[S0h q _ _ h,←Array.foldl_toList]
    exact N0G _ _ _
theorem I0O(hE:EnvOk E P)(R:Rel E base w0 Γ s.h w){k:Nat}{ps:List (Nat×AVal)}{qs:Array (Nat×Value)}(hp:d0n Γ ps qs.toList)(g:(C0S E t k ps s).Good):
  Makes E base w0 Γ s (C0S E t k ps s) ((Instr.buildSlice t k qs).run P w):=by
 unfold C0S at g⊢
 obtain⟨ti,inf,d,z,hty,he,T⟩:=A0o hE (A0a g)
 rw[A0d he] at g⊢
 have hk:=T.k
 cases hc:ti.k<;>rw[hc] at g hk<;>simp only[] at g⊢<;>first
  |exact g.elim
  |skip
 case slice e sz=>
  obtain⟨hd,hsz⟩:=A0S hk.symm
  obtain⟨te,inf',d',z',hty',he',T'⟩:=A0o hE (A0a g)
  rw[A0d he'] at g⊢
  obtain⟨hq,hr⟩:=A0i g
  rw[hr] at g⊢
  obtain⟨l,h1,h2⟩:=A0k (A0a g)
  rw[A0d h2] at g⊢
  simp[Nat.blt_eq,Nat.beq_eq,A0O] at hq
  obtain⟨⟨q1,q2⟩,q3⟩:=hq
  have hzs:z'.cells.size=sz:=by have :=(T'.zeros Γ).length;simp at this;omega
  have hte:te.size=sz:=by rw[←T'.cells,hsz]
  have hz0:=J0s (T'.zeros Γ) k (by omega)
  rw[hzs] at hz0
  obtain⟨vout,h3,h4⟩:=G0b ps qs.toList _ _ hz0 hp.len hp.get h1
  obtain⟨k1,k2⟩:=G0B h4
  obtain⟨s',e1,n1,f1⟩:=C0H (E:=E) (base:=base) (w0:=w0) (e:=e) R k1 k2 (A0a g)
  rw[A0d e1]
  have hl:l.length=k*sz:=by
   have h5:vout.size=k*sz:=by
    rw[S0h _ _ _ h3];simp
   have :=h4.length;simp at this;omega
  refine⟨_,s',rfl,fun N hN hf=>⟨_,.slice (some ⟨w.heap.size,0,none⟩) k k,_,?_,?_,f1 N hN hf⟩⟩
  ·have hks:¬(k*sz>2^24):=by omega
   by_cases h0:k=0
   ·subst h0
    simp only[Instr.buildSlice,Sem.run_bind,T.run_und,Result.andThen_ok,hd,T'.run_size,hte]
    simp only[Nat.zero_mul] at h3 hks⊢
    rw[R0x] at h3
    simp only[hks,if_false,Sem.run_bind,if_true,Sem.run_pure,Result.andThen_ok,R0x,h3,newRow,run_newObj]
   ·have h00:k*sz≠0:=Nat.mul_ne_zero h0 (by omega)
    simp only[Instr.buildSlice,Sem.run_bind,T.run_und,Result.andThen_ok,hd,T'.run_size,hte]
    simp only[hks,if_false,h00,Sem.run_bind,T'.run_zero,Sem.run_pure,Result.andThen_ok,hzs,h3,newRow,run_newObj]
  ·unfold VRel
   refine⟨_,Gam.add_at,?_⟩
   refine⟨q1,by simp,Nat.le_refl _,?_⟩
   simp[hl]
theorem J0H(hE:EnvOk E P)(R:Rel E base w0 Γ s.h w){a b:AVal}{u v:Value}(ha:VRel Γ a u)(hb:VRel Γ b v)(g:(D0C E t a b s).Good):
  Makes E base w0 Γ s (D0C E t a b s) ((Instr.makeSlice t u v).run P w):=by
 unfold D0C at g⊢
 obtain⟨ti,inf,d,z,hty,he,T⟩:=A0o hE (A0a g)
 rw[A0d he] at g⊢
 have hk:=T.k
 cases hc:ti.k<;>rw[hc] at g hk<;>simp only[] at g⊢<;>first
  |exact g.elim
  |skip
 case slice e sz=>
  obtain⟨hd,hsz⟩:=A0S hk.symm
  obtain⟨l,h1,h2⟩:=A0k (A0a g)
  rw[A0d h2] at g⊢
  obtain⟨c,h3,h4⟩:=A0k (A0a g)
  rw[A0d h4] at g⊢
  obtain⟨kd,rfl⟩:=E0u h1 ha
  obtain⟨kd',rfl⟩:=E0u h3 hb
  obtain⟨te,inf',d',z',hty',he',T'⟩:=A0o hE (A0a g)
  rw[A0d he'] at g⊢
  obtain⟨hq,hr⟩:=A0i g
  rw[hr] at g⊢
  simp[Nat.blt_eq,Nat.beq_eq,A0O] at hq
  obtain⟨⟨⟨⟨q1,q2⟩,q3⟩,q4⟩,q5⟩:=hq
  have hzs:z'.cells.size=sz:=by have :=(T'.zeros Γ).length;simp at this;omega
  have hte:te.size=sz:=by rw[←T'.cells,hsz]
  have hz0:=J0s (T'.zeros Γ) c (by omega)
  obtain⟨k1,k2⟩:=G0B hz0
  obtain⟨s',e1,n1,f1⟩:=C0H (E:=E) (base:=base) (w0:=w0) (e:=e) R k1 k2 (A0a g)
  rw[A0d e1]
  refine⟨_,s',rfl,fun N hN hf=>⟨_,.slice (some ⟨w.heap.size,0,none⟩) l c,_,?_,?_,f1 N hN hf⟩⟩
  ·have hby:inf'.bytes≤4096:=by rw[←T'.bytes];exact q3
   have wl:IntKind.i64.wrap (l:Int)=l:=wrap_i64 l (by omega)
   have wc:IntKind.i64.wrap (c:Int)=c:=wrap_i64 c (by omega)
   have big:∀n:Nat,n≤100000→¬((inf'.bytes:Int)*n>2^48):=by
    intro n hn hgt
    have :inf'.bytes*n≤4096*100000:=Nat.mul_le_mul hby hn
    have h9:((inf'.bytes*n:Nat):Int)>2^48:=by exact_mod_cast hgt
    omega
   have tl1:(decide ((c:Int)<0)||decide ((inf'.bytes:Int)*c>2^48))=false:=by
    have :=big c q2
    simp only[Bool.or_eq_false_iff,decide_eq_false_iff_not]
    exact⟨by omega,this⟩
   simp only[Instr.makeSlice,Sem.run_bind,T.run_und,Result.andThen_ok,hd,asInt,asIntOf,Sem.run_pure,T'.run_info,wl,wc]
   simp only[tl1,Bool.false_or]
   have c1:decide ((l:Int)<0)=false:=by simp
   have c2:decide ((l:Int)>c)=false:=by simp;omega
   simp only[c1,c2,Bool.or_self,Bool.false_eq_true,if_false,Sem.run_bind,run_askRoom,Result.andThen_ok,T'.run_size,hte,Int.toNat_natCast]
   by_cases h0:c=0
   ·subst h0
    simp only[Nat.zero_mul,if_true,Sem.run_pure,Result.andThen_ok,newRow,Sem.run_bind,run_newObj,R0x,hzs]
   ·have h00:c*sz≠0:=Nat.mul_ne_zero h0 (by omega)
    simp only[h00,if_false,Sem.run_bind,T'.run_zero,Sem.run_pure,Result.andThen_ok,newRow,run_newObj,hzs]
  ·unfold VRel
   refine⟨_,Gam.add_at,?_⟩
   refine⟨q4,by simp,q1,?_⟩
   simp[C0C,q5]
end
theorem I0u{α:Type}(u v:α):∀(d:Nat)(t:Tr α)(n m:Nat),t.deep d→n<2^d→m<2^d→n≠m→(t.set n u).set m v=(t.set m v).set n u
 |
  0,_,n,m,_,hn,hm,ne=>by
  have hn':n<1:=hn
  have hm':m<1:=hm
  omega
 |d+1,.nil,_,_,h,_,_,_=>h.elim
 |d+1,.leaf _,_,_,h,_,_,_=>h.elim
 |
  d+1,.node l r,n,m,h,hn,hm,ne=>by
  have hp:2^(d+1)=2*2^d:=by rw[Nat.pow_succ];omega
  rw[hp] at hn hm
  rw[B0j,B0j]
  by_cases hn2:n % 2=0<;>by_cases hm2:m % 2=0
  ·rw[if_pos hn2,if_pos hm2,B0j,B0j,if_pos hn2,if_pos hm2,I0u u v d l _ _ h.1 (by omega) (by omega) (by omega)]
  ·rw[if_pos hn2,if_neg hm2,B0j,B0j,if_pos hn2,if_neg hm2]
  ·rw[if_neg hn2,if_pos hm2,B0j,B0j,if_neg hn2,if_pos hm2]
  ·rw[if_neg hn2,if_neg hm2,B0j,B0j,if_neg hn2,if_neg hm2,I0u u v d r _ _ h.2 (by omega) (by omega) (by omega)]
section
variable{P:Program}{E:Env}{base:Bs}{w0:World}{Γ:Gam}{w:World}{s:St}{t:TypeId}
theorem Rel.alive{h:Tr AObj}(R:Rel E base w0 Γ h w){root:Nat}(hn:root<LH){cs e frz d root' rel al}(ho:h.get root=some (.cells cs e frz d root' rel al)){al':List (Nat×Nat×Nat)}
  (hal:∀x∈al',x.1<LH) (keep:∀m cs1 e1 frz1 rel1 al1,m<LH→h.get m=some (.cells cs1 e1 frz1 false root rel1 al1)→(m,rel1,rel1+cs1.length)∈al'):
  Rel E base w0 Γ (h.set root (.cells cs e frz d root' rel al')) w:=by
 have W:=G0q R.deep hn ho (o':=.cells cs e frz d root' rel al') (.inr (.inr (.inr ⟨_,_,_,_,_,_,_,_,_,_,rfl,rfl,id,id⟩)))
 have back:∀m cs1 e1 frz1 d1 root1 rel1 al1,m<LH→(h.set root (.cells cs e frz d root' rel al')).get m=some (.cells cs1 e1 frz1 d1 root1 rel1 al1)→∃al2,h.get m=some (.cells cs1 e1 frz1 d1 root1 rel1 al2):=by
  intro m cs1 e1 frz1 d1 root1 rel1 al1 hm h1
  rw[R.gs root _ hn m hm] at h1
  by_cases c:m=root
  ·subst c;rw[if_pos rfl] at h1;cases h1;exact⟨_,ho⟩
  ·rw[if_neg c] at h1;exact⟨_,h1⟩
 refine R.weak (A0j _ DH h root R.deep) W ?_ ?_
 ·intro m cs1 e1 frz1 root1 rel1 al1 hm h1 cs2 e2 frz2 d2 root2 rel2 al2 hr h2
  obtain⟨al3,h3⟩:=back m _ _ _ _ _ _ _ hm h1
  rw[R.gs root _ hn root1 hr] at h2
  by_cases c':root1=root
  ·subst c'
   rw[if_pos rfl] at h2;cases h2
   exact keep m _ _ _ _ _ hm h3
  ·rw[if_neg c'] at h2
   exact R.fam m _ _ _ _ _ _ hm h3 _ _ _ _ _ _ _ h2
 ·intro m cs1 e1 frz1 d1 root1 rel1 al1 hm h1
  rw[R.gs root _ hn m hm] at h1
  by_cases c:m=root
  ·rw[if_pos c] at h1;cases h1;exact hal
  ·rw[if_neg c] at h1
   obtain⟨_,_,_,⟨_,q⟩,_⟩:=R.obj m _ hm h1;exact q
theorem Rel.share{h:Tr AObj}{w':World}(R:Rel E base w0 Γ h w){r:Nat}(hr:r<LH)(hf:Γ r=none){b:Nat}{C C':Array Value}{e:TypeId}{fz:Nat×Nat}
  (hb:w.heap[b]?=some (.cells C e fz)) (hbb:base.own b) (hnf:Γ.fz b=none) (st:G0X w b C' e fz w') (hsz:C'.size=C.size)
  {ir:Info} (hir:ir.b=b) (hcsz:ir.csz=C.size) {cs:List AVal} (hasz:ir.asz=cs.length) (hfit:ir.o+ir.asz≤ir.csz)
  (hcells:∀(k:Nat)(a:AVal),cs[k]?=some a→∃v,C'[ir.o+k]?=some v∧VRel Γ a v)
  (hfz:∀k,k<C.size→fz.1≤k→k<fz.2→False)
  {root rel:Nat} (hroot:∃x,Γ root=some x) (hmem:∀cs' e' frz' d' root' rel' al',h.get root=some (.cells cs' e' frz' d' root' rel' al')→(r,rel,rel+cs.length)∈al')
  (others:∀m p j,m<LH→h.get m=some p→p.live→Γ m=some j→j.b=b→∃cs' e' frz' rel' al',p=.cells cs' e' frz' false root rel' al'∧j.o+rel=ir.o+rel'∧
   ∀k,k<cs'.length→C'[j.o+k]?=C[j.o+k]?)
  (hhid:Hid base (Γ.add r ir) (h.set r (.cells cs e false false root rel [])) w'):
  Rel E base w0 (Γ.add r ir) (h.set r (.cells cs e false false root rel [])) w':=by
 have hx:Ext Γ (Γ.add r ir):=Gam.ext_add hf
 have hrr:root≠r:=fun q=>by obtain⟨x,hx'⟩:=hroot;rw[q,hf] at hx';cases hx'
 have gs:=R.gs r (.cells cs e false false root rel []) hr
 constructor
 ·exact A0j _ DH h r R.deep
 ·refine R.below.trans ⟨st.os,st.tape,st.output,by rw[st.size];exact Nat.le_refl _,fun k hk hx=>st.ne k (I0F hbb hk hx),O0A hb st.at' hsz fun k _=>st.ne k⟩
 ·rw[st.size];exact R.room
 ·intro m j hj
  by_cases c:m=r
  ·subst c;rw[Gam.add_at] at hj;cases hj
   refine⟨hr,by rw[hir];exact hbb,?_⟩
   rw[st.size,hir]
   rcases Nat.lt_or_ge b w.heap.size with q|q
   ·exact q
   ·rw[Array.getElem?_eq_none q] at hb;cases hb
  ·rw[Gam.add_ne c] at hj
   rw[st.size];exact R.dom m j hj
 ·intro m p hm hp
  rw[gs m hm] at hp
  by_cases c:m=r
  ·subst c
   rw[if_pos rfl] at hp;cases hp
   obtain⟨x,hx'⟩:=hroot
   refine⟨ir,Gam.add_at,hasz,⟨⟨x,hx _ _ hx'⟩,by simp⟩,C',fz,by rw[hir];exact st.at',by rw[hsz,hcsz],hfit,fun _ k a ha=>?_,fun _ _ k hk=>hfz k (by omega)⟩
   obtain⟨v,h1,h2⟩:=hcells k a ha
   exact⟨v,h1,h2.ext hx⟩
  ·rw[if_neg c] at hp
   have hO:=R.obj m p hm hp
   cases p with
   |done=>trivial
   |
    cells cs1 e1 frz1 d1 root1 rel1 al1=>
    obtain⟨j,g1,g2,g3,D,fz',g4,g5,g6,g7,g8⟩:=hO
    by_cases eb:j.b=b
    ·rw[eb,hb] at g4;cases g4
     refine⟨j,hx _ _ g1,g2,⟨⟨g3.1.choose,hx _ _ g3.1.choose_spec⟩,g3.2⟩,C',fz,by rw[eb];exact st.at',by rw[hsz];exact g5,g6,fun hd k a ha=>?_,g8⟩
     subst hd
     obtain⟨cs2,e2,frz2,rel2,al2,q1,q2,q3⟩:=others m _ j hm hp rfl g1 eb
     cases q1
     obtain⟨v,v1,v2⟩:=g7 rfl k a ha
     have hk:k<cs1.length:=by
      rcases Nat.lt_or_ge k cs1.length with q|q
      ·exact q
      ·rw[List.getElem?_eq_none q] at ha;cases ha
     exact⟨v,by rw[q3 k hk];exact v1,v2.ext hx⟩
    ·exact⟨j,hx _ _ g1,g2,⟨⟨g3.1.choose,hx _ _ g3.1.choose_spec⟩,g3.2⟩,D,fz',by rw[st.ne _ eb];exact g4,g5,g6,fun hd k a ha=>by obtain⟨v,v1,v2⟩:=g7 hd k a ha;exact⟨v,v1,v2.ext hx⟩,g8⟩
   |
    map kt es c'=>
    refine hO.keep hx fun j hj=>st.ne _ fun eb=>?_
    obtain⟨_,_,_,_,_,q,_⟩:=others m _ j hm hp trivial hj eb
    cases q
   |
    miter a b' c'=>
    refine hO.keep hx fun j hj=>st.ne _ fun eb=>?_
    obtain⟨_,_,_,_,_,q,_⟩:=others m _ j hm hp trivial hj eb
    cases q
   |
    siter y a b'=>
    refine hO.keep hx fun j hj=>st.ne _ fun eb=>?_
    obtain⟨_,_,_,_,_,q,_⟩:=others m _ j hm hp trivial hj eb
    cases q
   |
    arr a b'=>
    refine hO.keep hx fun j hj=>st.ne _ fun eb=>?_
    obtain⟨_,_,_,_,_,q,_⟩:=others m _ j hm hp trivial hj eb
    cases q
   |
    rcd a=>
    refine hO.keep hx fun j hj=>st.ne _ fun eb=>?_
    obtain⟨_,_,_,_,_,q,_⟩:=others m _ j hm hp trivial hj eb
    cases q
   |
    dat a=>
    refine hO.keep hx fun j hj=>st.ne _ fun eb=>?_
    obtain⟨_,_,_,_,_,q,_⟩:=others m _ j hm hp trivial hj eb
    cases q
   |
    mps a b' c' d' e'=>
    refine hO.keep hx fun j hj=>st.ne _ fun eb=>?_
    obtain⟨_,_,_,_,_,q,_⟩:=others m _ j hm hp trivial hj eb
    cases q
 ·intro m q p1 p2 j k hm hq h1 h2 l1 l2 ne e1 e2 eb
  rw[gs m hm] at h1
  rw[gs q hq] at h2
  by_cases c:m=r
  ·subst c
   rw[if_pos rfl] at h1;cases h1
   have cq:q≠m:=fun x=>ne x.symm
   rw[if_neg cq] at h2
   rw[Gam.add_at] at e1;cases e1
   rw[Gam.add_ne cq] at e2
   obtain⟨cs2,e2',frz2,rel2,al2,q1,q2,q3⟩:=others q p2 k hq h2 l2 e2 (by rw[←eb,hir])
   subst q1
   exact⟨rfl,by omega⟩
  ·rw[if_neg c] at h1
   rw[Gam.add_ne c] at e1
   by_cases c':q=r
   ·subst c'
    rw[if_pos rfl] at h2;cases h2
    rw[Gam.add_at] at e2;cases e2
    obtain⟨cs2,e2',frz2,rel2,al2,q1,q2,q3⟩:=others m p1 j hm h1 l1 e1 (by rw[eb,hir])
    subst q1
    exact⟨rfl,by omega⟩
   ·rw[if_neg c'] at h2
    rw[Gam.add_ne c'] at e2
    exact R.inj m q p1 p2 j k hm hq h1 h2 l1 l2 ne e1 e2 eb
 ·intro m cs1 e1 frz1 root1 rel1 al1 hm h1 cs2 e2 frz2 d2 root2 rel2 al2 h2
  rw[gs m hm] at h1
  by_cases c:m=r
  ·subst c
   rw[if_pos rfl] at h1;cases h1
   obtain⟨x,hx'⟩:=hroot
   rw[gs root (R.dom root x hx').1,if_neg hrr] at h2
   exact hmem _ _ _ _ _ _ _ h2
  ·rw[if_neg c] at h1
   obtain⟨_,_,_,⟨⟨x,hx'⟩,_⟩,_⟩:=R.obj m _ hm h1
   have cr:root1≠r:=fun q=>by rw[q,hf] at hx';cases hx'
   rw[gs root1 (R.dom root1 x hx').1,if_neg cr] at h2
   exact R.fam m _ _ _ _ _ _ hm h1 _ _ _ _ _ _ _ h2
 ·intro m q since seen kt es clock j k ents b' borns stepped hm hq h1 h2 e1 e2 b1 b2
  rw[gs m hm] at h1
  rw[gs q hq] at h2
  have cm:m≠r:=fun x=>by subst x;rw[if_pos rfl] at h1;cases h1
  have cq:q≠r:=fun x=>by subst x;rw[if_pos rfl] at h2;cases h2
  rw[if_neg cm] at h1
  rw[if_neg cq] at h2
  rw[Gam.add_ne cm] at e1
  rw[Gam.add_ne cq] at e2
  have d1:j.b≠b:=fun eb=>by obtain⟨_,_,_,_,_,q',_⟩:=others m _ j hm h1 trivial e1 eb;cases q'
  have d2:k.b≠b:=fun eb=>by obtain⟨_,_,_,_,_,q',_⟩:=others q _ k hq h2 trivial e2 eb;cases q'
  rw[st.ne _ d1] at b1
  rw[st.ne _ d2] at b2
  obtain⟨z1,z2⟩:=R.iter m q since seen kt es clock j k ents b' borns stepped hm hq h1 h2 e1 e2 b1 b2
  exact⟨z1,fun z=>(z2 z).ext hx⟩
 ·intro m j cs1 e1 frz1 rel1 al1 hm h1 ej
  rw[gs m hm] at h1
  by_cases c:m=r
  ·subst c
   rw[if_pos rfl] at h1;cases h1
   exact absurd rfl hrr
  ·rw[if_neg c] at h1
   rw[Gam.add_ne c] at ej
   exact R.own m j _ _ _ _ _ hm h1 ej
 ·intro k ob hk
  have hk:Γ.fz k=some ob:=hk
  rw[st.ne k fun q=>?_]
  ·exact R.stay k ob hk
  ·rw[q,hnf] at hk;cases hk
 ·intro m j o1 hm h1 l1 e1
  show Γ.fz j.b=none
  rw[gs m hm] at h1
  by_cases c:m=r
  ·subst c
   rw[Gam.add_at] at e1;cases e1
   rw[hir];exact hnf
  ·rw[if_neg c] at h1
   rw[Gam.add_ne c] at e1
   exact R.sep m j o1 hm h1 l1 e1
 ·show Γ.lo≤w'.heap.size
  rw[st.size];exact R.lo
 ·first|exact R.solo|(rw[hx.lo];exact R.solo)|(rw[hlo];exact R.solo)
 ·exact hhid
end
theorem R0R(n:Nat):∀(r c:Nat),c≤2*n+1000→Builtin.growBy n r c≤2*n+1000
 |0,c,h=>h
 |
  r+1,c,h=>by
  unfold Builtin.growBy
  split
  ·exact h
  ·exact R0R n r _ (by omega)
theorem e0i(n c:Nat)(h:c<n):Builtin.nextslicecap n c≤2*n+1000:=by
 unfold Builtin.nextslicecap
 split
 ·omega
 ·split
  ·omega
  ·exact R0R n 4 c (by omega)
section
variable{P:Program}{E:Env}{base:Bs}{w0:World}{Γ:Gam}{w:World}{s:St}{t:TypeId}
theorem C0a{n off k:Nat}{cap:Option Nat}{sz:Nat}{v:Value}(h:VRel Γ (.slice n off k cap sz) v):0<sz∧∃i,Γ n=some i∧∃o C,v=.slice (some ⟨i.b,o,none⟩) k C∧(0<k→o=i.o+off):=by
 unfold VRel at h
 obtain⟨i,hi,hp,h⟩:=h
 refine⟨hp,i,hi,?_⟩
 cases cap with
 |
  none=>
  rcases h.2 with⟨C,e,_⟩|⟨k0,_,x,e⟩
  ·exact⟨_,C,e,fun _=>rfl⟩
  ·subst k0;exact⟨x,0,e,fun q=>by omega⟩
 |some c=>exact⟨_,c,h.1,fun _=>rfl⟩
theorem D0Y(R:Rel E base w0 Γ s.h w){n off k:Nat}{cap:Option Nat}{sz:Nat}{v:Value}(hv:VRel Γ (.slice n off k cap sz) v)(g:(rdCells n off (k*sz) s).Good):
  ∃l s' us,rdCells n off (k*sz) s=.ok l s'∧Same s s'∧(∀d,(Builtin.firstCells sz k v).run P {w with drawn:=d}=.ok us {w with drawn:=d})∧VRels Γ l us.toList∧l.length=k*sz:=by
 obtain⟨hp,i,hi,o,C,rfl,ho⟩:=C0a hv
 obtain⟨l,s',vs,e1,e2,e3,e4,e5⟩:=D0b (P:=P) R hi g
 rcases Nat.eq_zero_or_pos k with k0|k0
 ·subst k0
  simp at e5
  refine⟨l,s',#[],e1,e2,fun d=>?_,by rw[e5];exact .nil,by simp[e5]⟩
  simp[Builtin.firstCells,loadCells,loadCellsFrom]
 ·obtain rfl:=ho k0
  refine⟨l,s',vs,e1,e2,fun d=>?_,e4,e5⟩
  obtain⟨l',s'',vs',f1,f2,f3,f4,f5⟩:=D0b (P:=P) (R.drawn d) hi g
  rw[e1] at f1;cases f1
  --the same cells in either world
  have :vs'=vs:=by
   obtain⟨cs,ee,frz,root,rel,al,s3,q1,q2,q3,q4⟩:=C0l g
   obtain⟨CC,fz,hb,hsz,_⟩:=R.cells hi q1 q2
   have h1:=B0B (P:=P) (w:=w) (b:=i.b) (o:=i.o+off) hb (k*sz) 0 #[] (by omega)
   have h2:=B0B (P:=P) (w:={w with drawn:=d}) (b:=i.b) (o:=i.o+off) hb (k*sz) 0 #[] (by omega)
   unfold loadCells at e3 f3
   rw[h1] at e3
   rw[h2] at f3
   cases e3;cases f3;rfl
  subst this
  simpa [Builtin.firstCells] using f3
theorem H0L(R:Rel E base w0 Γ s.h w){sz:Nat}{x:AVal}{v:Value}(hv:VRel Γ x v)(g:(D0I sz x s).Good):
  ∃
   n l s' us,D0I sz x s=.ok (n,l) s'∧Same s s'∧(∀d,(Builtin.lenOf v).run P {w with drawn:=d}=.ok n {w with drawn:=d})∧
   (∀d,(Builtin.firstCells sz n v).run P {w with drawn:=d}=.ok us {w with drawn:=d})∧VRels Γ l us.toList∧l.length=n*sz:=by
 unfold D0I at g⊢
 cases x<;>simp only[] at g⊢<;>first
  |exact g.elim
  |skip
 case str l=>
  unfold VRel at hv;subst hv
  obtain⟨hq,hr⟩:=A0i g
  have :sz=1:=Nat.eq_of_beq_eq_true hq
  subst this
  rw[hr]
  refine⟨l.length,_,s,(l.toArray.map fun b=>.int .u8 b.toNat),by rw[A0O];rfl,.refl s,fun d=>by simp[Builtin.lenOf,ByteArray.size],fun d=>?_,?_,by rw[C0m];simp⟩
  ·simp only[Builtin.firstCells]
   have :((⟨l.toArray⟩:ByteArray).extract 0 l.length).data=l.toArray:=by
    simp[ByteArray.data_extract]
   rw[this];rfl
  ·rw[C0m]
   have :=VRels.map (Γ:=Γ) (fun b:UInt8=>AVal.int .u8 (.ofNat b.toNat)) (fun b=>Value.int .u8 b.toNat) l fun x _=>by unfold VRel;rfl
   simpa using this
 case slice n off k cap esz=>
  obtain⟨hq,hr⟩:=A0i g
  have :esz=sz:=Nat.eq_of_beq_eq_true hq
  subst this
  rw[hr] at g⊢
  obtain⟨l,s',us,e1,e2,e3,e4,e5⟩:=D0Y (P:=P) R hv (A0a g)
  rw[A0d e1]
  obtain⟨_,_,_,_,_,rfl,_⟩:=C0a hv
  exact⟨k,l,s',us,rfl,e2,fun d=>by simp[Builtin.lenOf],e3,e4,e5⟩
 case nils=>
  unfold VRel at hv;subst hv
  exact⟨0,[],s,#[],rfl,.refl s,fun d=>by simp[Builtin.lenOf],fun d=>by simp[Builtin.firstCells],.nil,by simp⟩
theorem M0O{l:List AVal}{us:Array Value}(h:VRels Γ l us.toList)(rest:Array Value):l.length≤(us++rest).size∧∀(k:Nat)(a:AVal),l[k]?=some a→∃v,(us++rest)[k]?=some v∧VRel Γ a v:=by
 obtain⟨h1,h2⟩:=G0B h
 refine⟨by simp;omega,fun k a ha=>?_⟩
 obtain⟨v,p,q⟩:=h2 k a ha
 have hk:k<us.size:=by
  rcases Nat.lt_or_ge k us.size with z|z
  ·exact z
  ·rw[Array.getElem?_eq_none z] at p;cases p
 exact⟨v,by rw[Array.getElem?_append_left hk];exact p,q⟩
structure X0K(P:Program)(Γ:Gam)(w:World)(zeros:Bool)(te:TypeId)(inf:TypeInfo)(sz n:Nat)(l:List AVal)(us:Array Value)(v:Value):Prop where
 none:zeros=false→(∀d,(Builtin.lenOf v).run P {w with drawn:=d}=.ok n {w with drawn:=d})∧∀d,(Builtin.firstCells sz n v).run P {w with drawn:=d}=.ok us {w with drawn:=d}
 some:zeros=true→∃kd z,v=.int kd n∧n≤100000∧(P.info? te).bind (·.zero)=Option.some z∧us=(if n*sz=0 then#[] else Builtin.zeroCells z.cells n)
 rel:VRels Γ l us.toList
 size:l.length=n*sz
section
variable{ats:Array TypeId}{ta tb e:TypeId}{b:TypeDesc}{v:Value}{bs:Option Addr}{k C sz n:Nat}{z:Value}{inf:TypeInfo}{l:List AVal}{us:Array Value}{zeros:Bool}
theorem C0n(h0:ats[0]?=some ta)(h1:ats[1]?=some tb)(hu:P.underlying ta=some (.slice e))(hb:P.underlying tb=some b)
  (hi:P.info? e=some inf) (hsz:inf.size=sz) (hzero:inf.zero=some z) (hby:inf.bytes≤4096) (ty:TypeId) (hz:if zeros=true then∃kk,b=.int kk else∀kk,b=.int kk→False) (A:X0K P Γ w zeros e inf sz n l us v) (hC:k+n≤C)
  {w':World} (hst:∀a,bs=some a→(storeCells (a.add (k*sz)) us.toList).run P w=.ok () w') (hst0:bs=none→w'=w):
  (Builtin.append_ ats ty #[.slice bs k C,v]).run P w=.ok (.slice bs (k+n) C) w':=by
 have e0:(#[Value.slice bs k C,v]:Array Value)[0]?=some (.slice bs k C):=rfl
 have e1:(#[Value.slice bs k C,v]:Array Value)[1]?=some v:=rfl
 have hs:(sizeOf e).run P w=.ok sz w:=by simp[sizeOf,typeInfo,hi,hsz]
 have hz0:(zeroValue e).run P w=.ok z w:=by simp[zeroValue,typeInfo,hi,hzero]
 have hinf:(typeInfo e).run P w=.ok inf w:=by simp[typeInfo,hi]
 simp only[Builtin.append_,h0,h1,e0,e1,Sem.run_bind,run_underlying hu,Result.andThen_ok,hs,run_underlying hb,Sem.run_pure]
 cases zeros with
 |
  false=>
  obtain⟨q1,q2⟩:=A.none rfl
  have q1:(Builtin.lenOf v).run P w=.ok n w:=q1 w.drawn
  have q2:(Builtin.firstCells sz n v).run P w=.ok us w:=q2 w.drawn
  simp only[Bool.false_eq_true,if_false] at hz
  simp only[Bool.false_eq_true,if_false,Sem.run_bind,q1,Result.andThen_ok,hC,if_true,Bool.not_false,q2]
  cases bs with
  |none=>simp[hst0 rfl]
  |some a=>simp[hst a rfl]
 |
  true=>
  obtain⟨kd,z',rfl,hn,hz',rfl⟩:=A.some rfl
  rw[hi] at hz';simp only[Option.bind_some] at hz'
  rw[hzero] at hz';cases hz'
  simp only[if_true] at hz
  obtain⟨kk,rfl⟩:=hz
  have wl:IntKind.i64.wrap (n:Int)=n:=wrap_i64 n (by omega)
  have c1:¬((n:Int)<0):=by omega
  have c2:¬((n:Int)*inf.bytes>2^48):=by
   intro hgt
   have :n*inf.bytes≤100000*4096:=Nat.mul_le_mul hn hby
   have h9:((n*inf.bytes:Nat):Int)>2^48:=by exact_mod_cast hgt
   omega
  simp only[if_true,asInt,asIntOf,Sem.run_bind,Sem.run_pure,Result.andThen_ok,wl,c1,if_false,hinf,c2,Int.toNat_natCast,hC,Bool.not_true,Bool.false_eq_true]
  by_cases h00:n*sz=0
  ·rw[if_pos h00] at hst
   simp only[h00,if_true,Sem.run_pure,Result.andThen_ok]
   cases bs with
   |none=>simp[hst0 rfl]
   |some a=>simp[hst a rfl]
  ·rw[if_neg h00] at hst
   simp only[h00,if_false,Sem.run_bind,hz0,Sem.run_pure,Result.andThen_ok]
   cases bs with
   |none=>simp[hst0 rfl]
   |some a=>simp[hst a rfl]
theorem D0Q(h0:ats[0]?=some ta)(h1:ats[1]?=some tb)(hu:P.underlying ta=some (.slice e))(hb:P.underlying tb=some b)
  (hi:P.info? e=some inf) (hsz:inf.size=sz) (hzero:inf.zero=some z) (hzc:z.cells.size=sz) (hby:inf.bytes≤4096) (ty:TypeId) (hz:if zeros=true then∃kk,b=.int kk else∀kk,b=.int kk→False) (A:X0K P Γ w zeros e inf sz n l us v) (hC:C<k+n) (hkn:k+n≤1000000)
  {old:Array Value} (hold:∀d,(Builtin.firstCells sz k (.slice bs k C)).run P {w with drawn:=d}=.ok old {w with drawn:=d}):
  ∃
   (cap:Nat) (rest:Array Value),k+n≤cap∧rest.size=(cap-(k+n))*sz∧
   (Builtin.append_ ats ty #[.slice bs k C,v]).run P w=.ok (.slice (some ⟨w.heap.size,0,none⟩) (k+n) cap) {w with drawn:=w.drawn+1,heap:=w.heap.push (.cells (old++us++rest) e)}:=by
 have e0:(#[Value.slice bs k C,v]:Array Value)[0]?=some (.slice bs k C):=rfl
 have e1:(#[Value.slice bs k C,v]:Array Value)[1]?=some v:=rfl
 have hs:(sizeOf e).run P w=.ok sz w:=by simp[sizeOf,typeInfo,hi,hsz]
 have hz0:∀w',(zeroValue e).run P w'=.ok z w':=fun w'=>by simp[zeroValue,typeInfo,hi,hzero]
 have hinf:∀w',(typeInfo e).run P w'=.ok inf w':=fun w'=>by simp[typeInfo,hi]
 have hnot:¬(k+n≤C):=by omega
 have hcap:¬(Builtin.nextslicecap (k+n) C*inf.bytes>2^48):=by
  have h5:=e0i (k+n) C hC
  have h6:Builtin.nextslicecap (k+n) C*inf.bytes≤(2*(k+n)+1000)*4096:=Nat.mul_le_mul h5 hby
  omega
 have hmax:¬(((k+n:Nat):Int)>IntKind.i64.max):=by
  simp[IntKind.max,IntKind.signed,IntKind.bits];omega
 refine⟨(Question.appendCap (k+n) C e).cut (w.tape w.drawn (.appendCap (k+n) C e)),Builtin.zeroCells z.cells ((Question.appendCap (k+n) C e).cut (w.tape w.drawn (.appendCap (k+n) C e))-(k+n)),by simp[Question.cut],by simp[Builtin.zeroCells,hzc],?_⟩
 simp only[Builtin.append_,h0,h1,e0,e1,Sem.run_bind,run_underlying hu,Result.andThen_ok,hs,run_underlying hb,Sem.run_pure]
 have hch:(choose (.appendCap (k+n) C e)).run P w=.ok ((Question.appendCap (k+n) C e).cut (w.tape w.drawn (.appendCap (k+n) C e))) {w with drawn:=w.drawn+1}:=by
  rw[run_choose];rfl
 have ho:=hold (w.drawn+1)
 cases zeros with
 |
  false=>
  obtain⟨q1,q2⟩:=A.none rfl
  have q1:(Builtin.lenOf v).run P w=.ok n w:=q1 w.drawn
  have q2:=q2 (w.drawn+1)
  simp only[Bool.false_eq_true,if_false] at hz
  simp only[Bool.false_eq_true,if_false,Sem.run_bind,q1,Result.andThen_ok,hnot,hinf,false_or,hmax,false_and,hcap,Sem.run_pure,hch,run_askRoom,ho,Bool.not_false,if_true,q2,hz0,newRow,run_newObj]
 |
  true=>
  obtain⟨kd,z',rfl,hn,hz',rfl⟩:=A.some rfl
  rw[hi] at hz';simp only[Option.bind_some] at hz'
  rw[hzero] at hz';cases hz'
  simp only[if_true] at hz
  obtain⟨kk,rfl⟩:=hz
  have wl:IntKind.i64.wrap (n:Int)=n:=wrap_i64 n (by omega)
  have c1:¬((n:Int)<0):=by omega
  have c2:¬((n:Int)*inf.bytes>2^48):=by
   intro hgt
   have :n*inf.bytes≤100000*4096:=Nat.mul_le_mul hn hby
   have h9:((n*inf.bytes:Nat):Int)>2^48:=by exact_mod_cast hgt
   omega
  simp only[if_true,asInt,asIntOf,Sem.run_bind,Sem.run_pure,Result.andThen_ok,wl,c1,if_false,hinf,c2,Int.toNat_natCast,hnot,true_or,and_true,hmax,hcap,hch,run_askRoom,ho,Bool.not_true,Bool.false_eq_true]
  by_cases h00:n*sz=0
  ·simp only[h00,if_true,Sem.run_pure,Result.andThen_ok,hz0,newRow,Sem.run_bind,run_newObj]
  ·simp only[h00,if_false,Sem.run_bind,hz0,Sem.run_pure,Result.andThen_ok,newRow,run_newObj]
end
end
section
variable{P:Program}{E:Env}{base:Bs}{w0:World}{Γ:Gam}{w:World}{s:St}{t:TypeId}
theorem O0q(R:Rel E base w0 Γ s.h w){e:TypeId}{l:List AVal}{old us rest:Array Value}(hl:VRels Γ l (old++us).toList)(d:Nat)
  (g:(B0i e l s).Good):∃s',B0i e l s=.ok s.nx s'∧s'.nx=s.nx+1∧∀N,s'.nx≤N→C0q Γ s.nx N→
   Got E base w0 Γ s N (Γ.add s.nx ⟨w.heap.size,0,l.length,(old++us++rest).size,default⟩) s' {w with drawn:=d,heap:=w.heap.push (.cells (old++us++rest) e)}:=by
 obtain⟨k1,k2⟩:=M0O hl rest
 exact C0H (w:={w with drawn:=d}) (R.drawn d) k1 k2 g
theorem Q0b(C:Array Value)(o k j:Nat)(hj:j<k)(h:o+k≤C.size):(C.extract o (o+k))[j]?=C[o+j]?:=by
 rw[Array.getElem?_extract,if_pos (by omega)]
set_option maxHeartbeats 1000000 in
theorem I0l(R:Rel E base w0 Γ s.h w){ats:Array TypeId}{ta tb e:TypeId}{b:TypeDesc}{v:Value}{z:Value}{inf:TypeInfo}{sz n:Nat}{l:List AVal}{us:Array Value}{zeros:Bool}
  (h0:ats[0]?=some ta) (h1:ats[1]?=some tb) (hu:P.underlying ta=some (.slice e)) (hb:P.underlying tb=some b)
  (hi:P.info? e=some inf) (hsz:inf.size=sz) (hzero:inf.zero=some z) (hzc:z.cells.size=sz) (hby:inf.bytes≤4096) (ty:TypeId)
  (hz:if zeros=true then∃kk,b=.int kk else∀kk,b=.int kk→False) (A:X0K P Γ w zeros e inf sz n l us v)
  {m off k:Nat} {cap:Option Nat} {x:Value} (hx:VRel Γ (.slice m off k cap sz) x) (hkn:k+n≤1000000) (g:(C0s e m off k cap sz n l s).Good):
  Makes E base w0 Γ s (C0s e m off k cap sz n l s) ((Builtin.append_ ats ty #[x,v]).run P w):=by
 have hpos:0<sz:=(C0a hx).1
 have hus:us.size=l.length:=by have :=A.rel.length;simpa using this
 --in place
 have stays:∀(i:Info)(C:Nat),Γ m=some i→x=.slice (some ⟨i.b,i.o+off,none⟩) k C→k+n≤C→
   (storeAt m (off+k*sz) l s).Good→∃s' w',storeAt m (off+k*sz) l s=.ok () s'∧s'.nx=s.nx∧Rel E base w0 Γ s'.h w'∧
    (Builtin.append_ ats ty #[x,v]).run P w=.ok (.slice (some ⟨i.b,i.o+off,none⟩) (k+n) C) w':=by
  intro i C hi' hx' hC g
  obtain⟨s',w',e1,e2,e3,e4⟩:=E0h (P:=P) R hi' A.rel g
  refine⟨s',w',e1,e4,e3,?_⟩
  subst hx'
  refine C0n (P:=P) h0 h1 hu hb hi hsz hzero hby ty hz A hC (fun a ha=>?_) (fun h=>by cases h)
  cases ha
  rw[B0C,Nat.add_assoc];exact e2
 --in a block of its own
 have moves:∀(C:Nat)(bs:Option Addr),x=.slice bs k C→C<k+n→∀(old:Array Value)(lo:List AVal),VRels Γ lo old.toList→lo.length=k*sz→
   (∀d,(Builtin.firstCells sz k x).run P {w with drawn:=d}=.ok old {w with drawn:=d})→∀s1:St,Same s s1→(B0i e (lo++l) s1).Good→
   Makes E base w0 Γ s ((M.bind (B0i e (lo++l)) fun r=>M.pure (AVal.slice r 0 (k+n) none sz)) s1) ((Builtin.append_ ats ty #[x,v]).run P w):=by
  intro C bs hx' hC old lo ho hlo hold s1 hs1 g
  subst hx'
  obtain⟨cp,rest,q1,q2,q3⟩:=D0Q (P:=P) h0 h1 hu hb hi hsz hzero hzc hby ty hz A hC hkn hold
  have hrel:VRels Γ (lo++l) (old++us).toList:=by rw[Array.toList_append];exact ho.append A.rel
  obtain⟨s',e1,n1,f1⟩:=O0q (E:=E) (base:=base) (w0:=w0) (s:=s1) (rest:=rest) (w:=w) (by rw[hs1.h];exact R) hrel (w.drawn+1) g
  rw[A0d e1]
  refine⟨_,s',rfl,fun N hN hf=>⟨_,_,_,q3,?_,Got.after hs1 (f1 N hN (by rw[hs1.nx];exact hf))⟩⟩
  unfold VRel
  refine⟨_,Gam.add_at,hpos,?_⟩
  have hsl:(lo++l).length=(k+n)*sz:=by simp[hlo,A.size,Nat.add_mul]
  have hC':(old++us++rest).size=cp*sz:=by
   have h9:old.size=k*sz:=by have :=ho.length;simp at this;omega
   simp[h9,hus,q2,A.size]
   rw[←Nat.add_mul,←Nat.add_mul];congr 1;omega
  refine⟨by simp[hsl],.inl ⟨cp,by simp,q1,?_,?_⟩⟩
  ·simp only[Nat.zero_add,hC'];exact Nat.le_refl _
  ·simp only[Nat.zero_add,hsl];exact Nat.mul_le_mul_right _ q1
 unfold C0s at g⊢
 cases cap with
 |
  some c=>
  have hx0:=hx
  unfold VRel at hx
  obtain⟨i,hi',_,hxs,hkc,hcs⟩:=hx
  simp only[] at g⊢
  cases hc:Nat.ble (k+n) c with
  |
   true=>
   rw[hc,A0e] at g
   simp only[A0e]
   have hle:=Nat.le_of_ble_eq_true hc
   obtain⟨s',w',e1,e2,e3,e4⟩:=stays i c hi' hxs hle (A0a g)
   rw[A0d e1]
   refine⟨_,s',rfl,fun N hN hf=>⟨Γ,_,w',e4,?_,Got.same hf e2 e3⟩⟩
   unfold VRel
   exact⟨i,hi',hpos,rfl,hle,hcs⟩
  |
   false=>
   rw[hc,A0f] at g
   simp only[A0f]
   have hlt:c<k+n:=by
    rcases Nat.lt_or_ge c (k+n) with q|q
    ·exact q
    ·rw[Nat.ble_eq_true_of_le q] at hc;cases hc
   obtain⟨lo,s1,old,e1,e2,e3,e4,e5⟩:=D0Y (P:=P) R hx0 (A0a g)
   rw[A0d e1] at g⊢
   exact moves c _ hxs hlt old lo e4 e5 e3 s1 e2 (A0a g)
 |
  none=>
  simp only[] at g⊢
  have hx0:=hx
  unfold VRel at hx
  obtain⟨i,hi',_,hk0,hxs⟩:=hx
  cases hn0:Nat.beq n 0 with
  |
   true=>
   have :n=0:=Nat.eq_of_beq_eq_true hn0
   subst this
   simp only[A0e]
   have hl0:l=[]:=by have :=A.size;simp at this;exact this
   have hu0:us.toList=[]:=by have :=A.rel;rw[hl0] at this;exact this.nil_inv
   refine⟨_,s,rfl,fun N hN hf=>⟨Γ,x,w,?_,hx0,Got.same hf rfl R⟩⟩
   have any:∀C bs,x=.slice bs k C→k≤C→(Builtin.append_ ats ty #[x,v]).run P w=.ok x w:=by
    intro C bs hx' hC
    subst hx'
    exact C0n (P:=P) h0 h1 hu hb hi hsz hzero hby ty hz A (by omega) (fun a _=>by rw[hu0];simp[storeCells]) (fun _=>rfl)
   rcases hxs with⟨C,e1,e2,_⟩|⟨e1,_,y,e2⟩
   ·exact any C _ e1 e2
   ·subst e1;exact any 0 _ e2 (Nat.le_refl _)
  |
   false=>
   have hnp:0<n:=by
    rcases Nat.eq_zero_or_pos n with q|q
    ·subst q;cases hn0
    ·exact q
   rw[hn0,A0f] at g
   simp only[A0f]
   obtain⟨cs,e',frz,dead,root,rel,al0,s1,ho,e1,q1⟩:=C0j (A0a g)
   rw[A0d e1] at g⊢
   obtain⟨hasz,⟨⟨rr,hroot⟩,_⟩,C0,fz,hbl,hcsz,hfit,hcel,hfrz⟩:=R.block hi' ho
   simp only[] at g⊢
   cases hb1:Nat.ble (off+(k+n)*sz) cs.length with
   |
    true=>
    rw[hb1,A0e] at g
    simp only[A0e]
    have hle:=Nat.le_of_ble_eq_true hb1
    rcases hxs with⟨C,f1,f2,f3,f4⟩|⟨f1,f2,y,f3⟩
    ·have hC:k+n≤C:=by
      rw[hasz] at f4
      have :(k+n)*sz≤C*sz:=by omega
      exact Nat.le_of_mul_le_mul_right this hpos
     have g':(storeAt m (off+k*sz) l s1).Good:=A0a g
     --the same at the state ahead of the look
     obtain⟨s',w',a1,a2,a3,a4⟩:=E0h (P:=P) (s:=s1) (by rw[q1.h];exact R) hi' A.rel g'
     rw[A0d a1]
     refine⟨_,s',rfl,fun N hN hf=>⟨Γ,.slice (some ⟨i.b,i.o+off,none⟩) (k+n) C,w',?_,?_,Got.same hf (by rw[a4,q1.nx]) a3⟩⟩
     ·subst f1
      refine C0n (P:=P) h0 h1 hu hb hi hsz hzero hby ty hz A hC (fun a ha=>?_) (fun h=>by cases h)
      cases ha
      rw[B0C,Nat.add_assoc];exact a2
     ·unfold VRel
      exact⟨i,hi',hpos,by rw[hasz];omega,.inl ⟨C,rfl,hC,f3,f4⟩⟩
    ·subst f1
     exfalso
     rw[hasz] at f2
     have :0<n*sz:=Nat.mul_pos hnp hpos
     simp at hle
     omega
   |
    false=>
    rw[hb1,A0f] at g
    simp only[A0f]
    have hgt:cs.length<off+(k+n)*sz:=by
     rcases Nat.lt_or_ge cs.length (off+(k+n)*sz) with q|q
     ·exact q
     ·rw[Nat.ble_eq_true_of_le q] at hb1;cases hb1
    obtain⟨hq,hr⟩:=A0i g
    rw[hr] at g⊢
    simp[Nat.beq_eq] at hq
    obtain⟨⟨hnf,rfl⟩,hac⟩:=hq
    subst hnf
    obtain⟨lo,s2,old,a1,a2,a3,a4,a5⟩:=D0Y (P:=P) (s:=s1) (by rw[q1.h];exact R) hx0 (A0a g)
    have hlive:∃frz' root' rel' al',s.h.get m=some (.cells cs e' frz' false root' rel' al')∧lo=(cs.drop off).take (k*sz)∧off+k*sz≤cs.length:=by
     obtain⟨cs2,e2,frz2,root2,rel2,al2,s9,z1,z2,z3,z4⟩:=C0l (A0a g)
     rw[q1.h,ho] at z1
     cases z1
     rw[a1] at z3;cases z3
     exact⟨_,_,_,_,ho,rfl,z2⟩
    obtain⟨frz',root',rel',al',ho',hlo,hoffk⟩:=hlive
    rw[ho] at ho'
    cases ho'
    rw[A0d a1] at g⊢
    obtain⟨csr,er,fr,dr,rr',lr,al,s3,hroot0,b1,b2⟩:=D0R (A0a g)
    rw[A0d b1] at g⊢
    simp only[B0F] at g⊢
    have h03:s3.h=s.h:=by rw[b2.h,a2.h,q1.h]
    have n03:s3.nx=s.nx:=by rw[b2.nx,a2.nx,q1.nx]
    rw[show s2.h=s.h from by rw[a2.h,q1.h]] at hroot0
    have hrl:=(R.dom root rr hroot).1
    have hal:∀x∈al,x.1<LH:=by obtain⟨_,_,_,⟨_,q⟩,_⟩:=R.obj root _ hrl hroot0;exact q
    obtain⟨ls,s4,c1,R4,W4,n4,sub4,dd4,hk4⟩:=E0n (E:=E) (base:=base) (w0:=w0) (Γ:=Γ) (w:=w) (rel+off+k*sz) (rel+off+k*sz+n*sz) LH al s3 (by rw[h03];exact R) hal (A0a g)
    rw[A0d c1] at g⊢
    obtain⟨s5,d1,d2,d3,d4⟩:=C0Q (A0a g)
    rw[A0d d2] at g⊢
    obtain⟨cs6,e6,frz6,dd6,root6,rel6,al6,s6,o1,o2,o3⟩:=H0h (A0a g)
    rw[A0d o2]
    have n40:s4.nx=s.nx:=by rw[n4,n03]
    refine⟨_,s6,rfl,fun N hN hf=>?_⟩
    rw[n40]
    have n6:s6.nx=s.nx+1:=by rw[o3.nx,d4,n40]
    have hfr:Γ s.nx=none:=hf s.nx (Nat.le_refl _) (by omega)
    have hrne:root≠s.nx:=fun q=>by rw[q,hfr] at hroot;cases hroot
    have hn:=(R.dom m i hi').1
    --the root,behind the F0q
    have o1':s4.h.get root=some (.cells cs6 e6 frz6 dd6 root6 rel6 al6):=by
     rw[d3,n40,R4.gs s.nx _ (by rw[←n40];exact d1) root hrl,if_neg hrne] at o1;exact o1
    --told with one more,ahead of its being there
    have hnx:s.nx<LH:=by rw[←n40];exact d1
    have keepF:∀q cs1 e1 frz1 rel1 al1,q<LH→s4.h.get q=some (.cells cs1 e1 frz1 false root rel1 al1)→∃f0 a0,s.h.get q=some (.cells cs1 e1 f0 false root rel1 a0)∧(q,rel1,rel1+cs1.length)∈ls∧
      (rel1+cs1.length≤rel+off+k*sz∨rel+off+k*sz+n*sz≤rel1):=by
     intro q cs1 e1 frz1 rel1 al1 hq h
     obtain⟨f0,dx,a0,y1,y2,_⟩:=W4.cells hq h
     have :=y2 rfl
     subst this
     rw[h03] at y1
     have hf2:=R.fam q _ _ _ _ _ _ hq y1 _ _ _ _ _ _ _ hroot0
     rcases hk4 _ hf2 with⟨p1,p2⟩|⟨_,_,_,_,_,_,p⟩
     ·refine⟨f0,a0,y1,p1,?_⟩
      rcases p2 with p|p|p
      ·simp only[] at p;omega
      ·exact .inl p
      ·exact .inr p
     ·rw[h] at p;cases p
    have RA:Rel E base w0 Γ (s4.h.set root (.cells cs6 e6 frz6 dd6 root6 rel6 ((s.nx,rel+off,rel+off+k*sz+n*sz)::ls))) w:=by
     refine R4.alive hrl o1' ?_ ?_
     ·intro x hx'
      rcases List.mem_cons.1 hx' with q|q
      ·subst q;exact hnx
      ·exact hal x (sub4 x q)
     ·intro q cs1 e1 frz1 rel1 al1 hq h
      obtain⟨_,_,_,p,_⟩:=keepF q _ _ _ _ _ hq h
      exact List.mem_cons_of_mem _ p
    have hcomm:s6.h=(s4.h.set root (.cells cs6 e6 frz6 dd6 root6 rel6 ((s.nx,rel+off,rel+off+k*sz+n*sz)::ls))).set s.nx (.cells (lo++l) e' false false root (rel+off) []):=by
     rw[o3.h,d3,n40]
     exact I0u _ _ DH s4.h s.nx root R4.deep hnx hrl (fun q=>hrne q.symm)
    have gsA:=fun q hq=>R4.gs root (.cells cs6 e6 frz6 dd6 root6 rel6 ((s.nx,rel+off,rel+off+k*sz+n*sz)::ls)) hrl q hq
    have hmem:∀cs' e'' frz' d' root' rel' al',(s4.h.set root (.cells cs6 e6 frz6 dd6 root6 rel6 ((s.nx,rel+off,rel+off+k*sz+n*sz)::ls))).get root=some (.cells cs' e'' frz' d' root' rel' al')→(s.nx,rel+off,rel+off+(lo++l).length)∈al':=by
     intro cs' e'' frz' d' root' rel' al' h
     rw[gsA root hrl,if_pos rfl] at h;cases h
     have :(lo++l).length=k*sz+n*sz:=by simp[a5,A.size]
     rw[this,←Nat.add_assoc];simp
    have offs:∀(Γ':Gam),(∀q,q≠s.nx→Γ' q=Γ q)→∀q,q<s.nx∨N≤q→Γ' q=Γ q:=fun Γ' h q hq=>h q (by omega)
    have hlen:(lo++l).length=(k+n)*sz:=by simp[a5,A.size,Nat.add_mul]
    have hroff:∀Γ':Gam,Ext Γ Γ'→∃r,Γ' root=some r:=fun Γ' hx=>⟨rr,hx _ _ hroot⟩
    have fresh':∀ir,C0q (Γ.add s.nx ir) s6.nx N:=fun ir n a b=>by rw[Gam.add_ne (by omega)];exact hf n (by omega) b
    --in a block of its own
    have own:∀(C:Nat)(bs:Option Addr),x=.slice bs k C→C<k+n→∃Γ' v' w',(Builtin.append_ ats ty #[x,v]).run P w=.ok v' w'∧VRel Γ' (.slice s.nx 0 (k+n) none sz) v'∧Got E base w0 Γ s N Γ' s6 w':=by
     intro C bs hx' hC
     subst hx'
     obtain⟨cp,rest,z1,z2,z3⟩:=D0Q (P:=P) h0 h1 hu hb hi hsz hzero hzc hby ty hz A hC hkn a3
     obtain⟨k1,k2⟩:=M0O (Γ:=Γ) (l:=lo++l) (us:=old++us) (by rw[Array.toList_append];exact a4.append A.rel) rest
     have hC':(old++us++rest).size=cp*sz:=by
      have h9:old.size=k*sz:=by have :=a4.length;simp at this;omega
      simp[h9,hus,z2,A.size]
      rw[←Nat.add_mul,←Nat.add_mul];congr 1;omega
     have hx:Ext Γ (Γ.add s.nx ⟨w.heap.size,0,(lo++l).length,(old++us++rest).size,default⟩):=Gam.ext_add hfr
     refine⟨Γ.add s.nx ⟨w.heap.size,0,(lo++l).length,(old++us++rest).size,default⟩,_,_,z3,?_,⟨hx,fun q hq=>Gam.add_ne (by omega),by omega,fresh' _,?_⟩⟩
     ·unfold VRel
      refine⟨_,Gam.add_at,hpos,by simp[hlen],.inl ⟨cp,by simp,z1,?_,?_⟩⟩
      ·simp only[Nat.zero_add,hC'];exact Nat.le_refl _
      ·simp only[Nat.zero_add,hlen];exact Nat.mul_le_mul_right _ z1
     ·rw[hcomm]
      refine(RA.drawn (w.drawn+1)).alloc hnx hfr _ rfl _ _ ?_ ?_ ?_
      ·refine⟨_,Gam.add_at,rfl,⟨⟨rr,hx _ _ hroot⟩,by simp⟩,old++us++rest,(0,0),by simp,rfl,by simpa using k1,fun _ k a ha=>?_,fun _ _ k _ h1 h2=>by simp at h2⟩
       obtain⟨v,p,q⟩:=k2 k a ha
       exact⟨v,by simpa using p,q.ext hx⟩
      ·intro cs' e'' frz'' root'' rel'' al'' h;cases h
       exact .inr ⟨hrne,hmem⟩
      ·intro m since seen h;cases h
    rcases hxs with⟨C,f1,f2,f3,f4⟩|⟨f1,f2,y,f3⟩
    ·by_cases hCn:k+n≤C
     ·--there was room
      have hzs:i.o+off+(k+n)*sz≤i.csz:=Nat.le_trans (Nat.add_le_add_left (Nat.mul_le_mul_right _ hCn) _) f3
      have hkn':(k+n)*sz=k*sz+n*sz:=Nat.add_mul ..
      obtain⟨wst,run,stored,hdr⟩:=B0Z (P:=P) us.toList w i.b (i.o+off+k*sz) 0 C0 _ fz (H0P A.rel hac) hbl (by simp[hus,A.size,hcsz];omega) (by rw[hcsz];exact hfrz rfl rfl)
      simp only[Nat.add_zero] at stored
      have hul:us.toList.length=n*sz:=by simp[hus,A.size]
      have R':=RA.share (r:=s.nx) (ir:=⟨i.b,i.o+off,(k+n)*sz,i.csz,default⟩) (cs:=lo++l) (root:=root) (rel:=rel+off) hnx hfr hbl (R.dom m i hi').2.1 (R.sep m i _ (R.dom m i hi').1 ho rfl hi') stored (A0I _ _ _) rfl hcsz.symm hlen.symm hzs ?_ (by rw[hcsz];exact hfrz rfl rfl) ⟨rr,hroot⟩ hmem ?_ (R.hid_share (by rw[←h03];exact W4.trans (G0q R4.deep hrl o1' (.inr (.inr (.inr ⟨_,_,_,_,_,_,_,_,_,_,rfl,rfl,id,id⟩))))) (A0j _ DH _ root R4.deep) hi' ho rfl (by intros;simp) (by intros;simp) hnx hfr rfl fun k _=>stored.ne k)
      ·refine⟨Γ.add s.nx ⟨i.b,i.o+off,(k+n)*sz,i.csz,default⟩,.slice (some ⟨i.b,i.o+off,none⟩) (k+n) C,wst,?_,?_,⟨Gam.ext_add hfr,fun q hq=>Gam.add_ne (by omega),by omega,fresh' _,by rw[hcomm];exact R'⟩⟩
       ·subst f1
        refine C0n (P:=P) h0 h1 hu hb hi hsz hzero hby ty hz A hCn (fun a ha=>?_) (fun h=>by cases h)
        cases ha
        rw[B0C];exact run
       ·unfold VRel
        refine⟨⟨i.b,i.o+off,(k+n)*sz,i.csz,default⟩,Gam.add_at,hpos,by simp,.inl ⟨C,by simp,hCn,?_,?_⟩⟩
        ·simpa using f3
        ·simpa using Nat.mul_le_mul_right _ hCn
      ·intro j a ha
       rw[C0g _ _ _ _ (by rw[hul,hcsz];omega),hul]
       by_cases hj:j<k*sz
       ·rw[if_neg (by simp only[];omega)]
        rw[List.getElem?_append_left (by omega),hlo,List.getElem?_take,if_pos hj,List.getElem?_drop] at ha
        obtain⟨v',p1,p2⟩:=hcel rfl _ _ ha
        exact⟨v',by rw[←p1];congr 1;simp only[];omega,p2⟩
       ·have hjl:j<(lo++l).length:=by
         rcases Nat.lt_or_ge j (lo++l).length with q|q
         ·exact q
         ·rw[List.getElem?_eq_none q] at ha;cases ha
        rw[if_pos (by simp only[];omega)]
        rw[List.getElem?_append_right (by omega),a5] at ha
        obtain⟨v',p1,p2⟩:=A.rel.get ha
        exact⟨v',by rw[←p1];congr 1;simp only[];omega,p2⟩
      ·intro m' p j hm' hp hl hj ejb
       have :∃cs' e'' frz' rel' al' al2,p=.cells cs' e'' frz' false root rel' al'∧∃f0 root0,s.h.get m'=some (.cells cs' e'' f0 false root0 rel' al2)∧root0=root∧(m'=m∨m'≠m)∧(rel'+cs'.length≤rel+off+k*sz∨rel+off+k*sz+n*sz≤rel')∧j.o+rel=i.o+rel':=by
        rw[gsA m' hm'] at hp
        --what stood there ahead
        have back:∃p4,s4.h.get m'=some p4∧p4.live∧((∃cs' e'' frz' root' rel' al' al4,p=.cells cs' e'' frz' false root' rel' al'∧p4=.cells cs' e'' frz' false root' rel' al4)∨(p=p4∧∀cs' e'' frz' d' root' rel' al',p≠.cells cs' e'' frz' d' root' rel' al')):=by
         by_cases c:m'=root
         ·subst c
          rw[if_pos rfl] at hp;cases hp
          have hl':dd6=false:=hl
          subst hl'
          exact⟨_,o1',rfl,.inl ⟨_,_,_,_,_,_,_,rfl,rfl⟩⟩
         ·rw[if_neg c] at hp
          refine⟨p,hp,hl,?_⟩
          cases p with
          |
           cells cs1 e1 f1 d1 r1 l1 a1=>
           have hl':d1=false:=hl
           subst hl'
           exact .inl ⟨_,_,_,_,_,_,_,rfl,rfl⟩
          |done=>exact hl.elim
          |map _ _ _=>exact .inr ⟨rfl,by intros;simp⟩
          |miter _ _ _=>exact .inr ⟨rfl,by intros;simp⟩
          |siter _ _ _=>exact .inr ⟨rfl,by intros;simp⟩
          |arr _ _=>exact .inr ⟨rfl,by intros;simp⟩
          |rcd _=>exact .inr ⟨rfl,by intros;simp⟩
          |dat _=>exact .inr ⟨rfl,by intros;simp⟩
          |mps _ _ _ _ _=>exact .inr ⟨rfl,by intros;simp⟩
        obtain⟨p4,g4,l4,hsh⟩:=back
        rcases hsh with⟨cs',e'',frz',root',rel',al',al4,rfl,rfl⟩|⟨rfl,hnc⟩
        ·obtain⟨f0,dx,a0,y1,y2,_⟩:=W4.cells hm' g4
         have :=y2 rfl
         subst this
         rw[h03] at y1
         by_cases cm:m'=m
         ·subst cm
          rw[ho] at y1;cases y1
          rw[hi'] at hj;cases hj
          obtain⟨_,_,_,_,kk⟩:=keepF _ _ _ _ _ _ hm' g4
          exact⟨_,_,_,_,_,_,rfl,_,_,ho,rfl,.inl rfl,kk,rfl⟩
         ·obtain⟨kr,ko⟩:=R.inj m' m _ _ j i hm' hn y1 ho rfl rfl cm hj hi' ejb
          subst kr
          obtain⟨_,_,_,_,kk⟩:=keepF _ _ _ _ _ _ hm' g4
          exact⟨_,_,_,_,_,_,rfl,_,_,y1,rfl,.inr cm,kk,ko⟩
        ·exfalso
         have nd:p≠.done:=fun q=>by subst q;exact hl.elim
         have y1:=W4.other hm' g4 (fun _ _ _ _ _ _ _=>hnc _ _ _ _ _ _ _) nd
         rw[h03] at y1
         have cm:m'≠m:=fun q=>by
          subst q;rw[ho] at y1;cases y1;exact hnc _ _ _ _ _ _ _ rfl
         have kn:=R.inj m' m _ _ j i hm' hn y1 ho hl rfl cm hj hi' ejb
         cases p with
         |cells _ _ _ _ _ _ _=>exact hnc _ _ _ _ _ _ _ rfl
         |done=>exact kn
         |map _ _ _=>exact kn
         |miter _ _ _=>exact kn
         |siter _ _ _=>exact kn
         |arr _ _=>exact kn
         |rcd _=>exact kn
         |dat _=>exact kn
         |mps _ _ _ _ _=>exact kn
       obtain⟨cs',e'',frz',rel',al',al2,rfl,f0,root0,y1,rfl,_,kk,ko⟩:=this
       refine⟨_,_,_,_,_,rfl,by simp only[];omega,fun q hq=>?_⟩
       rw[C0g _ _ _ _ (by rw[hul,hcsz];omega),hul,if_neg (by omega)]
     ·exact own C _ f1 (by omega)
    ·subst f1
     exact own 0 _ f3 (by omega)
end
section
variable{P:Program}{E:Env}{base:Bs}{w0:World}{Γ:Gam}{w:World}{s:St}
theorem N0U{P:Program}{d:TypeDesc}:if S0q (B0Q P d)=true then∃kk,d=.int kk else∀kk,d=.int kk→False:=by
 cases d<;>simp[B0Q,S0q]
theorem P0L{l:List AVal}{z:Value}{sz:Nat}(h:VRels Γ l z.cells.toList)(hl:l.length=sz)(hp:0<sz)(n:Nat):
  VRels Γ (D0X l n) (if n*sz=0 then#[] else Builtin.zeroCells z.cells n).toList:=by
 by_cases c:n*sz=0
 ·rw[if_pos c]
  have :n=0:=by
   rcases Nat.mul_eq_zero.1 c with q|q
   ·exact q
   ·omega
  subst this
  exact .nil
 ·rw[if_neg c]
  exact J0s h n (by omega)
set_option maxHeartbeats 1000000 in
theorem H0K(hE:EnvOk E P)(R:Rel E base w0 Γ s.h w)(ty:TypeId){ats:List TypeId}{as:List AVal}{vs:Array Value}(ha:VRels Γ as vs.toList)(g:(G0e E ats as s).Good):
  Makes E base w0 Γ s (G0e E ats as s) ((Builtin.append_ ats.toArray ty vs).run P w):=by
 unfold G0e at g⊢
 rcases ats with _|⟨ta,_|⟨tb,_|⟨x,l⟩⟩⟩<;>simp only[] at g⊢<;>first
  |exact g.elim
  |skip
 rcases as with _|⟨a,_|⟨x,_|⟨y,l⟩⟩⟩<;>simp only[] at g⊢<;>first
  |exact g.elim
  |skip
 obtain⟨u,us1,e1,ha1,ha2⟩:=ha.cons_inv
 obtain⟨v,us2,e2,ha3,ha4⟩:=ha2.cons_inv
 have e3:=ha4.nil_inv
 subst e3;subst e2
 have :vs=#[u,v]:=by rw[←Array.toArray_toList (xs:=vs),e1]
 subst this
 obtain⟨ti,inf,d,z,hty,he,T⟩:=A0o hE (A0a g)
 rw[A0d he] at g⊢
 obtain⟨tj,infj,dj,zj,htyj,hej,Tj⟩:=A0o hE (A0a g)
 rw[A0d hej] at g⊢
 have hk:=T.k
 cases hc:ti.k<;>rw[hc] at g hk<;>simp only[] at g⊢<;>first
  |exact g.elim
  |skip
 case slice e sz=>
 obtain⟨hd,hsz⟩:=A0S hk.symm
 obtain⟨te,inf',d',z',hty',he',T'⟩:=A0o hE (A0a g)
 rw[A0d he'] at g⊢
 obtain⟨hq,hr⟩:=A0i g
 rw[hr] at g⊢
 simp[Nat.blt_eq,Nat.beq_eq,A0O] at hq
 obtain⟨⟨⟨q1,q2⟩,q3⟩,q4⟩:=hq
 have hu:P.underlying ta=some (.slice e):=by rw[T.und,hd]
 have hzs:z'.cells.size=sz:=by have :=(T'.zeros Γ).length;simp at this;omega
 have hte:inf'.size=sz:=by rw[←T'.size,←T'.cells,hsz]
 have hby:inf'.bytes≤4096:=by rw[←T'.bytes];exact q3
 have hz:if S0q tj.k=true then∃kk,dj=.int kk else∀kk,dj=.int kk→False:=by rw[Tj.k];exact N0U
 --what is added
 have src:∃n l s1 us,(sel (S0q tj.k) (N0e te x) (D0I sz x) s)=.ok (n,l) s1∧Same s s1∧X0K P Γ w (S0q tj.k) e inf' sz n l us v:=by
  have g1:=A0a g
  cases hb:S0q tj.k with
  |
   true=>
   rw[hb,A0e] at g1
   rw[A0e]
   unfold N0e at g1⊢
   obtain⟨n,h1,h2⟩:=A0k (A0a g1)
   rw[A0d h2] at g1⊢
   obtain⟨kd,rfl⟩:=E0u h1 ha3
   obtain⟨hn,hr⟩:=A0i g1
   rw[hr]
   have hn:=Nat.le_of_ble_eq_true hn
   refine⟨n,_,s,_,rfl,.refl s,⟨fun h=>(by cases h),fun _=>⟨kd,z',rfl,hn,?_,rfl⟩,P0L (T'.zeros Γ) (by omega) q1 n,?_⟩⟩
   ·rw[T'.info];exact T'.hz
   ·rw[C0C,q4]
  |
   false=>
   rw[hb,A0f] at g1
   rw[A0f]
   obtain⟨n,l,s1,us,k1,k2,k3,k4,k5,k6⟩:=H0L (P:=P) R ha3 g1
   exact⟨n,l,s1,us,k1,k2,⟨fun _=>⟨k3,k4⟩,fun h=>(by cases h),k5,k6⟩⟩
 obtain⟨n,l,s1,us,k1,k2,A⟩:=src
 have R1:Rel E base w0 Γ s1.h w:=by rw[k2.h];exact R
 rw[A0d k1] at g⊢
 cases a<;>simp only[] at g⊢<;>first
  |exact g.elim
  |skip
 case slice m off k cap esz=>
  obtain⟨hq,hr⟩:=A0i g
  rw[hr] at g⊢
  simp[Nat.beq_eq] at hq
  obtain⟨rfl,hkn⟩:=hq
  obtain⟨a',s',m1,m2⟩:=I0l (P:=P) (ats:=#[ta,tb]) (z:=z') R1 rfl rfl hu Tj.und T'.info hte T'.hz hzs hby ty hz A ha1 hkn g
  refine⟨a',s',m1,fun N hN hf=>?_⟩
  obtain⟨Γ',v',w',p1,p2,p3⟩:=m2 N hN (by rw[k2.nx];exact hf)
  exact⟨Γ',v',w',p1,p2,p3.after k2⟩
 case nils=>
  unfold VRel at ha1;subst ha1
  cases hn:Nat.beq n 0 with
  |
   true=>
   have :n=0:=Nat.eq_of_beq_eq_true hn
   subst this
   simp only[A0e]
   refine⟨_,s1,rfl,fun N hN hf=>⟨Γ,.slice none 0 0,w,?_,by unfold VRel;rfl,Got.after k2 (Got.same (by rw[k2.nx];exact hf) rfl R1)⟩⟩
   have hus:us.toList=[]:=by
                   have h:=A.rel;have hl:l=[]:=by have :=A.size;simp at this;exact this
                   rw[hl] at h;exact h.nil_inv
   exact C0n (P:=P) (bs:=none) (k:=0) (C:=0) (n:=0) rfl rfl hu Tj.und T'.info hte T'.hz hby ty hz A (Nat.le_refl _) (fun a h=>by cases h) (fun _=>rfl)
  |
   false=>
   have hnp:0<n:=by
    rcases Nat.eq_zero_or_pos n with q|q
    ·subst q;cases hn
    ·exact q
   rw[hn,A0f] at g
   simp only[A0f]
   obtain⟨hkn,hr⟩:=A0i g
   rw[hr] at g⊢
   have hkn:=Nat.le_of_ble_eq_true hkn
   obtain⟨cp,rest,z1,z2,z3⟩:=D0Q (P:=P) (ats:=#[ta,tb]) (bs:=none) (k:=0) (C:=0) (old:=#[]) rfl rfl hu Tj.und T'.info hte T'.hz hzs hby ty hz A (by omega) (by omega) (fun d=>by simp[Builtin.firstCells])
   obtain⟨s',e1,n1,f1⟩:=O0q (E:=E) (base:=base) (w0:=w0) (s:=s1) (rest:=rest) (old:=#[]) (us:=us) (l:=l) (w:=w) R1 (by simpa using A.rel) (w.drawn+1) (A0a g)
   rw[A0d e1]
   refine⟨_,s',rfl,fun N hN hf=>⟨_,_,_,z3,?_,Got.after k2 (f1 N hN (by rw[k2.nx];exact hf))⟩⟩
   have hul:us.size=l.length:=by have :=A.rel.length;simpa using this
   have hC':(#[]++us++rest:Array Value).size=cp*sz:=by
    simp[z2,hul,A.size]
    rw[←Nat.add_mul];congr 1;omega
   unfold VRel
   refine⟨_,Gam.add_at,q1,by simp[A.size],.inl ⟨cp,by simp,by omega,?_,?_⟩⟩
   ·simp only[Nat.zero_add,hC'];exact Nat.le_refl _
   ·simp only[Nat.zero_add,A.size];exact Nat.mul_le_mul_right _ (by omega)
end
section
variable{P:Program}{E:Env}{base:Bs}{w0:World}{Γ:Gam}{w:World}{s:St}{t:TypeId}
theorem Q0w{a:Addr}{v:Value}{w':World}(h:(load a).run P w=.ok v w'):w'=w:=by
 simp only[load,Sem.run] at h
 split at h
 ·cases h;rfl
 ·split at h<;>cases h;rfl
theorem G0R{a:Addr}:∀(n i:Nat)(acc us:Array Value)(w w':World),(loadCellsFrom a i n acc).run P w=.ok us w'→w'=w∧acc.toList<+:us.toList∧us.size=acc.size+n
 |0,i,acc,us,w,w',h=>by simp[loadCellsFrom] at h;obtain⟨rfl,rfl⟩:=h;exact⟨rfl,List.prefix_refl _,by simp⟩
 |
  n+1,i,acc,us,w,w',h=>by
  simp only[loadCellsFrom,Sem.run_bind] at h
  cases hl:(load (a.add i)).run P w with
  |
   ok v w1=>
   rw[hl] at h
   have :=Q0w hl
   subst this
   obtain⟨h1,h2,h3⟩:=G0R n (i+1) (acc.push v) us w1 w' h
   refine⟨h1,List.IsPrefix.trans ?_ h2,by simp at h3;omega⟩
   simp
  |halt _ _=>rw[hl] at h;cases h
theorem J0m{a:Addr}{us:Array Value}{w:World}(j:Nat):∀(m i:Nat)(acc:Array Value),(loadCellsFrom a i (m+j) acc).run P w=.ok us w→
  (loadCellsFrom a i m acc).run P w=.ok (us.toList.take (acc.size+m)).toArray w
 |
  0,i,acc,h=>by
  obtain⟨_,h2,_⟩:=G0R _ _ _ _ _ _ h
  simp only[loadCellsFrom,Sem.run_pure,Nat.add_zero]
  obtain⟨r,hr⟩:=h2
  rw[←hr];simp
 |
  m+1,i,acc,h=>by
  rw[show m+1+j=(m+j)+1 from by omega] at h
  simp only[loadCellsFrom,Sem.run_bind] at h⊢
  cases hl:(load (a.add i)).run P w with
  |
   ok v w1=>
   rw[hl] at h
   have :=Q0w hl
   subst this
   have :=J0m j m (i+1) (acc.push v) h
   simp only[Result.andThen_ok]
   rw[this]
   simp only[Array.size_push]
   congr 3;omega
  |halt _ _=>rw[hl] at h;cases h
theorem H0e{sz n k:Nat}{v:Value}{us:Array Value}(hk:k≤n)(h:(Builtin.firstCells sz n v).run P w=.ok us w)(hs:us.size=n*sz)(h1:(∃b,v=.string b)→sz=1):
  (Builtin.firstCells sz k v).run P w=.ok (us.toList.take (k*sz)).toArray w:=by
 unfold Builtin.firstCells at h⊢
 split at h
 ·simp only[loadCells] at h⊢
  have e:n*sz=k*sz+(n-k)*sz:=by rw[←Nat.add_mul];congr 1;omega
  rw[e] at h
  have :=J0m _ _ _ _ h
  simpa using this
 ·simp at h;subst h;simp
 ·have :=h1 ⟨_,rfl⟩
  subst this
  simp only[Sem.run_pure] at h⊢
  cases h
  congr 1
  apply Array.toList_inj.1
  simp[ByteArray.data_extract]
  rw[List.take_take,Nat.min_eq_left hk]
 ·cases h
theorem X0v{sz:Nat}{x:AVal}{v:Value}(hv:VRel Γ x v)(g:(D0I sz x s).Good):(∃b,v=.string b)→sz=1:=by
 rintro⟨b,rfl⟩
 unfold D0I at g
 cases x<;>simp only[] at g<;>first
  |exact g.elim
  |skip
 case str l=>exact Nat.eq_of_beq_eq_true (A0i g).1
 case slice n off k cap esz=>
  obtain⟨_,_,_,_,_,h,_⟩:=C0a hv
  cases h
 case nils=>unfold VRel at hv;cases hv
theorem c0L(a b:Nat):sel (Nat.ble a b) a b=Nat.min a b:=by
 cases h:Nat.ble a b with
 |true=>rw[A0e];have :=Nat.le_of_ble_eq_true h;simp[Nat.min_def];omega
 |
  false=>
  rw[A0f]
  have :¬a≤b:=fun q=>by rw[Nat.ble_eq_true_of_le q] at h;cases h
  simp[Nat.min_def];omega
theorem M0D(R:Rel E base w0 Γ s.h w){n off k:Nat}{cap:Option Nat}{sz:Nat}{v:Value}(hv:VRel Γ (.slice n off k cap sz) v){l:List AVal}{us:List Value}(hl:VRels Γ l us)(h0:k=0→l=[])
  (g:(storeAt n off l s).Good):∃a C s' w',v=.slice (some a) k C∧storeAt n off l s=.ok () s'∧(storeCells a us).run P w=.ok () w'∧Rel E base w0 Γ s'.h w'∧s'.nx=s.nx:=by
 obtain⟨hp,i,hi,o,C,rfl,ho⟩:=C0a hv
 rcases Nat.eq_zero_or_pos k with k0|k0
 ·have :=h0 k0
  subst this
  have :=hl.nil_inv
  subst this
  exact⟨_,C,s,w,rfl,rfl,by simp[storeCells],R,rfl⟩
 ·obtain rfl:=ho k0
  obtain⟨s',w',e1,e2,e3,e4⟩:=E0h (P:=P) R hi hl g
  exact⟨_,C,s',w',rfl,e1,e2,e3,e4⟩
theorem Q0E(hE:EnvOk E P)(R:Rel E base w0 Γ s.h w){a b:AVal}{u v:Value}(ha:VRel Γ a u)(hb:VRel Γ b v){ats:Array TypeId}(hat:ats[0]?=some t)(ty:TypeId)(g:(O0e E t a b s).Good):
  Makes E base w0 Γ s (O0e E t a b s) ((Builtin.copy_ ats ty #[u,v]).run P w):=by
 unfold O0e at g⊢
 obtain⟨ti,inf,d,z,hty,he,T⟩:=A0o hE (A0a g)
 rw[A0d he] at g⊢
 have hk:=T.k
 cases hc:ti.k<;>rw[hc] at g hk<;>simp only[] at g⊢<;>first
  |exact g.elim
  |skip
 case slice e sz=>
 obtain⟨hd,hsz⟩:=A0S hk.symm
 obtain⟨hq0,hr0⟩:=A0i g
 rw[hr0] at g⊢
 have hp0:0<sz:=by simpa [Nat.blt_eq] using hq0
 have hsize:(sizeOf e).run P w=.ok sz w:=by
  rw[hsz]
  exact A0B (by rw[←hsz];exact hp0) w
 have hstr:=X0v hb (A0a g)
 obtain⟨n,l,s1,us,k1,k2,k3,k4,k5,k6⟩:=H0L (P:=P) R hb (A0a g)
 have R1:Rel E base w0 Γ s1.h w:=by rw[k2.h];exact R
 have k3:(Builtin.lenOf v).run P w=.ok n w:=k3 w.drawn
 have k4:(Builtin.firstCells sz n v).run P w=.ok us w:=k4 w.drawn
 have hus:us.size=n*sz:=by have :=k5.length;simp at this;omega
 rw[A0d k1] at g⊢
 have e0:(#[u,v]:Array Value)[0]?=some u:=rfl
 have e1:(#[u,v]:Array Value)[1]?=some v:=rfl
 cases a<;>simp only[] at g⊢<;>first
  |exact g.elim
  |skip
 case slice m off k cap esz=>
  obtain⟨hq,hr⟩:=A0i g
  rw[hr] at g⊢
  simp[Nat.beq_eq] at hq
  subst hq
  rw[c0L,B0F] at g⊢
  have hmn:Nat.min n k≤n:=Nat.min_le_left _ _
  have hmk:Nat.min n k≤k:=Nat.min_le_right _ _
  have hrel:VRels Γ (tak l (Nat.min n k*esz)) (us.toList.take (Nat.min n k*esz)):=by rw[F0g];exact k5.take _
  obtain⟨ad,C,s',w',e2,e3,e4,e5,e6⟩:=M0D (P:=P) R1 ha hrel (fun k0=>by
   have :Nat.min n k=0:=by omega
   rw[this,F0g];simp) (A0a g)
  rw[A0d e3]
  subst e2
  refine⟨_,s',rfl,fun N hN hf=>⟨Γ,goInt (Nat.min n k:Nat),w',?_,by unfold VRel;rfl,Got.after k2 (Got.same (by rw[k2.nx];exact hf) e6 e5)⟩⟩
  have hfc:=H0e (P:=P) hmn k4 hus hstr
  simp only[Builtin.copy_,hat,e0,e1,Sem.run_bind,T.run_und,Result.andThen_ok,hd,k3,hsize,hfc,e4,Sem.run_pure]
 case nils=>
  unfold VRel at ha;subst ha
  have h0:Nat.min n 0=0:=Nat.min_zero n
  have hfc:=H0e (P:=P) (Nat.zero_le n) k4 hus hstr
  refine⟨_,s1,rfl,fun N hN hf=>⟨Γ,goInt 0,w,?_,by unfold VRel;rfl,Got.after k2 (Got.same (by rw[k2.nx];exact hf) rfl R1)⟩⟩
  simp only[Builtin.copy_,hat,e0,e1,Sem.run_bind,T.run_und,Result.andThen_ok,hd,k3,hsize,h0,hfc,Sem.run_pure]
  rfl
theorem P0C(hE:EnvOk E P)(R:Rel E base w0 Γ s.h w){a:AVal}{u:Value}(ha:VRel Γ a u){ats:Array TypeId}(hat:ats[0]?=some t)(ty:TypeId)(g:(F0X E t a s).Good):
  Makes E base w0 Γ s (F0X E t a s) ((Builtin.clear_ ats ty #[u]).run P w):=by
 unfold F0X at g⊢
 obtain⟨ti,inf,d,z,hty,he,T⟩:=A0o hE (A0a g)
 rw[A0d he] at g⊢
 have hk:=T.k
 cases hc:ti.k<;>rw[hc] at g hk<;>simp only[] at g⊢<;>first
  |exact g.elim
  |skip
 case slice e sz=>
 obtain⟨hd,hsz⟩:=A0S hk.symm
 have e0:(#[u]:Array Value)[0]?=some u:=rfl
 cases a<;>simp only[] at g⊢<;>first
  |exact g.elim
  |skip
 case slice m off k cap esz=>
  obtain⟨te,inf',d',z',hty',he',T'⟩:=A0o hE (A0a g)
  rw[A0d he'] at g⊢
  obtain⟨hq,hr⟩:=A0i g
  rw[hr] at g⊢
  simp[Nat.beq_eq,A0O] at hq
  obtain⟨rfl,hz⟩:=hq
  obtain⟨hp,_⟩:=C0a ha
  have hrel:=J0s (T'.zeros Γ) k (by omega)
  obtain⟨ad,C,s',w',e2,e3,e4,e5,e6⟩:=M0D (P:=P) R ha hrel (fun k0=>by subst k0;rfl) (A0a g)
  rw[A0d e3]
  subst e2
  refine⟨_,s',rfl,fun N hN hf=>⟨Γ,.tuple #[],w',?_,by unfold AVal.undef VRel;exact⟨#[],rfl,.nil⟩,Got.same hf e6 e5⟩⟩
  simp only[Builtin.clear_,hat,e0,Sem.run_bind,T.run_und,Result.andThen_ok,hd]
  cases k with
  |
   zero=>
   simp[storeCells] at e4
   subst e4
   simp
  |
   succ k=>
   simp only[Sem.run_bind,T'.run_zero,Result.andThen_ok,Builtin.zeroCells]
   rw[e4];rfl
 case nils=>
  unfold VRel at ha;subst ha
  refine⟨_,s,rfl,fun N hN hf=>⟨Γ,.tuple #[],w,?_,by unfold AVal.undef VRel;exact⟨#[],rfl,.nil⟩,Got.same hf rfl R⟩⟩
  simp[Builtin.clear_,hat,e0,T.run_und,hd]
theorem I0D(ats:Array TypeId)(ty:TypeId)(a:Addr)(k:Nat){c:Nat}(hc:c≠0)(w:World):(Builtin.unsafeSliceData_ ats ty #[.slice (some a) k c]).run P w=.ok (.pointer (some a)) w:=by
 change Sem.run P (if c≠0 then(pure (Value.pointer (some a)):Sem Value) else _) w=_
 rw[if_pos hc];rfl
theorem K0x{a:AVal}{u:Value}(ha:VRel Γ a u)(ats:Array TypeId)(ty:TypeId)(g:(B0U a s).Good):Reads Γ s (B0U a s) ((Builtin.unsafeSliceData_ ats ty #[u]).run P w) w:=by
 unfold B0U at g⊢
 cases a<;>simp only[] at g⊢<;>first
  |exact g.elim
  |skip
 case nils=>
  unfold VRel at ha;subst ha
  exact⟨_,s,.pointer none,rfl,.refl s,rfl,by unfold VRel;rfl⟩
 case slice n off k cap sz=>
  unfold VRel at ha
  obtain⟨i,hi,hp,ha⟩:=ha
  cases cap with
  |
   some c=>
   simp only[] at g⊢
   obtain⟨hq,hr⟩:=A0i g
   rw[hr]
   obtain⟨rfl,_,_⟩:=ha
   have :c≠0:=by simp[Nat.blt_eq] at hq;omega
   exact⟨_,s,_,rfl,.refl s,I0D _ _ _ _ this w,by unfold VRel;exact⟨i,hi,rfl⟩⟩
  |
   none=>
   simp only[] at g⊢
   obtain⟨hq,hr⟩:=A0i g
   rw[hr]
   have hk:0<k:=by simpa [Nat.blt_eq] using hq
   rcases ha.2 with⟨C,rfl,h1,_⟩|⟨rfl,_⟩
   ·have :C≠0:=by omega
    exact⟨_,s,_,rfl,.refl s,I0D _ _ _ _ this w,by unfold VRel;exact⟨i,hi,rfl⟩⟩
   ·omega
end
section
variable{P:Program}{E:Env}{base:Bs}{w0:World}{Γ:Gam}{w:World}{s:St}{t:TypeId}
def G0I(Γ:Gam):Option AVal→Option Value→Prop
 |none,v=>v=none
 |some a,v=>∃u,v=some u∧VRel Γ a u
theorem D0g{a:AVal}{v:Value}{l y:Nat}(h:F0h a=some l)(hv:VRel Γ a v)(hl:l≤y)(c:BoundsCode)(w:World):(Instr.sliceBound v y c).run P w=.ok l w:=by
 obtain⟨kd,rfl⟩:=E0u h hv
 have :(0:Int)≤l∧(l:Int)≤y:=by omega
 simp only[Instr.sliceBound,asIntOf,Sem.run_bind,Sem.run_pure,Result.andThen_ok,this,and_self,if_true,Int.toNat_natCast]
theorem E0x{lo hi:Option AVal}{low high:Option Value}(hlo:G0I Γ lo low)(hhi:G0I Γ hi high){k C l h:Nat}(h1:B0x lo 0=some l)(h2:B0x hi k=some h)(hl:l≤h)(hh:h≤C)(sl:Bool)(w:World):
  (Instr.sliceBounds sl k C low high none).run P w=.ok (l,h,C) w:=by
 unfold Instr.sliceBounds
 cases hi with
 |
  none=>
  have :high=none:=hhi
  subst this
  simp only[B0x,Option.some.injEq] at h2
  subst h2
  cases lo with
  |
   none=>
   have :low=none:=hlo
   subst this
   simp only[B0x,Option.some.injEq] at h1
   subst h1
   simp
  |
   some a=>
   obtain⟨u,rfl,hu⟩:=hlo
   simp only[B0x] at h1
   simp[D0g (P:=P) h1 hu hl]
 |
  some b=>
  obtain⟨v,rfl,hv⟩:=hhi
  simp only[B0x] at h2
  cases lo with
  |
   none=>
   have :low=none:=hlo
   subst this
   simp only[B0x,Option.some.injEq] at h1
   subst h1
   simp[D0g (P:=P) h2 hv hh]
  |
   some a=>
   obtain⟨u,rfl,hu⟩:=hlo
   simp only[B0x] at h1
   simp[D0g (P:=P) h1 hu hl,D0g (P:=P) h2 hv hh]
theorem M0m{lo:Option AVal}{hi mx:AVal}{low:Option Value}{high max:Value}(hlo:G0I Γ lo low)(hhi:VRel Γ hi high)(hmx:VRel Γ mx max){k C l h m:Nat}(h1:B0x lo 0=some l)(h2:F0h hi=some h)(h3:F0h mx=some m)
  (hl:l≤h) (hh:h≤m) (hm:m≤C) (w:World):(Instr.sliceBounds true k C low (some high) (some max)).run P w=.ok (l,h,m) w:=by
 unfold Instr.sliceBounds
 cases lo with
 |
  none=>
  have :low=none:=hlo
  subst this
  simp only[B0x,Option.some.injEq] at h1
  subst h1
  simp[D0g (P:=P) h2 hhi hh,D0g (P:=P) h3 hmx hm]
 |
  some a=>
  obtain⟨u,rfl,hu⟩:=hlo
  simp only[B0x] at h1
  simp[D0g (P:=P) h1 hu hl,D0g (P:=P) h2 hhi hh,D0g (P:=P) h3 hmx hm]
theorem Y0a{a b:Nat}(h:Nat.beq a b=false):a≠b:=fun e=>by subst e;simp at h
theorem M0M(R:Rel E base w0 Γ s.h w){e:TypeId}{n off k:Nat}{cap:Option Nat}{sz:Nat}{u:Value}(hu:VRel Γ (.slice n off k cap sz) u){lo hi mx:Option AVal}{low high max:Option Value}
  (hlo:G0I Γ lo low) (hhi:G0I Γ hi high) (hmx:G0I Γ mx max) (hh:f0w mx hi=true) {l h:Nat} (h1:B0x lo 0=some l) (h2:B0x hi k=some h) (g:(F0v n off k cap sz l h mx s).Good)
  (hsl:P.underlying t=some (.slice e)) (hsz:∀w,(sizeOf e).run P w=.ok sz w):Reads Γ s (F0v n off k cap sz l h mx s) ((Instr.slice t u low high max).run P w) w:=by
 have hp:0<sz:=(C0a hu).1
 have adds:∀(b o x:Nat),(⟨b,o,none⟩:Addr).add x=⟨b,o+x,none⟩:=fun b o x=>B0C b o x
 --the model's own answer,once the bounds are known
 have run:∀(a:Option Addr)(C m:Nat),u=.slice a k C→(Instr.sliceBounds true k C low high max).run P w=.ok (l,h,m) w→
   (Instr.slice t u low high max).run P w=.ok (.slice (if m=l then a else a.map (·.add (l*sz))) (h-l) (m-l)) w:=by
  intro a C m hu' hb
  subst hu'
  simp only[Instr.slice,Sem.run_bind,run_underlying hsl,Result.andThen_ok,hb,hsz,Sem.run_pure]
 unfold F0v at g⊢
 unfold VRel at hu
 obtain⟨i,hi',_,hu⟩:=hu
 cases mx with
 |
  some m=>
  obtain⟨mv,rfl,hmv⟩:=hmx
  simp only[] at g⊢
  obtain⟨m',q1,q2⟩:=A0k (A0a g)
  rw[A0d q2] at g⊢
  cases cap with
  |none=>exact g.elim
  |
   some c=>
   simp only[] at g⊢hu
   obtain⟨rfl,hkc,hcs⟩:=hu
   unfold C0h at g⊢
   simp only[] at g⊢
   obtain⟨hq,hr⟩:=A0i g
   rw[hr] at g⊢
   simp at hq
   obtain⟨⟨z1,z2⟩,z3⟩:=hq
   cases hi with
   |none=>cases hh
   |
    some b=>
    obtain⟨v,rfl,hv⟩:=hhi
    have hb:=M0m (P:=P) (k:=k) hlo hv hmv h1 h2 q1 z1 z2 z3 w
    refine⟨_,s,_,by rw[B0F];rfl,.refl s,run _ c m' rfl hb,?_⟩
    unfold VRel
    refine⟨i,hi',hp,?_,by omega,?_⟩
    ·by_cases cm:m'=l
     ·subst cm;simp[A0e]
     ·have :Nat.beq m' l=false:=by
       cases hb':Nat.beq m' l with
       |true=>exact absurd (Nat.eq_of_beq_eq_true hb') cm
       |false=>rfl
      rw[if_neg cm,this,A0f];simp[adds,Nat.add_assoc]
    ·cases hb':Nat.beq m' l with
     |
      true=>
      have :=Nat.eq_of_beq_eq_true hb'
      subst this
      rw[A0e];simp;exact Nat.le_trans (Nat.le_add_right _ _) hcs
     |
      false=>
      rw[A0f]
      have :l*sz+(m'-l)*sz=m'*sz:=by rw[←Nat.add_mul];congr 1;omega
      have :m'*sz≤c*sz:=Nat.mul_le_mul_right _ z3
      omega
 |
  none=>
  have :max=none:=hmx
  subst this
  simp only[] at g⊢
  cases cap with
  |
   some c=>
   simp only[] at g⊢hu
   obtain⟨rfl,hkc,hcs⟩:=hu
   unfold C0h at g⊢
   simp only[] at g⊢
   obtain⟨hq,hr⟩:=A0i g
   rw[hr] at g⊢
   simp at hq
   obtain⟨z1,z2⟩:=hq
   have hb:=E0x (P:=P) hlo hhi h1 h2 z1 z2 true w
   refine⟨_,s,_,by rw[B0F];rfl,.refl s,run _ c c rfl hb,?_⟩
   unfold VRel
   refine⟨i,hi',hp,?_,by omega,?_⟩
   ·by_cases cm:c=l
    ·subst cm;simp[A0e]
    ·have :Nat.beq c l=false:=by
      cases hb':Nat.beq c l with
      |true=>exact absurd (Nat.eq_of_beq_eq_true hb') cm
      |false=>rfl
     rw[if_neg cm,this,A0f];simp[adds,Nat.add_assoc]
   ·cases hb':Nat.beq c l with
    |
     true=>
     have :=Nat.eq_of_beq_eq_true hb'
     subst this
     rw[A0e];simp;exact Nat.le_trans (Nat.le_add_right _ _) hcs
    |
     false=>
     rw[A0f]
     have :l*sz+(c-l)*sz=c*sz:=by rw[←Nat.add_mul];congr 1;omega
     omega
  |
   none=>
   simp only[] at hu
   obtain⟨hk0,hu⟩:=hu
   --up to a bound that is surely there
   have fin:∀(sure:Nat)(s1:St),Same s s1→(sure≤k∨sure=(i.asz-off)/sz)→(C0h n off none sz l h none sure s1).Good→Reads Γ s (C0h n off none sz l h none sure s1) ((Instr.slice t u low high none).run P w) w:=by
    intro sure s1 hs1 hsure g
    unfold C0h at g⊢
    simp only[] at g⊢
    obtain⟨hq,hr⟩:=A0i g
    rw[hr] at g⊢
    simp at hq
    obtain⟨z1,z2⟩:=hq
    rw[B0F]
    have hasz:off+h*sz≤i.asz:=by
     rcases hsure with q|q
     ·have :h*sz≤k*sz:=Nat.mul_le_mul_right _ (by omega)
      omega
     ·subst q
      have h3:=Nat.div_mul_le_self (i.asz-off) sz
      have :h*sz≤(i.asz-off)/sz*sz:=Nat.mul_le_mul_right _ z2
      have :off≤i.asz:=by have :=Nat.le_trans (Nat.le_add_right _ _) hk0;exact this
      omega
    have hsum:l*sz+(h-l)*sz=h*sz:=by rw[←Nat.add_mul];congr 1;omega
    rcases hu with⟨C,rfl,f2,f3,f4⟩|⟨rfl,f2,y,rfl⟩
    ·have hC:h≤C:=by
      rcases hsure with q|q
      ·omega
      ·subst q
       have h4:h*sz≤C*sz:=by omega
       exact Nat.le_of_mul_le_mul_right h4 hp
     have hb:=E0x (P:=P) hlo hhi h1 h2 z1 hC true w
     refine⟨_,s1,_,rfl,hs1,run _ C C rfl hb,?_⟩
     unfold VRel
     refine⟨i,hi',hp,by omega,?_⟩
     by_cases cm:C=l
     ·subst cm
      right
      exact⟨by omega,by omega,i.o+off,by simp;omega⟩
     ·left
      have hs2:l*sz+(C-l)*sz=C*sz:=by rw[←Nat.add_mul];congr 1;omega
      refine⟨C-l,by rw[if_neg cm];simp[adds,Nat.add_assoc],by omega,by omega,by omega⟩
    ·have hh0:h=0:=by
      rcases hsure with q|q
      ·omega
      ·subst q
       have :i.asz-off=0:=by omega
       rw[this] at z2;simp at z2;exact z2
     subst hh0
     have hl0:l=0:=by omega
     subst hl0
     have hb:=E0x (P:=P) (C:=0) hlo hhi h1 h2 z1 (Nat.le_refl _) true w
     refine⟨_,s1,_,rfl,hs1,run _ 0 0 rfl hb,?_⟩
     unfold VRel
     exact⟨i,hi',hp,by omega,.inr ⟨rfl,by omega,y,by simp⟩⟩
   simp only[] at g⊢
   cases hb:Nat.ble h k with
   |
    true=>
    rw[hb,A0e] at g
    simp only[A0e]
    exact fin k s (.refl s) (.inl (Nat.le_refl _)) g
   |
    false=>
    rw[hb,A0f] at g
    simp only[A0f]
    obtain⟨cs,e',frz,dead,root,rel,al,s1,ho,e1,q1⟩:=C0j (A0a g)
    rw[A0d e1] at g⊢
    have hasz:=(R.block hi' ho).1
    exact fin _ s1 q1 (.inr (by rw[hasz])) g
theorem O0Y(hE:EnvOk E P)(R:Rel E base w0 Γ s.h w){a:AVal}{u:Value}(ha:VRel Γ a u){lo hi mx:Option AVal}{low high max:Option Value}
  (hlo:G0I Γ lo low) (hhi:G0I Γ hi high) (hmx:G0I Γ mx max) (g:(K0e E t a lo hi mx s).Good):Reads Γ s (K0e E t a lo hi mx s) ((Instr.sliceAt t u low high max).run P w) w:=by
 unfold K0e at g⊢
 obtain⟨ti,inf,d,z,hty,he,T⟩:=A0o hE (A0a g)
 rw[A0d he] at g⊢
 have hk:=T.k
 cases hc:ti.k<;>rw[hc] at g hk<;>simp only[] at g⊢<;>first
  |exact g.elim
  |skip
 case str=>
  have hd:=B0V hk.symm
  cases a<;>simp only[] at g⊢<;>first
   |exact g.elim
   |skip
  rename_i bs
  unfold VRel at ha;subst ha
  cases mx with
  |some _=>exact g.elim
  |
   none=>
   have :max=none:=hmx
   subst this
   simp only[] at g⊢
   obtain⟨l,h1,e1⟩:=A0k (A0a g)
   rw[A0d e1] at g⊢
   obtain⟨h,h2,e2⟩:=A0k (A0a g)
   rw[A0d e2] at g⊢
   obtain⟨hq,hr⟩:=A0i g
   rw[hr] at g⊢
   simp[A0O] at hq
   rw[A0O] at h2
   have hb:=E0x (P:=P) (C:=bs.length) hlo hhi h1 h2 hq.1 hq.2 false w
   refine⟨_,s,.string ⟨(bs.extract l h).toArray⟩,rfl,.refl s,?_,by rw[G0s,F0g];unfold VRel;simp[List.extract_eq_take_drop,List.drop_take]⟩
   have hsz:(⟨bs.toArray⟩:ByteArray).size=bs.length:=by simp[ByteArray.size]
   have hex:(⟨bs.toArray⟩:ByteArray).extract l h=⟨(bs.extract l h).toArray⟩:=by
    apply ByteArray.ext
    simp[ByteArray.data_extract]
   subst hd
   simp[Instr.sliceAt,Instr.slice,T.run_und,hsz,hb,hex]
 case slice e sz=>
  obtain⟨hd,hsz⟩:=A0S hk.symm
  obtain⟨hq,hr⟩:=A0i g
  rw[hr] at g⊢
  simp[Nat.blt_eq] at hq
  obtain⟨hh,hp⟩:=hq
  have hsize:∀w,(sizeOf e).run P w=.ok sz w:=fun w=>by
   rw[hsz]
   exact A0B (by rw[←hsz];exact hp) w
  have hu:P.underlying t=some (.slice e):=by rw[T.und,hd]
  have hat:(Instr.sliceAt t u low high max).run P w=(Instr.slice t u low high max).run P w:=by
   subst hd
   simp[Instr.sliceAt,T.run_und]
  rw[hat]
  cases a<;>simp only[] at g⊢<;>first
   |exact g.elim
   |skip
  case slice n off k cap esz=>
   obtain⟨hq,hr⟩:=A0i g
   rw[hr] at g⊢
   simp[Nat.beq_eq] at hq
   subst hq
   obtain⟨l,h1,e1⟩:=A0k (A0a g)
   rw[A0d e1] at g⊢
   obtain⟨h,h2,e2⟩:=A0k (A0a g)
   rw[A0d e2] at g⊢
   exact M0M R ha hlo hhi hmx hh h1 h2 g hu hsize
  case nils=>
   obtain⟨l,h1,e1⟩:=A0k (A0a g)
   rw[A0d e1] at g⊢
   obtain⟨h,h2,e2⟩:=A0k (A0a g)
   rw[A0d e2] at g⊢
   obtain⟨m,h3,e3⟩:=A0k (A0a g)
   rw[A0d e3] at g⊢
   obtain⟨hq,hr⟩:=A0i g
   rw[hr] at g⊢
   simp at hq
   obtain⟨⟨rfl,rfl⟩,rfl⟩:=hq
   unfold VRel at ha;subst ha
   refine⟨_,s,.slice none 0 0,rfl,.refl s,?_,by unfold VRel;rfl⟩
   have hb:(Instr.sliceBounds true 0 0 low high max).run P w=.ok (0,0,0) w:=by
    cases mx with
    |
     none=>
     have :max=none:=hmx
     subst this
     exact E0x hlo hhi h1 h2 (Nat.le_refl _) (Nat.le_refl _) true w
    |
     some m=>
     obtain⟨mv,rfl,hmv⟩:=hmx
     cases hi with
     |none=>cases hh
     |
      some b=>
      obtain⟨v,rfl,hv⟩:=hhi
      exact M0m hlo hv hmv h1 h2 h3 (Nat.le_refl _) (Nat.le_refl _) (Nat.le_refl _) w
   simp only[Instr.slice,Sem.run_bind,run_underlying hu,Result.andThen_ok,hb,hsize,Sem.run_pure]
   rfl
end
section
variable{P:Program}{E:Env}{base:Bs}{w0:World}{Γ:Gam}{w:World}{s:St}{t:TypeId}
theorem Rel.frz{h:Tr AObj}(R:Rel E base w0 Γ h w){n:Nat}(hn:n<LH){cs e frz d root rel al}(ho:h.get n=some (.cells cs e frz d root rel al)):
  Rel E base w0 Γ (h.set n (.cells cs e true d root rel al)) w∧Weak h (h.set n (.cells cs e true d root rel al)):=by
 have W:=G0q R.deep hn ho (o':=.cells cs e true d root rel al) (.inr (.inr (.inr ⟨_,_,_,_,_,_,_,_,_,_,rfl,rfl,id,fun _=>rfl⟩)))
 refine⟨R.weak (A0j _ DH h n R.deep) W ?_ ?_,W⟩
 ·intro m cs1 e1 frz1 root1 rel1 al1 hm h1 cs' e' frz' d' root' rel' al' hr h2
  rw[R.gs n _ hn m hm] at h1
  rw[R.gs n _ hn root1 hr] at h2
  have h2':∃c1 e1 f1 d1 r1 l1,h.get root1=some (.cells c1 e1 f1 d1 r1 l1 al'):=by
   by_cases c':root1=n
   ·subst c'
    rw[if_pos rfl] at h2;cases h2
    exact⟨_,_,_,_,_,_,ho⟩
   ·rw[if_neg c'] at h2
    exact⟨_,_,_,_,_,_,h2⟩
  obtain⟨_,_,_,_,_,_,h2'⟩:=h2'
  by_cases c:m=n
  ·subst c
   rw[if_pos rfl] at h1;cases h1
   exact R.fam m _ _ _ _ _ _ hm ho _ _ _ _ _ _ _ h2'
  ·rw[if_neg c] at h1
   exact R.fam m _ _ _ _ _ _ hm h1 _ _ _ _ _ _ _ h2'
 ·intro m cs1 e1 frz1 d1 root1 rel1 al1 hm h1
  rw[R.gs n _ hn m hm] at h1
  by_cases c:m=n
  ·rw[if_pos c] at h1;cases h1
   obtain⟨_,_,_,⟨_,q⟩,_⟩:=R.obj n _ hn ho;exact q
  ·rw[if_neg c] at h1
   obtain⟨_,_,_,⟨_,q⟩,_⟩:=R.obj m _ hm h1;exact q
theorem Rel.freeze{h:Tr AObj}{w':World}(R:Rel E base w0 Γ h w){n:Nat}{i:Info}(hi:Γ n=some i){cs e d root rel al}(ho:h.get n=some (.cells cs e true d root rel al))(hhid:Hid base Γ h w')
  {C:Array Value} {fz fz':Nat×Nat} (hb:w.heap[i.b]?=some (.cells C e fz)) (hnf:Γ.fz i.b=none) (st:G0X w i.b C e fz' w')
  (lone:∀m p j,m<LH→m≠n→h.get m=some p→p.live→Γ m=some j→j.b=i.b→False):Rel E base w0 Γ h w':=by
 have hbb:=(R.dom n i hi).2.1
 have hn:=(R.dom n i hi).1
 constructor
 ·exact R.deep
 ·refine R.below.trans ⟨st.os,st.tape,st.output,by rw[st.size];exact Nat.le_refl _,fun k hk hx=>st.ne k (I0F hbb hk hx),O0A hb st.at' rfl fun k _=>st.ne k⟩
 ·rw[st.size];exact R.room
 ·intro m j hj;rw[st.size];exact R.dom m j hj
 ·intro m p hm hp
  have hO:=R.obj m p hm hp
  cases p with
  |done=>trivial
  |
   cells cs1 e1 frz1 d1 root1 rel1 al1=>
   obtain⟨j,g1,g2,g3,D,fz1,g4,g5,g6,g7,g8⟩:=hO
   by_cases eb:j.b=i.b
   ·rw[eb,hb] at g4;cases g4
    by_cases cm:m=n
    ·subst cm
     rw[ho] at hp;cases hp
     exact⟨j,g1,g2,g3,C,fz',by rw[eb];exact st.at',g5,g6,g7,fun _ h=>(by cases h)⟩
    ·refine⟨j,g1,g2,g3,C,fz',by rw[eb];exact st.at',g5,g6,g7,fun hd _=>?_⟩
     exact(lone m _ j hm cm hp hd g1 eb).elim
   ·exact⟨j,g1,g2,g3,D,fz1,by rw[st.ne _ eb];exact g4,g5,g6,g7,g8⟩
  |
   map kt es c'=>
   refine hO.keep (Ext.refl _) fun j hj=>st.ne _ fun eb=>?_
   by_cases cm:m=n
   ·subst cm;rw[ho] at hp;cases hp
   ·exact lone m _ j hm cm hp trivial hj eb
  |
   miter a b' c'=>
   refine hO.keep (Ext.refl _) fun j hj=>st.ne _ fun eb=>?_
   by_cases cm:m=n
   ·subst cm;rw[ho] at hp;cases hp
   ·exact lone m _ j hm cm hp trivial hj eb
  |
   siter y a b'=>
   refine hO.keep (Ext.refl _) fun j hj=>st.ne _ fun eb=>?_
   by_cases cm:m=n
   ·subst cm;rw[ho] at hp;cases hp
   ·exact lone m _ j hm cm hp trivial hj eb
  |
   arr a b'=>
   refine hO.keep (Ext.refl _) fun j hj=>st.ne _ fun eb=>?_
   by_cases cm:m=n
   ·subst cm;rw[ho] at hp;cases hp
   ·exact lone m _ j hm cm hp trivial hj eb
  |
   rcd a=>
   refine hO.keep (Ext.refl _) fun j hj=>st.ne _ fun eb=>?_
   by_cases cm:m=n
   ·subst cm;rw[ho] at hp;cases hp
   ·exact lone m _ j hm cm hp trivial hj eb
  |
   dat a=>
   refine hO.keep (Ext.refl _) fun j hj=>st.ne _ fun eb=>?_
   by_cases cm:m=n
   ·subst cm;rw[ho] at hp;cases hp
   ·exact lone m _ j hm cm hp trivial hj eb
  |
   mps a b' c' d' e'=>
   refine hO.keep (Ext.refl _) fun j hj=>st.ne _ fun eb=>?_
   by_cases cm:m=n
   ·subst cm;rw[ho] at hp;cases hp
   ·exact lone m _ j hm cm hp trivial hj eb
 ·exact R.inj
 ·exact R.fam
 ·intro m q since seen kt es clock j k ents b' borns stepped hm hq h1 h2 e1 e2 b1 b2
  have cm:m≠n:=fun x=>by subst x;rw[ho] at h1;cases h1
  have cq:q≠n:=fun x=>by subst x;rw[ho] at h2;cases h2
  have d1:j.b≠i.b:=fun eb=>lone m _ j hm cm h1 trivial e1 eb
  have d2:k.b≠i.b:=fun eb=>lone q _ k hq cq h2 trivial e2 eb
  rw[st.ne _ d1] at b1
  rw[st.ne _ d2] at b2
  exact R.iter m q since seen kt es clock j k ents b' borns stepped hm hq h1 h2 e1 e2 b1 b2
 ·exact R.own
 ·intro k ob hk
  rw[st.ne k fun q=>?_]
  ·exact R.stay k ob hk
  ·rw[q,hnf] at hk;cases hk
 ·exact R.sep
 ·rw[st.size];exact R.lo
 ·first|exact R.solo|(rw[hx.lo];exact R.solo)|(rw[hlo];exact R.solo)
 ·exact hhid
theorem P0P{w:World}{b o:Nat}{C:Array Value}{e:TypeId}{fz:Nat×Nat}(k:Nat)(hb:w.heap[b]?=some (.cells C e fz)):∃fz',G0X w b C e fz' (w.freeze ⟨b,o,none⟩ k):=by
 by_cases h:k=0
 ·exact⟨fz,by unfold World.freeze;rw[if_pos h];exact⟨rfl,rfl,rfl,rfl,hb,fun _ _=>rfl⟩⟩
 ·refine⟨if fz.1==fz.2 then(o,o+k) else(min fz.1 o,max fz.2 (o+k)),?_⟩
  unfold World.freeze
  rw[if_neg h]
  refine⟨rfl,rfl,rfl,by simp,by simp[Array.getElem?_modify,hb],fun q hq=>?_⟩
  simp only[Array.getElem?_modify];rw[if_neg (by omega)]
theorem H0R:∀{l:List AVal}{bs:List UInt8}{us:List Value},H0Q l=some bs→VRels Γ l us→∃ns:List Nat,us=ns.map (fun(n:Nat)=>Value.int .u8 (n:Int))∧bs=ns.map UInt8.ofNat
 |
  [],bs,us,h,hv=>by
  unfold H0Q at h;cases h
  rw[hv.nil_inv];exact⟨[],rfl,rfl⟩
 |
  a::l,bs,us,h,hv=>by
  obtain⟨v,ws,rfl,h1,h2⟩:=hv.cons_inv
  unfold H0Q at h
  split at h
  ·rename_i n
   cases hb:H0Q l with
   |none=>rw[hb] at h;cases h
   |
    some r=>
    rw[hb] at h;cases h
    obtain⟨ns,rfl,rfl⟩:=H0R hb h2
    unfold VRel at h1;subst h1
    exact⟨n::ns,rfl,rfl⟩
  ·cases h
theorem I0N{w:World}{b o:Nat}{C:Array Value}{e:TypeId}{fz:Nat×Nat}(hb:w.heap[b]?=some (.cells C e fz)):∀(ns:List Nat)(i:Nat)(acc:ByteArray),
  (∀(j n:Nat),ns[j]?=some n→C[o+i+j]?=some (.int .u8 (n:Int)))→(loadBytes ⟨b,o+i,none⟩ acc ns.length).run P w=.ok ⟨acc.data++(ns.map UInt8.ofNat).toArray⟩ w
 |[],i,acc,_=>by simp[loadBytes]
 |
  n::ns,i,acc,h=>by
  have h0:=h 0 n rfl
  have h1:w.cell? ⟨b,o+i,none⟩=some (.int .u8 (n:Int)):=by
   simp only[World.cell?,hb];simpa using h0
  have h2:(load ⟨b,o+i,none⟩).run P w=.ok (.int .u8 (n:Int)) w:=by simp[load,Sem.run,h1]
  simp only[List.length_cons,loadBytes,Sem.run_bind,h2,Result.andThen_ok,B0C]
  rw[Nat.add_assoc,I0N hb ns (i+1) _ (fun j m hj=>by have :=h (j+1) m hj;rw[←this];congr 1;omega)]
  simp[ByteArray.push,Nat.toUInt8]
theorem L0Y:∀(ns:List Nat)(s:ByteArray),(ns.map (fun n:Nat=>(n:Int))).foldl (fun r n=>r.push (UInt8.ofNat n.toNat)) s=⟨s.data++(ns.map UInt8.ofNat).toArray⟩
 |[],s=>by simp
 |
  n::ns,s=>by
  simp only[List.map_cons,List.foldl_cons,Int.toNat_natCast]
  rw[L0Y ns];simp[ByteArray.push]
theorem O0T{e:TypeId}{w:World}{b o k:Nat}{C:Array Value}{fz:Nat×Nat}(hb:w.heap[b]?=some (.cells C e fz))(hs:P.cellsOf e=1)(hk:o+k≤C.size):(variablesAt ⟨b,o,none⟩ e k).run P w=.ok true w:=by
 have hd:∃d,P.depth=d+1:=⟨2*(P.types.size+Made.depth)+1,rfl⟩
 obtain⟨d,hd⟩:=hd
 have h1:sameLayout P P.depth e e=true:=by rw[hd];simp[sameLayout]
 have h2:rowAt P (fun x=>sameLayout P P.depth x e) (d+1) e C.size o k=true:=by
  simp[rowAt,hs,h1]
  exact .inl ⟨by omega,by omega⟩
 have h3:liesAt P P.depth e (C.size/P.cellsOf e) o e k=true:=by
  rw[hs,Nat.div_one]
  conv=>lhs;arg 2;rw[hd]
  simp only[liesAt]
  have h2':=h2
  rw[←hd] at h2'
  rw[h2'];rfl
 have h4:w.shape? b=some (e,C.size):=by simp[World.shape?,hb]
 simp only[variablesAt,Sem.run_bind,program,shape,Sem.run,Sem.run_pure,Result.andThen_ok,h4,h3]
end
section
variable{P:Program}{E:Env}{base:Bs}{w0:World}{Γ:Gam}{w:World}{s:St}{t:TypeId}
theorem f0X{l:Nat}(h:l≤1000000):¬((l:Int)>IntKind.i64.max):=by
 simp[IntKind.max,IntKind.signed,IntKind.bits];omega
set_option maxHeartbeats 1000000 in
theorem H0G(hE:EnvOk E P)(R:Rel E base w0 Γ s.h w){a b:AVal}{u v:Value}(ha:VRel Γ a u)(hb:VRel Γ b v){ats:Array TypeId}(hat:ats[0]?=some t)(ty:TypeId)(g:(B0g E t a b s).Good):
  Makes E base w0 Γ s (B0g E t a b s) ((Builtin.unsafeString_ ats ty #[u,v]).run P w):=by
 unfold B0g at g⊢
 obtain⟨l,h1,e1⟩:=A0k (A0a g)
 rw[A0d e1] at g⊢
 obtain⟨kd,rfl⟩:=E0u h1 hb
 have c0:¬((l:Int)<0):=by omega
 have empty:∀x,l=0→u=.pointer x→∃Γ' v' w',(Builtin.unsafeString_ ats ty #[u,.int kd l]).run P w=.ok v' w'∧VRel Γ' (.str []) v'∧∀N,C0q Γ s.nx N→Got E base w0 Γ s N Γ' s w':=by
  intro x h hu
  subst h;subst hu
  refine⟨Γ,.string .empty,w,?_,by unfold VRel;rfl,fun N hf=>Got.same hf rfl R⟩
  change Sem.run P (asInt (.int kd (0:Nat))>>= _) w=_
  cases x with
  |none=>simp[asInt,asIntOf,hat,IntKind.max,IntKind.signed,IntKind.bits]
  |some x=>simp[asInt,asIntOf,hat,IntKind.max,IntKind.signed,IntKind.bits]
 cases a<;>simp only[] at g⊢<;>first
  |exact g.elim
  |skip
 case nilp=>
  unfold VRel at ha
  obtain⟨hq,hr⟩:=A0i g
  rw[hr]
  obtain⟨Γ',v',w',p1,p2,p3⟩:=empty none (Nat.eq_of_beq_eq_true hq) ha
  exact⟨_,s,rfl,fun N hN hf=>⟨Γ',v',w',p1,p2,p3 N hf⟩⟩
 case ptr n off=>
  have ha':=ha
  unfold VRel at ha
  obtain⟨i,hi,hu⟩:=ha
  cases hl0:Nat.beq l 0 with
  |
   true=>
   rw[A0e]
   obtain⟨Γ',v',w',p1,p2,p3⟩:=empty _ (Nat.eq_of_beq_eq_true hl0) hu
   exact⟨_,s,rfl,fun N hN hf=>⟨Γ',v',w',p1,p2,p3 N hf⟩⟩
  |
   false=>
   rw[hl0,A0f] at g
   rw[A0f]
   subst hu
   have hlne:=Y0a hl0
   obtain⟨ti,inf,d,z,hty,he,T⟩:=A0o hE (A0a g)
   rw[A0d he] at g⊢
   have hk:=T.k
   cases hc:ti.k<;>rw[hc] at g hk<;>simp only[] at g⊢<;>first
    |exact g.elim
    |skip
   rename_i e bb
   obtain⟨hd,_⟩:=H0E hk.symm
   obtain⟨te,inf',d',z',hty',he',T'⟩:=A0o hE (A0a g)
   rw[A0d he'] at g⊢
   obtain⟨cs,e2,frz,dead,root,rel,al0,s1,ho,f1,q1⟩:=C0j (A0a g)
   rw[A0d f1] at g⊢
   obtain⟨csr,er,fr,dr,rr',lr,al,s2,hr0,f2,q2⟩:=D0R (A0a g)
   rw[A0d f2] at g⊢
   obtain⟨cs3,e3,frz3,root3,rel3,al3,s3,ho3,hoff,f3,q3⟩:=C0l (A0a g)
   rw[A0d f3] at g⊢
   rw[show s2.h=s.h from by rw[q2.h,q1.h],ho] at ho3
   cases ho3
   rw[show s1.h=s.h from q1.h] at hr0
   simp only[] at hr0
   obtain⟨hq,hr⟩:=A0i g
   rw[hr] at g⊢
   simp only[Bool.and_eq_true,List.all_eq_true,Bool.or_eq_true,Nat.beq_eq_true_eq] at hq
   obtain⟨⟨⟨⟨hl,hee⟩,hsz⟩,hfr⟩,hall⟩:=hq
   have hl:=Nat.le_of_ble_eq_true hl
   simp at hee hsz
   subst hee
   obtain⟨bs,hbs,e5⟩:=A0k (A0a g)
   rw[A0d e5] at g⊢
   have h3:s3.h=s.h:=by rw[q3.h,q2.h,q1.h]
   have n3:s3.nx=s.nx:=by rw[q3.nx,q2.nx,q1.nx]
   obtain⟨hasz,⟨⟨rr,hroot⟩,_⟩,C,fz,hbl,hcsz,hfit,hcel,hfrz⟩:=R.block hi ho
   have hn:=(R.dom n i hi).1
   have hrl:=(R.dom root rr hroot).1
   have hal:∀x∈al,x.1<LH:=by obtain⟨_,_,_,⟨_,q⟩,_⟩:=R.obj root _ hrl hr0;exact q
   obtain⟨ls,s4,c1,R4,W4,n4,sub4,dd4,hk4⟩:=E0n (E:=E) (base:=base) (w0:=w0) (Γ:=Γ) (w:=w) 0 1099511627776 n al s3 (by rw[h3];exact R) hal (A0a g)
   rw[A0d c1] at g⊢
   obtain⟨cs6,e6,frz6,dd6,root6,rel6,al6,s5,o1,o2,o3⟩:=H0h (A0a g)
   rw[A0d o2] at g⊢
   simp only[] at o1 o3
   have keepF:∀q cs1 e1 frz1 rel1 al1,q<LH→s4.h.get q=some (.cells cs1 e1 frz1 false root rel1 al1)→q=n∧(q,rel1,rel1+cs1.length)∈ls:=by
    intro q cs1 e1 frz1 rel1 al1 hq h
    obtain⟨f0,dx,a0,y1,y2,_⟩:=W4.cells hq h
    have :=y2 rfl
    subst this
    rw[h3] at y1
    have hf2:=R.fam q _ _ _ _ _ _ hq y1 _ _ _ _ _ _ _ hr0
    rcases hk4 _ hf2 with⟨p1,p2⟩|⟨_,_,_,_,_,_,p⟩
    ·refine⟨?_,p1⟩
     rcases hall _ hf2 with p|p
     ·exact Nat.eq_of_beq_eq_true p
     ·simp[Nat.blt_eq] at p
      rcases p2 with p2|p2|p2
      ·exact p2
      ·simp only[] at p2;omega
      ·simp only[] at p2;omega
    ·rw[h] at p;cases p
   have RA:Rel E base w0 Γ s5.h w:=by
    rw[o3.h]
    refine R4.alive hrl o1 (fun x hx=>hal x (sub4 x hx)) fun q cs1 e1 frz1 rel1 al1 hq h=>(keepF q _ _ _ _ _ hq h).2
   have W5:Weak s4.h s5.h:=by
    rw[o3.h]
    exact G0q R4.deep hrl o1 (.inr (.inr (.inr ⟨_,_,_,_,_,_,_,_,_,_,rfl,rfl,id,id⟩)))
   obtain⟨cs7,e7,frz7,d7,root7,rel7,al7,s6,t1,t2,t3⟩:=V0E (A0a g)
   rw[A0d t2]
   obtain⟨RF,WF⟩:=RA.frz hn t1
   have W6:Weak s.h s6.h:=by
    rw[t3.h]
    have :=(W4.trans W5).trans WF
    rw[h3] at this;exact this
   --what is left of the object
   obtain⟨f8,d8,a8,u1,_,_⟩:=((W4.trans W5).cells hn t1)
   rw[h3,ho] at u1
   cases u1
   have hO:s6.h.get n=some (.cells cs e2 true d7 root rel al7):=by rw[t3.h,RA.gs n _ hn n hn,if_pos rfl]
   have RF':Rel E base w0 Γ s6.h w:=by rw[t3.h];exact RF
   obtain⟨fz',st⟩:=P0P (o:=i.o+off) l hbl
   have lone:∀m p j,m<LH→m≠n→s6.h.get m=some p→p.live→Γ m=some j→j.b=i.b→False:=by
    intro m p j hm ne hp hlv hj ejb
    cases p with
    |done=>exact hlv
    |
     cells cs1 e1 f1 d1 r1 l1 a1=>
     have hlv':d1=false:=hlv
     subst hlv'
     obtain⟨f9,d9,a9,v1,v2,_⟩:=W6.cells hm hp
     have :=v2 rfl
     subst this
     obtain⟨kr,ko⟩:=R.inj m n _ _ j i hm hn v1 ho rfl rfl ne hj hi ejb
     subst kr
     rw[t3.h,RA.gs n _ hn m hm,if_neg ne] at hp
     obtain⟨f10,d10,a10,x1,x2,_⟩:=W5.cells hm hp
     have :=x2 rfl
     subst this
     exact ne (keepF m _ _ _ _ _ hm x1).1
    |
     map _ _ _=>
     have v1:=W6.other hm hp (by intros;simp) (by simp)
     exact(R.inj m n _ _ j i hm hn v1 ho trivial rfl ne hj hi ejb).elim
    |
     miter _ _ _=>
     have v1:=W6.other hm hp (by intros;simp) (by simp)
     exact(R.inj m n _ _ j i hm hn v1 ho trivial rfl ne hj hi ejb).elim
    |
     siter _ _ _=>
     have v1:=W6.other hm hp (by intros;simp) (by simp)
     exact(R.inj m n _ _ j i hm hn v1 ho trivial rfl ne hj hi ejb).elim
    |
     arr _ _=>
     have v1:=W6.other hm hp (by intros;simp) (by simp)
     exact(R.inj m n _ _ j i hm hn v1 ho trivial rfl ne hj hi ejb).elim
    |
     rcd _=>
     have v1:=W6.other hm hp (by intros;simp) (by simp)
     exact(R.inj m n _ _ j i hm hn v1 ho trivial rfl ne hj hi ejb).elim
    |
     dat _=>
     have v1:=W6.other hm hp (by intros;simp) (by simp)
     exact(R.inj m n _ _ j i hm hn v1 ho trivial rfl ne hj hi ejb).elim
    |
     mps _ _ _ _ _=>
     have v1:=W6.other hm hp (by intros;simp) (by simp)
     exact(R.inj m n _ _ j i hm hn v1 ho trivial rfl ne hj hi ejb).elim
   have RZ:=RF'.freeze hi hO (R.hid_weak W6 hi ho rfl (by intros;simp) fun k _=>st.ne k) hbl (R.sep n i _ hn ho rfl hi) st lone
   have n6:s6.nx=s.nx:=by rw[t3.nx,o3.nx,n4,n3]
   refine⟨_,s6,rfl,fun N hN hf=>⟨Γ,.string ⟨bs.toArray⟩,_,?_,by unfold VRel;rfl,Got.same hf n6 RZ⟩⟩
   --the model's own run
   have hce:P.cellsOf e2=1:=by rw[T'.cells,hsz]
   have hvar:=O0T (P:=P) (o:=i.o+off) (k:=l) hbl hce (by rw[hcsz];omega)
   have hrelC:VRels Γ ((cs.drop off).take l) ((C.extract (i.o+off) (i.o+off+l)).toList):=by
    obtain⟨C2,fz2,hb2,hsz2,hv2⟩:=R.cells hi ho hoff
    rw[hbl] at hb2;cases hb2
    exact hv2
   obtain⟨ns,m1,m2⟩:=H0R hbs hrelC
   have hns:ns.length=l:=by
    have :=congrArg List.length m1
    simp at this;omega
   have hld:=I0N (P:=P) (o:=i.o+off) hbl ns 0 .empty (fun j m hj=>by
    have h5:(C.extract (i.o+off) (i.o+off+l))[j]?=some (.int .u8 (m:Int)):=by
     rw[←Array.getElem?_toList,m1];simp[hj]
    have hjl:j<l:=by
     rcases Nat.lt_or_ge j l with q|q
     ·exact q
     ·rw[List.getElem?_eq_none (by omega)] at hj;cases hj
    rw[Q0b C _ _ _ hjl (by omega)] at h5
    rw[←h5];congr 1)
   rw[hns] at hld
   have hld':(loadBytes ⟨i.b,i.o+off,none⟩ .empty l).run P w=.ok ⟨bs.toArray⟩ w:=by
    have :=hld
    simp only[Nat.add_zero] at this
    rw[this,m2];simp
   have hel:(elemOf t).run P w=.ok e2 w:=by simp[elemOf,T.run_und,hd]
   have hmx:=f0X hl
   have hne:¬((l:Int)=0):=by omega
   change Sem.run P (asInt (.int kd (l:Nat))>>= _) w=_
   simp only[asInt,asIntOf,Sem.run_bind,Sem.run_pure,Result.andThen_ok,hat,c0,if_false,hmx,hne,hel,Int.toNat_natCast,hvar,if_true,hld',freeze,Sem.run]
end
section
variable{P:Program}{E:Env}{base:Bs}{w0:World}{Γ:Gam}{w:World}{s:St}{t:TypeId}
theorem R0u{P:Program}{d:TypeDesc}{k:TK}(h:isU8 k=true)(hk:k=B0Q P d):d=.int .u8:=by
 subst hk
 cases d<;>simp[B0Q,isU8] at h
 rename_i k
 cases k<;>simp at h
 rfl
theorem O0h{a:Addr}{e:TypeId}{C:Array Value}{fz:Nat×Nat}(hb:w.heap[a.block]?=some (.cells C e fz)):(Conv.seenAt a).run P w=.ok a w:=by
 have h4:w.shape? a.block=some (e,C.size):=by simp[World.shape?,hb]
 simp[Conv.seenAt,viewAt,shape,Sem.run,Sem.run_bind,h4]
theorem T0s{b:Nat}{e:TypeId}{C:Array Value}{fz:Nat×Nat}(hb:w.heap[b]?=some (.cells C e fz)):(cellsIn b).run P w=.ok (some C.size) w:=by
 have h4:w.shape? b=some (e,C.size):=by simp[World.shape?,hb]
 simp[cellsIn,shape,Sem.run,Sem.run_bind,h4]
theorem N0t{e:TypeId}{w:World}{b:Nat}{C:Array Value}{fz:Nat×Nat}(hb:w.heap[b]?=some (.cells C e fz))(hs:0<P.cellsOf e)(hk:P.cellsOf e≤C.size):(variablesAt ⟨b,0,none⟩ e 1).run P w=.ok true w:=by
 have hd:∃d,P.depth=d+1:=⟨2*(P.types.size+Made.depth)+1,rfl⟩
 obtain⟨d,hd⟩:=hd
 have h1:sameLayout P P.depth e e=true:=by rw[hd];simp[sameLayout]
 have h5:1≤C.size/P.cellsOf e:=(Nat.le_div_iff_mul_le hs).2 (by omega)
 have h2:rowAt P (fun x=>sameLayout P P.depth x e) (d+1) e (C.size/P.cellsOf e) 0 1=true:=by
  have :¬(P.cellsOf e=0):=by omega
  simp[rowAt,this,h1]
  exact .inl h5
 have h3:liesAt P P.depth e (C.size/P.cellsOf e) 0 e 1=true:=by
  conv=>lhs;arg 2;rw[hd]
  simp only[liesAt]
  have h2':=h2
  rw[←hd] at h2'
  rw[h2'];rfl
 have h4:w.shape? b=some (e,C.size):=by simp[World.shape?,hb]
 simp only[variablesAt,Sem.run_bind,program,shape,Sem.run,Sem.run_pure,Result.andThen_ok,h4,h3]
theorem L0P(hE:EnvOk E P)(R:Rel E base w0 Γ s.h w){t':TypeId}{a:AVal}{u:Value}(ha:VRel Γ a u)(g:(F0C E t t' a s).Good):
  Reads Γ s (F0C E t t' a s) ((convert t t' u).run P w) w:=by
 unfold F0C at g⊢
 obtain⟨ti,inf,d,z,hty,he,T⟩:=A0o hE (A0a g)
 rw[A0d he] at g⊢
 obtain⟨tj,inf2,d2,z2,hty2,he2,T2⟩:=A0o hE (A0a g)
 rw[A0d he2] at g⊢
 have hk:=T.k
 have hk2:=T2.k
 generalize ti.k=ka at g hk⊢
 generalize tj.k=kb at g hk2⊢
 generalize hm:U0m E ka kb a=m at g⊢
 unfold U0m at hm
 split at hm<;>subst hm
 case h_1 _ _ k2' k2 _ n=>
  have hd2:=F0c hk2.symm
  have hd:=F0c hk.symm
  unfold VRel at ha;subst ha
  subst hd;subst hd2
  refine⟨_,s,.int k2 (k2.wrap n),rfl,.refl s,?_,?_⟩
  ·simp[convert,T.run_und,T2.run_und,Conv.intToInt]
  ·rw[E0q];unfold VRel;rfl
 case h_2 _ _ l=>
  have hd2:=B0V hk2.symm
  have hd:=B0V hk.symm
  subst hd;subst hd2
  have ha':=ha
  unfold VRel at ha;subst ha
  exact⟨_,s,_,rfl,.refl s,by simp[convert,T.run_und,T2.run_und],ha'⟩
 case h_3 _ _ e b=>
  have hd2:=D0T hk2.symm
  obtain⟨hd,_⟩:=H0E hk.symm
  subst hd;subst hd2
  have ha':=ha
  unfold VRel at ha;subst ha
  exact⟨_,s,_,rfl,.refl s,by simp[convert,T.run_und,T2.run_und,Conv.unsafePointer],ha'⟩
 case h_4 _ _ e b=>
  obtain⟨hd2,_⟩:=H0E hk2.symm
  have hd:=D0T hk.symm
  subst hd;subst hd2
  have ha':=ha
  unfold VRel at ha;subst ha
  exact⟨_,s,_,rfl,.refl s,by simp[convert,T.run_und,T2.run_und,Conv.unsafePointer],ha'⟩
 case h_5 _ _=>
  have hd2:=D0T hk2.symm
  have hd:=D0T hk.symm
  subst hd;subst hd2
  have ha':=ha
  unfold VRel at ha;subst ha
  exact⟨_,s,_,rfl,.refl s,by simp[convert,T.run_und,T2.run_und,Conv.unsafePointer],ha'⟩
 case h_6 _ _ n off=>
  have hd2:=D0T hk2.symm
  have hd:=D0T hk.symm
  subst hd;subst hd2
  have ha':=ha
  unfold VRel at ha;obtain⟨i,hi,rfl⟩:=ha
  exact⟨_,s,_,rfl,.refl s,by simp[convert,T.run_und,T2.run_und,Conv.unsafePointer],ha'⟩
 case h_7 _ _ e n off=>
  have hd2:=D0T hk2.symm
  obtain⟨hd,hbb⟩:=H0E hk.symm
  subst hd;subst hd2
  have ha':=ha
  unfold VRel at ha;obtain⟨i,hi,rfl⟩:=ha
  obtain⟨cs,e3,frz,dead,root,rel,al0,s1,ho,f1,q1⟩:=C0j (A0a g)
  rw[A0d f1] at g⊢
  obtain⟨hq,hr⟩:=A0i g
  rw[hr]
  simp[Nat.blt_eq] at hq
  obtain⟨hasz,_,C,fz,hbl,hcsz,hfit,_,_⟩:=R.block hi ho
  have hne:0<P.cellsOf e:=by
   rcases Nat.eq_zero_or_pos (P.cellsOf e) with q|q
   ·rw[q] at hbb;cases hbb
   ·exact q
  refine⟨_,s1,_,rfl,q1,?_,ha'⟩
  have h1:=O0h (P:=P) (a:=⟨i.b,i.o+off,none⟩) hbl
  have h2:=T0s (P:=P) hbl
  have h3:(sizeOf e).run P w=.ok (P.cellsOf e) w:=A0B hne w
  have h4:¬(C.size≤i.o+off):=by omega
  have h5:¬(P.cellsOf e=0):=by omega
  simp[convert,T.run_und,T2.run_und,Conv.unsafePointer,h1,h2,h3,h4,h5]
 case h_8 _ _ e n=>
  obtain⟨hd2,hbb⟩:=H0E hk2.symm
  have hd:=D0T hk.symm
  subst hd;subst hd2
  have ha':=ha
  unfold VRel at ha;obtain⟨i,hi,rfl⟩:=ha
  obtain⟨cs,e3,frz,dead,root,rel,al0,s1,ho,f1,q1⟩:=C0j (A0a g)
  rw[A0d f1] at g⊢
  obtain⟨te,inf',d',z',hty',he',T'⟩:=A0o hE (A0a g)
  rw[A0d he'] at g⊢
  obtain⟨hq,hr⟩:=A0i g
  rw[hr]
  simp[Nat.blt_eq,Nat.beq_eq] at hq
  obtain⟨⟨⟨⟨rfl,z1⟩,z2⟩,rfl⟩,rfl⟩:=hq
  have h0:=R.own _ i _ _ _ _ _ (R.dom _ i hi).1 ho hi
  obtain⟨hasz,_,C,fz,hbl,hcsz,hfit,_,_⟩:=R.block hi ho
  refine⟨_,s1,_,rfl,q1,?_,ha'⟩
  have hce:=T'.cells
  have h1:=O0h (P:=P) (a:=⟨i.b,0,none⟩) hbl
  have h3:(sizeOf e3).run P w=.ok (P.cellsOf e3) w:=A0B (by omega) w
  have h5:¬(P.cellsOf e3=0):=by omega
  have h6:=N0t (P:=P) hbl (by omega) (by omega)
  simp[convert,T.run_und,T2.run_und,Conv.unsafePointer,h0,h1,h3,h5,h6]
 case h_9 _ _ e b=>
  have hd2:=B0V hk2.symm
  obtain⟨hd,_⟩:=A0S hk.symm
  subst hd;subst hd2
  unfold VRel at ha;subst ha
  obtain⟨te,inf',d',z',hty',he',T'⟩:=A0o hE (A0a g)
  rw[A0d he'] at g⊢
  obtain⟨hq,hr⟩:=A0i g
  rw[hr]
  have hd':=R0u hq T'.k
  subst hd'
  exact⟨_,s,.string .empty,rfl,.refl s,by simp[convert,T.run_und,T2.run_und,T'.run_und,Conv.bytesToString],by unfold VRel;rfl⟩
 case h_10 _ _ e b n off k c sz=>
  have hd2:=B0V hk2.symm
  obtain⟨hd,_⟩:=A0S hk.symm
  subst hd;subst hd2
  obtain⟨te,inf',d',z',hty',he',T'⟩:=A0o hE (A0a g)
  rw[A0d he'] at g⊢
  obtain⟨hq,hr⟩:=A0i g
  rw[hr] at g⊢
  have hd':=R0u hq T'.k
  subst hd'
  obtain⟨hp,i,hi,o,C,rfl,ho⟩:=C0a ha
  obtain⟨l,s',us,e1,e2,e3,e4,e5⟩:=D0b (P:=P) R hi (A0a g)
  rw[A0d e1] at g⊢
  obtain⟨bs,hbs,e6⟩:=A0k (A0a g)
  rw[A0d e6]
  obtain⟨ns,m1,m2⟩:=H0R hbs e4
  have hus:us=(((ns.map fun n:Nat=>(n:Int)).map (Value.int .u8))).toArray:=by
   apply Array.toList_inj.1
   rw[m1];simp[Function.comp_def]
  have hld:(loadCells ⟨i.b,o,none⟩ k).run P w=.ok (((ns.map fun n:Nat=>(n:Int)).map (Value.int .u8))).toArray w:=by
   rw[←hus]
   rcases Nat.eq_zero_or_pos k with k0|k0
   ·subst k0
    have :us=#[]:=by
     have :=e4.length;rw[e5] at this
     exact Array.eq_empty_of_size_eq_zero (by simpa using this)
    rw[this];simp[loadCells,loadCellsFrom]
   ·rw[ho k0];exact e3
  have hb:=run_bytesToString (P:=P) w ⟨i.b,o,none⟩ k C _ hld
  refine⟨_,s',.string ⟨bs.toArray⟩,rfl,e2,?_,by unfold VRel;rfl⟩
  rw[run_convert_bytes_string w t t' e _ k C T.und T'.und T2.und,hb,L0Y,m2]
  simp
 case h_11 _ _ k2' k2 _ n=>
  have hd2:=F0c hk2.symm
  have hd:=F0c hk.symm
  unfold VRel at ha;subst ha
  subst hd;subst hd2
  exact⟨_,s,.int k2 (k2.wrap n),rfl,.refl s,by simp[convert,T.run_und,T2.run_und,Conv.intToInt],by unfold VRel;rfl⟩
 case h_12 _ _ l=>
  have hd2:=B0V hk2.symm
  have hd:=B0V hk.symm
  subst hd;subst hd2
  have ha':=ha
  unfold VRel at ha;subst ha
  exact⟨_,s,_,rfl,.refl s,by simp[convert,T.run_und,T2.run_und],ha'⟩
 case h_13=>exact g.elim
end
section
variable{P:Program}{E:Env}{base:Bs}{w0:World}{Γ:Gam}{w:World}{s:St}{t kt:TypeId}
theorem Q0e{a b:AVal}(h:keq0 a b=true):a=b:=by
 unfold keq0 at h
 cases a<;>simp only[Bool.false_eq_true] at h<;>cases b<;>simp only[Bool.false_eq_true] at h
 case bool a b=>cases a<;>cases b<;>first|rfl|cases h
 case int j a k b=>
  simp only[Bool.and_eq_true,beq_iff_eq] at h
  obtain⟨rfl,h⟩:=h
  rw[E0e] at h
  rw[show a=b from by simpa using h]
 case str a b=>
  rw[H0O] at h
  rw[show a=b from by simpa using h]
theorem Y0P:∀{l m:List AVal},keqs l m=true→l=m
 |[],[],_=>rfl
 |[],_::_,h=>by cases h
 |_::_,[],h=>by cases h
 |
  a::l,b::m,h=>by
  unfold keqs at h
  cases h0:keq0 a b with
  |false=>rw[h0] at h;cases h
  |
   true=>
   rw[h0,A0e] at h
   rw[Q0e h0,Y0P h]
theorem F0F{a b:AVal}(h:keq a b=true):a=b:=by
 cases a<;>first
  |(cases b<;>first|exact Q0e h|cases h)
  |skip
 all_goals (cases b<;>first|(exact congrArg AVal.agg (Y0P h))|cases h)
theorem M0K{a:AVal}(hf:B0k E t a=true):keq0 a a=true:=by
 unfold B0k at hf
 cases hty:E.tyOf t with
 |none=>rw[hty] at hf;cases hf
 |
  some ti=>
  rw[hty] at hf
  simp only[] at hf
  cases hc:ti.k<;>rw[hc] at hf<;>simp only[Bool.false_eq_true] at hf<;>cases a<;>simp only[Bool.false_eq_true] at hf
  ·rename_i b;cases b<;>rfl
  ·simp[keq0,E0e]
  ·simp[keq0,H0O]
theorem K0L:∀{fs:List FI}{i:Nat}{l:List AVal},B0o E i fs l=true→keqs l l=true
 |[],_,[],_=>rfl
 |[],_,_::_,h=>by simp[B0o] at h
 |_::_,_,[],h=>by simp[B0o] at h
 |
  f::fs,i,a::l,h=>by
  simp only[B0o,Bool.and_eq_true] at h
  unfold keqs
  rw[M0K h.1.2,A0e]
  exact K0L h.2
theorem J0w{e:TypeId}:∀{l:List AVal},l.all (B0k E e)=true→keqs l l=true
 |[],_=>rfl
 |
  a::l,h=>by
  simp only[List.all_cons,Bool.and_eq_true] at h
  unfold keqs
  rw[M0K h.1,A0e]
  exact J0w h.2
theorem B0A{a:AVal}(hn:∀l,a≠.agg l)(h:A0m E t a=true):B0k E t a=true:=by
 cases a<;>first|exact h|exact absurd rfl (hn _)
theorem L0S{a b:AVal}(hn:∀l,a≠.agg l):keq a b=keq0 a b:=by
 cases a<;>first|rfl|exact absurd rfl (hn _)
theorem F0Q(hE:EnvOk E P){l:List AVal}(h:A0m E t (.agg l)=true):(∃fs:Array Field,P.underlying t=some (.struct fs)∧B0o E 0 (fs.toList.map (fiOf P)) l=true)∨
  ∃n e,P.underlying t=some (.array n e)∧P.cellsOf e=1∧n=l.length∧l.all (B0k E e)=true:=by
 unfold A0m at h
 simp only[] at h
 cases hty:E.tyOf t with
 |none=>rw[hty] at h;cases h
 |
  some ti=>
  rw[hty] at h
  obtain⟨i,d,z,T⟩:=hE.ok hty
  simp only[] at h
  have hk:=T.k
  cases hc:ti.k<;>rw[hc] at h hk<;>simp only[Bool.false_eq_true] at h
  case array n e sz=>
   obtain⟨hd,hsz⟩:=D0u hk.symm
   simp only[Bool.and_eq_true] at h
   obtain⟨⟨h1,h2⟩,h3⟩:=h
   have h1:=Nat.eq_of_beq_eq_true h1
   have h2:=Nat.eq_of_beq_eq_true h2
   rw[A0O] at h2
   exact .inr ⟨n,e,by rw[T.und,hd],by omega,h2,h3⟩
  case struct fs=>
   obtain⟨fa,hd,hfs⟩:=C0L hk.symm
   simp only[Bool.and_eq_true] at h
   exact .inl ⟨fa,by rw[T.und,hd],by rw[←hfs];exact h.2⟩
theorem G0j(hE:EnvOk E P){a:AVal}(h:A0m E t a=true):keq a a=true:=by
 by_cases c:∃l,a=.agg l
 ·obtain⟨l,rfl⟩:=c
  show keqs l l=true
  rcases F0Q hE h with⟨fs,_,h1⟩|⟨n,e,_,_,_,h1⟩
  ·exact K0L h1
  ·exact J0w h1
 ·have hn:∀l,a≠.agg l:=fun l q=>c ⟨l,q⟩
  rw[L0S hn];exact M0K (B0A hn h)
theorem U0f{a:AVal}{u v:Value}(h:Atom a u)(k:Atom a v):u=v:=by cases h<;>cases k<;>rfl
theorem Q0n(hE:EnvOk E P):∀{l:List AVal}{us vs:List Value},(∀a∈l,∃t,B0k E t a=true)→VRels Γ l us→VRels Γ l vs→us=vs
 |[],us,vs,_,h,k=>by rw[h.nil_inv,k.nil_inv]
 |
  a::l,us,vs,hf,h,k=>by
  obtain⟨u,us,rfl,h1,h2⟩:=h.cons_inv
  obtain⟨v,vs,rfl,k1,k2⟩:=k.cons_inv
  obtain⟨t,ht⟩:=hf a (by simp)
  rw[U0f (A0P hE h1 ht).1 (A0P hE k1 ht).1,Q0n hE (fun b hb=>hf b (by simp[hb])) h2 k2]
theorem L0E:∀{fs:List FI}{i:Nat}{l:List AVal},B0o E i fs l=true→∀a∈l,∃t,B0k E t a=true
 |[],_,[],_,a,h=>by cases h
 |[],_,_::_,h,_,_=>by simp[B0o] at h
 |_::_,_,[],h,_,_=>by simp[B0o] at h
 |
  f::fs,i,b::l,h,a,ha=>by
  simp only[B0o,Bool.and_eq_true] at h
  rcases List.mem_cons.1 ha with q|q
  ·subst q;exact⟨_,h.1.2⟩
  ·exact L0E h.2 a q
theorem I0A(hE:EnvOk E P){l:List AVal}(h:A0m E t (.agg l)=true):∀a∈l,∃t,B0k E t a=true:=by
 rcases F0Q hE h with⟨fs,_,h1⟩|⟨n,e,_,_,_,h1⟩
 ·exact L0E h1
 ·exact fun a ha=>⟨e,by simpa using(List.all_eq_true.1 h1 a ha)⟩
theorem Y0e(hE:EnvOk E P){a:AVal}{u v:Value}(hf:A0m E t a=true)(h:VRel Γ a u)(k:VRel Γ a v):u=v:=by
 by_cases c:∃l,a=.agg l
 ·obtain⟨l,rfl⟩:=c
  obtain⟨us,rfl,h'⟩:=B0K h
  obtain⟨vs,rfl,k'⟩:=B0K k
  have :=Q0n hE (I0A hE hf) h' k'
  rw[Array.toList_inj.1 this]
 ·have hn:∀l,a≠.agg l:=fun l q=>c ⟨l,q⟩
  exact U0f (A0P hE h (B0A hn hf)).1 (A0P hE k (B0A hn hf)).1
theorem R0G{a:AVal}{v:Value}(h:Atom a v)(n:Nat):Instr.sameBits n v v=true:=by
 cases h<;>simp[Instr.sameBits,MapKept.bytes_beq]
theorem Z0x(hE:EnvOk E P){a:AVal}{v:Value}(hf:A0m E t a=true)(h:VRel Γ a v)(n:Nat):Instr.sameBits (n+1) v v=true:=by
 by_cases c:∃l,a=.agg l
 ·obtain⟨l,rfl⟩:=c
  obtain⟨us,rfl,h'⟩:=B0K h
  have each:∀x∈us.toList,Instr.sameBits n x x=true:=by
   intro x hx
   obtain⟨i,hi,rfl⟩:=List.mem_iff_getElem.1 hx
   have hl:i<l.length:=by have :=h'.length;omega
   obtain⟨v,h1,h2⟩:=h'.get (i:=i) (a:=l[i]) (by simp[hl])
   have :us.toList[i]=v:=by rw[List.getElem?_eq_getElem hi] at h1;exact Option.some.inj h1
   rw[this]
   obtain⟨t,ht⟩:=I0A hE hf l[i] (by simp)
   exact R0G (A0P hE h2 ht).1 n
  simp only[Instr.sameBits,beq_self_eq_true,Bool.true_and]
  have :∀(m:List Value),(∀x∈m,Instr.sameBits n x x=true)→(m.zip m).all (fun(x,y)=>Instr.sameBits n x y)=true:=by
   intro m
   induction m with
   |nil=>intro _;rfl
   |cons x m ih=>intro h;simp[h x (by simp)];intro a b hab;have :=ih (fun y hy=>h y (by simp[hy]));exact List.all_eq_true.1 this (a,b) hab
  exact this _ each
 ·have hn:∀l,a≠.agg l:=fun l q=>c ⟨l,q⟩
  exact R0G (A0P hE h (B0A hn hf)).1 _
end
section
variable{P:Program}{E:Env}{base:Bs}{w0:World}{Γ:Gam}{w:World}{s:St}{t kt:TypeId}
theorem X0U(hE:EnvOk E P){a:AVal}{v:Value}(h:VRel Γ a v)(hf:B0k E t a=true)(em:Bool)(n:Nat)(w:World):(Instr.checkKey em (n+1) t v).run P w=.ok () w:=by
 obtain⟨A,ti,i,d,z,_,T,c⟩:=A0P hE h hf
 unfold Instr.checkKey
 simp only[Sem.run_bind,T.run_und,Result.andThen_ok]
 rcases c with⟨b,rfl,rfl⟩|⟨k,m,rfl,rfl⟩|⟨s,rfl,rfl⟩<;>cases A<;>rfl
theorem X0B(a b:List UInt8):((⟨a.toArray⟩:ByteArray)==⟨b.toArray⟩)=eqS a b:=by
 rw[H0O,Bool.eq_iff_iff,MapKept.bytes_beq]
 simp
theorem E0P(hE:EnvOk E P){a:AVal}{v:Value}(h:VRel Γ a v)(hf:A0m E t a=true)(em:Bool)(n:Nat):(Instr.checkKey em (n+2) t v).run P w=.ok () w:=by
 by_cases c:∃l,a=.agg l
 ·obtain⟨l,rfl⟩:=c
  obtain⟨cs,rfl,hcs⟩:=B0K h
  have gx:∀(k:Nat)(a:AVal),l[k]?=some a→∃v,cs[0+k]?=some v∧VRel Γ a v:=fun k a h=>by
   obtain⟨v,p,q⟩:=hcs.get h
   exact⟨v,by simpa using p,q⟩
  unfold Instr.checkKey
  rcases F0Q hE hf with⟨fs,hu,h1⟩|⟨m,e,hu,he,rfl,h1⟩
  ·simp only[Sem.run_bind,run_underlying hu,Result.andThen_ok]
   rw[←Array.forIn_toList]
   clear hf h hcs
   generalize 0=i at h1 gx
   generalize fs.toList=L at h1
   induction L generalizing l i with
   |nil=>simp
   |
    cons f L ih=>
    cases l with
    |nil=>simp[B0o] at h1
    |
     cons a l=>
     simp only[List.map_cons,B0o,Bool.and_eq_true] at h1
     obtain⟨⟨⟨⟨⟨o1,_⟩,_⟩,n1⟩,f1⟩,r1⟩:=h1
     have ho:f.offset=i:=Nat.eq_of_beq_eq_true o1
     have hn:f.name≠ "_" :=by simpa [fiOf] using n1
     obtain⟨va,p1,q1⟩:=gx 0 a rfl
     have f1':B0k E f.type a=true:=f1
     simp only[List.forIn_cons,Sem.run_bind,hn,ne_eq,not_false_eq_true,if_true,ho,F0x hE f1' (by simpa using p1),Result.andThen_ok,X0U hE q1 f1',Sem.run_pure]
     exact ih l (i+1) (fun j x hx=>by have :=gx (j+1) x (by simpa using hx);rwa[show i+(j+1)=i+1+j from by omega] at this) r1
  ·simp only[Sem.run_bind,run_underlying hu,Result.andThen_ok]
   simp only[Std.Legacy.Range.forIn_eq_forIn_range',Std.Legacy.Range.size,Nat.sub_zero,Nat.add_one_sub_one,Nat.div_one]
   clear hf h hcs hu
   have hs:(sizeOf e).run P w=.ok 1 w:=by
    have :=A0B (P:=P) (e:=e) (by omega) w
    rw[he] at this;exact this
   generalize 0=i at gx
   induction l generalizing i with
   |nil=>simp
   |
    cons a l ih=>
    simp only[List.all_cons,Bool.and_eq_true] at h1
    obtain⟨va,p1,q1⟩:=gx 0 a rfl
    simp only[List.length_cons,List.range'_succ,List.forIn_cons,Sem.run_bind,hs,Nat.mul_one,Result.andThen_ok,F0x hE h1.1 (by simpa using p1),X0U hE q1 h1.1,Sem.run_pure]
    exact ih h1.2 (i+1) (fun j x hx=>by have :=gx (j+1) x (by simpa using hx);rwa[show i+(j+1)=i+1+j from by omega] at this)
 ·have hn:∀l,a≠.agg l:=fun l q=>c ⟨l,q⟩
  exact X0U hE h (B0A hn hf) em (n+1) w
theorem O0g(hE:EnvOk E P){a:AVal}{v:Value}(h:VRel Γ a v)(hf:A0m E kt a=true):∀(l:List (AVal×AVal))(ents:List MapEntry)(i:Nat),Zip Γ l ents→(∀e∈l,A0m E kt e.1=true)→
  ∃r,(Instr.findAsking kt v ents i).run P w=.ok r w∧((r=none∧∀e∈l,keq a e.1=false)∨∃j e x,r=some (i+j,x.val)∧l[j]?=some e∧ents[j]?=some x∧keq a e.1=true)
 |
  [],ents,i,hz,_=>by
  have :ents=[]:=List.eq_nil_of_length_eq_zero (by simpa using hz.1)
  subst this
  exact⟨none,by simp[Instr.findAsking],.inl ⟨rfl,by simp⟩⟩
 |e::l,[],i,hz,_=>by have :=hz.1;simp at this
 |
  e::l,x::ents,i,hz,hfs=>by
  obtain⟨h1,h2⟩:=hz.2 0 e x rfl rfl
  have hk:(Op.equal kt v x.key).run P w=.ok (keq a e.1) w:=S0P hE h h1 hf (hfs e (by simp)) 9998
  have hz':Zip Γ l ents:=⟨by have :=hz.1;simpa using this,fun k e' x' a b=>hz.2 (k+1) e' x' (by simpa using a) (by simpa using b)⟩
  simp only[Instr.findAsking,Sem.run_bind,hk,Result.andThen_ok]
  cases hc:keq a e.1 with
  |true=>exact⟨some (i,x.val),by simp,.inr ⟨0,e,x,rfl,rfl,rfl,hc⟩⟩
  |
   false=>
   obtain⟨r,q1,q2⟩:=O0g hE h hf l ents (i+1) hz' (fun y hy=>hfs y (by simp[hy]))
   refine⟨r,by simpa using q1,?_⟩
   rcases q2 with⟨rfl,q⟩|⟨j,e',x',rfl,q3,q4,q5⟩
   ·refine .inl ⟨rfl,fun y hy=>?_⟩
    rcases List.mem_cons.1 hy with z|z
    ·subst z;exact hc
    ·exact q y z
   ·exact .inr ⟨j+1,e',x',by congr 2;omega,by simpa using q3,by simpa using q4,q5⟩
theorem O0B(hE:EnvOk E P){a:AVal}{v:Value}(h:VRel Γ a v)(hf:A0m E kt a=true){d:TypeDesc}(hd:P.underlying kt=some d):∀(l:List (AVal×AVal))(ents:List MapEntry)(i:Nat),Zip Γ l ents→(∀e∈l,A0m E kt e.1=true)→
  ∀r,Instr.findNow d v ents i=some r→(Instr.findAsking kt v ents i).run P w=.ok r w
 |
  [],ents,i,hz,_,r,hr=>by
  have :ents=[]:=List.eq_nil_of_length_eq_zero (by simpa using hz.1)
  subst this
  simp[Instr.findNow] at hr;subst hr
  simp[Instr.findAsking]
 |e::l,[],i,hz,_,_,_=>by have :=hz.1;simp at this
 |
  e::l,x::ents,i,hz,hfs,r,hr=>by
  obtain⟨h1,h2⟩:=hz.2 0 e x rfl rfl
  have hk:(Op.equal kt v x.key).run P w=.ok (keq a e.1) w:=S0P hE h h1 hf (hfs e (by simp)) 9998
  have hz':Zip Γ l ents:=⟨by have :=hz.1;simpa using this,fun k e' x' a b=>hz.2 (k+1) e' x' (by simpa using a) (by simpa using b)⟩
  simp only[Instr.findAsking,Sem.run_bind,hk,Result.andThen_ok]
  --where it answers,it answers so
  have same:∀q,Instr.sameNow d v x.key=some q→q=keq a e.1:=by
   intro q hq
   by_cases c:∃l,a=.agg l
   ·obtain⟨m,rfl⟩:=c
    obtain⟨cs,rfl,_⟩:=B0K h
    cases d<;>simp[Instr.sameNow] at hq
   ·have hn:∀l,a≠.agg l:=fun l q=>c ⟨l,q⟩
    have hf0:=B0A hn hf
    by_cases c':∃l,e.1=.agg l
    ·obtain⟨m,hm⟩:=c'
     rw[hm] at h1
     obtain⟨cs,hcs,_⟩:=B0K h1
     rw[hcs] at hq
     cases d<;>cases v<;>simp[Instr.sameNow] at hq
    ·have hn':∀l,e.1≠.agg l:=fun l q=>c' ⟨l,q⟩
     have hg0:=B0A hn' (hfs e (by simp))
     rw[L0S hn]
     have A:=(A0P hE h hf0).1
     have B:=(A0P hE h1 hg0).1
     revert B A
     generalize e.1=b
     generalize x.key=y at hq
     intro A B
     cases A<;>cases B<;>cases d<;>simp[Instr.sameNow] at hq<;>first
      |(subst hq;rename_i p q _ _ _ _;cases p<;>cases q<;>rfl)
      |(subst hq;rename_i p q;cases p<;>cases q<;>rfl)
      |(subst hq;exact X0B _ _)
      |(obtain⟨rfl,rfl⟩:=hq;simp[keq0,E0e])
  unfold Instr.findNow at hr
  split at hr
  ·rename_i hs
   have :=same _ hs
   rw[←this]
   cases hr;simp
  ·rename_i hs
   have :=same _ hs
   rw[←this]
   simpa using O0B hE h hf hd l ents (i+1) hz' (fun y hy=>hfs y (by simp[hy])) r hr
  ·cases hr
theorem I0b(hE:EnvOk E P){a:AVal}{v:Value}(h:VRel Γ a v)(hf:A0m E kt a=true){d:TypeDesc}(hd:P.underlying kt=some d){l:List (AVal×AVal)}{ents:List MapEntry}(hz:Zip Γ l ents)(hfs:∀e∈l,A0m E kt e.1=true):
  ∃r,(Instr.findKey kt v ents).run P w=.ok r w∧((r=none∧∀e∈l,keq a e.1=false)∨∃j e x,r=some (j,x.val)∧l[j]?=some e∧ents[j]?=some x∧keq a e.1=true):=by
 obtain⟨r,h1,h2⟩:=O0g (w:=w) hE h hf l ents 0 hz hfs
 refine⟨r,?_,by simpa using h2⟩
 simp only[Instr.findKey,Sem.run_bind,run_underlying hd,Result.andThen_ok]
 cases hn:Instr.findNow d v ents 0 with
 |none=>simpa using h1
 |
  some q=>
  have :=O0B (w:=w) hE h hf hd l ents 0 hz hfs q hn
  rw[h1] at this
  cases this;simp
end
section
variable{P:Program}{E:Env}{base:Bs}{w0:World}{Γ:Gam}{w:World}{s:St}{t kt:TypeId}
theorem W0p{ti:TI}{i:TypeInfo}{d:TypeDesc}{z:Value}(T:TIOk P t ti i d z)(Γ:Gam)(g:(X0s ti.zero ti.agg s).Good):∃v,X0s ti.zero ti.agg s=.ok v s∧VRel Γ v z:=by
 unfold X0s at g⊢
 have hz:=H0t Γ z
 have hna:=K0A z
 rw[T.zero] at g⊢
 have ha:ti.agg=K0C z:=by rw[T.agg,T.aggz]
 rw[ha] at g⊢
 cases z with
 |agg cs=>exact⟨_,rfl,hz⟩
 |
  _=>
  refine⟨_,?_,hz⟩
  rw[show K0C _=false from rfl,A0f] at g⊢
  have hc:∀v:AVal,(∀l,v≠.agg l)→v≠.any→v.cells=[v]:=by
   intro v h1 h2
   cases v<;>first|rfl|exact absurd rfl (h1 _)|exact absurd rfl h2
  rw[hc _ (fun l h=>?_) hna]
  ·rfl
  ·rw[h] at hz
   obtain⟨vs,hv,_⟩:=B0K hz
   cases hv
theorem H0p{k:AVal}{v:AVal}:∀{es:List (AVal×AVal)},D0D k es=some v→∃e∈es,keq k e.1=true∧e.2=v
 |[],h=>by cases h
 |
  e::es,h=>by
  unfold D0D at h
  cases hk:keq k e.1 with
  |true=>rw[hk,A0e] at h;cases h;exact⟨e,by simp,hk,rfl⟩
  |
   false=>
   rw[hk,A0f] at h
   obtain⟨e',h1,h2⟩:=H0p h
   exact⟨e',by simp[h1],h2⟩
theorem J0T{k:AVal}:∀{es:List (AVal×AVal)},D0D k es=none→∀e∈es,keq k e.1=false
 |[],_,_,h=>by cases h
 |
  e::es,h,e',h'=>by
  unfold D0D at h
  cases hk:keq k e.1 with
  |true=>rw[hk,A0e] at h;cases h
  |
   false=>
   rw[hk,A0f] at h
   rcases List.mem_cons.1 h' with q|q
   ·subst q;exact hk
   ·exact J0T h e' q
theorem J0q(hE:EnvOk E P):∀{es:List (AVal×AVal)},(es.Pairwise fun a b=>keq a.1 b.1=false)→(∀e∈es,A0m E kt e.1=true)→∀a∈es,∀b∈es,a.1=b.1→a=b
 |[],_,_,a,ha=>by cases ha
 |
  e::es,hp,hf,a,ha=>by
  intro b hb hab
  rw[List.pairwise_cons] at hp
  have self:=G0j hE (hf e (by simp))
  rcases List.mem_cons.1 ha with rfl|qa
  ·rcases List.mem_cons.1 hb with rfl|qb
   ·rfl
   ·have :=hp.1 b qb
    rw[←hab,self] at this;cases this
  ·rcases List.mem_cons.1 hb with rfl|qb
   ·have :=hp.1 a qa
    rw[hab,self] at this;cases this
   ·exact J0q hE hp.2 (fun e he=>hf e (by simp[he])) a qa b qb hab
theorem EntRel.find(hE:EnvOk E P){es:List (AVal×AVal)}{ents:List MapEntry}{clock:Nat}(H:EntRel E Γ kt es ents clock){d:TypeDesc}(hd:P.underlying kt=some d){a:AVal}{v:Value}(h:VRel Γ a v)(hf:A0m E kt a=true):
  (D0D a es=none∧(Instr.findKey kt v ents).run P w=.ok none w)∨
  ∃b j x,D0D a es=some b∧(Instr.findKey kt v ents).run P w=.ok (some (j,x.val)) w∧ents[j]?=some x∧VRel Γ b x.val∧x.key=v:=by
 obtain⟨l,hp,hz⟩:=H.zip
 have hfl:∀e∈l,A0m E kt e.1=true:=fun e he=>H.fits e (hp.mem_iff.1 he)
 obtain⟨r,h1,h2⟩:=I0b (w:=w) hE h hf hd hz hfl
 rcases h2 with⟨rfl,h2⟩|⟨j,e,x,rfl,h3,h4,h5⟩
 ·left
  refine⟨?_,h1⟩
  cases hk:D0D a es with
  |none=>rfl
  |
   some b=>
   obtain⟨e,he,hke,_⟩:=H0p hk
   have :=h2 e (hp.mem_iff.2 he)
   rw[hke] at this;cases this
 ·right
  have hel:e∈l:=List.mem_of_getElem? h3
  have hee:e∈es:=hp.mem_iff.1 hel
  cases hk:D0D a es with
  |none=>have :=J0T hk e hee;rw[h5] at this;cases this
  |
   some b=>
   obtain⟨e',he',hke,rfl⟩:=H0p hk
   have e1:=F0F h5
   have e2:=F0F hke
   have :=J0q hE H.keys H.fits e hee e' he' (by rw[←e1,e2])
   subst this
   obtain⟨z1,z2⟩:=hz.2 j e x h3 h4
   exact⟨_,j,x,rfl,h1,h4,z2,Y0e hE hf (by rw[e1];exact z1) h⟩
theorem P0D(R:Rel E base w0 Γ s.h w){x:AVal}{u:Value}(hx:VRel Γ x u)(g:(F0D kt x s).Good):∃es s',F0D kt x s=.ok es s'∧Same s s'∧
  ((u=.map none∧es=[])∨∃b ents clock,u=.map (some b)∧w.heap[b]?=some (.map ents clock)∧EntRel E Γ kt es ents.toList clock):=by
 unfold F0D at g⊢
 cases x<;>simp only[] at g⊢<;>first
  |exact g.elim
  |skip
 case nilm=>unfold VRel at hx;exact⟨[],s,rfl,.refl s,.inl ⟨hx,rfl⟩⟩
 case map n=>
  obtain⟨kt',es,c,s',ho,e1,q1⟩:=E0w (A0a g)
  rw[A0d e1] at g⊢
  unfold VRel at hx
  obtain⟨i,hi,rfl⟩:=hx
  obtain⟨hq,hr⟩:=A0i g
  rw[hr]
  have :kt'=kt:=Nat.eq_of_beq_eq_true hq
  subst this
  obtain⟨i',hi',ents,hb,hrel⟩:=R.obj n _ (R.dom n i hi).1 ho
  rw[hi] at hi';cases hi'
  exact⟨es,s',rfl,q1,.inr ⟨i.b,ents,c,rfl,hb,hrel⟩⟩
theorem H0H(hE:EnvOk E P)(R:Rel E base w0 Γ s.h w){x k:AVal}{u v:Value}(hx:VRel Γ x u)(hk:VRel Γ k v)(ok:Bool)(g:(F0U E t ok x k s).Good):
  Reads Γ s (F0U E t ok x k s) ((Instr.lookup t u v ok).run P w) w:=by
 unfold F0U at g⊢
 obtain⟨ti,inf,d,z,hty,he,T⟩:=A0o hE (A0a g)
 rw[A0d he] at g⊢
 have hkd:=T.k
 cases hc:ti.k<;>rw[hc] at g hkd<;>simp only[] at g⊢<;>first
  |exact g.elim
  |skip
 case map kt et=>
 have hd:=C0u hkd.symm
 subst hd
 obtain⟨hf,hr⟩:=A0i g
 rw[hr] at g⊢
 obtain⟨es,s1,e1,q1,hu⟩:=P0D (kt:=kt) R hx (A0a g)
 rw[A0d e1] at g⊢
 have hdk:∃d,P.underlying kt=some d:=by
  unfold A0m at hf
  by_cases c:∃l,k=.agg l
  ·obtain⟨l,rfl⟩:=c
   rcases F0Q hE hf with⟨fs,h,_⟩|⟨n,e,h,_⟩<;>exact⟨_,h⟩
  ·obtain⟨_,ti,i,d,z,_,T,_⟩:=A0P hE hk (B0A (fun l q=>c ⟨l,q⟩) hf)
   exact⟨d,T.und⟩
 obtain⟨dk,hdk⟩:=hdk
 have hck:∀em w,(Instr.checkKey em 10000 kt v).run P w=.ok () w:=fun em w=>E0P hE hk hf em 9998
 --what is found
 have key:∃ents:Array MapEntry,((u=.map none∧ents=#[])∨∃b clock,u=.map (some b)∧w.heap[b]?=some (.map ents clock))∧
   ((D0D k es=none∧(Instr.findKey kt v ents.toList).run P w=.ok none w)∨∃b j xv,D0D k es=some b∧(Instr.findKey kt v ents.toList).run P w=.ok (some (j,xv)) w∧VRel Γ b xv):=by
  rcases hu with⟨rfl,rfl⟩|⟨b,ents,clock,rfl,hb,H⟩
  ·refine⟨#[],.inl ⟨rfl,rfl⟩,.inl ⟨rfl,?_⟩⟩
   obtain⟨r,h1,h2⟩:=I0b (w:=w) (l:=[]) (ents:=[]) hE hk hf hdk ⟨rfl,by simp⟩ (by simp)
   rcases h2 with⟨rfl,_⟩|⟨j,e,x,_,h3,_⟩
   ·exact h1
   ·simp at h3
  ·refine⟨ents,.inr ⟨b,clock,rfl,hb⟩,?_⟩
   rcases H.find (w:=w) hE hdk hk hf with h|⟨b',j,x',h1,h2,_,h4,_⟩
   ·exact .inl h
   ·exact .inr ⟨b',j,x'.val,h1,h2,h4⟩
 obtain⟨ents,hents,hfind⟩:=key
 have run:∀r vv,(Instr.findKey kt v ents.toList).run P w=.ok r w→(match r with |some (_,x)=>vv=(x,true)|none=>(zeroValue et).run P w=.ok vv.1 w∧vv.2=false)→
   (Instr.lookup t u v ok).run P w=.ok (if ok then .tuple #[vv.1,.bool vv.2] else vv.1) w:=by
  intro r vv h1 h2
  rcases hents with⟨rfl,rfl⟩|⟨b,clock,rfl,hb⟩
  ·simp only[Instr.lookup,Sem.run_bind,T.run_und,Result.andThen_ok,Sem.run_pure,hck,h1]
   cases r with
   |some r=>obtain⟨j,x⟩:=r;simp only[] at h2;subst h2;simp
   |none=>obtain⟨h2,h3⟩:=h2;obtain⟨a,b⟩:=vv;simp only[] at h2 h3;subst h3;simp[h2]
  ·simp only[Instr.lookup,Sem.run_bind,T.run_und,Result.andThen_ok,Sem.run_pure,MapKept.run_getObj_map hb,hck,h1]
   cases r with
   |some r=>obtain⟨j,x⟩:=r;simp only[] at h2;subst h2;simp
   |none=>obtain⟨h2,h3⟩:=h2;obtain⟨a,b⟩:=vv;simp only[] at h2 h3;subst h3;simp[h2]
 have out:∀(a:AVal)(xv:Value)(b:Bool),VRel Γ a xv→VRel Γ (sel ok (.tup [a,.bool b]) a) (if ok then .tuple #[xv,.bool b] else xv):=by
  intro a xv b h
  cases ok with
  |
   true=>
   rw[A0e]
   unfold VRel
   exact⟨#[xv,.bool b],rfl,.cons h (.cons (by unfold VRel;rfl) .nil)⟩
  |false=>rw[A0f];exact h
 rcases hfind with⟨h1,h2⟩|⟨b,j,xv,h1,h2,h3⟩
 ·rw[h1] at g⊢
  simp only[] at g⊢
  obtain⟨te,inf',d',z',hty',he',T'⟩:=A0o hE (A0a g)
  rw[A0d he'] at g⊢
  obtain⟨zv,h4,h5⟩:=W0p T' Γ (A0a g)
  rw[A0d h4]
  exact⟨_,s1,_,rfl,q1,run none (z',false) h2 ⟨T'.run_zero w,rfl⟩,out _ _ _ h5⟩
 ·rw[h1]
  exact⟨_,s1,_,rfl,q1,run _ (xv,true) h2 rfl,out _ _ _ h3⟩
end
section
variable{P:Program}{E:Env}{base:Bs}{w0:World}{Γ:Gam}{w:World}{s:St}{t kt:TypeId}
def AObj.plain(o:AObj):Prop:=match o with
 |.cells _ _ _ _ _ _ _=>False
 |_=>True
theorem J0v{i j:Info}{o p:AObj}(h:o.plain):¬Kin i j o p:=by
 intro k
 cases o<;>first|exact h|exact k
theorem E0s{i j:Info}{o p:AObj}(h:p.plain):¬Kin i j o p:=by
 intro k
 cases o<;>cases p<;>first|exact h|exact k
theorem Rel.turnX{h:Tr AObj}(R:Rel E base w0 Γ h w){n:Nat}{i:Info}(hi:Γ n=some i){o o':AObj}(ho:h.get n=some o)(hl:o.live)(hp:o.plain)(hp':o'.plain){ob ob':Obj}(hb:w.heap[i.b]?=some ob)(hob:∀c e f,ob≠.cells c e f)
  (hO:ORel E Γ {w with heap:=w.heap.setIfInBounds i.b ob'} n o')
  (hit1:∀q since seen kt es clock k ents b borns stepped,q<LH→q≠n→o'=.miter (some q) since seen→h.get q=some (.map kt es clock)→Γ q=some k→ob'=.mapIter b since borns stepped→w.heap[k.b]?=some (.map ents clock)→
   since≤clock∧(clock=since→IterRel Γ es seen ents.toList since borns stepped))
  (hit2:∀m since seen kt es clock j ents b borns stepped,m<LH→m≠n→h.get m=some (.miter (some n) since seen)→Γ m=some j→o'=.map kt es clock→ob'=.map ents clock→w.heap[j.b]?=some (.mapIter b since borns stepped)→
   since≤clock∧(clock=since→IterRel Γ es seen ents.toList since borns stepped))
  (hhid:Hid base Γ (h.set n o') {w with heap:=w.heap.setIfInBounds i.b ob'}):
  Rel E base w0 Γ (h.set n o') {w with heap:=w.heap.setIfInBounds i.b ob'}:=by
 have hn:=(R.dom n i hi).1
 have hbb:=(R.dom n i hi).2.1
 have gs:=R.gs n o' hn
 have hat:(w.heap.setIfInBounds i.b ob')[i.b]?=some ob':=(MapKept.heap_set hb).1
 have hne:∀k,k≠i.b→(w.heap.setIfInBounds i.b ob')[k]?=w.heap[k]?:=(MapKept.heap_set (o':=ob') hb).2
 have hsz:(w.heap.setIfInBounds i.b ob').size=w.heap.size:=by simp
 constructor
 ·exact A0j _ DH h n R.deep
 ·exact R.below.trans ⟨rfl,rfl,rfl,by simp only[hsz];exact Nat.le_refl _,fun k hk hx=>hne k (I0F hbb hk hx),fun k _ C e z g=>by
   refine⟨C,z,(hne k fun q=>?_).trans g,rfl⟩
   subst q;rw[hb] at g;cases g;exact hob _ _ _ rfl⟩
 ·simp only[hsz];exact R.room
 ·intro m j hj;simp only[hsz];exact R.dom m j hj
 ·intro m p hm hpm
  rw[gs m hm] at hpm
  by_cases c:m=n
  ·rw[if_pos c] at hpm;cases hpm
   subst c;exact hO
  ·rw[if_neg c] at hpm
   have hOm:=R.obj m p hm hpm
   by_cases lv:p.live
   ·refine hOm.keep (Ext.refl _) fun j hj=>hne _ fun eb=>?_
    exact E0s hp (R.inj m n p o j i hm hn hpm ho lv hl c hj hi eb)
   ·cases p with
    |done=>trivial
    |
     cells cs e frz d root rel al=>
     refine hOm.keep (Ext.refl _) fun j hj=>hne _ fun eb=>?_
     obtain⟨j',g1,_,_,C,fz,g4,_⟩:=hOm
     rw[hj] at g1;cases g1
     rw[eb,hb] at g4;cases g4
     exact hob _ _ _ rfl
    |map _ _ _=>exact absurd trivial lv
    |miter _ _ _=>exact absurd trivial lv
    |siter _ _ _=>exact absurd trivial lv
    |arr _ _=>exact absurd trivial lv
    |rcd _=>exact absurd trivial lv
    |dat _=>exact absurd trivial lv
    |mps _ _ _ _ _=>exact absurd trivial lv
 ·intro m q p1 p2 j k hm hq h1 h2 l1 l2 ne e1 e2 eb
  rw[gs m hm] at h1
  rw[gs q hq] at h2
  by_cases c:m=n
  ·rw[if_neg (fun x=>ne (by rw[c,x]))] at h2
   subst c
   rw[hi] at e1;cases e1
   exact(J0v hp (R.inj m q o p2 i k hm hq ho h2 hl l2 ne hi e2 eb)).elim
  ·rw[if_neg c] at h1
   by_cases c':q=n
   ·subst c'
    rw[hi] at e2;cases e2
    exact(E0s hp (R.inj m q p1 o j i hm hq h1 ho l1 hl ne e1 hi eb)).elim
   ·rw[if_neg c'] at h2
    exact R.inj m q p1 p2 j k hm hq h1 h2 l1 l2 ne e1 e2 eb
 ·intro m cs e frz root rel al hm h1 cs' e' frz' d' root' rel' al' h2
  rw[gs m hm] at h1
  by_cases c:m=n
  ·rw[if_pos c] at h1;cases h1;exact hp'.elim
  ·rw[if_neg c] at h1
   obtain⟨_,_,_,⟨⟨r,hr⟩,_⟩,_⟩:=R.obj m _ hm h1
   rw[gs root (R.dom root r hr).1] at h2
   by_cases c':root=n
   ·rw[if_pos c'] at h2;cases h2;exact hp'.elim
   ·rw[if_neg c'] at h2
    exact R.fam m cs e frz root rel al hm h1 _ _ _ _ _ _ _ h2
 ·intro m q since seen kt es clock j k ents b borns stepped hm hq h1 h2 e1 e2 b1 b2
  rw[gs m hm] at h1
  rw[gs q hq] at h2
  by_cases c:m=n
  ·rw[if_pos c] at h1;cases h1
   have cq:q≠n:=fun x=>by rw[if_pos x] at h2;cases h2
   rw[if_neg cq] at h2
   subst c
   rw[hi] at e1;cases e1
   simp only[hat] at b1;cases b1
   have d2:k.b≠i.b:=fun eb=>E0s hp (R.inj q m _ o k i hq hn h2 ho trivial hl cq e2 hi eb)
   simp only[hne _ d2] at b2
   exact hit1 q since seen kt es clock k ents b borns stepped hq cq rfl h2 e2 rfl b2
  ·rw[if_neg c] at h1
   have d1:j.b≠i.b:=fun eb=>E0s hp (R.inj m n _ o j i hm hn h1 ho trivial hl c e1 hi eb)
   simp only[hne _ d1] at b1
   by_cases cq:q=n
   ·rw[if_pos cq] at h2;cases h2
    subst cq
    rw[hi] at e2;cases e2
    simp only[hat] at b2;cases b2
    exact hit2 m since seen kt es clock j ents b borns stepped hm c h1 e1 rfl rfl b1
   ·rw[if_neg cq] at h2
    have d2:k.b≠i.b:=fun eb=>E0s hp (R.inj q n _ o k i hq hn h2 ho trivial hl cq e2 hi eb)
    simp only[hne _ d2] at b2
    exact R.iter m q since seen kt es clock j k ents b borns stepped hm hq h1 h2 e1 e2 b1 b2
 ·intro m j cs e frz rel al hm h1 e1
  rw[gs m hm] at h1
  by_cases c:m=n
  ·rw[if_pos c] at h1;cases h1;exact hp'.elim
  ·rw[if_neg c] at h1
   exact R.own m j cs e frz rel al hm h1 e1
 ·intro k ob2 hk
  refine(hne k fun q=>?_).trans (R.stay k ob2 hk)
  rw[q,R.sep n i o hn ho hl hi] at hk;cases hk
 ·intro m j o1 hm h1 l1 e1
  rw[gs m hm] at h1
  by_cases c:m=n
  ·subst c
   rw[hi] at e1;cases e1
   exact R.sep m i o hm ho hl hi
  ·rw[if_neg c] at h1
   exact R.sep m j o1 hm h1 l1 e1
 ·simp only[hsz];exact R.lo
 ·first|exact R.solo|(rw[hx.lo];exact R.solo)|(rw[hlo];exact R.solo)
 ·exact hhid
theorem Rel.turn{h:Tr AObj}(R:Rel E base w0 Γ h w){n:Nat}{i:Info}(hi:Γ n=some i){o o':AObj}(ho:h.get n=some o)(hl:o.live)(hp:o.plain)(hp':o'.plain){ob ob':Obj}(hb:w.heap[i.b]?=some ob)(hob:∀c e f,ob≠.cells c e f)
  (hO:ORel E Γ {w with heap:=w.heap.setIfInBounds i.b ob'} n o')
  (hit1:∀q since seen kt es clock k ents b borns stepped,q<LH→q≠n→o'=.miter (some q) since seen→h.get q=some (.map kt es clock)→Γ q=some k→ob'=.mapIter b since borns stepped→w.heap[k.b]?=some (.map ents clock)→
   since≤clock∧(clock=since→IterRel Γ es seen ents.toList since borns stepped))
  (hit2:∀m since seen kt es clock j ents b borns stepped,m<LH→m≠n→h.get m=some (.miter (some n) since seen)→Γ m=some j→o'=.map kt es clock→ob'=.map ents clock→w.heap[j.b]?=some (.mapIter b since borns stepped)→
   since≤clock∧(clock=since→IterRel Γ es seen ents.toList since borns stepped))
  (hnm1:∀k c m q l,o≠.mps k c m q l:=by intros;simp) (hnm2:∀k c m q l,o'≠.mps k c m q l:=by intros;simp):
  Rel E base w0 Γ (h.set n o') {w with heap:=w.heap.setIfInBounds i.b ob'}:=
 R.turnX hi ho hl hp hp' hb hob hO hit1 hit2 (R.hid_set hi ho hl hnm1 hnm2 fun k _=>(MapKept.heap_set (o':=ob') hb).2 k)
theorem R0C(k v:AVal):∀es:List (AVal×AVal),(insE k v es).Perm ((k,v)::es)
 |[]=>.refl _
 |
  e::es=>by
  unfold insE
  cases hk:klt k e.1 with
  |true=>rw[A0e]
  |false=>rw[A0f];exact((R0C k v es).cons e).trans (.swap _ _ _)
noncomputable def repl(k v:AVal)(e:AVal×AVal):AVal×AVal:=if keq k e.1 then(k,v) else e
theorem I0W{k v:AVal}:∀{es:List (AVal×AVal)},(∀e∈es,keq k e.1=false)→es.map (repl k v)=es
 |[],_=>rfl
 |
  e::es,h=>by
  rw[List.map_cons,I0W fun x hx=>h x (by simp[hx])]
  simp[repl,h e (by simp)]
theorem U0y{k v:AVal}:∀{es:List (AVal×AVal)},(es.Pairwise fun a b=>keq a.1 b.1=false)→setE k v es=es.map (repl k v)
 |[],_=>rfl
 |
  e::es,hp=>by
  rw[List.pairwise_cons] at hp
  unfold setE
  cases hk:keq k e.1 with
  |
   true=>
   rw[A0e,List.map_cons]
   have :=F0F hk
   subst this
   rw[I0W hp.1]
   simp[repl,hk]
  |
   false=>
   rw[A0f,List.map_cons,U0y hp.2]
   simp[repl,hk]
theorem L0d{k v:AVal}{e:AVal×AVal}:(repl k v e).1=e.1:=by
 unfold repl
 by_cases h:keq k e.1=true
 ·rw[if_pos h];exact F0F h
 ·rw[if_neg h]
theorem R0y(hE:EnvOk E P){k v:AVal}{l:List (AVal×AVal)}(hp:l.Pairwise fun a b=>keq a.1 b.1=false)(hf:∀e∈l,A0m E kt e.1=true){j:Nat}{e:AVal×AVal}(hj:l[j]?=some e)(hk:keq k e.1=true)(q:Nat):
  (l.map (repl k v))[q]?=if q=j then some (k,v) else l[q]?:=by
 rw[List.getElem?_map]
 by_cases c:q=j
 ·subst c;rw[if_pos rfl,hj];simp[repl,hk]
 ·rw[if_neg c]
  cases hq:l[q]? with
  |none=>rfl
  |
   some e'=>
   simp only[Option.map_some,Option.some.injEq]
   unfold repl
   rw[if_neg]
   intro hk'
   have e1:=F0F hk
   have e2:=F0F hk'
   have self:=G0j hE (hf e (List.mem_of_getElem? hj))
   rw[List.pairwise_iff_getElem] at hp
   have hjl:j<l.length:=by
    rcases Nat.lt_or_ge j l.length with z|z
    ·exact z
    ·rw[List.getElem?_eq_none z] at hj;cases hj
   have hql:q<l.length:=by
    rcases Nat.lt_or_ge q l.length with z|z
    ·exact z
    ·rw[List.getElem?_eq_none z] at hq;cases hq
   have gj:l[j]=e:=by rw[List.getElem?_eq_getElem hjl] at hj;exact Option.some.inj hj
   have gq:l[q]=e':=by rw[List.getElem?_eq_getElem hql] at hq;exact Option.some.inj hq
   rcases Nat.lt_or_gt_of_ne c with z|z
   ·have :=hp q j hql hjl z
    rw[gj,gq,←e2,e1,self] at this;cases this
   ·have :=hp j q hjl hql z
    rw[gj,gq,←e2,e1,self] at this;cases this
theorem L0s{a b:AVal}(h:keq a b=false):keq b a=false:=by
 cases hk:keq b a with
 |false=>rfl
 |
  true=>
  have :=F0F hk
  subst this
  rw[hk] at h;cases h
theorem EntRel.perm_keys{es l:List (AVal×AVal)}{ents:List MapEntry}{c:Nat}(H:EntRel E Γ kt es ents c)(hp:l.Perm es):l.Pairwise fun a b=>keq a.1 b.1=false:=
 hp.symm.pairwise H.keys fun{_ _} h=>L0s h
theorem R0z{a b:AVal}{u:Value}(h:Atom a u)(k:Atom b u):a=b:=by
 cases h<;>cases k<;>rfl
theorem N0C(hE:EnvOk E P):∀{l m:List AVal}{us:List Value},(∀a∈l,∃t,B0k E t a=true)→(∀a∈m,∃t,B0k E t a=true)→VRels Γ l us→VRels Γ m us→l=m
 |
  [],m,us,_,_,h,k=>by
  rw[h.nil_inv] at k
  cases m with
  |nil=>rfl
  |cons b m=>obtain⟨v,vs,e,_,_⟩:=k.cons_inv;cases e
 |
  a::l,[],us,_,_,h,k=>by
  rw[k.nil_inv] at h
  obtain⟨v,vs,e,_,_⟩:=h.cons_inv;cases e
 |
  a::l,b::m,us,f,g,h,k=>by
  obtain⟨u,us,rfl,h1,h2⟩:=h.cons_inv
  obtain⟨v,vs,e,k1,k2⟩:=k.cons_inv
  cases e
  obtain⟨t,ht⟩:=f a (by simp)
  obtain⟨t',ht'⟩:=g b (by simp)
  rw[R0z (A0P hE h1 ht).1 (A0P hE k1 ht').1,N0C hE (fun x hx=>f x (by simp[hx])) (fun x hx=>g x (by simp[hx])) h2 k2]
theorem a0y(hE:EnvOk E P){a b:AVal}{u:Value}(fa:A0m E kt a=true)(fb:A0m E kt b=true)(ha:VRel Γ a u)(hb:VRel Γ b u):a=b:=by
 have mixed:∀{l:List AVal}{b:AVal},(∀m,b≠.agg m)→A0m E kt b=true→VRel Γ (.agg l) u→VRel Γ b u→False:=by
  intro l b hn fb h k
  obtain⟨vs,rfl,_⟩:=B0K h
  have :=(A0P hE k (B0A hn fb)).1
  cases this
 by_cases c:∃l,a=.agg l
 ·obtain⟨l,rfl⟩:=c
  by_cases c':∃m,b=.agg m
  ·obtain⟨m,rfl⟩:=c'
   obtain⟨vs,rfl,h⟩:=B0K ha
   obtain⟨vs',e,k⟩:=B0K hb
   cases e
   rw[N0C hE (I0A hE fa) (I0A hE fb) h k]
  ·exact(mixed (fun m q=>c' ⟨m,q⟩) fb ha hb).elim
 ·have hn:∀l,a≠.agg l:=fun l q=>c ⟨l,q⟩
  by_cases c':∃m,b=.agg m
  ·obtain⟨m,rfl⟩:=c'
   exact(mixed hn fa hb ha).elim
  ·exact R0z (A0P hE ha (B0A hn fa)).1 (A0P hE hb (B0A (fun m q=>c' ⟨m,q⟩) fb)).1
theorem EntRel.set(hE:EnvOk E P){es:List (AVal×AVal)}{ents:Array MapEntry}{clock:Nat}(H:EntRel E Γ kt es ents.toList clock){k a:AVal}{kv av:Value}(hk:VRel Γ k kv)(ha:VRel Γ a av)(hf:A0m E kt k=true)
  {j:Nat} {x:MapEntry} (hj:ents[j]?=some x) (hx:x.key=kv) {b:AVal} (hfk:D0D k es=some b):
  EntRel E Γ kt (setE k a es) (ents.modify j fun e=>{e with key:=kv,val:=av}).toList clock∧
   ∀seen since borns stepped,IterRel Γ es seen ents.toList since borns stepped→IterRel Γ (setE k a es) seen (ents.modify j fun e=>{e with key:=kv,val:=av}).toList since borns stepped:=by
 --the entries turned
 have hent:∀q,(ents.modify j fun e=>{e with key:=kv,val:=av}).toList[q]?=(ents.toList[q]?).map fun y=>if q=j then{y with key:=kv,val:=av} else y:=by
  intro q
  simp only[Array.getElem?_toList,Array.getElem?_modify]
  by_cases c:j=q
  ·subst c;simp[hj]
  ·rw[if_neg c]
   have c':¬(q=j):=fun z=>c z.symm
   cases ents[q]?<;>simp[c']
 have hlen:(ents.modify j fun e=>{e with key:=kv,val:=av}).toList.length=ents.toList.length:=by simp
 have hborn:(ents.modify j fun e=>{e with key:=kv,val:=av}).toList.map (·.born)=ents.toList.map (·.born):=by
  apply List.ext_getElem?
  intro q
  rw[List.getElem?_map,List.getElem?_map,hent q]
  cases ents.toList[q]? with
  |none=>rfl
  |some y=>by_cases c:q=j<;>simp[c]
 have hset:=U0y (k:=k) (v:=a) H.keys
 --any list in the entries' order that stands for them,turned,does so still
 have zips:∀l:List (AVal×AVal),l.Perm es→Zip Γ l ents.toList→(∃e,l[j]?=some e∧keq k e.1=true)∧Zip Γ (l.map (repl k a)) (ents.modify j fun e=>{e with key:=kv,val:=av}).toList:=by
  intro l hp hz
  have hfl:∀e∈l,A0m E kt e.1=true:=fun e he=>H.fits e (hp.mem_iff.1 he)
  have hpw:=H.perm_keys hp
  have hjl:j<l.length:=by
   have h1:=hz.1
   rcases Nat.lt_or_ge j l.length with z|z
   ·exact z
   ·rw[Array.getElem?_eq_none (by simp at h1;omega)] at hj;cases hj
  obtain⟨z1,z2⟩:=hz.2 j l[j] x (by simp[hjl]) (by simpa using hj)
  have hlk:l[j].1=k:=a0y hE (hfl _ (by simp)) hf (by rw[←hx];exact z1) hk
  have hkk:keq k l[j].1=true:=by rw[hlk];exact G0j hE hf
  have hm:=fun q=>R0y (v:=a) hE hpw hfl (j:=j) (e:=l[j]) (by simp[hjl]) hkk q
  refine⟨⟨l[j],by simp[hjl],hkk⟩,by simpa using hz.1,fun q e y h1 h2=>?_⟩
  rw[hm] at h1
  rw[hent] at h2
  by_cases c:q=j
  ·subst c
   rw[if_pos rfl] at h1;cases h1
   rw[Array.getElem?_toList,hj] at h2
   simp at h2
   subst h2
   exact⟨hk,ha⟩
  ·rw[if_neg c] at h1
   cases hy:ents.toList[q]? with
   |none=>rw[hy] at h2;cases h2
   |
    some y'=>
    rw[hy] at h2
    simp[c] at h2
    subst h2
    exact hz.2 q e _ h1 hy
 have old:∀(l:List (AVal×AVal))(q:Nat)(e:AVal×AVal)(y:MapEntry),(l.map (repl k a))[q]?=some e→(ents.modify j fun e=>{e with key:=kv,val:=av}).toList[q]?=some y→
   ∃e0 y0,l[q]?=some e0∧ents.toList[q]?=some y0∧e.1=e0.1∧y.born=y0.born∧(y.key=y0.key∨y.key=kv):=by
  intro l q e y h1 h2
  rw[List.getElem?_map] at h1
  rw[hent] at h2
  cases hl:l[q]? with
  |none=>rw[hl] at h1;cases h1
  |
   some e0=>
   rw[hl] at h1
   simp at h1
   cases hy:ents.toList[q]? with
   |none=>rw[hy] at h2;cases h2
   |
    some y0=>
    rw[hy] at h2
    simp at h2
    refine⟨e0,y0,rfl,rfl,by rw[←h1,L0d],?_,?_⟩
    ·by_cases c:q=j<;>simp[c] at h2<;>rw[←h2]
    ·by_cases c:q=j<;>simp[c] at h2<;>rw[←h2]<;>simp
 refine⟨⟨?_,?_,?_,?_,?_⟩,?_⟩
 ·obtain⟨l,hp,hz⟩:=H.zip
  exact⟨l.map (repl k a),by rw[hset];exact hp.map _,(zips l hp hz).2⟩
 ·rw[hset,List.pairwise_map]
  simpa only[L0d] using H.keys
 ·intro e he
  rw[hset] at he
  obtain⟨e0,h1,rfl⟩:=List.mem_map.1 he
  rw[L0d];exact H.fits e0 h1
 ·rw[hborn];exact H.borns
 ·intro y hy
  have :y.born∈ents.toList.map (·.born):=by rw[←hborn];exact List.mem_map.2 ⟨y,hy,rfl⟩
  obtain⟨y0,h1,h2⟩:=List.mem_map.1 this
  rw[←h2];exact H.old y0 h1
 ·rintro seen since borns stepped⟨l,hp,hz,h3,h4⟩
  obtain⟨⟨ej,hej,hkej⟩,hz'⟩:=zips l hp hz
  refine⟨l.map (repl k a),by rw[hset];exact hp.map _,hz',fun q e y h1 h2=>?_,?_⟩
  ·obtain⟨e0,y0,g1,g2,g3,g4,_⟩:=old l q e y h1 h2
   rw[g4,g3];exact h3 q e0 y0 g1 g2
  ·cases seen with
   |nil=>exact h4
   |
    cons q0 rest=>
    obtain⟨r0,q,e,y,r1,r2,r3,r4,r5⟩:=h4
    have hey:∃y',(ents.modify j fun e=>{e with key:=kv,val:=av}).toList[q]?=some y'∧y'.born=y.born∧VRel Γ q0 y'.key:=by
     rw[hent,r2]
     by_cases c:q=j
     ·subst c
      refine⟨_,rfl,by simp,?_⟩
      simp only[if_true]
      rw[hej] at r1;cases r1
      rw[F0F r3,←F0F hkej];exact hk
     ·exact⟨_,rfl,by simp[c],by simpa [c] using r4⟩
    obtain⟨y',y1,y2,y3⟩:=hey
    exact⟨r0,q,repl k a e,y',by rw[List.getElem?_map,r1];rfl,y1,by rw[L0d];exact r3,y3,by rw[y2];exact r5⟩
end
section
variable{P:Program}{E:Env}{base:Bs}{w0:World}{Γ:Gam}{w:World}{s:St}{t kt:TypeId}
theorem EntRel.push{es:List (AVal×AVal)}{ents:Array MapEntry}{clock:Nat}(H:EntRel E Γ kt es ents.toList clock){k a:AVal}{kv av:Value}(hk:VRel Γ k kv)(ha:VRel Γ a av)(hf:A0m E kt k=true)
  (hfk:D0D k es=none):EntRel E Γ kt (insE k a es) (ents.push {key:=kv,val:=av,born:=clock}).toList (clock+1):=by
 have hpm:=R0C k a es
 refine⟨?_,?_,?_,?_,?_⟩
 ·obtain⟨l,hp,hz⟩:=H.zip
  refine⟨l++[(k,a)],?_,by simp[hz.1],fun q e x h1 h2=>?_⟩
  ·exact(List.perm_append_comm.trans (hp.cons _)).trans hpm.symm
  ·have hl:=hz.1
   by_cases c:q<l.length
   ·rw[List.getElem?_append_left c] at h1
    rw[Array.toList_push,List.getElem?_append_left (by omega)] at h2
    exact hz.2 q e x h1 h2
   ·rw[List.getElem?_append_right (by omega)] at h1
    rw[Array.toList_push,List.getElem?_append_right (by omega)] at h2
    rw[hl] at h2
    cases hq:q-l.length with
    |zero=>rw[hq] at h1 h2;simp at h1 h2;subst h1;subst h2;exact⟨hk,ha⟩
    |succ n=>rw[hq] at h1;simp at h1
 ·refine hpm.symm.pairwise ?_ fun{_ _} h=>L0s h
  rw[List.pairwise_cons]
  exact⟨fun e he=>J0T hfk e he,H.keys⟩
 ·intro e he
  rcases List.mem_cons.1 (hpm.mem_iff.1 he) with q|q
  ·subst q;exact hf
  ·exact H.fits e q
 ·rw[Array.toList_push,List.map_append,List.nodup_append]
  refine⟨H.borns,by simp,fun x hx y hy=>?_⟩
  simp at hy
  obtain⟨e,he,rfl⟩:=List.mem_map.1 hx
  have :=H.old e he
  omega
 ·intro x hx
  rw[Array.toList_push] at hx
  rcases List.mem_append.1 hx with q|q
  ·have :=H.old x q;omega
  ·simp at q;subst q;simp
theorem V0f(hE:EnvOk E P){k:AVal}{v:Value}(hk:VRel Γ k v)(hf:A0m E kt k=true):∃d,P.underlying kt=some d:=by
 by_cases c:∃l,k=.agg l
 ·obtain⟨l,rfl⟩:=c
  rcases F0Q hE hf with⟨fs,h,_⟩|⟨n,e,h,_⟩<;>exact⟨_,h⟩
 ·obtain⟨_,ti,i,d,z,_,T,_⟩:=A0P hE hk (B0A (fun l q=>c ⟨l,q⟩) hf)
  exact⟨d,T.und⟩
theorem I0P(hE:EnvOk E P){a:AVal}{v:Value}(hf:A0m E kt a=true)(h:VRel Γ a v)(w:World):(Instr.keyThatStays v v).run P w=.ok v w:=by
 unfold Instr.keyThatStays
 rw[Z0x hE hf h 9999];rfl
theorem D0z(hE:EnvOk E P)(R:Rel E base w0 Γ s.h w)(fresh:Bool){x k a:AVal}{u kv av:Value}(hx:VRel Γ x u)(hk:VRel Γ k kv)(ha:VRel Γ a av)(g:(A0J E fresh t x k a s).Good):
  ∃s' w',A0J E fresh t x k a s=.ok .undef s'∧s'.nx=s.nx∧(Instr.mapUpdate t u kv av).run P w=.ok () w'∧Rel E base w0 Γ s'.h w':=by
 unfold A0J at g⊢
 obtain⟨ti,inf,d,z,hty,he,T⟩:=A0o hE (A0a g)
 rw[A0d he] at g⊢
 have hkd:=T.k
 cases hc:ti.k<;>rw[hc] at g hkd<;>simp only[] at g⊢<;>first
  |exact g.elim
  |skip
 case map kt et=>
 have hd:=C0u hkd.symm
 subst hd
 cases x<;>simp only[] at g⊢<;>first
  |exact g.elim
  |skip
 case map n=>
 unfold VRel at hx
 obtain⟨i,hi,rfl⟩:=hx
 obtain⟨hf,hr⟩:=A0i g
 rw[hr] at g⊢
 obtain⟨kt',es,clock,s1,ho,e1,q1⟩:=E0w (A0a g)
 rw[A0d e1] at g⊢
 obtain⟨hq,hr⟩:=A0i g
 rw[hr] at g⊢
 have :kt'=kt:=Nat.eq_of_beq_eq_true hq
 subst this
 have hn:=(R.dom n i hi).1
 obtain⟨i',hi',ents,hb,H⟩:=R.obj n _ hn ho
 rw[hi] at hi';cases hi'
 obtain⟨dk,hdk⟩:=V0f hE hk hf
 have hck:∀em w,(Instr.checkKey em 10000 kt' kv).run P w=.ok () w:=fun em w=>E0P hE hk hf em 9998
 have hob:∀c e f,Obj.map ents clock≠.cells c e f:=by intros;simp
 have hget:=MapKept.run_getObj_map (P:=P) hb
 rcases H.find (w:=w) hE hdk hk hf with⟨h1,h2⟩|⟨b,j,xe,h1,h2,h3,h4,h5⟩
 ·simp only[h1] at g⊢
  obtain⟨_,_,_,s2,ho2,e2,st2⟩:=O0y (A0a g)
  rw[A0d e2]
  have H':=H.push hk ha hf h1
  refine⟨s2,{w with heap:=w.heap.setIfInBounds i.b (.map (ents.push {key:=kv,val:=av,born:=clock}) (clock+1))},rfl,by rw[st2.nx,q1.nx],?_,?_⟩
  ·simp only[Instr.mapUpdate,Sem.run_bind,T.run_und,Result.andThen_ok,hget,hck,h2,MapKept.run_setObj_map (P:=P) _ hb]
  ·rw[st2.h,q1.h]
   refine R.turn (o':=.map kt' (insE k a es) (clock+1)) hi ho trivial trivial trivial hb hob ⟨i,hi,_,(MapKept.heap_set hb).1,H'⟩ (by intro _ _ _ _ _ _ _ _ _ _ _ _ _ h;cases h) ?_
   intro m since seen kt2 es2 clock2 j2 ents2 b2 borns stepped hm ne hm2 hj2 eo eob hit
   cases eo;cases eob
   obtain⟨z1,_⟩:=R.iter m n since seen _ es clock j2 i ents b2 borns stepped hm hn hm2 ho hj2 hi hit hb
   exact⟨by omega,fun z=>by omega⟩
 ·simp only[h1] at g⊢
  obtain⟨_,hr⟩:=A0i g
  rw[hr] at g⊢
  obtain⟨_,_,_,s2,ho2,e2,st2⟩:=O0y (A0a g)
  rw[A0d e2]
  have h3':ents[j]?=some xe:=by simpa using h3
  obtain⟨H',hI⟩:=H.set hE hk ha hf h3' h5 h1
  refine⟨s2,{w with heap:=w.heap.setIfInBounds i.b (.map (ents.modify j fun e=>{e with key:=kv,val:=av}) clock)},rfl,by rw[st2.nx,q1.nx],?_,?_⟩
  ·simp only[Instr.mapUpdate,Sem.run_bind,T.run_und,Result.andThen_ok,hget,hck,h2,h3',Option.map_some,Option.getD_some,h5,I0P hE hf hk,MapKept.run_setObj_map (P:=P) _ hb]
  ·rw[st2.h,q1.h]
   refine R.turn (o':=.map kt' (setE k a es) clock) hi ho trivial trivial trivial hb hob ⟨i,hi,_,(MapKept.heap_set hb).1,H'⟩ (by intro _ _ _ _ _ _ _ _ _ _ _ _ _ h;cases h) ?_
   intro m since seen kt2 es2 clock2 j2 ents2 b2 borns stepped hm ne hm2 hj2 eo eob hit
   cases eo;cases eob
   obtain⟨z1,z2⟩:=R.iter m n since seen _ es clock j2 i ents b2 borns stepped hm hn hm2 ho hj2 hi hit hb
   exact⟨z1,fun z=>hI _ _ _ _ (z2 z)⟩
theorem B0r(R:Rel E base w0 Γ s.h w){o:Nat→AObj}(hp:∀n,(o n).plain){ob:Obj}(lp:Loop)(g:(alloc o s).Good)
  (hO:∀Γ',Ext Γ Γ'→Γ' s.nx=some ⟨w.heap.size,0,0,0,lp⟩→ORel E Γ' {w with heap:=w.heap.push ob} s.nx (o s.nx))
  (hit:∀m since seen,o s.nx=.miter (some m) since seen→∀kt es clock j ents b borns stepped,m<LH→s.h.get m=some (.map kt es clock)→Γ m=some j→
   ob=.mapIter b since borns stepped→w.heap[j.b]?=some (.map ents clock)→since≤clock∧(clock=since→IterRel Γ es seen ents.toList since borns stepped))
  (hnm:∀k c m q l,o s.nx≠.mps k c m q l:=by intros;simp):
  ∃
   s',alloc o s=.ok s.nx s'∧s'.nx=s.nx+1∧∀N,s'.nx≤N→C0q Γ s.nx N→
   Got E base w0 Γ s N (Γ.add s.nx ⟨w.heap.size,0,0,0,lp⟩) s' {w with heap:=w.heap.push ob}:=by
 obtain⟨s',h1,h2,h3,h4⟩:=C0Q g
 refine⟨s',h2,h4,fun N hN hf=>?_⟩
 have hn:Γ s.nx=none:=hf s.nx (Nat.le_refl _) (by omega)
 have hx:Ext Γ (Γ.add s.nx ⟨w.heap.size,0,0,0,lp⟩):=Gam.ext_add hn
 refine⟨hx,fun n hn'=>Gam.add_ne (by omega),by omega,fun n a b=>?_,?_⟩
 ·rw[Gam.add_ne (by omega)];exact hf n (by omega) b
 ·rw[h3]
  refine R.alloc h1 hn _ rfl _ _ (hO _ hx Gam.add_at) ?_ hit hnm
  intro cs e frz root rel al h
  have :=hp s.nx
  rw[h] at this;exact this.elim
theorem M0N(hE:EnvOk E P)(R:Rel E base w0 Γ s.h w){ra:Option AVal}{rv:Option Value}(hr:G0I Γ ra rv)(g:(F0G E t ra s).Good):
  Makes E base w0 Γ s (F0G E t ra s) ((Instr.makeMap t rv).run P w):=by
 unfold F0G at g⊢
 obtain⟨ti,inf,d,z,hty,he,T⟩:=A0o hE (A0a g)
 rw[A0d he] at g⊢
 have hkd:=T.k
 cases hc:ti.k<;>rw[hc] at g hkd<;>simp only[] at g⊢<;>first
  |exact g.elim
  |skip
 case map kt et=>
 have hd:=C0u hkd.symm
 subst hd
 obtain⟨hq,hr'⟩:=A0i g
 rw[hr'] at g⊢
 obtain⟨s',e1,n1,f1⟩:=B0r (E:=E) (base:=base) (w0:=w0) (ob:=.map #[] 0) (o:=fun _=>.map kt [] 0) R (fun _=>trivial) default (A0a g)
  (fun Γ' _ h=>⟨_,h,#[],by simp,⟨⟨[],.refl _,rfl,by simp⟩,.nil,by simp,by simp,by simp⟩⟩) (by intro m since seen h;cases h)
 rw[A0d e1]
 refine⟨_,s',rfl,fun N hN hf=>⟨_,.map (some w.heap.size),_,?_,by unfold VRel;exact⟨_,Gam.add_at,rfl⟩,f1 N hN hf⟩⟩
 cases ra with
 |
  none=>
  have :rv=none:=hr
  subst this
  simp[Instr.makeMap]
 |
  some r=>
  obtain⟨v,rfl,hv⟩:=hr
  unfold V0n at hq
  cases r<;>simp only[Bool.false_eq_true] at hq
  unfold VRel at hv
  subst hv
  simp[Instr.makeMap,T.run_und,asInt,asIntOf]
end
section
variable{P:Program}{E:Env}{base:Bs}{w0:World}{Γ:Gam}{w:World}{s:St}{t kt:TypeId}
theorem J0d(hE:EnvOk E P)(R:Rel E base w0 Γ s.h w){a:AVal}{u:Value}(ha:VRel Γ a u)(g:(I0t E t a s).Good):
  Makes E base w0 Γ s (I0t E t a s) ((Instr.range t u).run P w):=by
 unfold I0t at g⊢
 obtain⟨ti,inf,d,z,hty,he,T⟩:=A0o hE (A0a g)
 rw[A0d he] at g⊢
 have hk:=T.k
 cases hc:ti.k<;>rw[hc] at g hk<;>simp only[] at g⊢<;>first
  |exact g.elim
  |skip
 case str=>
  have hd:=B0V hk.symm
  subst hd
  cases a<;>simp only[] at g⊢<;>first
   |exact g.elim
   |skip
  case str l=>
   unfold VRel at ha;subst ha
   obtain⟨s',e1,n1,f1⟩:=B0r (E:=E) (base:=base) (w0:=w0) (ob:=.stringIter ⟨l.toArray⟩ 0) (o:=fun _=>.siter false l 0) R (fun _=>trivial) default (A0a g)
    (fun Γ' _ h=>⟨_,h,by simp⟩) (by intro m since seen h;cases h)
   rw[A0d e1]
   refine⟨_,s',rfl,fun N hN hf=>⟨_,.pointer (some ⟨w.heap.size,0,none⟩),_,?_,by unfold VRel;exact⟨_,Gam.add_at,rfl⟩,f1 N hN hf⟩⟩
   simp[Instr.range,T.run_und]
  case ss b=>
   unfold VRel at ha;subst ha
   obtain⟨s',e1,n1,f1⟩:=B0r (E:=E) (base:=base) (w0:=w0) (ob:=.stringIter b 0) (o:=fun _=>.siter true b.data.toList 0) R (fun _=>trivial) default (A0a g)
    (fun Γ' _ h=>⟨_,h,by simp⟩) (by intro m since seen h;cases h)
   rw[A0d e1]
   refine⟨_,s',rfl,fun N hN hf=>⟨_,.pointer (some ⟨w.heap.size,0,none⟩),_,?_,by unfold VRel;exact⟨_,Gam.add_at,rfl⟩,f1 N hN hf⟩⟩
   simp[Instr.range,T.run_und]
 case map k e=>
  have hd:=C0u hk.symm
  subst hd
  cases a<;>simp only[] at g⊢<;>first
   |exact g.elim
   |skip
  case nilm=>
   unfold VRel at ha;subst ha
   obtain⟨s',e1,n1,f1⟩:=B0r (E:=E) (base:=base) (w0:=w0) (ob:=.mapIter none 0 #[] 0) (o:=fun _=>.miter none 0 []) R (fun _=>trivial) default (A0a g)
    (fun Γ' _ h=>⟨_,h,none,#[],0,by simp,rfl⟩) (by intro m since seen h;cases h)
   rw[A0d e1]
   refine⟨_,s',rfl,fun N hN hf=>⟨_,.pointer (some ⟨w.heap.size,0,none⟩),_,?_,by unfold VRel;exact⟨_,Gam.add_at,rfl⟩,f1 N hN hf⟩⟩
   simp[Instr.range,T.run_und]
  case map n=>
   obtain⟨kt,es,c,s1,ho,e1,q1⟩:=E0w (A0a g)
   rw[A0d e1] at g⊢
   unfold VRel at ha
   obtain⟨i,hi,rfl⟩:=ha
   obtain⟨i',hi',ents,hb,H⟩:=R.obj n _ (R.dom n i hi).1 ho
   rw[hi] at hi';cases hi'
   have R1:Rel E base w0 Γ s1.h w:=by rw[q1.h];exact R
   obtain⟨s',e2,n2,f2⟩:=B0r (E:=E) (base:=base) (w0:=w0) (ob:=.mapIter (some i.b) c #[] c) (o:=fun _=>.miter (some n) c []) R1 (fun _=>trivial) default (A0a g)
    (fun Γ' hx h=>⟨_,h,some i.b,#[],c,by simp,i,hx _ _ hi,rfl⟩) (by
     intro m since seen h kt2 es2 clock2 j ents2 b borns stepped hm hm2 hj eo hb2
     cases h;cases eo
     rw[hi] at hj;cases hj
     rw[hb] at hb2;cases hb2
     rw[q1.h,ho] at hm2;cases hm2
     refine⟨Nat.le_refl _,fun _=>?_⟩
     obtain⟨l,hp,hz⟩:=H.zip
     exact⟨l,hp,hz,fun k e x _ _=>by simp,rfl⟩)
   rw[A0d e2]
   refine⟨_,s',rfl,fun N hN hf=>⟨_,.pointer (some ⟨w.heap.size,0,none⟩),_,?_,by unfold VRel;exact⟨_,Gam.add_at,rfl⟩,Got.after q1 (f2 N hN (by rw[q1.nx];exact hf))⟩⟩
   simp[Instr.range,T.run_und,MapKept.run_getObj_map hb]
def Steps(E:Env)(base:Bs)(w0:World)(Γ:Gam)(s:St)(r:Res AVal)(run:Result Value):Prop:=
 ∃a s' v w',r.Has a s'∧s'.nx=s.nx∧run=.ok v w'∧VRel Γ a v∧Rel E base w0 Γ s'.h w'
theorem H0w{n:Nat}(hn:0<n)(w:World):∃c d,(choose (.mapNext n)).run P w=.ok c {w with drawn:=d}∧c<n:=by
 rw[run_choose]
 by_cases h:(Question.mapNext n).forced=true
 ·exact⟨0,w.drawn,by rw[if_pos h],hn⟩
 ·exact⟨_,w.drawn+1,by rw[if_neg h],by simp only[Question.cut];exact Nat.mod_lt _ hn⟩
theorem Q0X{l:List UInt8}{pos:Nat}{b:UInt8}(h:l[pos]?=some b)(hb:b.toNat<128):Utf8.decode ⟨l.toArray⟩ pos=(b.toNat,1):=by
 have hp:pos<l.length:=by
  rcases Nat.lt_or_ge pos l.length with q|q
  ·exact q
  ·rw[List.getElem?_eq_none q] at h;cases h
 have hg:((⟨l.toArray⟩:ByteArray).get! (pos+0))=b:=by
  rw[List.getElem?_eq_getElem hp] at h
  simp only[ByteArray.get!,Nat.add_zero]
  simp[hp]
  exact Option.some.inj h
 unfold Utf8.decode
 simp only[hg]
 rw[if_pos (by omega)]
theorem P0v(R:Rel E base w0 Γ s.h w){a:AVal}{u:Value}(ha:VRel Γ a u)(ty:TypeId)(g:(G0K a s).Good):Steps E base w0 Γ s (G0K a s) ((Instr.next u true ty).run P w):=by
 unfold G0K at g⊢
 split at g
 case h_2=>exact g.elim
 case h_1 n=>
 unfold VRel at ha
 obtain⟨i,hi,rfl⟩:=ha
 obtain⟨y,l,pos,s1,ho,e1,q1⟩:=Q0A (A0a g)
 rw[A0d e1] at g⊢
 simp only[] at g⊢
 have hn:=(R.dom n i hi).1
 obtain⟨i',hi',hb,h0⟩:=R.obj n _ hn ho
 rw[hi] at hi';cases hi'
 have hget:(getObj i.b).run P w=.ok (.stringIter ⟨l.toArray⟩ pos) w:=by simp[getObj,Sem.run,hb]
 have hsz:(⟨l.toArray⟩:ByteArray).size=l.length:=by simp[ByteArray.size]
 cases y with
 |
  true=>
  rw[A0e] at g⊢
  unfold U0i at g⊢
  cases hp:decide (pos<l.length) with
  |
   false=>
   rw[hp] at g
   have hp:=of_decide_eq_false hp
   refine⟨_,s1,.tuple #[.bool false],w,⟨rfl,rfl⟩,q1.nx,?_,by unfold VRel;exact⟨_,rfl,.cons (by unfold VRel;rfl) .nil⟩,by rw[q1.h];exact R⟩
   simp[Instr.next,h0,hget,hsz,hp]
  |
   true=>
   rw[hp] at g
   have hp:=of_decide_eq_true hp
   have g:(M.bind (wrSiter n l (B0H l pos)) (fun _=>M.pure (AVal.tup [.bool true,.si .i64 (.ofNat pos),.si .i32 (E0C l pos)])) s1).Good:=g
   obtain⟨y2,_,_,s2,ho2,e2,st2⟩:=K0P (A0a g)
   refine⟨.tup [.bool true,.si .i64 (.ofNat pos),.si .i32 (E0C l pos)],s2,.tuple #[.bool true,goInt pos,.int .i32 (E0C l pos)],{w with heap:=w.heap.setIfInBounds i.b (.stringIter ⟨l.toArray⟩ (B0H l pos))},?_,by rw[st2.nx,q1.nx],?_,?_,?_⟩
   ·show(M.bind (wrSiter n l (B0H l pos)) (fun _=>M.pure (AVal.tup [.bool true,.si .i64 (.ofNat pos),.si .i32 (E0C l pos)])) s1).Has _ _
    rw[A0d e2];exact⟨rfl,rfl⟩
   ·have hset:(setObj i.b (.stringIter ⟨l.toArray⟩ (B0H l pos))).run P w=.ok () {w with heap:=w.heap.setIfInBounds i.b (.stringIter ⟨l.toArray⟩ (B0H l pos))}:=by simp[setObj,Sem.run,hb]
    unfold B0H at hset
    simp[Instr.next,h0,hget,hsz,hp,hset,E0C,B0H]
   ·unfold VRel
    exact⟨_,rfl,.cons (by unfold VRel;rfl) (.cons (by unfold VRel;rfl) (.cons (by unfold VRel;rfl) .nil))⟩
   ·rw[st2.h,q1.h]
    rw[q1.h,ho] at ho2;cases ho2
    refine R.turn (o':=.siter true l (B0H l pos)) hi ho trivial trivial trivial hb (by intros;simp) ⟨i,hi,(MapKept.heap_set hb).1,h0⟩ (by intro _ _ _ _ _ _ _ _ _ _ _ _ _ h;cases h) (by intro _ _ _ _ _ _ _ _ _ _ _ _ _ _ _ h;cases h)
 |false=>
 rw[A0f] at g⊢
 simp only[E0Z] at g⊢
 cases hq:l[pos]? with
 |
  none=>
  have hp:¬(pos<l.length):=fun z=>by rw[List.getElem?_eq_getElem z] at hq;cases hq
  rw[hq] at g
  refine⟨_,s1,.tuple #[.bool false],w,⟨rfl,rfl⟩,q1.nx,?_,by unfold VRel;exact⟨_,rfl,.cons (by unfold VRel;rfl) .nil⟩,by rw[q1.h];exact R⟩
  simp[Instr.next,h0,hget,hsz,hp]
 |
  some b=>
  have hp:pos<l.length:=by
   rcases Nat.lt_or_ge pos l.length with z|z
   ·exact z
   ·rw[List.getElem?_eq_none z] at hq;cases hq
  rw[hq] at g
  simp only[] at g⊢
  obtain⟨hb128,hr⟩:=A0i g
  rw[hr] at g⊢
  have hb128:b.toNat<128:=by simpa [Nat.blt_eq] using hb128
  obtain⟨y2,_,_,s2,ho2,e2,st2⟩:=K0P (A0a g)
  rw[A0d e2]
  rw[q1.h,ho] at ho2;cases ho2
  have hdec:=Q0X hq hb128
  refine⟨_,s2,.tuple #[.bool true,goInt pos,.int .i32 b.toNat],{w with heap:=w.heap.setIfInBounds i.b (.stringIter ⟨l.toArray⟩ (pos+1))},⟨rfl,rfl⟩,by rw[st2.nx,q1.nx],?_,?_,?_⟩
  ·have hset:(setObj i.b (.stringIter ⟨l.toArray⟩ (pos+1))).run P w=.ok () {w with heap:=w.heap.setIfInBounds i.b (.stringIter ⟨l.toArray⟩ (pos+1))}:=by simp[setObj,Sem.run,hb]
   simp[Instr.next,h0,hget,hsz,hp,hdec,hset]
  ·unfold VRel
   exact⟨_,rfl,.cons (by unfold VRel;rfl) (.cons (by unfold VRel;rfl) (.cons (by unfold VRel;rfl) .nil))⟩
  ·rw[st2.h,q1.h]
   refine R.turn (o':=.siter false l (pos+1)) hi ho trivial trivial trivial hb (by intros;simp) ⟨i,hi,(MapKept.heap_set hb).1,h0⟩ (by intro _ _ _ _ _ _ _ _ _ _ _ _ _ h;cases h) (by intro _ _ _ _ _ _ _ _ _ _ _ _ _ _ _ h;cases h)
theorem N0O(R:Rel E base w0 Γ s.h w){n m:Nat}{i:Info}(hi:Γ n=some i){since:Nat}{seen:List AVal}(ho:s.h.get n=some (.miter (some m) since seen)){es:List (AVal×AVal)}{clock:Nat}(hm:s.h.get m=some (.map kt es clock))(hc:clock=since):
  i.o=0∧∃j ents borns stepped,m<LH∧Γ m=some j∧w.heap[i.b]?=some (.mapIter (some j.b) since borns stepped)∧w.heap[j.b]?=some (.map ents clock)∧EntRel E Γ kt es ents.toList clock∧IterRel Γ es seen ents.toList since borns stepped:=by
 have hn:=(R.dom n i hi).1
 obtain⟨i',hi',b,borns,stepped,⟨hb,h0⟩,j,hj,rfl⟩:=R.obj n _ hn ho
 rw[hi] at hi';cases hi'
 have hml:=(R.dom m j hj).1
 obtain⟨j',hj',ents,hbm,H⟩:=R.obj m _ hml hm
 rw[hj] at hj';cases hj'
 obtain⟨_,z⟩:=R.iter n m since seen kt es clock i j ents (some j.b) borns stepped hn hml ho hm hi hj hb hbm
 exact⟨h0,j,ents,borns,stepped,hml,hj,hb,hbm,H,z hc⟩
theorem L0f{ents:List MapEntry}(hn:(ents.map (·.born)).Nodup){p q:Nat}{x y:MapEntry}(hp:ents[p]?=some x)(hq:ents[q]?=some y)(h:x.born=y.born):p=q:=by
 have h1:(ents.map (·.born))[p]?=some x.born:=by rw[List.getElem?_map,hp];rfl
 have h2:(ents.map (·.born))[q]?=some x.born:=by rw[List.getElem?_map,hq,h];rfl
 have hpl:p<(ents.map (·.born)).length:=by
  rcases Nat.lt_or_ge p (ents.map (·.born)).length with z|z
  ·exact z
  ·rw[List.getElem?_eq_none z] at h1;cases h1
 exact(List.getElem?_inj hpl hn).1 (by rw[h1,h2])
theorem J0F(hE:EnvOk E P)(R:Rel E base w0 Γ s.h w){a:AVal}{u:Value}(ha:VRel Γ a u)(g:(H0T a s).Good):Reads Γ s (H0T a s) ((Instr.entry u).run P w) w:=by
 unfold H0T at g⊢
 split at g
 case h_2=>exact g.elim
 case h_1 n=>
 unfold VRel at ha
 obtain⟨i,hi,rfl⟩:=ha
 obtain⟨mo,since,seen,s1,ho,e1,q1⟩:=M0n (A0a g)
 rw[A0d e1] at g⊢
 simp only[] at g⊢
 cases mo with
 |none=>exact g.elim
 |
  some m=>
  cases seen with
  |nil=>exact g.elim
  |
   cons k rest=>
   simp only[] at g⊢
   obtain⟨kt,es,clock,s2,hm,e2,q2⟩:=E0w (A0a g)
   rw[A0d e2] at g⊢
   rw[q1.h] at hm
   obtain⟨hq,hr⟩:=A0i g
   rw[hr] at g⊢
   have hc:clock=since:=Nat.eq_of_beq_eq_true hq
   obtain⟨v,hv,e3⟩:=A0k (A0a g)
   rw[A0d e3]
   obtain⟨h0,j,ents,borns,stepped,hml,hj,hb,hbm,H,I⟩:=N0O R hi ho hm hc
   obtain⟨l,hp,hz,h3,hst,q,e,x,r1,r2,r3,r4,r5⟩:=I
   --the entry at which it stands
   have hfind:ents.find? (·.born==x.born)=some x:=by
    rw[←Array.find?_toList]
    have hx:x∈ents.toList:=List.mem_of_getElem? r2
    cases hf:ents.toList.find? (·.born==x.born) with
    |none=>have :=List.find?_eq_none.1 hf x hx;simp at this
    |
     some y=>
     have hy:=List.mem_of_find?_eq_some hf
     have hyb:y.born=x.born:=by simpa using List.find?_some hf
     obtain⟨p,hpl,rfl⟩:=List.mem_iff_getElem.1 hy
     have :p=q:=L0f H.borns (x:=ents.toList[p]) (by simp) r2 hyb
     subst this
     rw[List.getElem?_eq_getElem hpl] at r2
     exact r2
   have hke:=F0F r3
   obtain⟨z1,z2⟩:=hz.2 q e x r1 r2
   have hve:e.2=v:=by
    obtain⟨e',he',hk',rfl⟩:=H0p hv
    have :=J0q hE H.keys H.fits e (hp.mem_iff.1 (List.mem_of_getElem? r1)) e' he' (by rw[←hke,←F0F hk'])
    rw[this]
   refine⟨_,s2,.tuple #[x.key,x.val],rfl,q1.trans q2,?_,?_⟩
   ·have hget:(getObj i.b).run P w=.ok (.mapIter (some j.b) since borns stepped) w:=by simp[getObj,Sem.run,hb]
    simp[Instr.entry,h0,hget,r5,MapKept.run_getObj_map hbm,hst,hc,hfind]
   ·unfold VRel
    exact⟨_,rfl,.cons r4 (.cons (by rw[←hve];exact z2) .nil)⟩
end
section
variable{P:Program}{E:Env}{base:Bs}{w0:World}{Γ:Gam}{w:World}{s:St}{t kt:TypeId}
theorem L0Z{α:Type}:∀{l:List (M α)}{s:St},(branch l s).Good→∀m∈l,(m s).Good
 |[],_,h,_,_=>h.elim
 |[m],_,h,m',hm=>by simp at hm;subst hm;exact h
 |
  m::m2::l,s,h,m',hm=>by
  have h:(Res.br (m s) (branch (m2::l) s)).Good:=h
  rcases List.mem_cons.1 hm with q|q
  ·subst q;exact h.1
  ·exact L0Z h.2 m' q
theorem O0u{α:Type}{a:α}{s':St}:∀{l:List (M α)}{s:St}(m:M α),m∈l→(m s).Has a s'→(branch l s).Has a s'
 |[],_,_,h,_=>by cases h
 |[m],_,m',hm,h=>by simp at hm;subst hm;exact h
 |
  m::m2::l,s,m',hm,h=>by
  show(Res.br (m s) (branch (m2::l) s)).Has a s'
  rcases List.mem_cons.1 hm with q|q
  ·subst q;exact .inl h
  ·exact .inr (O0u m' q h)
theorem Rel.letGo{h:Tr AObj}(R:Rel E base w0 Γ h w){n:Nat}(hn:n<LH){o:AObj}(ho:h.get n=some o)(hp:o.plain):Rel E base w0 Γ (h.set n .done) w:=by
 refine R.weak (A0j _ DH h n R.deep) (G0q R.deep hn ho (.inr (.inr (.inl rfl)))) ?_ ?_
 ·intro m cs e frz root rel al hm h1 cs' e' frz' d' root' rel' al' hr h2
  rw[R.gs n _ hn m hm] at h1
  rw[R.gs n _ hn root hr] at h2
  by_cases c:m=n
  ·rw[if_pos c] at h1;cases h1
  ·rw[if_neg c] at h1
   by_cases c':root=n
   ·rw[if_pos c'] at h2;cases h2
   ·rw[if_neg c'] at h2
    exact R.fam m cs e frz root rel al hm h1 _ _ _ _ _ _ _ h2
 ·intro m cs e frz d root rel al hm h1
  rw[R.gs n _ hn m hm] at h1
  by_cases c:m=n
  ·rw[if_pos c] at h1;cases h1
  ·rw[if_neg c] at h1
   obtain⟨_,_,_,⟨_,q⟩,_⟩:=R.obj m _ hm h1;exact q
theorem R0F{seen:List AVal}{a b:AVal}:((a::seen).any fun q=>keq q b)=(keq a b||seen.any fun q=>keq q b):=by simp
set_option maxHeartbeats 1000000 in
theorem K0H(hE:EnvOk E P)(R:Rel E base w0 Γ s.h w)(det:Bool){a:AVal}{u:Value}(ha:VRel Γ a u)(ty:TypeId)(g:(N0g det a s).Good):
  Steps E base w0 Γ s (N0g det a s) ((Instr.next u false ty).run P w):=by
 unfold N0g at g⊢
 split at g
 case h_2=>exact g.elim
 case h_1 n=>
 unfold VRel at ha
 obtain⟨i,hi,rfl⟩:=ha
 obtain⟨mo,since,seen,s1,ho,e1,q1⟩:=M0n (A0a g)
 rw[A0d e1] at g⊢
 simp only[] at g⊢
 have hn:=(R.dom n i hi).1
 cases mo with
 |
  none=>
  obtain⟨i',hi',b,borns,stepped,⟨hb,h0⟩,rfl⟩:=R.obj n _ hn ho
  rw[hi] at hi';cases hi'
  have hget:(getObj i.b).run P w=.ok (.mapIter none since borns stepped) w:=by simp[getObj,Sem.run,hb]
  refine⟨_,s1,.tuple #[.bool false],w,⟨rfl,rfl⟩,q1.nx,?_,by unfold VRel;exact⟨_,rfl,.cons (by unfold VRel;rfl) .nil⟩,by rw[q1.h];exact R⟩
  simp[Instr.next,h0,hget]
 |
  some m=>
  simp only[] at g⊢
  obtain⟨kt,es,clock,s2,hm,e2,q2⟩:=E0w (A0a g)
  rw[A0d e2] at g⊢
  rw[q1.h] at hm
  obtain⟨hq,hr⟩:=A0i g
  rw[hr] at g⊢
  simp only[] at hq g⊢
  have hc:clock=since:=Nat.eq_of_beq_eq_true hq
  subst hc
  obtain⟨h0,j,ents,borns,stepped,hml,hj,hb,hbm,H,I⟩:=N0O R hi ho hm rfl
  obtain⟨l,hp,hz,h3,hst⟩:=I
  have hget:(getObj i.b).run P w=.ok (.mapIter (some j.b) clock borns stepped) w:=by simp[getObj,Sem.run,hb]
  have hgetm:=MapKept.run_getObj_map (P:=P) hbm
  have h2h:s2.h=s.h:=by rw[q2.h,q1.h]
  have n2:s2.nx=s.nx:=by rw[q2.nx,q1.nx]
  --no iteration over entries that came behind a clearing
  have chk:(!borns.isEmpty&&!ents.isEmpty&&ents.all (fun x=>decide (x.born≥stepped)))=false:=by
   cases seen with
   |nil=>rw[show borns=#[] from hst];rfl
   |
    cons q rest=>
    obtain⟨hst,_⟩:=hst
    rw[hst]
    cases he:ents.isEmpty with
    |true=>simp
    |
     false=>
     have h1:0<ents.size:=by
      rcases Nat.eq_zero_or_pos ents.size with z|z
      ·have :ents=#[]:=Array.eq_empty_of_size_eq_zero z
       rw[this] at he;cases he
      ·exact z
     have h4:(ents.all fun x=>decide (x.born≥clock))=false:=by
      rw[Array.all_eq_false]
      refine⟨0,h1,?_⟩
      have :=H.old ents[0] (by simp)
      simp;omega
     rw[h4];simp
  have hold:∀x∈(ents.filter fun x=>!borns.contains x.born),x.born<clock:=fun x hx=>H.old x (by simpa using(Array.mem_filter.1 hx).1)
  have hF1:(ents.filter fun x=>!borns.contains x.born).filter (fun x=>decide (x.born<clock))=ents.filter fun x=>!borns.contains x.born:=by
   rw[Array.filter_eq_self]
   exact fun x hx=>by simpa using hold x hx
  have hF2:(ents.filter fun x=>!borns.contains x.born).filter (fun x=>decide (x.born≥clock))=#[]:=by
   rw[Array.filter_eq_empty_iff]
   exact fun x hx=>by have :=hold x hx;simp;omega
  --an entry that is left is told so
  have toldL:∀x∈(ents.filter fun x=>!borns.contains x.born),∃(k:Nat)(e:AVal×AVal),l[k]?=some e∧ents.toList[k]?=some x∧e∈R0W seen es:=by
   intro x hx
   obtain⟨hx1,hx2⟩:=Array.mem_filter.1 hx
   obtain⟨k,hk,hkx⟩:=List.mem_iff_getElem.1 (Array.mem_toList_iff.2 hx1)
   have hkl:k<l.length:=by have :=hz.1;omega
   have g1:l[k]?=some l[k]:=by simp[hkl]
   have g2:ents.toList[k]?=some x:=by rw[List.getElem?_eq_getElem hk,hkx]
   refine⟨k,l[k],g1,g2,?_⟩
   unfold R0W
   rw[List.mem_filter]
   refine⟨hp.mem_iff.1 (by simp),?_⟩
   rw[←h3 k _ x g1 g2]
   exact hx2
  have steps:∀(k:Nat)(e:AVal×AVal)(x:MapEntry),l[k]?=some e→ents.toList[k]?=some x→(E0m n m clock seen e s2).Good→∀d,
    ∃
     s',E0m n m clock seen e s2=.ok (.tup [.bool true,e.1,e.2]) s'∧s'.nx=s.nx∧VRel Γ (.tup [.bool true,e.1,e.2]) (.tuple #[.bool true,x.key,x.val])∧
     Rel E base w0 Γ s'.h {w with drawn:=d,heap:=w.heap.setIfInBounds i.b (.mapIter (some j.b) clock (borns.push x.born) clock)}:=by
   intro k e x hk hx g d
   unfold E0m at g⊢
   obtain⟨_,_,_,s3,ho3,e3,st3⟩:=T0l (A0a g)
   rw[A0d e3]
   obtain⟨z1,z2⟩:=hz.2 k e x hk hx
   refine⟨s3,rfl,by rw[st3.nx,n2],by unfold VRel;exact⟨_,rfl,.cons (by unfold VRel;rfl) (.cons z1 (.cons z2 .nil))⟩,?_⟩
   rw[st3.h,h2h]
   refine Rel.drawn (Rel.turn (o':=.miter (some m) clock (e.1::seen)) R hi ho trivial trivial trivial hb (by intros;simp) ⟨i,hi,some j.b,borns.push x.born,clock,⟨(MapKept.heap_set hb).1,h0⟩,j,hj,rfl⟩ ?_ (by intro _ _ _ _ _ _ _ _ _ _ _ _ _ _ _ h;cases h)) d
   intro q since2 seen2 kt2 es2 clock2 k2 ents2 b2 borns2 stepped2 hq hne eo hq2 hk2 eob hb2
   cases eo;cases eob
   rw[hm] at hq2;cases hq2
   rw[hj] at hk2;cases hk2
   rw[hbm] at hb2;cases hb2
   refine⟨Nat.le_refl _,fun _=>⟨l,hp,hz,?_,rfl,k,e,x,hk,hx,G0j hE (H.fits e (hp.mem_iff.1 (List.mem_of_getElem? hk))),z1,by simp⟩⟩
   intro k' e' x' hk' hx'
   rw[R0F,←h3 k' e' x' hk' hx']
   have same:(x'.born==x.born)=keq e.1 e'.1:=by
    by_cases c:k'=k
    ·subst c
     rw[hk] at hk';cases hk'
     rw[hx] at hx';cases hx'
     rw[G0j hE (H.fits e (hp.mem_iff.1 (List.mem_of_getElem? hk)))];simp
    ·have h5:(x'.born==x.born)=false:=by
      rw[beq_eq_false_iff_ne]
      exact fun q=>c (L0f H.borns hx' hx q)
     rw[h5]
     cases hke:keq e.1 e'.1 with
     |false=>rfl
     |
      true=>
      exfalso
      have h6:=J0q hE H.keys H.fits e (hp.mem_iff.1 (List.mem_of_getElem? hk)) e' (hp.mem_iff.1 (List.mem_of_getElem? hk')) (F0F hke)
      subst h6
      have hpw:=H.perm_keys hp
      rw[List.pairwise_iff_getElem] at hpw
      have self:=G0j hE (H.fits e (hp.mem_iff.1 (List.mem_of_getElem? hk)))
      obtain⟨hkl,g1⟩:=List.getElem?_eq_some_iff.1 hk
      obtain⟨hkl',g2⟩:=List.getElem?_eq_some_iff.1 hk'
      rcases Nat.lt_or_gt_of_ne c with z|z
      ·have :=hpw k' k hkl' hkl z
       rw[g1,g2,self] at this;cases this
      ·have :=hpw k k' hkl hkl' z
       rw[g1,g2,self] at this;cases this
   have hcp:(borns.push x.born).contains x'.born=(borns.contains x'.born||(x'.born==x.born)):=by
    rw[Bool.eq_iff_iff];simp[Array.mem_push]
   rw[hcp,same,Bool.or_comm]
  --the model's own step
  have runE:(ents.filter fun x=>!borns.contains x.born)=#[]→∃d,(Instr.next (.pointer (some ⟨i.b,i.o+0,none⟩)) false ty).run P w=.ok (.tuple #[.bool false]) {w with drawn:=d}:=by
   intro hem
   obtain⟨c,d,hch,hcl⟩:=H0w (P:=P) (n:=1) (by omega) w
   have :c=0:=by omega
   subst this
   refine⟨d,?_⟩
   simp only[Instr.next,h0,Nat.zero_add,Nat.add_zero,Sem.run_bind,hget,Result.andThen_ok,hgetm,chk,Bool.false_eq_true,if_false,Sem.run_pure,hem]
   simp[hch]
  have runS:(ents.filter fun x=>!borns.contains x.born)≠#[]→∃d x,x∈(ents.filter fun x=>!borns.contains x.born)∧(Instr.next (.pointer (some ⟨i.b,i.o+0,none⟩)) false ty).run P w=
    .ok (.tuple #[.bool true,x.key,x.val]) {w with drawn:=d,heap:=w.heap.setIfInBounds i.b (.mapIter (some j.b) clock (borns.push x.born) clock)}:=by
   intro hem
   have hpos:0<(ents.filter fun x=>!borns.contains x.born).size:=by
    rcases Nat.eq_zero_or_pos (ents.filter fun x=>!borns.contains x.born).size with z|z
    ·exact absurd (Array.eq_empty_of_size_eq_zero z) hem
    ·exact z
   have hne:(ents.filter fun x=>!borns.contains x.born).isEmpty=false:=by
    cases h:(ents.filter fun x=>!borns.contains x.born).isEmpty with
    |false=>rfl
    |true=>exact absurd (Array.isEmpty_iff.1 h) hem
   obtain⟨c,d,hch,hcl⟩:=H0w (P:=P) hpos w
   refine⟨d,(ents.filter fun x=>!borns.contains x.born)[c],by simp,?_⟩
   have hset:∀o,(setObj i.b o).run P {w with drawn:=d}=.ok () {w with drawn:=d,heap:=w.heap.setIfInBounds i.b o}:=by intro o;simp[setObj,Sem.run,hb]
   have hcand:((#[]:Array (Option MapEntry))++((ents.filter fun x:MapEntry=>!borns.contains x.born)++#[]).map some).size=(ents.filter fun x:MapEntry=>!borns.contains x.born).size:=by simp
   have hget2:((#[]:Array (Option MapEntry))++((ents.filter fun x:MapEntry=>!borns.contains x.born)++#[]).map some)[c]?=some (some ((ents.filter fun x:MapEntry=>!borns.contains x.born)[c]'hcl)):=by simp[hcl]
   simp only[Instr.next,h0,Nat.zero_add,Nat.add_zero,Sem.run_bind,hget,Result.andThen_ok,hgetm,chk,Bool.false_eq_true,if_false,Sem.run_pure,hF1,hF2,hne,hcand,hch,hget2,hset]
  by_cases hem:(ents.filter fun x=>!borns.contains x.born)=#[]
  ·obtain⟨d,hrun⟩:=runE hem
   have hL:R0W seen es=[]:=by
    cases hL:R0W seen es with
    |nil=>rfl
    |
     cons e rest=>
     exfalso
     have he:e∈R0W seen es:=by rw[hL];simp
     unfold R0W at he
     rw[List.mem_filter] at he
     obtain⟨k,hk,hke⟩:=List.mem_iff_getElem.1 (hp.mem_iff.2 he.1)
     have hkl:k<ents.toList.length:=by have :=hz.1;omega
     have g1:l[k]?=some e:=by rw[List.getElem?_eq_getElem hk,hke]
     have g2:ents.toList[k]?=some ents.toList[k]:=by simp
     have h5:=h3 k e _ g1 g2
     have :ents.toList[k]∈(ents.filter fun x=>!borns.contains x.born):=by
      rw[Array.mem_filter]
      exact⟨by simp,by rw[h5];exact he.2⟩
     rw[hem] at this;simp at this
   rw[hL] at g⊢
   simp only[] at g⊢
   obtain⟨_,_,_,s3,ho3,e3,st3⟩:=T0i (A0a g)
   rw[A0d e3]
   refine⟨_,s3,_,_,⟨rfl,rfl⟩,by rw[st3.nx,n2],hrun,by unfold VRel;exact⟨_,rfl,.cons (by unfold VRel;rfl) .nil⟩,?_⟩
   rw[st3.h,h2h]
   exact(R.letGo hn ho trivial).drawn d
  ·obtain⟨d,x,hx,hrun⟩:=runS hem
   obtain⟨k,e,hk,hkx,hel⟩:=toldL x hx
   cases hL:R0W seen es with
   |nil=>rw[hL] at hel;cases hel
   |
    cons e1' rest=>
    rw[hL] at g hel
    cases rest with
    |
     nil=>
     simp at hel
     subst hel
     simp only[] at g⊢
     obtain⟨s',k1,k2,k3,k4⟩:=steps k e x hk hkx g d
     exact⟨_,s',_,_,by rw[k1];exact⟨rfl,rfl⟩,k2,hrun,k3,k4⟩
    |
     cons e2' rest=>
     simp only[] at g⊢
     obtain⟨hdet,hr⟩:=A0i g
     rw[hr] at g⊢
     have hmem:E0m n m clock seen e∈(e1'::e2'::rest).map (E0m n m clock seen):=List.mem_map.2 ⟨e,hel,rfl⟩
     obtain⟨s',k1,k2,k3,k4⟩:=steps k e x hk hkx (L0Z g _ hmem) d
     exact⟨_,s',_,_,O0u _ hmem (by rw[k1];exact⟨rfl,rfl⟩),k2,hrun,k3,k4⟩
end
section
variable{fz:Nat→Option Obj}{k v c:Univ.C}
theorem LRel.one{cl:Cell Univ.C Univ.S}{u:Value}:LRel fz [cl] [u]↔CRel fz cl u:=by
  constructor
  · intro h
    obtain⟨w,h1,h2⟩:=h.2 0 cl rfl
    cases h1;exact h2
  · intro h
    refine⟨rfl,fun i x e=>?_⟩
    cases i with
    |zero=>cases e;exact⟨u,rfl,h⟩
    |succ i=>simp at e
theorem D0H(hc:Univ.agg c=false)(x:Univ.S c):∃cl,Univ.cells c x=[cl]:=by
  have :=Univ.len c x
  rw[Univ.agg_ok c hc] at this
  exact List.length_eq_one_iff.1 this
theorem DRel.agg(hc:Univ.agg c=true){x:Univ.S c}{u:Value}:DRel fz c x u↔∃vs,u=.agg vs∧LRel fz (Univ.cells c x) vs.toList:=by
  unfold DRel;rw[hc]
theorem DRel.one(hc:Univ.agg c=false){x:Univ.S c}{u:Value}{cl:Cell Univ.C Univ.S}(hx:Univ.cells c x=[cl]):DRel fz c x u↔CRel fz cl u:=by
  unfold DRel;rw[hc,hx];exact LRel.one
theorem LRel.rels{Γ:Gam}(f:Cell Univ.C Univ.S→AVal)(hf:∀cl u,CRel Γ.fz cl u→VRel Γ (f cl) u){cs:List (Cell Univ.C Univ.S)}{vs:List Value}(h:LRel Γ.fz cs vs):VRels Γ (map1 f cs) vs:=by
  have e:map1 f cs=cs.map f:=C0m f cs
  rw[e]
  refine VRels.of_get (by rw[List.length_map];exact h.1) fun i a ha=>?_
  rw[List.getElem?_map] at ha
  cases hc:cs[i]? with
  |none=>rw[hc] at ha;cases ha
  |
    some cl=>
    rw[hc] at ha;cases ha
    obtain⟨u,h1,h2⟩:=h.2 i cl hc
    exact⟨u,h1,hf cl u h2⟩
theorem H0z{Γ:Gam}{x:Univ.S c}{u:Value}(h:DRel Γ.fz c x u):VRel Γ (mval c x) u:=by
  unfold mval
  cases hc:Univ.agg c with
  |
    true=>
    obtain⟨vs,rfl,h1⟩:=(DRel.agg hc).1 h
    rw[A0e];unfold VRel
    exact⟨vs,rfl,h1.rels _ fun _ _=>H0q⟩
  |
    false=>
    obtain⟨cl,hx⟩:=D0H hc x
    rw[A0f,hx]
    exact H0q ((DRel.one hc hx).1 h)
theorem U0r{Γ:Gam}{cl:Cell Univ.C Univ.S}{u:Value}(h:CRel Γ.fz cl u):VRel Γ (litC cl) u:=by
  cases h with
  |b x=>unfold litC VRel;rfl
  |i k x=>unfold litC VRel;rfl
  |s x=>unfold litC VRel;rfl
  |f n=>unfold litC VRel;trivial
  |nil c A cap=>unfold litC VRel;trivial
  |sl c l b o cap C e z g hb hc hg h=>unfold litC VRel;trivial
theorem C0v{Γ:Gam}{x:Univ.S c}{u:Value}(h:DRel Γ.fz c x u):VRel Γ (litV c x) u:=by
  unfold litV
  cases hc:Univ.agg c with
  |
    true=>
    obtain⟨vs,rfl,h1⟩:=(DRel.agg hc).1 h
    rw[A0e];unfold VRel
    exact⟨vs,rfl,h1.rels _ fun _ _=>U0r⟩
  |
    false=>
    obtain⟨cl,hx⟩:=D0H hc x
    rw[A0f,hx]
    exact U0r ((DRel.one hc hx).1 h)
theorem CRel.fn{cl:Cell Univ.C Univ.S}(hs:cl.scal=true){u w:Value}(h:CRel fz cl u)(q:CRel fz cl w):u=w:=by
  cases h<;>first
    |(cases q;rfl)
    |cases hs
theorem CRel.back{cl cl':Cell Univ.C Univ.S}(hs:cl.scal=true)(hs':cl'.scal=true){u:Value}(h:CRel fz cl u)(q:CRel fz cl' u):cl=cl':=by
  cases h<;>first
    |(cases q<;>first|rfl|cases hs')
    |cases hs
theorem LRel.fn{cs:List (Cell Univ.C Univ.S)}(hs:∀cl∈cs,cl.scal=true){us ws:List Value}(h:LRel fz cs us)(q:LRel fz cs ws):us=ws:=by
  apply List.ext_getElem?
  intro i
  cases hc:cs[i]? with
  |
    none=>
    rw[List.getElem?_eq_none_iff] at hc
    rw[List.getElem?_eq_none (by rw[h.1];exact hc),List.getElem?_eq_none (by rw[q.1];exact hc)]
  |
    some cl=>
    obtain⟨u,h1,h2⟩:=h.2 i cl hc
    obtain⟨w,q1,q2⟩:=q.2 i cl hc
    rw[h1,q1,h2.fn (hs cl (List.mem_of_getElem? hc)) q2]
theorem LRel.back{cs ds:List (Cell Univ.C Univ.S)}(hs:∀cl∈cs,cl.scal=true)(hd:∀cl∈ds,cl.scal=true){us:List Value}(h:LRel fz cs us)(q:LRel fz ds us):cs=ds:=by
  apply List.ext_getElem?
  intro i
  have hl:cs.length=ds.length:=h.1.symm.trans q.1
  cases hc:cs[i]? with
  |
    none=>
    rw[List.getElem?_eq_none_iff] at hc
    rw[List.getElem?_eq_none (by omega)]
  |
    some cl=>
    have hi:i<ds.length:=by
      have :=(List.getElem?_eq_some_iff.1 hc).1;omega
    obtain⟨u,h1,h2⟩:=h.2 i cl hc
    obtain⟨w,q1,q2⟩:=q.2 i ds[i] (by simp[hi])
    rw[h1] at q1;cases q1
    rw[h2.back (hs cl (List.mem_of_getElem? hc)) (hd _ (by simp)) q2]
    simp[hi]
theorem DRel.fn(hk:Univ.flat k=true){a:Univ.S k}{u w:Value}(h:DRel fz k a u)(q:DRel fz k a w):u=w:=by
  have hs:=Univ.flat_ok k a hk
  cases hc:Univ.agg k with
  |
    true=>
    obtain⟨us,rfl,h1⟩:=(DRel.agg hc).1 h
    obtain⟨ws,rfl,q1⟩:=(DRel.agg hc).1 q
    have :=h1.fn hs q1
    rw[show us=ws from by rw[←Array.toList_inj];exact this]
  |
    false=>
    obtain⟨cl,hx⟩:=D0H hc a
    exact((DRel.one hc hx).1 h).fn (hs cl (by rw[hx];simp)) ((DRel.one hc hx).1 q)
theorem DRel.back(hk:Univ.flat k=true){a b:Univ.S k}{u:Value}(h:DRel fz k a u)(q:DRel fz k b u):a=b:=by
  apply Univ.inj
  have hs:=Univ.flat_ok k a hk
  have hs':=Univ.flat_ok k b hk
  cases hc:Univ.agg k with
  |
    true=>
    obtain⟨us,rfl,h1⟩:=(DRel.agg hc).1 h
    obtain⟨ws,e,q1⟩:=(DRel.agg hc).1 q
    cases e
    exact h1.back hs hs' q1
  |
    false=>
    obtain⟨cl,hx⟩:=D0H hc a
    obtain⟨cl',hx'⟩:=D0H hc b
    rw[hx,hx',((DRel.one hc hx).1 h).back (hs cl (by rw[hx];simp)) (hs' cl' (by rw[hx'];simp)) ((DRel.one hc hx').1 q)]
end
section
variable{P:Program}{E:Env}{base:Bs}{w0:World}{Γ:Gam}{w:World}{s:St}{t kt:TypeId}{k v:Univ.C}
theorem O0N{x y:Cell Univ.C Univ.S}(h:x.kd=y.kd):B0k E t (litC x)=B0k E t (litC y):=by
  cases x<;>cases y<;>simp only[Cell.kd,reduceCtorEq,CK.i.injEq] at h<;>first
    |
      (subst h;unfold B0k litC;cases E.tyOf t with
      |none=>rfl
      |some ti=>cases hk:ti.k<;>simp[hk])
    |
      (unfold B0k litC;cases E.tyOf t with
      |none=>rfl
      |some ti=>cases hk:ti.k<;>simp[hk])
theorem S0l:∀{fs:List FI}{i:Nat}{xs ys:List (Cell Univ.C Univ.S)},xs.map Cell.kd=ys.map Cell.kd→B0o E i fs (xs.map litC)=B0o E i fs (ys.map litC)
  |[],i,[],[],_=>rfl
  |[],i,_::_,_::_,_=>rfl
  |_::_,i,[],[],_=>rfl
  |
    f::fs,i,x::xs,y::ys,h=>by
    simp only[List.map_cons,List.cons.injEq] at h
    simp only[List.map_cons,B0o,O0N h.1,S0l h.2]
  |_,i,[],_::_,h=>by simp at h
  |_,i,_::_,[],h=>by simp at h
theorem O0b:∀{xs ys:List (Cell Univ.C Univ.S)},xs.map Cell.kd=ys.map Cell.kd→(xs.map litC).all (B0k E t)=(ys.map litC).all (B0k E t)
  |[],[],_=>rfl
  |
    x::xs,y::ys,h=>by
    simp only[List.map_cons,List.cons.injEq] at h
    simp only[List.map_cons,List.all_cons,O0N h.1,O0b h.2]
  |[],_::_,h=>by simp at h
  |_::_,[],h=>by simp at h
theorem V0w(x:Cell Univ.C Univ.S):∀l,litC x≠.agg l:=by intro l h;cases x<;>cases h
theorem T0I{a:AVal}(hn:∀l,a≠.agg l):A0m E t a=B0k E t a:=by
  cases a<;>first|rfl|exact absurd rfl (hn _)
theorem F0a(h:P0Y E kt k=true)(a:Univ.S k):A0m E kt (litV k a)=true:=by
  unfold P0Y at h
  have hu:=Univ.uni k a (Univ.dflt k)
  unfold litV at h⊢
  cases hc:Univ.agg k with
  |
    true=>
    rw[hc,A0e,C0m] at h
    rw[A0e,C0m]
    rw[←h]
    unfold A0m
    cases E.tyOf kt with
    |none=>rfl
    |
      some ti=>
      cases hk:ti.k<;>simp only[hk]
      · rw[O0b hu,A0O,A0O,List.length_map,List.length_map,Univ.len,Univ.len]
      · rw[S0l hu]
  |
    false=>
    obtain⟨cl,hx⟩:=D0H hc a
    obtain⟨cl',hx'⟩:=D0H hc (Univ.dflt k)
    rw[hc,A0f,hx'] at h
    rw[A0f,hx]
    rw[hx,hx'] at hu
    simp only[List.map_cons,List.map_nil,List.cons.injEq,and_true] at hu
    simp only[] at h⊢
    rw[T0I (V0w _)] at h⊢
    rw[O0N hu];exact h
theorem MRelG.told{β:Type}{VR:β→Value→Prop}{m:Univ.S k→Option β}:∀{ents:List MapEntry},(∀x∈ents,∃a b,m a=some b∧DRel Γ.fz k a x.key∧VR b x.val)→
    ∃es,Zip Γ es ents∧∀(j:Nat)(e:AVal×AVal),es[j]?=some e→∃x a b,ents[j]?=some x∧e=(litV k a,.any)∧m a=some b∧DRel Γ.fz k a x.key∧VR b x.val
  |[],_=>⟨[],⟨rfl,by simp⟩,by simp⟩
  |
    x::ents,h=>by
    obtain⟨es,z,q⟩:=MRelG.told (ents:=ents) fun y hy=>h y (by simp[hy])
    obtain⟨a,b,h1,h2,h3⟩:=h x (by simp)
    refine⟨(litV k a,.any)::es,⟨by simp[z.1],fun j e y he hy=>?_⟩,fun j e he=>?_⟩
    · cases j with
      |zero=>simp at he hy;subst he;subst hy;exact⟨C0v h2,by unfold VRel;trivial⟩
      |succ j=>exact z.2 j e y (by simpa using he) (by simpa using hy)
    · cases j with
      |zero=>simp at he;subst he;exact⟨x,a,b,rfl,rfl,h1,h2,h3⟩
      |
        succ j=>
        obtain⟨y,a',b',r⟩:=q j e (by simpa using he)
        exact⟨y,a',b',by simpa using r⟩
theorem MRelG.find(hE:EnvOk E P){β:Type}{VR:β→Value→Prop}{m:Univ.S k→Option β}{n:Nat}{ents:List MapEntry}{clock:Nat}(H:MRelG Γ.fz k VR m n ents clock){d:TypeDesc}(hd:P.underlying kt=some d)
    (hko:P0Y E kt k=true) {a:Univ.S k} {kv:Value} (ha:DRel Γ.fz k a kv):
    (m a=none∧(Instr.findKey kt kv ents).run P w=.ok none w)∨
    ∃b j x,m a=some b∧(Instr.findKey kt kv ents).run P w=.ok (some (j,x.val)) w∧ents[j]?=some x∧VR b x.val∧x.key=kv:=by
  obtain⟨es,hz,hes⟩:=MRelG.told H.ent
  have hfs:∀e∈es,A0m E kt e.1=true:=by
    intro e he
    obtain⟨j,hj,hje⟩:=List.mem_iff_getElem.1 he
    obtain⟨x,a',b',_,rfl,_⟩:=hes j e (by rw[List.getElem?_eq_getElem hj,hje])
    exact F0a hko a'
  have hf:=F0a hko a
  obtain⟨r,h1,h2⟩:=I0b (w:=w) hE (C0v ha) hf hd hz hfs
  rcases h2 with⟨rfl,h2⟩|⟨j,e,x,rfl,h3,h4,h5⟩
  · left
    refine⟨?_,h1⟩
    cases hm:m a with
    |none=>rfl
    |
      some b=>
      obtain⟨x,hx,hxa⟩:=H.has a b hm
      obtain⟨j,hj,hjx⟩:=List.mem_iff_getElem.1 hx
      have hjs:j<es.length:=by have :=hz.1;omega
      obtain⟨y,a',b',hy,he,_,hya,_⟩:=hes j es[j] (by simp[hjs])
      rw[List.getElem?_eq_getElem hj,hjx] at hy;cases hy
      have :=hxa.back H.flat hya
      subst this
      have hk:=h2 es[j] (by simp)
      rw[he] at hk
      simp only[] at hk
      rw[G0j hE hf] at hk;cases hk
  · right
    obtain⟨y,a',b',hy,rfl,hm,hya,hyb⟩:=hes j e h3
    rw[h4] at hy;cases hy
    have e1:=F0F h5
    have :kv=x.key:=by
      refine Y0e hE hf (C0v ha) ?_
      simp only[] at e1
      rw[e1];exact C0v hya
    subst this
    have :=ha.back H.flat hya
    subst this
    exact⟨b',j,x,hm,h1,h4,hyb,rfl⟩
theorem V0U{x cl:Cell Univ.C Univ.S}{a:AVal}{u:Value}(h:U0I x a=some cl)(hv:VRel Γ a u):CRel Γ.fz cl u:=by
  unfold U0I at h
  split at h
  · split at h
    · cases h
      unfold VRel at hv;subst hv
      exact .nil _ none 0
    · cases h
  · exact F0y h hv
theorem G0i:∀{xs:List (Cell Univ.C Univ.S)}{l:List AVal}{cs:List (Cell Univ.C Univ.S)}{us:List Value},C0f xs l=some cs→VRels Γ l us→LRel Γ.fz cs us
  |
    [],[],cs,us,h,hv=>by
    unfold C0f at h;cases h
    rw[hv.nil_inv]
    exact⟨rfl,by simp⟩
  |[],_::_,cs,us,h,_=>by unfold C0f at h;cases h
  |_::_,[],cs,us,h,_=>by unfold C0f at h;cases h
  |
    x::xs,a::l,cs,us,h,hv=>by
    obtain⟨u,ws,rfl,h1,h2⟩:=hv.cons_inv
    unfold C0f at h
    cases hc:U0I x a with
    |none=>rw[hc] at h;cases h
    |
      some cl=>
      rw[hc] at h
      simp only[] at h
      cases hl:C0f xs l with
      |none=>rw[hl] at h;cases h
      |
        some cs'=>
        rw[hl] at h
        cases h
        have ih:=G0i hl h2
        refine⟨by simp[ih.1],fun i c e=>?_⟩
        cases i with
        |zero=>simp at e;subst e;exact⟨u,rfl,V0U hc h1⟩
        |succ i=>simpa using ih.2 i c (by simpa using e)
theorem F0L{c:Univ.C}{a:AVal}{x:Univ.S c}{u:Value}(h:L0A c a=some x)(hv:VRel Γ a u):DRel Γ.fz c x u:=by
  unfold L0A at h
  cases hb:(U0G a==Univ.agg c) with
  |false=>rw[hb] at h;cases h
  |
    true=>
    rw[hb,A0e] at h
    cases hc:C0f (Univ.cells c (Univ.dflt c)) a.cells with
    |none=>rw[hc] at h;cases h
    |
      some cs=>
      rw[hc] at h
      simp only[] at h
      have hx:=Univ.unc_ok c cs x h
      have hb2:U0G a=Univ.agg c:=by simpa using hb
      clear hb
      cases hA:Univ.agg c with
      |
        true=>
        rw[hA] at hb2
        cases a<;>simp only[U0G,Bool.false_eq_true] at hb2
        rename_i l
        unfold VRel at hv
        obtain⟨vs,rfl,hv⟩:=hv
        exact(DRel.agg hA).2 ⟨vs,rfl,by rw[hx];exact G0i hc hv⟩
      |
        false=>
        rw[hA] at hb2
        obtain⟨cl,hx1⟩:=D0H hA x
        have hcs:cs=[cl]:=by rw[←hx,hx1]
        subst hcs
        refine(DRel.one hA hx1).2 ?_
        have one:∀b:AVal,C0f (Univ.cells c (Univ.dflt c)) [b]=some [cl]→VRel Γ b u→CRel Γ.fz cl u:=by
          intro b e hb'
          exact LRel.one.1 (G0i (us:=[u]) e (.cons hb' .nil))
        cases a<;>first
          |exact one _ hc hv
          |(
             exfalso
             obtain⟨cl',hd⟩:=D0H hA (Univ.dflt c)
             rw[hd] at hc
             unfold AVal.cells C0f at hc
             cases hc
             done)
          |(exfalso;cases hb2;done)
theorem Z0I{a:AVal}{x:Cell Univ.C Univ.S}{u:Value}(h:b0d a x=true)(hv:VRel Γ a u):CRel Γ.fz x u:=by
  unfold b0d at h
  cases a<;>simp only[Bool.false_eq_true] at h<;>cases x<;>simp only[Bool.false_eq_true,Bool.and_eq_true,Bool.not_eq_true',beq_iff_eq] at h
  · obtain⟨rfl,rfl⟩:=h
    unfold VRel at hv;subst hv;exact .b _
  · obtain⟨⟨rfl,h1⟩,h2⟩:=h
    rw[E0e] at h1 h2
    have h1:=of_decide_eq_true h1
    have h2:=of_decide_eq_true h2
    subst h1;subst h2
    unfold VRel at hv;subst hv;exact .i _ _
  · obtain⟨h1,h2⟩:=h
    rename_i l b
    cases l with
    |cons _ _=>cases h1
    |
      nil=>
      have h2:b.size=0:=Nat.eq_of_beq_eq_true h2
      have :b=⟨#[]⟩:=by
        obtain⟨d⟩:=b
        congr
        exact Array.eq_empty_of_size_eq_zero h2
      subst this
      unfold VRel at hv;subst hv;exact .s _
  · rename_i c l
    cases l with
    |cons _ _=>cases h
    |nil=>unfold VRel at hv;subst hv;exact .nil _ none 0
theorem K0o:∀{l:List AVal}{xs:List (Cell Univ.C Univ.S)}{us:List Value},M0I l xs=true→VRels Γ l us→LRel Γ.fz xs us
  |[],[],us,_,hv=>by rw[hv.nil_inv];exact⟨rfl,by simp⟩
  |[],_::_,us,h,_=>by unfold M0I at h;cases h
  |_::_,[],us,h,_=>by unfold M0I at h;cases h
  |
    a::l,x::xs,us,h,hv=>by
    obtain⟨u,ws,rfl,h1,h2⟩:=hv.cons_inv
    unfold M0I at h
    cases hz:b0d a x with
    |false=>rw[hz] at h;cases h
    |
      true=>
      rw[hz,A0e] at h
      have ih:=K0o h h2
      refine⟨by simp[ih.1],fun i c e=>?_⟩
      cases i with
      |zero=>simp at e;subst e;exact⟨u,rfl,Z0I hz h1⟩
      |succ i=>simpa using ih.2 i c (by simpa using e)
theorem V0C{ti:TI}{i:TypeInfo}{d:TypeDesc}{z:Value}(T:TIOk P t ti i d z)(h:Z0V ti v=true):DRel Γ.fz v (Univ.dflt v) z:=by
  unfold Z0V at h
  rw[Bool.and_eq_true,beq_iff_eq] at h
  obtain⟨h1,h2⟩:=h
  have hz:=H0t Γ z
  have hg:K0C z=ti.agg:=by rw[T.aggz,T.agg]
  rw[T.zero] at h2
  cases hA:Univ.agg v with
  |
    true=>
    rw[hA] at h1
    rw[h1] at hg
    cases z<;>simp only[K0C,Bool.false_eq_true] at hg
    rename_i cs
    refine(DRel.agg hA).2 ⟨cs,rfl,K0o h2 ?_⟩
    unfold G0C VRel at hz
    obtain⟨vs,e,hz⟩:=hz
    cases e
    exact hz
  |
    false=>
    rw[hA] at h1
    rw[h1] at hg
    obtain⟨cl,hx⟩:=D0H hA (Univ.dflt v)
    refine(DRel.one hA hx).2 ?_
    rw[hx] at h2
    have one:(G0C z).cells=[G0C z]→CRel Γ.fz cl z:=fun e=>by
      rw[e] at h2
      exact LRel.one.1 (K0o (us:=[z]) h2 (.cons hz .nil))
    have :(G0C z).cells=[G0C z]∨(G0C z).cells=[]:=by
      cases hz':G0C z with
      |
        agg l=>
        exfalso
        unfold G0C at hz'
        split at hz'
        · cases hg
        · cases hz'
        · unfold H0N at hz'
          split at hz'<;>cases hz'
      |any=>exact .inr rfl
      |_=>exact .inl rfl
    rcases this with e|e
    · exact one e
    · rw[e] at h2;unfold M0I at h2;cases h2
end
section
variable{fz:Nat→Option Obj}{k v:Univ.C}{m:Univ.S k→Option (Univ.S v)}{n clock:Nat}
theorem G0a{α β:Type}{m:α→Option β}{a:α}{b:β}:updM m a b a=some b:=by unfold updM K0p;simp[A0e]
theorem E0y{α β:Type}{m:α→Option β}{a x:α}{b:β}(h:x≠a):updM m a b x=m x:=by unfold updM K0p;simp[h,A0f]
theorem P0q{α β:Type}{m:α→Option β}{a:α}:delM m a a=none:=by unfold delM K0p;simp[A0e]
theorem K0q{α β:Type}{m:α→Option β}{a x:α}(h:x≠a):delM m a x=m x:=by unfold delM K0p;simp[h,A0f]
theorem any?_eq{α:Type}{p:α→Bool}:any? p=true↔∃x,p x=true:=by unfold any?;simp
theorem O0i{α:Type}{p:α→Bool}(h:any? p=false)(x:α):p x=false:=by
 cases hp:p x with
 |false=>rfl
 |true=>rw[any?_eq.2 ⟨x,hp⟩] at h;cases h
theorem MRel.start(hf:Univ.flat k=true):MRel fz k v (fun _=>none) 0 [] 0:=⟨hf,rfl,by simp,by simp,.nil,by simp,by simp⟩
theorem MRelG.push{β:Type}{VR:β→Value→Prop}{m:Univ.S k→Option β}{ents:Array MapEntry}(H:MRelG fz k VR m n ents.toList clock){a:Univ.S k}{b:β}{kv av:Value}(ha:DRel fz k a kv)(hb:VR b av)(hm:m a=none):
  MRelG fz k VR (updM m a b) (D0M m a n) (ents.push {key:=kv,val:=av,born:=clock}).toList (clock+1):=by
 have hne:∀a' b',m a'=some b'→a'≠a:=fun a' b' h e=>by subst e;rw[hm] at h;cases h
 refine⟨H.flat,?_,?_,?_,?_,?_,?_⟩
 ·unfold D0M
  rw[hm,Option.isSome_none,A0f]
  have :=H.size
  simp at this⊢;omega
 ·intro x hx
  rw[Array.toList_push] at hx
  rcases List.mem_append.1 hx with q|q
  ·obtain⟨a',b',h1,h2,h3⟩:=H.ent x q
   exact⟨a',b',by rw[E0y (hne a' b' h1)];exact h1,h2,h3⟩
  ·rw[List.mem_singleton] at q;subst q
   exact⟨a,b,G0a,ha,hb⟩
 ·intro a' b' h
  rw[Array.toList_push]
  by_cases c:a'=a
  ·subst c;exact⟨_,List.mem_append.2 (.inr (List.mem_singleton.2 rfl)),ha⟩
  ·rw[E0y c] at h
   obtain⟨x,h1,h2⟩:=H.has a' b' h
   exact⟨x,List.mem_append.2 (.inl h1),h2⟩
 ·rw[Array.toList_push,List.pairwise_append]
  refine⟨H.keys,List.pairwise_singleton _ _,fun x hx y hy=>?_⟩
  rw[List.mem_singleton] at hy;subst hy
  intro e
  obtain⟨a',b',h1,h2,_⟩:=H.ent x hx
  simp only[] at e
  rw[e] at h2
  exact hne a' b' h1 (h2.back H.flat ha)
 ·rw[Array.toList_push,List.map_append,List.nodup_append]
  refine⟨H.borns,by simp,fun x hx y hy=>?_⟩
  simp at hy
  obtain⟨e,he,rfl⟩:=List.mem_map.1 hx
  have :=H.old e he
  omega
 ·intro x hx
  rw[Array.toList_push] at hx
  rcases List.mem_append.1 hx with q|q
  ·have :=H.old x q;omega
  ·simp at q;subst q;simp
theorem MRelG.modify{β:Type}{VR:β→Value→Prop}{m:Univ.S k→Option β}{ents:Array MapEntry}(H:MRelG fz k VR m n ents.toList clock){a:Univ.S k}{b b0:β}{kv av:Value}(ha:DRel fz k a kv)(hb:VR b av)(hm:m a=some b0)
  {j:Nat} {x:MapEntry} (hj:ents[j]?=some x) (hx:x.key=kv):
  MRelG fz k VR (updM m a b) (D0M m a n) (ents.modify j fun e=>{e with key:=kv,val:=av}).toList clock:=by
 have hent:∀q,(ents.modify j fun e=>{e with key:=kv,val:=av}).toList[q]?=(ents.toList[q]?).map fun y=>if q=j then{y with key:=kv,val:=av} else y:=by
  intro q
  simp only[Array.getElem?_toList,Array.getElem?_modify]
  by_cases c:j=q
  ·subst c;simp[hj]
  ·rw[if_neg c]
   have c':¬(q=j):=fun z=>c z.symm
   cases ents[q]?<;>simp[c']
 have hj':ents.toList[j]?=some x:=by simpa using hj
 have hkeys:(ents.modify j fun e=>{e with key:=kv,val:=av}).toList.map (·.key)=ents.toList.map (·.key):=by
  apply List.ext_getElem?
  intro q
  rw[List.getElem?_map,List.getElem?_map,hent q]
  cases hq:ents.toList[q]? with
  |none=>rfl
  |
   some y=>
   by_cases c:q=j
   ·subst c;rw[hj'] at hq;cases hq;simp[hx]
   ·simp[c]
 have hborn:(ents.modify j fun e=>{e with key:=kv,val:=av}).toList.map (·.born)=ents.toList.map (·.born):=by
  apply List.ext_getElem?
  intro q
  rw[List.getElem?_map,List.getElem?_map,hent q]
  cases ents.toList[q]? with
  |none=>rfl
  |some y=>by_cases c:q=j<;>simp[c]
 have kpair:∀(p q:Nat)(y z:MapEntry),ents.toList[p]?=some y→ents.toList[q]?=some z→y.key=z.key→p=q:=by
  intro p q y z hp hq e
  have hK:=H.keys
  rw[List.pairwise_iff_getElem] at hK
  obtain⟨hpl,e1⟩:=List.getElem?_eq_some_iff.1 hp
  obtain⟨hql,e2⟩:=List.getElem?_eq_some_iff.1 hq
  rcases Nat.lt_trichotomy p q with c|c|c
  ·exact absurd (by rw[e1,e2];exact e) (hK p q hpl hql c)
  ·exact c
  ·exact absurd (by rw[e1,e2];exact e.symm) (hK q p hql hpl c)
 refine⟨H.flat,?_,?_,?_,?_,?_,?_⟩
 ·unfold D0M
  rw[hm,Option.isSome_some,A0e]
  have :=H.size
  simp at this⊢;exact this
 ·intro y hy
  obtain⟨q,hq⟩:=List.mem_iff_getElem?.1 hy
  rw[hent q] at hq
  cases hz:ents.toList[q]? with
  |none=>rw[hz] at hq;cases hq
  |
   some z=>
   rw[hz] at hq
   simp only[Option.map_some,Option.some.injEq] at hq
   by_cases c:q=j
   ·rw[if_pos c] at hq;subst hq
    exact⟨a,b,G0a,ha,hb⟩
   ·rw[if_neg c] at hq;subst hq
    obtain⟨a',b',h1,h2,h3⟩:=H.ent z (List.mem_of_getElem? hz)
    refine⟨a',b',?_,h2,h3⟩
    rw[E0y fun e=>?_]
    ·exact h1
    ·subst e
     exact c (kpair q j z x hz hj' (by rw[hx];exact h2.fn H.flat ha))
 ·intro a' b' h
  by_cases c:a'=a
  ·subst c
   refine⟨{x with key:=kv,val:=av},List.mem_iff_getElem?.2 ⟨j,?_⟩,ha⟩
   rw[hent j,hj'];simp
  ·rw[E0y c] at h
   obtain⟨y,h1,h2⟩:=H.has a' b' h
   obtain⟨q,hq⟩:=List.mem_iff_getElem?.1 h1
   refine⟨y,List.mem_iff_getElem?.2 ⟨q,?_⟩,h2⟩
   rw[hent q,hq]
   have :q≠j:=fun e=>by
    subst e
    rw[hj'] at hq;cases hq
    rw[hx] at h2
    exact c (h2.back H.flat ha)
   simp[this]
 ·have :=H.keys
  rw[←List.pairwise_map (f:=fun e:MapEntry=>e.key) (R:=fun a b=>a≠b)] at this⊢
  rw[hkeys];exact this
 ·rw[hborn];exact H.borns
 ·intro y hy
  have :y.born∈(ents.modify j fun e=>{e with key:=kv,val:=av}).toList.map (·.born):=List.mem_map.2 ⟨y,hy,rfl⟩
  rw[hborn] at this
  obtain⟨z,hz,e⟩:=List.mem_map.1 this
  rw[←e];exact H.old z hz
end
section
variable{P:Program}{E:Env}{base:Bs}{w0:World}{Γ:Gam}{w:World}{s:St}{t kt:TypeId}
theorem J0l(hE:EnvOk E P){k:Univ.C}(h:P0Y E kt k=true){a:Univ.S k}{kv:Value}(ha:DRel Γ.fz k a kv):∃d,P.underlying kt=some d:=
 V0f hE (C0v ha) (F0a h a)
theorem E0B(hE:EnvOk E P){kc vc:Univ.C}{m:Univ.S kc→Option (Univ.S vc)}{n clock b:Nat}{ents:Array MapEntry}(hb:w.heap[b]?=some (.map ents clock))(H:MRel Γ.fz kc vc m n ents.toList clock)
  {k:AVal} {v:Value} (hk:VRel Γ k v) (ok:Bool) (g:(D0P E t ok kc vc m k s).Good):Reads Γ s (D0P E t ok kc vc m k s) ((Instr.lookup t (.map (some b)) v ok).run P w) w:=by
 unfold D0P at g⊢
 obtain⟨ti,inf,d,z,hty,he,T⟩:=A0o hE (A0a g)
 rw[A0d he] at g⊢
 have hkd:=T.k
 cases hc:ti.k<;>rw[hc] at g hkd<;>simp only[] at g⊢<;>first
  |exact g.elim
  |skip
 case map kt et=>
 have hd:=C0u hkd.symm
 subst hd
 obtain⟨te,inf',d',z',hty',he',T'⟩:=A0o hE (A0a g)
 rw[A0d he'] at g⊢
 obtain⟨hq,hr⟩:=A0i g
 rw[hr] at g⊢
 rw[Bool.and_eq_true] at hq
 obtain⟨hko,hzo⟩:=hq
 obtain⟨a,h1,h2⟩:=A0k (A0a g)
 rw[A0d h2]
 have ha:=F0L h1 hk
 obtain⟨dk,hdk⟩:=J0l hE hko ha
 have hck:∀em w,(Instr.checkKey em 10000 kt v).run P w=.ok () w:=fun em w=>E0P hE (C0v ha) (F0a hko a) em 9998
 have run:∀r vv,(Instr.findKey kt v ents.toList).run P w=.ok r w→(match r with |some (_,x)=>vv=(x,true)|none=>(zeroValue et).run P w=.ok vv.1 w∧vv.2=false)→
   (Instr.lookup t (.map (some b)) v ok).run P w=.ok (if ok then .tuple #[vv.1,.bool vv.2] else vv.1) w:=by
  intro r vv h1 h2
  simp only[Instr.lookup,Sem.run_bind,T.run_und,Result.andThen_ok,Sem.run_pure,MapKept.run_getObj_map hb,hck,h1]
  cases r with
  |some r=>obtain⟨j,x⟩:=r;simp only[] at h2;subst h2;simp
  |none=>obtain⟨h2,h3⟩:=h2;obtain⟨a,b⟩:=vv;simp only[] at h2 h3;subst h3;simp[h2]
 have out:∀(x:Univ.S vc)(xv:Value)(q:Bool),DRel Γ.fz vc x xv→VRel Γ (sel ok (.tup [mval vc x,.sb q]) (mval vc x)) (if ok then .tuple #[xv,.bool q] else xv):=by
  intro x xv q h
  cases ok with
  |
   true=>
   rw[A0e]
   unfold VRel
   exact⟨#[xv,.bool q],rfl,.cons (H0z h) (.cons (by unfold VRel;rfl) .nil)⟩
  |false=>rw[A0f];exact H0z h
 rcases H.find (w:=w) hE hdk hko ha with⟨h3,h4⟩|⟨x,j,e,h3,h4,_,h5,_⟩
 ·exact⟨_,s,_,rfl,.refl s,run none (z',false) h4 ⟨T'.run_zero w,rfl⟩,by rw[h3];exact out _ _ _ (V0C T' hzo)⟩
 ·exact⟨_,s,_,rfl,.refl s,run _ (e.val,true) h4 rfl,by rw[h3];exact out _ _ _ h5⟩
theorem Reads.from{s1:St}(h:Same s s1){r:Res AVal}{run:Result Value}(k:Reads Γ s1 r run w):Reads Γ s r run w:=by
 obtain⟨a,s',v,e,h1,h2⟩:=k
 exact⟨a,s',v,e,h.trans h1,h2⟩
theorem L0U(hE:EnvOk E P)(R:Rel E base w0 Γ s.h w){x k:AVal}{u v:Value}(hx:VRel Γ x u)(hk:VRel Γ k v)(ok:Bool)(g:(S0J E t ok x k s).Good):
  Reads Γ s (S0J E t ok x k s) ((Instr.lookup t u v ok).run P w) w:=by
 unfold S0J at g⊢
 split at g
 ·rename_i kc vc m n
  unfold VRel at hx
  obtain⟨b,ents,clock,rfl,hfz,hM⟩:=hx
  exact E0B hE (R.stay _ _ hfz) hM hk ok g
 ·rename_i n
  obtain⟨d,s1,e1,q1,hd⟩:=D0s (A0a g)
  rw[A0d e1] at g⊢
  have R1:Rel E base w0 Γ s1.h w:=by rw[q1.h];exact R
  cases d with
  |none=>exact(H0H hE R1 hx hk ok g).from q1
  |
   some d=>
   cases d with
   |iter _ _ _ _=>exact g.elim
   |
    map kc vc m c=>
    unfold VRel at hx
    obtain⟨i,hi,rfl⟩:=hx
    obtain⟨i',hi',_,ob,hb,ents,clock,rfl,hM⟩:=R.obj n _ (R.dom n i hi).1 (hd _ rfl)
    rw[hi] at hi';cases hi'
    exact(E0B hE hb hM hk ok g).from q1
 ·exact H0H hE R hx hk ok g
theorem M0X(hE:EnvOk E P)(R:Rel E base w0 Γ s.h w)(fresh:Bool){x k a:AVal}{u kv av:Value}(hx:VRel Γ x u)(hk:VRel Γ k kv)(ha:VRel Γ a av)(g:(S0Q E fresh t x k a s).Good):
  ∃s' w',S0Q E fresh t x k a s=.ok .undef s'∧s'.nx=s.nx∧(Instr.mapUpdate t u kv av).run P w=.ok () w'∧Rel E base w0 Γ s'.h w':=by
 unfold S0Q at g⊢
 split at g
 case h_2=>exact D0z hE R fresh hx hk ha g
 rename_i n
 obtain⟨d,s1,e1,q1,hd⟩:=D0s (A0a g)
 rw[A0d e1] at g⊢
 have R1:Rel E base w0 Γ s1.h w:=by rw[q1.h];exact R
 cases d with
 |
  none=>
  obtain⟨s',w',h1,h2,h3⟩:=D0z hE R1 fresh hx hk ha g
  exact⟨s',w',h1,by rw[h2,q1.nx],h3⟩
 |some d=>
 cases d with
 |iter _ _ _ _=>exact g.elim
 |map kc vc m c=>
 have g:(G0F E fresh t n (.map kc vc m c) k a s1).Good:=g
 show∃s' w',G0F E fresh t n (.map kc vc m c) k a s1=.ok .undef s'∧_
 unfold G0F at g⊢
 simp only[] at g⊢
 have ho:=hd _ rfl
 unfold VRel at hx
 obtain⟨i,hi,rfl⟩:=hx
 have hn:=(R.dom n i hi).1
 obtain⟨i',hi',hlo,ob,hb,ents,clock,rfl,H⟩:=R.obj n _ hn ho
 rw[hi] at hi';cases hi'
 obtain⟨ti,inf,d,z,hty,he,T⟩:=A0o hE (A0a g)
 rw[A0d he] at g⊢
 have hkd:=T.k
 cases hc:ti.k<;>rw[hc] at g hkd<;>simp only[] at g⊢<;>first
  |exact g.elim
  |skip
 case map kt et=>
 have hdd:=C0u hkd.symm
 subst hdd
 obtain⟨hq,hr⟩:=A0i g
 rw[hr] at g⊢
 rw[Bool.and_eq_true] at hq
 obtain⟨_,hko⟩:=hq
 obtain⟨y,h1,h2⟩:=A0k (A0a g)
 rw[A0d h2] at g⊢
 obtain⟨z2,h3,h4⟩:=A0k (A0a g)
 rw[A0d h4] at g⊢
 obtain⟨d0,s2,ho2,e2,st2⟩:=J0V (A0a g)
 rw[A0d e2]
 have hy:=F0L h1 hk
 have hz:=F0L h3 ha
 obtain⟨dk,hdk⟩:=J0l hE hko hy
 have hfits:=F0a hko y
 have hck:∀em w,(Instr.checkKey em 10000 kt kv).run P w=.ok () w:=fun em w=>E0P hE (C0v hy) hfits em 9998
 have hob:∀c e f,Obj.map ents clock≠.cells c e f:=by intros;simp
 have hget:=MapKept.run_getObj_map (P:=P) hb
 rcases H.find (w:=w) hE hdk hko hy with⟨f1,f2⟩|⟨b,j,xe,f1,f2,f3,f4,f5⟩
 ·have H':=H.push hy hz f1
  refine⟨s2,{w with heap:=w.heap.setIfInBounds i.b (.map (ents.push {key:=kv,val:=av,born:=clock}) (clock+1))},rfl,by rw[st2.nx,q1.nx],?_,?_⟩
  ·simp only[Instr.mapUpdate,Sem.run_bind,T.run_und,Result.andThen_ok,hget,hck,f2,MapKept.run_setObj_map (P:=P) _ hb]
  ·rw[st2.h,q1.h]
   exact R.turn (o':=.dat (.map kc vc (updM m y z2) (D0M m y c))) hi ho trivial trivial trivial hb hob ⟨i,hi,hlo,_,(MapKept.heap_set hb).1,_,_,rfl,H'⟩ (by intro _ _ _ _ _ _ _ _ _ _ _ _ _ h;cases h) (by intro _ _ _ _ _ _ _ _ _ _ _ _ _ _ _ h;cases h)
 ·have f3':ents[j]?=some xe:=by simpa using f3
  have H':=H.modify hy hz f1 f3' f5
  refine⟨s2,{w with heap:=w.heap.setIfInBounds i.b (.map (ents.modify j fun e=>{e with key:=kv,val:=av}) clock)},rfl,by rw[st2.nx,q1.nx],?_,?_⟩
  ·simp only[Instr.mapUpdate,Sem.run_bind,T.run_und,Result.andThen_ok,hget,hck,f2,f3',Option.map_some,Option.getD_some,f5,I0P hE hfits (C0v hy),MapKept.run_setObj_map (P:=P) _ hb]
  ·rw[st2.h,q1.h]
   exact R.turn (o':=.dat (.map kc vc (updM m y z2) (D0M m y c))) hi ho trivial trivial trivial hb hob ⟨i,hi,hlo,_,(MapKept.heap_set hb).1,_,_,rfl,H'⟩ (by intro _ _ _ _ _ _ _ _ _ _ _ _ _ h;cases h) (by intro _ _ _ _ _ _ _ _ _ _ _ _ _ _ _ h;cases h)
theorem P0e(hE:EnvOk E P)(R:Rel E base w0 Γ s.h w){ra:Option AVal}{rv:Option Value}(hr:G0I Γ ra rv)(g:(J0K E t ra s).Good):
  Makes E base w0 Γ s (J0K E t ra s) ((Instr.makeMap t rv).run P w):=by
 unfold J0K at g⊢
 cases hp:V0j t E.mps with
 |none=>rw[hp] at g;exact M0N hE R hr g
 |some p=>
 rw[hp] at g
 simp only[] at g⊢
 obtain⟨ti,inf,d,z,hty,he,T⟩:=A0o hE (A0a g)
 rw[A0d he] at g⊢
 have hkd:=T.k
 cases hc:ti.k<;>rw[hc] at g hkd<;>simp only[] at g⊢<;>first
  |exact g.elim
  |skip
 case map kt et=>
 have hd:=C0u hkd.symm
 subst hd
 obtain⟨hq,hr'⟩:=A0i g
 rw[hr'] at g⊢
 rw[Bool.and_eq_true] at hq
 obtain⟨s',e1,n1,f1⟩:=B0r (E:=E) (base:=base) (w0:=w0) (ob:=.map #[] 0) (o:=fun _=>.dat (.map p.1 p.2 (fun _=>none) 0)) R (fun _=>trivial) default (A0a g)
  (fun Γ' hx h=>⟨_,h,by rw[hx.lo];exact R.lo,_,by simp,#[],0,rfl,MRel.start hq.2⟩) (by intro m since seen h;cases h)
 rw[A0d e1]
 refine⟨_,s',rfl,fun N hN hf=>⟨_,.map (some w.heap.size),_,?_,by unfold VRel;exact⟨_,Gam.add_at,rfl⟩,f1 N hN hf⟩⟩
 cases ra with
 |
  none=>
  have :rv=none:=hr
  subst this
  simp[Instr.makeMap]
 |
  some r=>
  obtain⟨v,rfl,hv⟩:=hr
  have hq:=hq.1
  unfold V0n at hq
  cases r<;>simp only[Bool.false_eq_true] at hq
  unfold VRel at hv
  subst hv
  simp[Instr.makeMap,T.run_und,asInt,asIntOf]
def Gam.stays(Γ:Gam)(b:Nat)(ob:Obj):Gam:=⟨Γ.nm,fun k=>if k=b then some ob else Γ.fz k,Γ.lo⟩
theorem Rel.stays{h:Tr AObj}(R:Rel E base w0 Γ h w){b:Nat}{ob:Obj}(hb:w.heap[b]?=some ob)(hlo:Γ.lo≤b)(hn:Γ.fz b=none)(hob:∀C e z,ob≠.cells C e z)(lone:∀m o j,m<LH→h.get m=some o→o.live→Γ m=some j→j.b≠b):
  Ext Γ (Γ.stays b ob)∧Rel E base w0 (Γ.stays b ob) h w:=by
 have hx:Ext Γ (Γ.stays b ob):=by
  refine⟨fun _ _ e=>e,fun k o e=>?_,rfl,fun k hk=>?_⟩
  ·show(if k=b then some ob else Γ.fz k)=some o
   by_cases c:k=b
   ·subst c;rw[hn] at e;cases e
   ·rw[if_neg c];exact e
  ·show(if k=b then some ob else Γ.fz k)=Γ.fz k
   rw[if_neg (by omega)]
 refine⟨hx,?_⟩
 constructor
 ·exact R.deep
 ·exact R.below
 ·exact R.room
 ·exact R.dom
 ·exact fun n o hn ho=>(R.obj n o hn ho).keep hx fun _ _=>rfl
 ·exact R.inj
 ·exact R.fam
 ·intro n m since seen kt es clock i j ents b1 borns stepped h1 h2 h3 h4 e1 e2 b2 b3
  obtain⟨z1,z2⟩:=R.iter n m since seen kt es clock i j ents b1 borns stepped h1 h2 h3 h4 e1 e2 b2 b3
  exact⟨z1,fun z=>(z2 z).ext hx⟩
 ·exact R.own
 ·intro k o e
  have e:(if k=b then some ob else Γ.fz k)=some o:=e
  by_cases c:k=b
  ·rw[if_pos c] at e;cases e;rw[c];exact hb
  ·rw[if_neg c] at e;exact R.stay k o e
 ·intro n i o h1 h2 h3 h4
  show(if i.b=b then some ob else Γ.fz i.b)=none
  rw[if_neg (lone n o i h1 h2 h3 h4)]
  exact R.sep n i o h1 h2 h3 h4
 ·exact R.lo
 ·first|exact R.solo|(rw[hx.lo];exact R.solo)|(rw[hlo];exact R.solo)
 ·refine R.hid.keep ⟨fun _ _ _ _ _ e=>⟨e,fun _ e=>⟨e,rfl⟩⟩,fun m o j h1 h2 h3 h4=>.inr ⟨m,o,j,h1,h2,h3,h4,rfl⟩,fun k C e z hk h=>⟨rfl,?_⟩,hx.fz⟩
  show(if k=b then some ob else Γ.fz k)=none
  rw[if_neg fun q=>by rw[q,hb] at hk;cases hk;exact hob _ _ _ rfl];exact h.1
theorem IRel.start{fz:Nat→Option Obj}{k v:Univ.C}{m:Univ.S k→Option (Univ.S v)}{n clock:Nat}{ents:List MapEntry}(H:MRel fz k v m n ents clock):IRel fz k v m none ents clock #[] clock:=
 ⟨⟨m,n,H,fun _ _ h=>h⟩,fun x hx _=>H.ent x hx,fun a b h=>let⟨x,h1,h2⟩:=H.has a b h;⟨x,h1,by simp,h2⟩,by simp,fun _ h=>by cases h⟩
theorem W0Y(hE:EnvOk E P)(R:Rel E base w0 Γ s.h w){a:AVal}{u:Value}(ha:VRel Γ a u)(g:(evRg E t a s).Good):Makes E base w0 Γ s (evRg E t a s) ((Instr.range t u).run P w):=by
 unfold evRg at g⊢
 split at g
 case h_3=>exact J0d hE R ha g
 case h_1 kc vc m n=>
  obtain⟨ti,inf,d,z,hty,he,T⟩:=A0o hE (A0a g)
  rw[A0d he] at g⊢
  have hk:=T.k
  cases hc:ti.k<;>rw[hc] at g hk<;>simp only[] at g⊢<;>first
   |exact g.elim
   |skip
  case map k e=>
  have hd:=C0u hk.symm
  subst hd
  unfold VRel at ha
  obtain⟨b,ents,clock,rfl,hfz,H⟩:=ha
  have hb:=R.stay _ _ hfz
  change(M.bind (alloc fun _=>.dat (.iter kc vc m none)) (fun r=>M.pure (AVal.ptr r 0)) s).Good at g
  show Makes E base w0 Γ s (M.bind (alloc fun _=>.dat (.iter kc vc m none)) (fun r=>M.pure (AVal.ptr r 0)) s) _
  obtain⟨s',e2,n2,f2⟩:=B0r (E:=E) (base:=base) (w0:=w0) (ob:=.mapIter (some b) clock #[] clock) (o:=fun _=>.dat (.iter kc vc m none)) R (fun _=>trivial) default (A0a g)
   (fun Γ' hx h=>⟨_,h,by rw[hx.lo];exact R.lo,_,by simp,b,clock,#[],clock,ents,rfl,rfl,hx.fz _ _ hfz,(IRel.start H).mono hx.fz⟩) (by intro m since seen h;cases h)
  rw[A0d e2]
  refine⟨_,s',rfl,fun N hN hf=>⟨_,.pointer (some ⟨w.heap.size,0,none⟩),_,?_,by unfold VRel;exact⟨_,Gam.add_at,rfl⟩,f2 N hN hf⟩⟩
  simp[Instr.range,T.run_und,MapKept.run_getObj_map hb]
 case h_2 n=>
 obtain⟨d,s0,e0,q0,hd0⟩:=D0s (A0a g)
 rw[A0d e0] at g⊢
 have R0:Rel E base w0 Γ s0.h w:=by rw[q0.h];exact R
 cases d with
 |
  none=>
  obtain⟨r,s',h1,h2⟩:=J0d hE R0 ha g
  exact⟨r,s',h1,fun N hN hf=>let⟨Γ',v,w',z1,z2,z3⟩:=h2 N hN (by rw[q0.nx];exact hf);⟨Γ',v,w',z1,z2,Got.after q0 z3⟩⟩
 |some d=>
 simp only[] at g⊢
 obtain⟨ti,inf,d2,z,hty,he,T⟩:=A0o hE (A0a g)
 rw[A0d he] at g⊢
 have hk:=T.k
 cases hc:ti.k<;>rw[hc] at g hk<;>simp only[] at g⊢<;>first
  |exact g.elim
  |skip
 case map k e=>
 have hdd:=C0u hk.symm
 subst hdd
 unfold I0R at g⊢
 simp only[] at g⊢
 obtain⟨d3,s1,ho,e1,q1⟩:=H0B (A0a g)
 rw[A0d e1] at g⊢
 cases d3 with
 |iter _ _ _ _=>exact g.elim
 |map kc vc m c=>
 simp only[] at g⊢
 obtain⟨d4,s2,ho2,e2,st2⟩:=T0B (A0a g)
 rw[A0d e2] at g⊢
 unfold VRel at ha
 obtain⟨i,hi,rfl⟩:=ha
 have hn:=(R.dom n i hi).1
 obtain⟨i',hi',hlo,ob,hb,ents,clock,rfl,H⟩:=R0.obj n _ hn ho
 rw[hi] at hi';cases hi'
 have RL:=R0.letGo hn ho trivial
 obtain⟨hx,RS⟩:=RL.stays (b:=i.b) hb hlo (R0.sep n i _ hn ho trivial hi) (by intros;simp) (by
  intro q o j hq h1 hl hj eb
  rw[R0.gs n _ hn q hq] at h1
  by_cases cq:q=n
  ·rw[if_pos cq] at h1;cases h1;exact hl
  ·rw[if_neg cq] at h1
   exact E0s (p:=AObj.dat (.map kc vc m c)) trivial (R0.inj q n o _ j i hq hn h1 ho hl trivial cq hj hi eb))
 have h2h:s2.h=s0.h.set n .done:=by rw[st2.h,q1.h]
 have h2n:s2.nx=s.nx:=by rw[st2.nx,q1.nx,q0.nx]
 have R2:Rel E base w0 (Γ.stays i.b (.map ents clock)) s2.h w:=by rw[h2h];exact RS
 have hfz:(Γ.stays i.b (.map ents clock)).fz i.b=some (.map ents clock):=if_pos rfl
 obtain⟨s',e3,n3,f3⟩:=B0r (E:=E) (base:=base) (w0:=w0) (ob:=.mapIter (some i.b) clock #[] clock) (o:=fun _=>.dat (.iter kc vc m none)) R2 (fun _=>trivial) default (A0a g)
  (fun Γ' hx' h=>⟨_,h,by rw[hx'.lo];exact R2.lo,_,by simp,i.b,clock,#[],clock,ents,rfl,rfl,hx'.fz _ _ hfz,((IRel.start H).mono hx.fz).mono hx'.fz⟩) (by intro m since seen h;cases h)
 rw[A0d e3]
 refine⟨_,s',rfl,fun N hN hf=>?_⟩
 have G1:Got E base w0 Γ s N (Γ.stays i.b (.map ents clock)) s2 w:=⟨hx,fun _ _=>rfl,by omega,fun q h1 h2=>hf q (by omega) h2,R2⟩
 refine⟨_,.pointer (some ⟨w.heap.size,0,none⟩),_,?_,by unfold VRel;exact⟨_,Gam.add_at,rfl⟩,G1.trans (f3 N hN G1.fresh)⟩
 simp[Instr.range,T.run_und,MapKept.run_getObj_map hb]
set_option maxHeartbeats 1000000 in
theorem V0y(hE:EnvOk E P)(R:Rel E base w0 Γ s.h w)(det:Bool){a:AVal}{u:Value}(ha:VRel Γ a u)(ty:TypeId)(g:(evNx det a s).Good):
  Steps E base w0 Γ s (evNx det a s) ((Instr.next u false ty).run P w):=by
 unfold evNx at g⊢
 split at g
 case h_2=>exact K0H hE R det ha ty g
 rename_i n o
 obtain⟨hq,hr⟩:=A0i g
 have ho0:o=0:=Nat.eq_of_beq_eq_true hq
 subst ho0
 rw[hr] at g⊢
 obtain⟨d,s1,e1,q1,hd⟩:=D0s (A0a g)
 rw[A0d e1] at g⊢
 have R1:Rel E base w0 Γ s1.h w:=by rw[q1.h];exact R
 cases d with
 |
  none=>
  obtain⟨a',s',v,w',h1,h2,h3⟩:=K0H hE R1 det ha ty g
  exact⟨a',s',v,w',h1,by rw[h2,q1.nx],h3⟩
 |some d=>
 have g:(L0O det n d s1).Good:=g
 show Steps E base w0 Γ s (L0O det n d s1) _
 have ho:=hd _ rfl
 unfold VRel at ha
 obtain⟨i,hi,rfl⟩:=ha
 have hn:=(R.dom n i hi).1
 cases d with
 |map _ _ _ _=>exact g.elim
 |iter kc vc m cur=>
 obtain⟨i',hi',hlo,ob,hb,b,since,borns,stepped,ents,rfl,h0,hfz,I⟩:=R.obj n _ hn ho
 rw[hi] at hi';cases hi'
 obtain⟨⟨m0,n0,H,hsub⟩,hun,hhas,hst,hcur⟩:=I
 have hbm:=R.stay _ _ hfz
 unfold L0O at g⊢
 simp only[] at g⊢
 obtain⟨hq,hr⟩:=A0i g
 rw[hr] at g⊢
 have hget:(getObj i.b).run P w=.ok (.mapIter (some b) since borns stepped) w:=by simp[getObj,Sem.run,hb]
 have hgetm:=MapKept.run_getObj_map (P:=P) hbm
 have chk:(!borns.isEmpty&&!ents.isEmpty&&ents.all (fun x=>decide (x.born≥stepped)))=false:=by
  cases hbe:borns.isEmpty with
  |true=>rfl
  |
   false=>
   rw[hst hbe]
   cases he:ents.isEmpty with
   |true=>simp
   |
    false=>
    have h1:0<ents.size:=by
     rcases Nat.eq_zero_or_pos ents.size with z|z
     ·have :ents=#[]:=Array.eq_empty_of_size_eq_zero z
      rw[this] at he;cases he
     ·exact z
    have h4:(ents.all fun x=>decide (x.born≥since))=false:=by
     rw[Array.all_eq_false]
     refine⟨0,h1,?_⟩
     have :=H.old ents[0] (by simp)
     simp;omega
    rw[h4];simp
 have hold:∀x∈(ents.filter fun x=>!borns.contains x.born),x.born<since:=fun x hx=>H.old x (by simpa using(Array.mem_filter.1 hx).1)
 have hF1:(ents.filter fun x=>!borns.contains x.born).filter (fun x=>decide (x.born<since))=ents.filter fun x=>!borns.contains x.born:=by
  rw[Array.filter_eq_self]
  exact fun x hx=>by simpa using hold x hx
 have hF2:(ents.filter fun x=>!borns.contains x.born).filter (fun x=>decide (x.born≥since))=#[]:=by
  rw[Array.filter_eq_empty_iff]
  exact fun x hx=>by have :=hold x hx;simp;omega
 cases hany:any? (fun a=>(m a).isSome) with
 |
  false=>
  have hem:(ents.filter fun x=>!borns.contains x.born)=#[]:=by
   rw[Array.filter_eq_empty_iff]
   intro x hx hc
   obtain⟨a,y,h1,_⟩:=hun x (by simpa using hx) (by simpa using hc)
   have :=O0i hany a
   simp only[h1,Option.isSome_some] at this
   cases this
  obtain⟨c,d,hch,hcl⟩:=H0w (P:=P) (n:=1) (by omega) w
  have :c=0:=by omega
  subst this
  have hrun:(Instr.next (.pointer (some ⟨i.b,i.o+0,none⟩)) false ty).run P w=.ok (.tuple #[.bool false]) {w with drawn:=d}:=by
   simp only[Instr.next,h0,Nat.zero_add,Nat.add_zero,Sem.run_bind,hget,Result.andThen_ok,hgetm,chk,Bool.false_eq_true,if_false,Sem.run_pure,hem]
   simp[hch]
  refine⟨.tup [.bool false],s1,.tuple #[.bool false],_,?_,q1.nx,hrun,by unfold VRel;exact⟨_,rfl,.cons (by unfold VRel;rfl) .nil⟩,R1.drawn d⟩
  exact⟨rfl,rfl⟩
 |
  true=>
  obtain⟨a0,ha0⟩:=any?_eq.1 hany
  obtain⟨y0,hy0⟩:=Option.isSome_iff_exists.1 ha0
  obtain⟨x0,hx0,hx0b,_⟩:=hhas a0 y0 hy0
  have hpos:0<(ents.filter fun x=>!borns.contains x.born).size:=by
   have :x0∈(ents.filter fun x=>!borns.contains x.born):=Array.mem_filter.2 ⟨by simpa using hx0,by rw[hx0b];rfl⟩
   exact Array.size_pos_of_mem this
  have hne:(ents.filter fun x=>!borns.contains x.born).isEmpty=false:=by
   cases h:(ents.filter fun x=>!borns.contains x.born).isEmpty with
   |false=>rfl
   |true=>rw[Array.isEmpty_iff.1 h] at hpos;exact absurd hpos (by simp)
  obtain⟨c,d,hch,hcl⟩:=H0w (P:=P) hpos w
  have hset:∀o,(setObj i.b o).run P {w with drawn:=d}=.ok () {w with drawn:=d,heap:=w.heap.setIfInBounds i.b o}:=by intro o;simp[setObj,Sem.run,hb]
  have hcand:((#[]:Array (Option MapEntry))++((ents.filter fun x:MapEntry=>!borns.contains x.born)++#[]).map some).size=(ents.filter fun x:MapEntry=>!borns.contains x.born).size:=by simp
  have hget2:((#[]:Array (Option MapEntry))++((ents.filter fun x:MapEntry=>!borns.contains x.born)++#[]).map some)[c]?=some (some ((ents.filter fun x:MapEntry=>!borns.contains x.born)[c]'hcl)):=by simp[hcl]
  have hmem:(ents.filter fun x:MapEntry=>!borns.contains x.born)[c]'hcl∈(ents.filter fun x:MapEntry=>!borns.contains x.born):=by simp
  have hrun:(Instr.next (.pointer (some ⟨i.b,i.o+0,none⟩)) false ty).run P w=.ok (.tuple #[.bool true,((ents.filter fun x:MapEntry=>!borns.contains x.born)[c]'hcl).key,((ents.filter fun x:MapEntry=>!borns.contains x.born)[c]'hcl).val])
    {w with drawn:=d,heap:=w.heap.setIfInBounds i.b (.mapIter (some b) since (borns.push ((ents.filter fun x:MapEntry=>!borns.contains x.born)[c]'hcl).born) since)}:=by
   simp only[Instr.next,h0,Nat.zero_add,Nat.add_zero,Sem.run_bind,hget,Result.andThen_ok,hgetm,chk,Bool.false_eq_true,if_false,Sem.run_pure,hF1,hF2,hne,hcand,hch,hget2,hset]
  generalize hxx:(ents.filter fun x:MapEntry=>!borns.contains x.born)[c]'hcl=x at hmem hrun
  obtain⟨hx1,hx2⟩:=Array.mem_filter.1 hmem
  have hx1:x∈ents.toList:=by simpa using hx1
  have hx2:borns.contains x.born=false:=by simpa using hx2
  obtain⟨a,y,hm,ka,vy⟩:=hun x hx1 hx2
  have g:(∃x:Univ.S kc,(m x).isSome=true)∧∀x:Univ.S kc,(m x).isSome=true→(M.bind (wrDat n (.iter kc vc (delM m x) (some (x,(m x).getD (Univ.dflt vc))))) (fun _=>M.pure (AVal.tup [.bool true,mval kc x,mval vc ((m x).getD (Univ.dflt vc))])) s1).Good:=by
   have g':(M.ite (any? fun a=>(m a).isSome) (M.all kc (fun a=>(m a).isSome) fun a=>M.bind (wrDat n (.iter kc vc (delM m a) (some (a,(m a).getD (Univ.dflt vc))))) fun _=>M.pure (AVal.tup [.bool true,mval kc a,mval vc ((m a).getD (Univ.dflt vc))])) (M.pure (AVal.tup [.bool false])) s1).Good:=g
   unfold M.ite at g'
   rw[hany] at g'
   exact g'
  have ga:=g.2 a (by rw[hm];rfl)
  obtain⟨_,s2,ho2,e2,st2⟩:=J0V (A0a ga)
  have hleaf:(M.bind (wrDat n (.iter kc vc (delM m a) (some (a,(m a).getD (Univ.dflt vc))))) (fun _=>M.pure (AVal.tup [.bool true,mval kc a,mval vc ((m a).getD (Univ.dflt vc))])) s1).Has (.tup [.bool true,mval kc a,mval vc ((m a).getD (Univ.dflt vc))]) s2:=by
   rw[A0d e2];exact⟨rfl,rfl⟩
  refine⟨_,s2,_,_,(?_:(M.ite true (M.all kc (fun a=>(m a).isSome) fun a=>M.bind (wrDat n (.iter kc vc (delM m a) (some (a,(m a).getD (Univ.dflt vc))))) fun _=>M.pure (AVal.tup [.bool true,mval kc a,mval vc ((m a).getD (Univ.dflt vc))])) (M.pure (AVal.tup [.bool false])) s1).Has (.tup [.bool true,mval kc a,mval vc ((m a).getD (Univ.dflt vc))]) s2),by rw[st2.nx,q1.nx],hrun,?_,?_⟩
  ·exact⟨a,by simp only[hm,Option.isSome_some],hleaf⟩
  ·unfold VRel
   refine⟨_,rfl,.cons (by unfold VRel;rfl) (.cons (H0z ka) (.cons ?_ .nil))⟩
   rw[hm];exact H0z vy
  ·rw[st2.h,q1.h]
   have kpair:∀z∈ents.toList,z.key=x.key→z=x:=by
    intro z hz e
    have hK:=H.keys
    rw[List.pairwise_iff_getElem] at hK
    obtain⟨p,hp,ep⟩:=List.mem_iff_getElem.1 hz
    obtain⟨q,hq,eq⟩:=List.mem_iff_getElem.1 hx1
    rcases Nat.lt_trichotomy p q with c|c|c
    ·exact absurd (by rw[ep,eq];exact e) (hK p q hp hq c)
    ·subst c;rw[ep] at eq;exact eq
    ·exact absurd (by rw[ep,eq];exact e.symm) (hK q p hq hp c)
   have hcp:∀z:MapEntry,(borns.push x.born).contains z.born=(borns.contains z.born||(z.born==x.born)):=by
    intro z;rw[Bool.eq_iff_iff];simp[Array.mem_push]
   refine Rel.drawn (Rel.turn (o':=.dat (.iter kc vc (delM m a) (some (a,(m a).getD (Univ.dflt vc))))) R hi ho trivial trivial trivial hb (by intros;simp) ⟨i,hi,hlo,_,(MapKept.heap_set hb).1,b,since,borns.push x.born,since,ents,rfl,h0,hfz,⟨m0,n0,H,?_⟩,?_,?_,fun _=>rfl,fun p e=>by cases e;exact⟨x,hx1,by simp,ka,by rw[hm];exact vy⟩⟩
    (by intro _ _ _ _ _ _ _ _ _ _ _ _ _ h;cases h) (by intro _ _ _ _ _ _ _ _ _ _ _ _ _ _ _ h;cases h)) d
   ·intro a' b' h
    by_cases c:a'=a
    ·subst c;rw[P0q] at h;cases h
    ·rw[K0q c] at h;exact hsub a' b' h
   ·intro z hz hzb
    rw[hcp,Bool.or_eq_false_iff] at hzb
    obtain⟨a',b',h1,h2,h3⟩:=hun z hz hzb.1
    refine⟨a',b',?_,h2,h3⟩
    rw[K0q fun e=>?_]
    ·exact h1
    ·subst e
     have :=kpair z hz (h2.fn H.flat ka)
     subst this
     simp at hzb
   ·intro a' b' h
    by_cases c:a'=a
    ·subst c;rw[P0q] at h;cases h
    ·rw[K0q c] at h
     obtain⟨z,h1,h2,h3⟩:=hhas a' b' h
     refine⟨z,h1,?_,h3⟩
     rw[hcp,h2,Bool.false_or,beq_eq_false_iff_ne]
     intro e
     have hbi:z=x:=by
      obtain⟨p,hp⟩:=List.mem_iff_getElem?.1 h1
      obtain⟨q,hq⟩:=List.mem_iff_getElem?.1 hx1
      have :=L0f H.borns hp hq e
      subst this
      rw[hp] at hq;exact Option.some.inj hq
     subst hbi
     exact c (h3.back H.flat ka)
theorem V0s(hE:EnvOk E P)(R:Rel E base w0 Γ s.h w){a:AVal}{u:Value}(ha:VRel Γ a u)(g:(evEn a s).Good):Reads Γ s (evEn a s) ((Instr.entry u).run P w) w:=by
 unfold evEn at g⊢
 split at g
 case h_2=>exact J0F hE R ha g
 rename_i n o
 obtain⟨hq,hr⟩:=A0i g
 have ho0:o=0:=Nat.eq_of_beq_eq_true hq
 subst ho0
 rw[hr] at g⊢
 obtain⟨d,s1,e1,q1,hd⟩:=D0s (A0a g)
 rw[A0d e1] at g⊢
 have R1:Rel E base w0 Γ s1.h w:=by rw[q1.h];exact R
 cases d with
 |none=>exact(J0F hE R1 ha g).from q1
 |some d=>
 have ho:=hd _ rfl
 unfold VRel at ha
 obtain⟨i,hi,rfl⟩:=ha
 cases d with
 |map _ _ _ _=>exact g.elim
 |iter kc vc m cur=>
 cases cur with
 |none=>exact g.elim
 |some p=>
 obtain⟨i',hi',hlo,ob,hb,b,since,borns,stepped,ents,rfl,h0,hfz,I⟩:=R.obj n _ (R.dom n i hi).1 ho
 rw[hi] at hi';cases hi'
 obtain⟨⟨m0,n0,H,hsub⟩,hun,hhas,hst,hcur⟩:=I
 have hbm:=R.stay _ _ hfz
 obtain⟨x,hx,hback,k1,k2⟩:=hcur p rfl
 have hne:borns.isEmpty=false:=by
  cases hbe:borns.isEmpty with
  |false=>rfl
  |
   true=>
   have :=Array.isEmpty_iff.1 hbe
   rw[this] at hback
   simp at hback
 have hfind:ents.find? (·.born==x.born)=some x:=by
  rw[←Array.find?_toList]
  cases hf:ents.toList.find? (·.born==x.born) with
  |none=>have :=List.find?_eq_none.1 hf x hx;simp at this
  |
   some y=>
   have hy:=List.mem_of_find?_eq_some hf
   have hyb:y.born=x.born:=by simpa using List.find?_some hf
   obtain⟨p,hp⟩:=List.mem_iff_getElem?.1 hy
   obtain⟨q,hq⟩:=List.mem_iff_getElem?.1 hx
   have :=L0f H.borns hp hq hyb
   subst this
   rw[hp] at hq;exact hq
 have hget:(getObj i.b).run P w=.ok (.mapIter (some b) since borns stepped) w:=by simp[getObj,Sem.run,hb]
 refine⟨_,s1,.tuple #[x.key,x.val],rfl,q1,?_,?_⟩
 ·simp[Instr.entry,h0,hget,hback,MapKept.run_getObj_map hbm,hst hne,hfind]
 ·unfold VRel
  exact⟨_,rfl,.cons (H0z k1) (.cons (H0z k2) .nil)⟩
end
section
variable{P:Program}{E:Env}{base:Bs}{w0:World}{Γ:Gam}{w:World}{s:St}{t kt:TypeId}
def B0G(E:Env)(base:Bs)(w0:World)(Γ:Gam)(s:St)(r:Res AVal)(run:Result Next):Prop:=
 ∃a s',r.Has a s'∧∀N,s'.nx≤N→C0q Γ s.nx N→∃Γ' n w',run=.ok n w'∧((∃v,n=.value v∧VRel Γ' a v)∨(n=.skip∧a=.undef))∧Got E base w0 Γ s N Γ' s' w'
theorem Makes.got{r:Res AVal}{x:Sem Value}(h:Makes E base w0 Γ s r (x.run P w)):B0G E base w0 Γ s r ((do pure (.value (←x)):Sem Next).run P w):=by
 obtain⟨a,s',rfl,h⟩:=h
 refine⟨a,s',⟨rfl,rfl⟩,fun N hN hf=>?_⟩
 obtain⟨Γ',v,w',h1,h2,h3⟩:=h N hN hf
 exact⟨Γ',.value v,w',by simp[h1],.inl ⟨v,rfl,h2⟩,h3⟩
theorem ReadsH.got(R:Rel E base w0 Γ s.h w){r:Res AVal}{x:Sem Value}(h:ReadsH Γ s r (x.run P w) w):B0G E base w0 Γ s r ((do pure (.value (←x)):Sem Next).run P w):=by
 obtain⟨a,s',v,h1,h2,h3,h4⟩:=h
 exact⟨a,s',h1,fun N hN hf=>⟨Γ,.value v,w,by simp[h3],.inl ⟨v,rfl,h4⟩,Got.same hf h2.nx (by rw[h2.h];exact R)⟩⟩
theorem Reads.got(R:Rel E base w0 Γ s.h w){r:Res AVal}{x:Sem Value}(h:Reads Γ s r (x.run P w) w):B0G E base w0 Γ s r ((do pure (.value (←x)):Sem Next).run P w):=
 (h.makes R).got
theorem Steps.got{r:Res AVal}{x:Sem Value}(h:Steps E base w0 Γ s r (x.run P w)):B0G E base w0 Γ s r ((do pure (.value (←x)):Sem Next).run P w):=by
 obtain⟨a,s',v,w',h1,h2,h3,h4,h5⟩:=h
 exact⟨a,s',h1,fun N hN hf=>⟨Γ,.value v,w',by simp[h3],.inl ⟨v,rfl,h4⟩,Got.same hf h2 h5⟩⟩
theorem H0u(R:Rel E base w0 Γ s.h w){a:AVal}{v:Value}(h:VRel Γ a v):B0G E base w0 Γ s (M.pure a s) ((pure (.value v):Sem Next).run P w):=
 ⟨a,s,⟨rfl,rfl⟩,fun N hN hf=>⟨Γ,.value v,w,rfl,.inl ⟨v,rfl,h⟩,Got.same hf rfl R⟩⟩
theorem L0h{r:Res AVal}{x:Sem Unit}(h:∃s' w',r=.ok .undef s'∧s'.nx=s.nx∧x.run P w=.ok () w'∧Rel E base w0 Γ s'.h w'):B0G E base w0 Γ s r ((do x;pure .skip:Sem Next).run P w):=by
 obtain⟨s',w',rfl,h2,h3,h4⟩:=h
 exact⟨.undef,s',⟨rfl,rfl⟩,fun N hN hf=>⟨Γ,.skip,w',by simp[h3],.inr ⟨rfl,rfl⟩,Got.same hf h2 h4⟩⟩
theorem R0q{r:Res AVal}{x:Sem Unit}{s':St}(h0:r.Has .undef s')(h:∃w',s'.nx=s.nx∧x.run P w=.ok () w'∧Rel E base w0 Γ s'.h w'):B0G E base w0 Γ s r ((do x;pure .skip:Sem Next).run P w):=by
 obtain⟨w',h2,h3,h4⟩:=h
 exact⟨.undef,s',h0,fun N hN hf=>⟨Γ,.skip,w',by simp[h3],.inr ⟨rfl,rfl⟩,Got.same hf h2 h4⟩⟩
theorem b0H{α:Type}(a:Array α){b:Nat}{x:α}(h:a[b]?=some x):a.setIfInBounds b x=a:=by
 obtain⟨h1,h2⟩:=Array.getElem?_eq_some_iff.1 h
 apply Array.ext_getElem?
 intro j
 rw[Array.getElem?_setIfInBounds]
 by_cases c:b=j
 ·subst c;rw[if_pos rfl,if_pos h1,h]
 ·rw[if_neg c]
theorem W0z{z:Value}(h1:K0C z=false)(h2:(G0C z).cells=[AVal.nils]):z=.slice none 0 0:=by
 unfold G0C at h2
 split at h2
 ·cases h1
 ·simp[AVal.cells] at h2
 ·unfold H0N at h2
  split at h2<;>first
   |rfl
   |(simp[AVal.cells] at h2;done)
theorem X0C{te:TI}{inf:TypeInfo}{d:TypeDesc}{z:Value}(T:TIOk P t te inf d z)(h:X0F te.zero=true)(ha:te.agg=false):z=.slice none 0 0:=by
 have hz:=T.zero
 have h3:te.zero=[.nils]:=by
  revert h
  cases te.zero with
  |nil=>intro h;cases h
  |
   cons a l=>
   cases l with
   |nil=>cases a<;>intro h<;>first|rfl|cases h
   |cons b l=>intro h;cases h
 rw[h3] at hz
 exact W0z (by rw[T.aggz,←T.agg];exact ha) hz.symm
theorem P0E(hE:EnvOk E P)(R:Rel E base w0 Γ s.h w){n:Nat}{p:MpS}(ho:s.h.get n=some (.mps p.k p.c p.m p.n p.lent)){k:AVal}{u v:Value}(hx:VRel Γ (.map n) u)(hk:VRel Γ k v)(ok:Bool)
  (g:(F0w E t ok n p k s).Good):B0G E base w0 Γ s (F0w E t ok n p k s) ((do pure (.value (←Instr.lookup t u v ok)):Sem Next).run P w):=by
 unfold F0w at g⊢
 obtain⟨ti,inf,d,z,hty,he,T⟩:=A0o hE (A0a g)
 rw[A0d he] at g⊢
 have hkd:=T.k
 cases hc:ti.k<;>rw[hc] at g hkd<;>simp only[] at g⊢<;>first
  |exact g.elim
  |skip
 case map kt et=>
 have hd:=C0u hkd.symm
 subst hd
 obtain⟨te,inf',d',z',hty',he',T'⟩:=A0o hE (A0a g)
 rw[A0d he'] at g⊢
 obtain⟨pk,pc,pm,pn,plent⟩:=p
 simp only[] at ho
 cases plent with
 |some _=>exact g.elim
 |none=>
 simp only[] at g⊢
 obtain⟨hq,hr⟩:=A0i g
 rw[hr] at g⊢
 simp only[Bool.and_eq_true,Bool.not_eq_true'] at hq
 obtain⟨⟨⟨⟨q1,q2⟩,q3⟩,q4⟩,q5⟩:=hq
 subst q1
 have :n=0:=Nat.eq_of_beq_eq_true q5
 subst this
 obtain⟨a,h1,h2⟩:=A0k (A0a g)
 rw[A0d h2] at g⊢
 have ha:=F0L h1 hk
 obtain⟨k9,c9,m9,n9,l9,s1,ho9,e1,st1⟩:=K0c (A0a g)
 rw[A0d e1] at g⊢
 unfold VRel at hx
 obtain⟨i,hi,rfl⟩:=hx
 have hn0:(0:Nat)<LH:=by decide
 obtain⟨ents,clock,hb,PR⟩:=R.hid _ _ _ _ _ i ho hi
 obtain⟨dk,hdk⟩:=J0l hE q2 ha
 have hck:∀em w,(Instr.checkKey em 10000 kt v).run P w=.ok () w:=fun em w=>E0P hE (C0v ha) (F0a q2 a) em 9998
 have hz:=X0C T' q3 q4
 have hob:∀c e f,Obj.map ents clock≠.cells c e f:=by intros;simp
 have hgs:=R.gs 0 (.mps pk pc pm pn (some a)) hn0
 have hw:({w with heap:=w.heap.setIfInBounds i.b (.map ents clock)}:World)=w:=by rw[b0H _ hb]
 have liveH:∀m o,m<LH→(s.h.set 0 (.mps pk pc pm pn (some a))).get m=some o→o.live→∃o',s.h.get m=some o'∧o'.live:=fun m o hm hg hl=>by
  rw[hgs m hm] at hg
  by_cases c:m=0
  ·subst c;exact⟨_,ho,trivial⟩
  ·rw[if_neg c] at hg;exact⟨o,hg,hl⟩
 have bare1:∀{b:Nat},Bare Γ s.h b→Bare Γ (s.h.set 0 (.mps pk pc pm pn (some a))) b:=fun h=>⟨h.1,fun m o j hm hg hl hj=>by
  obtain⟨o',g1,g2⟩:=liveH m o hm hg hl
  exact h.2 m o' j hm g1 g2 hj⟩
 have PR1:PRel base Γ (s.h.set 0 (.mps pk pc pm pn (some a))) w pk pc pm pn (some a) ents.toList clock:=by
  obtain⟨bl,b1,b2⟩:=PR.own
  refine⟨PR.map,bl,fun x hm a' l e1 e2=>?_,fun x hm y hy hne _ _=>b2 x hm y hy hne (fun _ _ e=>by cases e) (fun _ _ e=>by cases e)⟩
  rcases b1 x hm a' l e1 e2 with q|q
  ·cases q
  ·obtain⟨z0,z1,z2,zz⟩:=q
   exact .inr ⟨z0,z1,bare1 z2,zz⟩
 have R1:Rel E base w0 Γ (s.h.set 0 (.mps pk pc pm pn (some a))) w:=by
  have :=R.turnX (o':=.mps pk pc pm pn (some a)) (ob':=.map ents clock) hi ho trivial trivial trivial hb hob (by rw[hw];exact⟨rfl,i,hi,ents,clock,hb⟩) (by intro _ _ _ _ _ _ _ _ _ _ _ _ _ h;cases h) (by intro _ _ _ _ _ _ _ _ _ _ _ _ _ _ _ h;cases h)
   (by
    rw[hw]
    intro k2 c2 m2 n2 l2 i2 g1 g2
    rw[hgs 0 hn0,if_pos rfl] at g1
    cases g1
    rw[hi] at g2;cases g2
    exact⟨ents,clock,hb,PR1⟩)
  rw[hw] at this
  exact this
 have hs1:s1.h=s.h.set 0 (.mps pk pc pm pn (some a)):=st1.h
 have run:∀r vv,(Instr.findKey kt v ents.toList).run P w=.ok r w→(match r with |some (_,x)=>vv=x|none=>vv=.slice none 0 0)→((do pure (.value (←Instr.lookup t (.map (some i.b)) v false)):Sem Next)).run P w=.ok (.value vv) w:=by
  intro r vv h1 h2
  simp only[Instr.lookup,Sem.run_bind,T.run_und,Result.andThen_ok,Sem.run_pure,MapKept.run_getObj_map hb,hck,h1]
  cases r with
  |some r=>obtain⟨j,x⟩:=r;simp only[] at h2;subst h2;simp
  |
   none=>
   simp only[] at h2
   subst h2
   have :=T'.run_zero w
   rw[hz] at this
   simp[this]
 rcases PR.map.find (w:=w) hE hdk q2 ha with⟨f1,f2⟩|⟨l,j,e,f1,f2,f3,_,f5⟩
 ·rw[f1] at g⊢
  refine⟨.nils,s1,⟨rfl,rfl⟩,fun N hN hf=>⟨Γ,_,w,run none _ f2 rfl,.inl ⟨_,rfl,by unfold VRel;rfl⟩,Got.same hf st1.nx (by rw[hs1];exact R1)⟩⟩
 ·rw[f1] at g⊢
  have g:(M.bind (alloc fun _=>.arr pc l) (fun r=>M.pure (AVal.asl pc r 0 l.length)) s1).Good:=g
  obtain⟨s2,a1,a2,a3,a4⟩:=C0Q (A0a g)
  obtain⟨bl,b1,b2⟩:=PR.own
  have hmem:e∈ents.toList:=List.mem_of_getElem? f3
  have hown:=b1 e hmem a l (by rw[f5];exact ha) f1
  rcases hown with q|⟨z0,z1,z2,cap,C,et,zz,y1,y2,y3,y4,y5,y6⟩
  ·cases q
  refine⟨.asl pc s1.nx 0 l.length,s2,?_,fun N hN hf=>?_⟩
  ·show(M.bind (alloc fun _=>.arr pc l) (fun r=>M.pure (AVal.asl pc r 0 l.length)) s1).Has _ _
   rw[A0d a2];exact⟨rfl,rfl⟩
  have hnx:s1.nx=s.nx:=st1.nx
  have hnn:Γ s1.nx=none:=hf s1.nx (by omega) (by omega)
  have h0:(0:Nat)≠s1.nx:=fun q=>by rw[←q,hi] at hnn;cases hnn
  have hbs:=(Array.getElem?_eq_some_iff.1 y3).1
  have hx:Ext Γ (Γ.add s1.nx ⟨bl e.key,0,l.length,C.size,default⟩):=Gam.ext_add hnn
  have hhid:Hid base (Γ.add s1.nx ⟨bl e.key,0,l.length,C.size,default⟩) ((s.h.set 0 (.mps pk pc pm pn (some a))).set s1.nx (.arr pc l)) w:=by
   intro k2 c2 m2 n2 l2 i2 g1 g2
   rw[R1.gs s1.nx (.arr pc l) a1 0 hn0,if_neg h0,hgs 0 hn0,if_pos rfl] at g1
   cases g1
   rw[Gam.add_ne h0,hi] at g2;cases g2
   refine⟨ents,clock,hb,PR1.map,bl,fun x hm a' l' e1 e2=>?_,fun x hm y hy hne _ _=>b2 x hm y hy hne (fun _ _ e=>by cases e) (fun _ _ e=>by cases e)⟩
   by_cases ca:a'=a
   ·subst ca;exact .inl rfl
   ·right
    rcases b1 x hm a' l' e1 e2 with q|⟨z0',z1',z2',zz'⟩
    ·cases q
    refine⟨z0',z1',⟨z2'.1,fun m o j hm' hg hl hj=>?_⟩,zz'⟩
    rw[R1.gs s1.nx (.arr pc l) a1 m hm'] at hg
    by_cases cm:m=s1.nx
    ·subst cm
     rw[Gam.add_at] at hj;cases hj
     have :e.key≠x.key:=fun q=>by
      have e1:DRel Γ.fz pk a' x.key:=e1
      rw[←q,f5] at e1
      exact ca (e1.back PR.map.flat ha)
     exact b2 e hmem x hm this (fun _ _ e=>by cases e) (fun _ _ e=>by cases e)
    ·rw[if_neg cm] at hg
     rw[Gam.add_ne cm] at hj
     exact(bare1 z2').2 m o j hm' hg hl hj
  have RN:=R1.named a1 hnn ⟨bl e.key,0,l.length,C.size,default⟩ z1 hbs hhid (fun m o j hm hg hl hj=>(bare1 z2).2 m o j hm hg hl hj) z2.1 ⟨_,Gam.add_at,rfl,C,et,zz,y3,rfl,y5.mono hx.fz,Nat.le_trans (Nat.mul_le_mul_right _ y2) y4,y6⟩
  refine⟨_,.value e.val,w,run _ _ f2 rfl,.inl ⟨_,rfl,?_⟩,⟨hx,fun q hq=>Gam.add_ne (by omega),by omega,fun q qa qb=>?_,by rw[a3,hs1];exact RN⟩⟩
  ·unfold VRel
   exact⟨_,Gam.add_at,by simp,0,cap,y1,y2,fun _=>⟨by simp,by simpa using y4⟩⟩
  ·rw[Gam.add_ne (by omega)];exact hf q (by omega) qb
theorem V0B{ents:Array MapEntry}{kv av:Value}{j:Nat}{x:MapEntry}(hj:ents[j]?=some x)(hx:x.key=kv)(hk:ents.toList.Pairwise fun x y=>x.key≠y.key){y:MapEntry}(hy:y∈(ents.modify j fun e=>{e with key:=kv,val:=av}).toList):
  (y.key=kv∧y.val=av)∨(y∈ents.toList∧y.key≠kv):=by
 obtain⟨q,hq⟩:=List.mem_iff_getElem?.1 hy
 simp only[Array.getElem?_toList,Array.getElem?_modify] at hq
 by_cases c:j=q
 ·subst c
  rw[if_pos rfl,hj] at hq
  simp at hq;subst hq
  exact .inl ⟨rfl,rfl⟩
 ·rw[if_neg c] at hq
  have hq2:ents.toList[q]?=some y:=by simpa using hq
  refine .inr ⟨List.mem_of_getElem? hq2,fun e=>?_⟩
  have hj':ents.toList[j]?=some x:=by simpa using hj
  rw[List.pairwise_iff_getElem] at hk
  obtain⟨l1,e1⟩:=List.getElem?_eq_some_iff.1 hj'
  obtain⟨l2,e2⟩:=List.getElem?_eq_some_iff.1 hq2
  rcases Nat.lt_or_gt_of_ne c with h|h
  ·exact hk j q l1 l2 h (by rw[e1,e2,hx,e])
  ·exact hk q j l2 l1 h (by rw[e1,e2,hx,e])
theorem a0k{α:Type}{x y:α}(h:K0p x y=true):x=y:=by unfold K0p at h;exact@of_decide_eq_true _ (Classical.propDecidable _) h
theorem Q0f(hE:EnvOk E P)(R:Rel E base w0 Γ s.h w)(fresh:Bool){n:Nat}{p:MpS}(ho:s.h.get n=some (.mps p.k p.c p.m p.n p.lent)){k a:AVal}{u kv av:Value}(hx:VRel Γ (.map n) u)(hk:VRel Γ k kv)(ha:VRel Γ a av)
  (g:(F0E E fresh t n p k a s).Good):B0G E base w0 Γ s (F0E E fresh t n p k a s) ((do Instr.mapUpdate t u kv av;pure .skip:Sem Next).run P w):=by
 unfold F0E at g⊢
 obtain⟨ti,inf,d,z,hty,he,T⟩:=A0o hE (A0a g)
 rw[A0d he] at g⊢
 have hkd:=T.k
 cases hc:ti.k<;>rw[hc] at g hkd<;>simp only[] at g⊢<;>first
  |exact g.elim
  |skip
 case map kt et=>
 have hd:=C0u hkd.symm
 subst hd
 obtain⟨pk,pc,pm,pn,plent⟩:=p
 simp only[] at ho
 cases plent with
 |none=>exact g.elim
 |some a0=>
 cases a<;>simp only[] at g⊢<;>first
  |exact g.elim
  |skip
 rename_i c r off q
 obtain⟨hq,hr⟩:=A0i g
 rw[hr] at g⊢
 simp only[Bool.and_eq_true,Bool.not_eq_true'] at hq
 obtain⟨⟨⟨⟨_,q2⟩,q3⟩,q5⟩,q6⟩:=hq
 have hn0':n=0:=Nat.eq_of_beq_eq_true q5
 subst hn0'
 have hoff:off=0:=Nat.eq_of_beq_eq_true q3
 subst hoff
 have hr0:r≠0:=fun e=>by rw[e] at q6;simp at q6
 obtain⟨y,h1,h2⟩:=A0k (A0a g)
 rw[A0d h2] at g⊢
 obtain⟨hsm,g,hh1⟩:=A0W g
 have :=a0k hsm
 subst this
 obtain⟨l,s1,hor,e1,sm1⟩:=D0o (A0a g)
 rw[A0d e1] at g hh1
 obtain⟨hq2,hr2⟩:=A0i g
 rw[hr2] at g hh1
 have hcc:=G0n hq2
 subst hcc
 obtain⟨hn,g2,hh2⟩:=A0W g
 simp only[Bool.and_eq_true,decide_eq_true_eq] at hn
 obtain⟨rfl,hlpos⟩:=hn
 obtain⟨c9,l9,s2,ho9,e2,st2⟩:=I0f (A0a g2)
 rw[A0d e2] at g2 hh2
 obtain⟨k9,c8,m9,n9,l8,s3,ho8,e3,st3⟩:=K0c (A0a g2)
 have hy:=F0L h1 hk
 unfold VRel at hx
 obtain⟨i,hi,rfl⟩:=hx
 have hn0:(0:Nat)<LH:=by decide
 obtain⟨ents,clock,hb,PR⟩:=R.hid _ _ _ _ _ i ho hi
 obtain⟨dk,hdk⟩:=J0l hE q2 hy
 have hfits:=F0a q2 y
 have hck:∀em w,(Instr.checkKey em 10000 kt kv).run P w=.ok () w:=fun em w=>E0P hE (C0v hy) hfits em 9998
 have hob:∀c e f,Obj.map ents clock≠.cells c e f:=by intros;simp
 have hget:=MapKept.run_getObj_map (P:=P) hb
 unfold VRel at ha
 obtain⟨ir,hir,hbd,o,cap,rfl,hcap,hoo⟩:=ha
 obtain⟨ir',hir',hasz,C,et',fz,hbr,hcs,hA,hsz,hfr⟩:=R.obj r _ (R.dom r ir hir).1 hor
 rw[hir] at hir';cases hir'
 obtain⟨rfl,hfit⟩:=hoo (by omega)
 simp only[Nat.zero_mul,Nat.zero_add] at hfit⊢
 have hrl:=(R.dom r ir hir).1
 have hne:ir.b≠i.b:=fun e=>by rw[e,hb] at hbr;cases hbr
 have R1:Rel E base w0 Γ (s.h.set r .done) w:=R.letGo hrl hor trivial
 have gs1:=R.gs r .done hrl
 have ho1:(s.h.set r .done).get 0=some (.mps pk c pm pn (some y)):=by rw[gs1 0 hn0,if_neg (fun e=>hr0 e.symm)];exact ho
 have hs3:s3.h=(s.h.set r .done).set 0 (.mps pk c (updM pm y l) (D0M pm y pn) none):=by rw[st3.h,st2.h,sm1.h]
 have hnx3:s3.nx=s.nx:=by rw[st3.nx,st2.nx,sm1.nx]
 have gs2:=R1.gs 0 (.mps pk c (updM pm y l) (D0M pm y pn) none) hn0
 --who is live
 have liveH:∀m o,m<LH→((s.h.set r .done).set 0 (.mps pk c (updM pm y l) (D0M pm y pn) none)).get m=some o→o.live→m≠r∧∃o',s.h.get m=some o'∧o'.live:=fun m o hm hg hl=>by
  rw[gs2 m hm] at hg
  by_cases c:m=0
  ·subst c;exact⟨fun e=>hr0 e.symm,_,ho,trivial⟩
  ·rw[if_neg c,gs1 m hm] at hg
   by_cases c':m=r
   ·rw[if_pos c'] at hg;cases hg;exact hl.elim
   ·rw[if_neg c'] at hg;exact⟨c',o,hg,hl⟩
 obtain⟨bl,b1,b2⟩:=PR.own
 --what holds of the map behind the write
 have fin:∀(ents':Array MapEntry)(clock':Nat),MRelG Γ.fz pk (fun(_:List (Univ.S c)) _=>True) (updM pm y l) (D0M pm y pn) ents'.toList clock'→
   (∀x∈ents'.toList,(x.key=kv∧x.val=.slice (some ⟨ir.b,0,none⟩) l.length cap)∨(x∈ents.toList∧x.key≠kv))→
   Rel E base w0 Γ s3.h {w with heap:=w.heap.setIfInBounds i.b (.map ents' clock')}:=by
  intro ents' clock' HM hmem
  have hat:=(MapKept.heap_set (w:=w) (o':=.map ents' clock') hb).1
  have hoth:=(MapKept.heap_set (w:=w) (o':=.map ents' clock') hb).2
  rw[hs3]
  refine R1.turnX (o':=.mps pk c (updM pm y l) (D0M pm y pn) none) hi ho1 trivial trivial trivial hb hob ⟨rfl,i,hi,ents',clock',hat⟩ (by intro _ _ _ _ _ _ _ _ _ _ _ _ _ h;cases h) (by intro _ _ _ _ _ _ _ _ _ _ _ _ _ _ _ h;cases h) ?_
  intro k2 c2 m2 n2 l2 i2 g1 g2
  rw[gs2 0 hn0,if_pos rfl] at g1
  cases g1
  rw[hi] at g2;cases g2
  refine⟨ents',clock',hat,HM,fun key=>@ite _ (key=kv) (Classical.propDecidable _) ir.b (bl key),fun x hm a' l' e1 e2=>?_,fun x hm y' hy' hne' _ _=>?_⟩
  ·right
   rcases hmem x hm with⟨k1,k2⟩|⟨k1,k2⟩
   ·simp only[k1,if_pos]
    have hay:a'=y:=by rw[k1] at e1;exact e1.back PR.map.flat hy
    subst hay
    rw[G0a] at e2
    cases e2
    refine⟨hlpos,(R.dom r ir hir).2.1,⟨R.sep r ir _ hrl hor trivial hir,fun m o j hm' hg hl hj e=>?_⟩,cap,C,et',fz,k2,hcap,(hoth _ hne).trans hbr,by rw[hcs];exact hfit,hA,hfr⟩
    obtain⟨mr,o',g1,g2⟩:=liveH m o hm' hg hl
    have :=R.inj m r o' _ j ir hm' hrl g1 hor g2 trivial mr hj hir e
    cases o'<;>exact this
   ·simp only[if_neg k2]
    have hay:a'≠y:=fun e=>by
     subst e
     exact k2 (e1.fn PR.map.flat hy)
    rw[E0y hay] at e2
    rcases b1 x k1 a' l' e1 e2 with q|⟨z0,z1,z2,cap',C',e',z',y1,y2,y3,y4⟩
    ·cases q;exact absurd rfl hay
    ·have hbi:bl x.key≠i.b:=fun e=>by rw[e,hb] at y3;cases y3
     refine⟨z0,z1,⟨z2.1,fun m o j hm' hg hl hj=>?_⟩,cap',C',e',z',y1,y2,(hoth _ hbi).trans y3,y4⟩
     obtain⟨_,o',g1,g2⟩:=liveH m o hm' hg hl
     exact z2.2 m o' j hm' g1 g2 hj
  ·have old:∀x∈ents.toList,x.key≠kv→bl x.key≠ir.b∧∀a',DRel Γ.fz pk a' x.key→(some y:Option (Univ.S pk))≠some a':=fun x hx hkx=>by
    have hny:∀a',DRel Γ.fz pk a' x.key→a'≠y:=fun a' e1 e=>by subst e;exact hkx (e1.fn PR.map.flat hy)
    obtain⟨a',l',f1,f2,_⟩:=PR.map.ent x hx
    refine⟨fun e=>?_,fun a' e1 e=>hny a' e1 (Option.some.inj e).symm⟩
    rcases b1 x hx a' l' f2 f1 with q|⟨_,_,z2,_⟩
    ·exact hny a' f2 (Option.some.inj q).symm
    ·exact z2.2 r _ ir hrl hor trivial hir e.symm
   rcases hmem x hm with⟨k1,_⟩|⟨k1,k2⟩<;>rcases hmem y' hy' with⟨k3,_⟩|⟨k3,k4⟩
   ·exact absurd (k1.trans k3.symm) hne'
   ·simp only[k1,if_pos,if_neg k4];exact fun e=>(old y' k3 k4).1 e.symm
   ·simp only[k3,if_pos,if_neg k2];exact(old x k1 k2).1
   ·simp only[if_neg k2,if_neg k4];exact b2 x k1 y' k3 hne' (old x k1 k2).2 (old y' k3 k4).2
 have fhas:=hh1 .undef s3 (hh2 .undef s3 (by rw[A0d e3];exact⟨rfl,rfl⟩))
 rcases PR.map.find (w:=w) hE hdk q2 hy with⟨f1,f2⟩|⟨b,j,xe,f1,f2,f3,_,f5⟩
 ·have H':=PR.map.push (b:=l) hy trivial f1 (av:=.slice (some ⟨ir.b,0,none⟩) l.length cap)
  refine R0q fhas ⟨_,hnx3,?_,fin _ _ H' fun x hx=>?_⟩
  ·simp only[Instr.mapUpdate,Sem.run_bind,T.run_und,Result.andThen_ok,hget,hck,f2,MapKept.run_setObj_map (P:=P) _ hb]
  ·rw[Array.toList_push] at hx
   rcases List.mem_append.1 hx with q|q
   ·refine .inr ⟨q,fun e=>?_⟩
    obtain⟨a',l',g1,g2,_⟩:=PR.map.ent x q
    rw[e] at g2
    rw[g2.back PR.map.flat hy,f1] at g1
    cases g1
   ·rw[List.mem_singleton] at q;subst q;exact .inl ⟨rfl,rfl⟩
 ·have f3':ents[j]?=some xe:=by simpa using f3
  have H':=PR.map.modify (b:=l) hy trivial f1 f3' f5 (av:=.slice (some ⟨ir.b,0,none⟩) l.length cap)
  refine R0q fhas ⟨_,hnx3,?_,fin _ _ H' fun x hx=>V0B f3' f5 PR.map.keys hx⟩
  simp only[Instr.mapUpdate,Sem.run_bind,T.run_und,Result.andThen_ok,hget,hck,f2,f3',Option.map_some,Option.getD_some,f5,I0P hE hfits (C0v hy),MapKept.run_setObj_map (P:=P) _ hb]
theorem b0C(hE:EnvOk E P)(R:Rel E base w0 Γ s.h w){x k:AVal}{u v:Value}(hx:VRel Γ x u)(hk:VRel Γ k v)(ok:Bool)(g:(evLk E t ok x k s).Good):
  B0G E base w0 Γ s (evLk E t ok x k s) ((do pure (.value (←Instr.lookup t u v ok)):Sem Next).run P w):=by
 unfold evLk at g⊢
 split at g
 ·rename_i n
  obtain⟨p,s1,e1,q1,h1,_⟩:=I0j (A0a g)
  rw[A0d e1] at g⊢
  have R1:Rel E base w0 Γ s1.h w:=by rw[q1.h];exact R
  have back:∀{r:Res AVal}{x:Result Next},B0G E base w0 Γ s1 r x→B0G E base w0 Γ s r x:=fun⟨a,s',h1,h2⟩=>⟨a,s',h1,fun N hN hf=>by
   obtain⟨Γ',n,w',k1,k2,k3⟩:=h2 N hN (by rw[q1.nx];exact hf)
   exact⟨Γ',n,w',k1,k2,k3.ext,fun q hq=>k3.off q (by rw[q1.nx];exact hq),by rw[←q1.nx];exact k3.nx,k3.fresh,k3.rel⟩⟩
  cases p with
  |none=>exact back ((L0U hE R1 hx hk ok g).got R1)
  |some p=>exact back (P0E hE R1 (by rw[q1.h];exact h1 p rfl) hx hk ok g)
 ·exact(L0U hE R hx hk ok g).got R
theorem U0v(hE:EnvOk E P)(R:Rel E base w0 Γ s.h w)(fresh:Bool){x k a:AVal}{u kv av:Value}(hx:VRel Γ x u)(hk:VRel Γ k kv)(ha:VRel Γ a av)(g:(evMu E fresh t x k a s).Good):
  B0G E base w0 Γ s (evMu E fresh t x k a s) ((do Instr.mapUpdate t u kv av;pure .skip:Sem Next).run P w):=by
 unfold evMu at g⊢
 split at g
 ·rename_i n
  obtain⟨p,s1,e1,q1,h1,_⟩:=I0j (A0a g)
  rw[A0d e1] at g⊢
  have R1:Rel E base w0 Γ s1.h w:=by rw[q1.h];exact R
  have back:∀{r:Res AVal}{x:Result Next},B0G E base w0 Γ s1 r x→B0G E base w0 Γ s r x:=fun⟨a,s',h1,h2⟩=>⟨a,s',h1,fun N hN hf=>by
   obtain⟨Γ',n,w',k1,k2,k3⟩:=h2 N hN (by rw[q1.nx];exact hf)
   exact⟨Γ',n,w',k1,k2,k3.ext,fun q hq=>k3.off q (by rw[q1.nx];exact hq),by rw[←q1.nx];exact k3.nx,k3.fresh,k3.rel⟩⟩
  cases p with
  |none=>exact back (L0h (M0X hE R1 fresh hx hk ha g))
  |some p=>exact back (Q0f hE R1 fresh (by rw[q1.h];exact h1 p rfl) hx hk ha g)
 ·exact L0h (M0X hE R fresh hx hk ha g)
end
end Go.Ev
