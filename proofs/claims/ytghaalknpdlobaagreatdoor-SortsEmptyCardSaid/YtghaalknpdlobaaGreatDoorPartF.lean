/- A part of the proof of the statement: no conditions. -/
import Derived.Test.YtghaalknpdlobaaGreatDoorPartE
import Derived.Test.YtghaalknpdlobaaGreatDoorTryzSaneB
import Derived.Carry
import Derived.OpenShut
set_option linter.unusedSectionVars false
set_option linter.unusedVariables false
set_option linter.unusedSimpArgs false
namespace Go.Proofs.YtghaalknpdlobaaGreatDoor
open Go Go.Ev Go.Proofs Go.RowKit
set_option maxRecDepth 100000
theorem sane_in (W:World) (m:Nat):CallsIn (FW none) m Tryz.prog 15 #[] W fun e w'=>e=.returned (.bool true)∧Below W.heap.size W w':=by
 refine callsIn_of_wp_marks (F:=FW none) (n:=m) (fn:=Tryz.f15) (c:=sane0) (by kernel_rfl) (by kernel_rfl) trivial ?_ rfl
 refine piece_sound (d:=sane1) ext_ok follows_ok (env_new _) rfl (by kernel_rfl) (by kernel_rfl) piece1 (enters W 205 (by decide)) fun a1 w1 h1=>?_
 refine piece_sound (d:=sane2) ext_ok follows_ok (env_new _) rfl (by kernel_rfl) (by kernel_rfl) piece2 h1 fun a2 w2 h2=>?_
 refine piece_sound (d:=sane3) ext_ok follows_ok (env_new _) rfl (by kernel_rfl) (by kernel_rfl) piece3 h2 fun a3 w3 h3=>?_
 refine piece_sound (d:=sane4) ext_ok follows_ok (env_new _) rfl (by kernel_rfl) (by kernel_rfl) piece4 h3 fun a4 w4 h4=>?_
 refine piece_sound (d:=sane5) ext_ok follows_ok (env_new _) rfl (by kernel_rfl) (by kernel_rfl) piece5 h4 fun a5 w5 h5=>?_
 refine piece_sound (d:=sane6) ext_ok follows_ok (env_new _) rfl (by kernel_rfl) (by kernel_rfl) piece6 h5 fun a6 w6 h6=>?_
 exact last_sound (t:=0) ext_ok follows_ok (env_new _) rfl (by kernel_rfl) (by kernel_rfl) piece7 h6
noncomputable def saneC:FSpec:=⟨[],fun _=>True,fun _=>.leaf (.sb true)⟩
theorem sane_kept:saneC.Kept Tryz.prog 15:=by
 intro x _ r hr
 cases hr
 refine ⟨rfl,fun Γ w vs hst hno hlo hv=>?_⟩
 have hvs:vs=#[]:=by
  have:=hv.nil_inv
  exact Array.toList_eq_nil_iff.1 this
 subst hvs
 have hmk:mkFn Tryz.prog 15=some (.code (codeOf Tryz.f15) Tryz.f15.ntmps Tryz.f15.results.toList):=by kernel_rfl
 obtain ⟨_,_,_,_,_,_,hrun⟩:=mkFn_code hmk
 refine ⟨hrun _ _,fun m=>CallsIn.mono (sane_in w m) ?_⟩
 rintro e w' ⟨rfl,hb⟩
 refine ⟨.bool true,Γ,rfl,by unfold VRel; rfl,hno,Ext.refl Γ,fun b ob e=>?_,hb⟩
 have h1:=hst b ob e
 have:b < w.heap.size:=(Array.getElem?_eq_some_iff.1 h1).1
 rw [hb.block b this]; exact h1
end Go.Proofs.YtghaalknpdlobaaGreatDoor

namespace Go.Proofs.YtghaalknpdlobaaGreatDoor
open Go Go.Ev Go.Proofs Go.RowKit
set_option maxRecDepth 100000
end Go.Proofs.YtghaalknpdlobaaGreatDoor

namespace Go.Proofs.YtghaalknpdlobaaGreatDoor
open Go Go.Ev Go.Proofs Go.RowKit
set_option maxRecDepth 100000
theorem choose_below {α:Type} (d:α) {n:Nat} {p:Nat→α→Prop} (h:∀ i,i < n→∃ a,p i a):∃ f:Nat→α,∀ i,i < n→p i (f i) :=
 ⟨fun i=>if hi:i < n then (h i hi).choose else d,fun i hi=>by simp only [dif_pos hi]; exact (h i hi).choose_spec⟩
section
variable {H:Type} {enc:TypeId×Value→H} {W:World} {sp:Nat→Bool} {hd:Bool}
def CellsAre (W:World) (c:Cd) (cs:List Value) (z:c.S):Prop :=
 cs.length=c.esz∧∀ (k:Nat) (cl:Cell Univ.C Univ.S),(c.cells z)[k]?=some cl→∃ v,cs[k]?=some v∧CRel (fun b=>W.heap[b]?) cl v
theorem slice_in {t e:TypeId} (ht:Tryz.prog.underlying t=some (.slice e)) (c:Cd) (hc:Tryz.prog.cellsOf e=c.esz) (Q:c.S→Prop) {fuel:Nat} {cs:List Value} {x:DataW H×List MemPlace}
  (h:DataW.trod enc Tryz.prog W 0 sp hd fuel t cs=some x) (ih:∀ n cs' y,n < fuel→DataW.trod enc Tryz.prog W 0 sp hd n e cs'=some y→∃ z,CellsAre W c cs' z∧Q z) :
  ∃ (v:Value) (l:List c.S),cs=[v]∧CRel (fun b=>W.heap[b]?) (.sl c l:Cell Univ.C Univ.S) v∧l.length≤maxL∧∀ z∈l,Q z:=by
 rcases DataW.trod_slice ht h with ⟨rfl,_⟩ | ⟨a,len,cap,elems,rest,n,rfl,rfl,_,_,hl,hm,hlen,hel,_,_⟩
 ·exact ⟨_,[],rfl,.nil c none 0,Nat.zero_le _,fun _ h=>by cases h⟩
 have hx:∀ i,i < len→∃ q:List Value×c.S,W.cells? 0 (a.add (i * c.esz)) c.esz=some q.1∧CellsAre W c q.1 q.2∧Q q.2:=by
  intro i hi
  have e1:=hel i hi
  have hi':i < elems.length:=by omega
  rw [List.getElem?_eq_getElem hi',hc] at e1
  obtain ⟨cs',h1,h2⟩:=Option.bind_eq_some_iff.1 e1
  obtain ⟨z,hz,hq⟩:=ih n cs' _ (Nat.lt_succ_self n) h2
  exact ⟨(cs',z),h1,hz,hq⟩
 by_cases h0:len=0
 ·subst h0
  exact ⟨_,[],rfl,.nil c (some a) cap,Nat.zero_le _,fun _ h=>by cases h⟩
 obtain ⟨F,hF⟩:=choose_below (α:=List Value×c.S) ([],c.dflt) hx
 have hpos:0 < c.esz:=Univ.pos (self:=univ) c
 have hcell:∀ i,i < len→∀ k,k < c.esz→W.cell? ((a.add (i * c.esz)).add k)=(F i).1[k]?:=fun i hi=>(World.cells?_some (hF i hi).1).2.2
 have hlenF:∀ i,i < len→(F i).1.length=c.esz:=fun i hi=>(hF i hi).2.1.1
 have hv:∀ i,i < len→∀ k,k < c.esz→(F i).1[k]?=some ((F i).1.getD k (.bool false)):=by
  intro i hi k hk
  rw [← hlenF i hi] at hk
  simp [List.getD,List.getElem?_eq_getElem hk]
 obtain ⟨C,e',z,hb,hsp⟩:∃ C e' z,W.heap[a.block]?=some (.cells C e' z)∧a.spot=none:=by
  have:=hcell 0 (by omega) 0 hpos
  rw [hv 0 (by omega) 0 hpos,Nat.zero_mul] at this
  have e0:(a.add 0).add 0=a:=by simp [Addr.add]
  rw [e0] at this
  unfold World.cell? at this
  split at this
  ·rename_i C e' z hb
   split at this
   ·cases this
   ·rename_i hs
    exact ⟨C,e',z,hb,by simpa using hs⟩
  ·cases this
 have hadd:∀ i k,(a.add i).add k=⟨a.block,a.off + i + k,none⟩:=by
  intro i k
  cases a with
  | mk b o s =>
   obtain rfl:s=none:=hsp
   unfold Addr.add
   by_cases hi:i=0 <;> by_cases hk:k=0 <;> simp [hi,hk]
 have hC:∀ i,i < len→∀ k,k < c.esz→C[a.off + i * c.esz + k]?=some ((F i).1.getD k (.bool false)):=by
  intro i hi k hk
  have:=hcell i hi k hk
  rw [hadd,hv i hi k hk] at this
  unfold World.cell? at this
  rw [show (⟨a.block,a.off + i * c.esz + k,none⟩:Addr).block=a.block from rfl,hb] at this
  simpa using this
 let l:List c.S:=(List.range len).map fun i=>(F i).2
 have hll:l.length=len:=by simp [l]
 have hget:∀ (j:Nat) (y:c.S),l[j]?=some y→j < len∧y=(F j).2:=by
  intro j y hy
  have hj:j < len:=by
   have:=(List.getElem?_eq_some_iff.1 hy).1
   omega
  refine ⟨hj,?_⟩
  simp only [l,List.getElem?_map,List.getElem?_range hj,Option.map_some,Option.some.injEq] at hy
  exact hy.symm
 refine ⟨.slice (some a) len cap,l,rfl,?_,?_,?_⟩
 ·have ea:a=⟨a.block,a.off,none⟩:=by cases a; simp_all
  have key:CRel (fun b=>W.heap[b]?) (.sl c l:Cell Univ.C Univ.S) (.slice (some ⟨a.block,a.off,none⟩) l.length cap):=by
   refine CRel.sl c l a.block a.off cap C e' z (fun j k=>(F j).1.getD k (.bool false)) hb (by omega) ?_ ?_
   ·intro j y hy k hk
    exact hC j (hget j y hy).1 k hk
   ·intro j y hy k cl hk
    obtain ⟨hj,rfl⟩:=hget j y hy
    obtain ⟨v,h1,h2⟩:=(hF j hj).2.1.2 k cl hk
    have:(F j).1.getD k (.bool false)=v:=by simp [List.getD,h1]
    rw [this]
    exact h2
  rw [hll,← ea] at key
  exact key
 ·have:maxLen=maxL:=by unfold maxLen maxL; rfl
  omega
 ·intro y hy
  obtain ⟨i,hi,rfl⟩:=List.mem_map.1 hy
  exact (hF i (by simpa using hi)).2.2
theorem struct_in {t:TypeId} {fs:Array Field} (ht:Tryz.prog.underlying t=some (.struct fs)) {ks:List (TypeId×Nat×Nat)} (hk:fs.toList.map (fun f=>(f.type,f.offset,Tryz.prog.cellsOf f.type))=ks)
  {fuel:Nat} {cs:List Value} {x:DataW H×List MemPlace} (h:DataW.trod enc Tryz.prog W 0 sp hd fuel t cs=some x) :
  ∃ n,fuel=n + 1∧cs.length=Tryz.prog.cellsOf t∧∀ k∈ks,∃ y,DataW.trod enc Tryz.prog W 0 sp hd n k.1 ((cs.drop k.2.1).take k.2.2)=some y:=by
 obtain ⟨xs,n,h1,_,h2,h3,h4⟩:=DataW.trod_struct ht h
 refine ⟨n,h1,h2,fun k hkk=>?_⟩
 rw [← hk] at hkk
 obtain ⟨f,hf,rfl⟩:=List.mem_map.1 hkk
 obtain ⟨i,hi,e⟩:=List.getElem_of_mem hf
 have hi2:i < xs.length:=by rw [h3]; simpa using hi
 have:=h4 i f (by rw [← e]; simp)
 exact ⟨xs[i],by rw [this,List.getElem?_eq_getElem hi2]⟩
noncomputable def fieldsOf (t:TypeId):Array Field:=match Tryz.prog.underlying t with
 | some (.struct fs)=>fs
 | _=>#[]
theorem bool_in {fuel:Nat} {cs:List Value} {x:DataW H×List MemPlace} (h:DataW.trod enc Tryz.prog W 0 sp hd fuel 4 cs=some x):∃ b,cs=[.bool b]:=by
 obtain ⟨b,h,_⟩:=DataW.trod_bool (by kernel_rfl) h; exact ⟨b,h⟩
theorem int_in {fuel:Nat} {cs:List Value} {x:DataW H×List MemPlace} (h:DataW.trod enc Tryz.prog W 0 sp hd fuel 3 cs=some x):∃ b,cs=[.int .i64 b]:=by
 obtain ⟨b,h,_⟩:=DataW.trod_int (k:=.i64) (by kernel_rfl) h; exact ⟨b,h⟩
theorem str_in {fuel:Nat} {cs:List Value} {x:DataW H×List MemPlace} (h:DataW.trod enc Tryz.prog W 0 sp hd fuel 9 cs=some x):∃ b,cs=[.string b]:=by
 obtain ⟨b,h,_⟩:=DataW.trod_string (by kernel_rfl) h; exact ⟨b,h⟩
theorem ints_in {fuel:Nat} {cs:List Value} {x:DataW H×List MemPlace} (h:DataW.trod enc Tryz.prog W 0 sp hd fuel 49 cs=some x) :
  ∃ (v:Value) (l:List Int),cs=[v]∧CRel (fun b=>W.heap[b]?) (.sl Cd.int l:Cell Univ.C Univ.S) v:=by
 obtain ⟨v,l,h1,h2,_⟩:=slice_in (t:=49) (e:=3) (by kernel_rfl) .int (by kernel_rfl) (fun _=>True) h fun n cs' y _ hy=>by
  obtain ⟨b,rfl⟩:=int_in hy
  refine ⟨b,⟨rfl,fun k cl hk=>?_⟩,trivial⟩
  match k,hk with
  | 0,hk=>cases hk; exact ⟨_,rfl,.i _ _⟩
 exact ⟨v,l,h1,h2⟩
theorem symbol_in {fuel:Nat} {cs:List Value} {x:DataW H×List MemPlace} (h:DataW.trod enc Tryz.prog W 0 sp hd fuel 101 cs=some x):∃ s n,cs=[.string s,.int .i64 n]:=by
 obtain ⟨n,rfl,hl,hk⟩:=struct_in (t:=101) (fs:=fieldsOf 101) (ks:=[(9,0,1),(3,1,1)]) (by kernel_rfl) (by kernel_rfl) h
 have hl:cs.length=2:=hl
 match cs,hl with
 | [a,b],_ =>
  obtain ⟨_,h0⟩:=hk (9,0,1) (by simp)
  obtain ⟨_,h1⟩:=hk (3,1,1) (by simp)
  obtain ⟨s,e0⟩:=str_in h0
  obtain ⟨m,e1⟩:=int_in h1
  simp only [List.drop_zero,List.take_succ_cons,List.take_zero,List.cons.injEq,and_true,List.drop_succ_cons] at e0 e1
  exact ⟨s,m,by rw [e0,e1]⟩
theorem case_in {fuel:Nat} {cs:List Value} {x:DataW H×List MemPlace} (h:DataW.trod enc Tryz.prog W 0 sp hd fuel 103 cs=some x):∃ z,CellsAre W .case cs z∧True:=by
 obtain ⟨n,rfl,hl,hk⟩:=struct_in (t:=103) (fs:=fieldsOf 103) (ks:=[(101,0,2),(49,2,1)]) (by kernel_rfl) (by kernel_rfl) h
 have hl:cs.length=3:=hl
 match cs,hl with
 | [a,b,c],_ =>
  obtain ⟨_,h0⟩:=hk (101,0,2) (by simp)
  obtain ⟨_,h1⟩:=hk (49,2,1) (by simp)
  obtain ⟨s,m,e0⟩:=symbol_in h0
  obtain ⟨v,l,e1,hv⟩:=ints_in h1
  simp only [List.drop_zero,List.take_succ_cons,List.take_zero,List.cons.injEq,and_true,List.drop_succ_cons] at e0 e1
  obtain ⟨rfl,rfl⟩:=e0
  subst e1
  refine ⟨⟨s,m,l⟩,⟨rfl,fun k cl hk=>?_⟩,trivial⟩
  match k,hk with
  | 0,hk=>cases hk; exact ⟨_,rfl,.s _⟩
  | 1,hk=>cases hk; exact ⟨_,rfl,.i _ _⟩
  | 2,hk=>cases hk; exact ⟨_,rfl,hv⟩
theorem sort_in {fuel:Nat} {cs:List Value} {x:DataW H×List MemPlace} (h:DataW.trod enc Tryz.prog W 0 sp hd fuel 106 cs=some x):∃ z:Srt,CellsAre W .sort cs z∧z.cases.length≤maxL:=by
 obtain ⟨n,rfl,hl,hk⟩:=struct_in (t:=106) (fs:=fieldsOf 106) (ks:=[(4,0,1),(4,1,1),(4,2,1),(104,3,1),(49,4,1)]) (by kernel_rfl) (by kernel_rfl) h
 have hl:cs.length=5:=hl
 match cs,hl with
 | [a,b,c,d,e],_ =>
  obtain ⟨_,h0⟩:=hk (4,0,1) (by simp)
  obtain ⟨_,h1⟩:=hk (4,1,1) (by simp)
  obtain ⟨_,h2⟩:=hk (4,2,1) (by simp)
  obtain ⟨_,h3⟩:=hk (104,3,1) (by simp)
  obtain ⟨_,h4⟩:=hk (49,4,1) (by simp)
  obtain ⟨i,e0⟩:=bool_in h0
  obtain ⟨s,e1⟩:=bool_in h1
  obtain ⟨t,e2⟩:=bool_in h2
  obtain ⟨v,l,e3,hv,hvl,_⟩:=slice_in (t:=104) (e:=103) (by kernel_rfl) .case (by kernel_rfl) (fun _=>True) h3 fun _ _ _ _ hy=>case_in hy
  obtain ⟨u,m,e4,hu⟩:=ints_in h4
  simp only [List.drop_zero,List.take_succ_cons,List.take_zero,List.cons.injEq,and_true,List.drop_succ_cons] at e0 e1 e2 e3 e4
  subst e0 e1 e2 e3 e4
  refine ⟨⟨i,s,t,l,m⟩,⟨rfl,fun k cl hk=>?_⟩,hvl⟩
  match k,hk with
  | 0,hk=>cases hk; exact ⟨_,rfl,.b _⟩
  | 1,hk=>cases hk; exact ⟨_,rfl,.b _⟩
  | 2,hk=>cases hk; exact ⟨_,rfl,.b _⟩
  | 3,hk=>cases hk; exact ⟨_,rfl,hv⟩
  | 4,hk=>cases hk; exact ⟨_,rfl,hu⟩
theorem sorts_in {fuel:Nat} {cs:List Value} {x:DataW H×List MemPlace} (h:DataW.trod enc Tryz.prog W 0 sp hd fuel 22 cs=some x) :
  ∃ (v:Value) (g:List Srt),cs=[v]∧CRel (fun b=>W.heap[b]?) (.sl Cd.sort g:Cell Univ.C Univ.S) v∧okLens g:=by
 obtain ⟨v,l,h1,h2,h3,h4⟩:=slice_in (t:=22) (e:=106) (by kernel_rfl) .sort (by kernel_rfl) (fun (z:Srt)=>z.cases.length≤maxL) h fun _ _ _ _ hy=>sort_in hy
 exact ⟨v,l,h1,h2,h3,h4⟩
end
end Go.Proofs.YtghaalknpdlobaaGreatDoor

namespace Go.Proofs.YtghaalknpdlobaaGreatDoor
open Go Go.Ev Go.Proofs
set_option maxRecDepth 100000
def joinN (l:List Smp) (n:Int):Int:=l.foldl (fun a x=>min 4001 (a + x.nodes)) n
def joinD (l:List Smp) (d:Int):Int:=l.foldl (fun a x=>max a x.deep) d
def joinS (k n:Int) (s:ByteArray) (l:List Smp):Smp:=⟨⟨k,n,s,l.map (·.t)⟩,joinN l 1,min 4001 (joinD l 0 + 1)⟩
def isS (x:Smp):Bool:=decide (x.nodes≤4000) && decide (x.deep≤600)
def okSm (x:Smp):Prop:=1≤x.nodes∧x.nodes≤4001∧1≤x.deep∧x.deep≤4001
theorem joinN_ok:∀ (l:List Smp) (n:Int),(∀ x∈l,okSm x)→1≤n→n≤4001→1≤joinN l n∧joinN l n≤4001
 | [],n,_,h1,h2=>⟨h1,h2⟩
 | x :: l,n,h,h1,h2=>by
  have:=h x (by simp)
  obtain ⟨a,b,_,_⟩:=this
  exact joinN_ok l (min 4001 (n + x.nodes)) (fun y hy=>h y (by simp [hy])) (by omega) (by omega)
theorem joinD_ok:∀ (l:List Smp) (d:Int),(∀ x∈l,okSm x)→0≤d→d≤4001→0≤joinD l d∧joinD l d≤4001
 | [],n,_,h1,h2=>⟨h1,h2⟩
 | x :: l,n,h,h1,h2=>by
  have:=h x (by simp)
  obtain ⟨_,_,a,b⟩:=this
  exact joinD_ok l (max n x.deep) (fun y hy=>h y (by simp [hy])) (by omega) (by omega)
theorem join_ok {k n:Int} {s:ByteArray} {l:List Smp} (h:∀ x∈l,okSm x):okSm (joinS k n s l):=by
 obtain ⟨a,b⟩:=joinN_ok l 1 h (by omega) (by omega)
 obtain ⟨c,d⟩:=joinD_ok l 0 h (by omega) (by omega)
 refine ⟨a,b,?_,?_⟩
 ·show 1≤min 4001 (joinD l 0 + 1); omega
 ·show min 4001 (joinD l 0 + 1)≤4001; omega
abbrev Smps:Type:=Int→Option Smp
def partsS (m:Smps):List Int→Option (List Smp)
 | []=>some []
 | i :: l=>match m i with
  | none=>none
  | some x=>match partsS m l with
   | none=>none
   | some r=>some (x :: r)
def kindC (c:SCase):Int:=if c.arity=0 then 3 else 5
def caseS (m:Smps) (c:SCase):Option Smp:=match partsS m c.args with
 | none=>none
 | some l=>some (joinS (kindC c) 0 c.name l)
def first0:List SCase→Option Smp
 | []=>none
 | c :: l=>if c.arity=0 then some (joinS 3 0 c.name []) else first0 l
def firstC (m:Smps):List SCase→Option Smp
 | []=>none
 | c :: l=>match caseS m c with
  | none=>firstC m l
  | some x=>some x
def strA1:ByteArray:=⟨#[97]⟩
def firstS (s:Srt) (m:Smps):Option Smp :=
 if s.int=true then some (joinS 2 0 ⟨#[]⟩ []) else if s.str=true then some (joinS 4 0 ⟨#[]⟩ []) else if s.atom=true then some (joinS 3 0 strA1 [])
 else match first0 s.cases with
  | some x=>some x
  | none=>if 0 < (s.vec.length:Int) then some (joinS 6 0 ⟨#[]⟩ []) else firstC m s.cases
noncomputable def newS (g:List Srt) (m:Smps):Smps:=fun i=>if (m i).isSome=true then none else if 0≤i∧i < (g.length:Int) then firstS (gAt g i) m else none
noncomputable def exR (g:List Srt) (m:Smps):Smps:=fun i=>match m i with
 | some x=>some x
 | none=>newS g m i
noncomputable def exK (g:List Srt):Nat→Smps→Smps
 | 0,m=>m
 | n + 1,m=>exK g n (exR g m)
noncomputable def exAll (g:List Srt) (m:Smps):Smps:=exK g g.length m
def lack (g:List Srt) (m:Smps):Nat:=((List.range g.length).filter fun (i:Nat)=>(m (i:Int)).isNone).length
def inside (g:List Srt) (m:Smps):Prop:=∀ i,(m i).isSome=true→inG g i
theorem exR_le {g:List Srt} {m:Smps} {i:Int} {x:Smp} (h:m i=some x):exR g m i=some x:=by unfold exR; rw [h]
theorem newS_in {g:List Srt} {m:Smps} {i:Int} (h:(newS g m i).isSome=true):inG g i∧m i=none:=by
 unfold newS at h
 split at h
 ·cases h
 ·rename_i hm
  split at h
  ·rename_i hi
   exact ⟨hi,by cases hq:m i with | none=>rfl | some x=>rw [hq] at hm; exact absurd rfl hm⟩
  ·cases h
theorem exR_in {g:List Srt} {m:Smps} (h:inside g m):inside g (exR g m):=by
 intro i hi
 unfold exR at hi
 cases hq:m i with
 | some x=>exact h i (by rw [hq]; rfl)
 | none=>rw [hq] at hi; exact (newS_in hi).1
theorem filter_le {α:Type} {p q:α→Bool} (h:∀ x,p x=true→q x=true):∀ l:List α,(l.filter p).length≤(l.filter q).length
 | []=>Nat.le_refl _
 | x :: l=>by
  have ih:=filter_le h l
  rw [List.filter_cons,List.filter_cons]
  cases hp:p x with
  | true=>rw [h x hp]; simp; exact ih
  | false=>cases hq:q x <;> simp <;> omega
theorem filter_lt {α:Type} {p q:α→Bool} (h:∀ x,p x=true→q x=true):∀ {l:List α} {y:α},y∈l→q y=true→p y=false→(l.filter p).length < (l.filter q).length
 | [],_,hy,_,_=>by cases hy
 | x :: l,y,hy,h1,h2=>by
  rw [List.filter_cons,List.filter_cons]
  rcases List.mem_cons.1 hy with e | e
  ·subst e
   rw [h1,h2]
   have:=filter_le h l
   simp; omega
  ·have ih:=filter_lt h e h1 h2
   cases hp:p x with
   | true=>rw [h x hp]; simp; exact ih
   | false=>cases hq:q x <;> simp <;> omega
theorem lack_le {g:List Srt} {m:Smps}:lack g m≤g.length:=by
 unfold lack
 exact Nat.le_trans (List.length_filter_le _ _) (by simp)
theorem lack_lt {g:List Srt} {m:Smps} {i:Int} (h:(newS g m i).isSome=true):lack g (exR g m) < lack g m:=by
 obtain ⟨hi,hm⟩:=newS_in h
 unfold lack
 refine filter_lt (y:=i.toNat) (fun x hx=>?_) (List.mem_range.2 (by have:=hi.1; have:=hi.2; omega)) ?_ ?_
 ·cases hq:m (x:Int) with
  | none=>rfl
  | some y=>rw [exR_le hq] at hx; cases hx
 ·rw [show ((i.toNat:Nat):Int)=i from Int.toNat_of_nonneg hi.1,hm]; rfl
 ·rw [show ((i.toNat:Nat):Int)=i from Int.toNat_of_nonneg hi.1]
  unfold exR
  rw [hm]
  simp only []
  cases hq:newS g m i with
  | none=>rw [hq] at h; cases h
  | some x=>rfl
theorem exR_same {g:List Srt} {m:Smps} (h:∀ i,newS g m i=none):exR g m=m:=by
 funext i
 unfold exR
 cases hq:m i with
 | some x=>rfl
 | none=>exact h i
theorem exK_same {g:List Srt} {m:Smps} (h:exR g m=m):∀ n,exK g n m=m
 | 0=>rfl
 | n + 1=>by unfold exK; rw [h]; exact exK_same h n
theorem exK_more {g:List Srt}:∀ (n:Nat) (m:Smps),lack g m≤n→exK g n (exR g m)=exK g n m
 | 0,m,h=>by
  have:∀ i,newS g m i=none:=by
   intro i
   cases hq:newS g m i with
   | none=>rfl
   | some x =>
    have:=lack_lt (g:=g) (m:=m) (i:=i) (by rw [hq]; rfl)
    omega
  rw [exR_same this]
 | n + 1,m,h=>by
  by_cases c:∃ i,(newS g m i).isSome=true
  ·obtain ⟨i,hi⟩:=c
   have:=lack_lt (g:=g) (m:=m) (i:=i) hi
   have ih:=exK_more (g:=g) n (exR g m) (by omega)
   show exK g n (exR g (exR g m))=exK g n (exR g m)
   exact ih
  ·have:∀ i,newS g m i=none:=by
    intro i
    cases hq:newS g m i with
    | none=>rfl
    | some x=>exact absurd ⟨i,by rw [hq]; rfl⟩ c
   rw [exR_same this]
theorem exAll_step (g:List Srt) (m:Smps):exAll g (exR g m)=exAll g m:=exK_more g.length m lack_le
theorem exAll_stop {g:List Srt} {m:Smps} (h:∀ i,newS g m i=none):exAll g m=m:=exK_same (exR_same h) _
theorem exK_stable {g:List Srt}:∀ (n:Nat) (m:Smps),lack g m≤n→∀ i,newS g (exK g n m) i=none
 | 0,m,h=>by
  intro i
  show newS g m i=none
  cases hq:newS g m i with
  | none=>rfl
  | some x =>
   have:=lack_lt (g:=g) (m:=m) (i:=i) (by rw [hq]; rfl)
   omega
 | n + 1,m,h=>by
  by_cases c:∃ i,(newS g m i).isSome=true
  ·obtain ⟨i,hi⟩:=c
   have:=lack_lt (g:=g) (m:=m) (i:=i) hi
   exact exK_stable n (exR g m) (by omega)
  ·have hn:∀ i,newS g m i=none:=by
    intro i
    cases hq:newS g m i with
    | none=>rfl
    | some x=>exact absurd ⟨i,by rw [hq]; rfl⟩ c
   rw [exK_same (exR_same hn)]
   exact hn
theorem exAll_stable (g:List Srt) (m:Smps):∀ i,newS g (exAll g m) i=none:=exK_stable _ _ lack_le
theorem exK_ind {g:List Srt} {P:Smps→Prop} (hs:∀ m,P m→P (exR g m)):∀ (n:Nat) (m:Smps),P m→P (exK g n m)
 | 0,_,h=>h
 | n + 1,m,h=>exK_ind hs n (exR g m) (hs m h)
theorem parts_mem {m:Smps} {Q:Smp→Prop} (h:∀ i x,m i=some x→Q x):∀ {l:List Int} {r:List Smp},partsS m l=some r→∀ x∈r,Q x
 | [],r,e,x,hx=>by cases e; cases hx
 | i :: l,r,e,x,hx=>by
  unfold partsS at e
  cases hm:m i with
  | none=>rw [hm] at e; cases e
  | some y =>
   rw [hm] at e
   simp only [] at e
   cases hp:partsS m l with
   | none=>rw [hp] at e; cases e
   | some r' =>
    rw [hp] at e
    cases e
    rcases List.mem_cons.1 hx with q | q
    ·rw [q]; exact h i y hm
    ·exact parts_mem h hp x q
theorem parts_len {m:Smps}:∀ {l:List Int} {r:List Smp},partsS m l=some r→r.length=l.length
 | [],r,e=>by cases e; rfl
 | i :: l,r,e=>by
  unfold partsS at e
  cases hm:m i with
  | none=>rw [hm] at e; cases e
  | some y =>
   rw [hm] at e
   simp only [] at e
   cases hp:partsS m l with
   | none=>rw [hp] at e; cases e
   | some r' =>
    rw [hp] at e
    cases e
    simp [parts_len hp]
theorem first_made {s:Srt} {m:Smps} {x:Smp} {Q:Smp→Prop} (h:firstS s m=some x)
  (h2:s.int=true→Q (joinS 2 0 ⟨#[]⟩ [])) (h4:s.str=true→Q (joinS 4 0 ⟨#[]⟩ [])) (h3:s.atom=true→Q (joinS 3 0 strA1 [])) (h0:∀ c∈s.cases,c.arity=0→Q (joinS 3 0 c.name []))
  (h6:0 < (s.vec.length:Int)→Q (joinS 6 0 ⟨#[]⟩ [])) (hc:∀ c∈s.cases,∀ l,partsS m c.args=some l→Q (joinS (kindC c) 0 c.name l)):Q x:=by
 unfold firstS at h
 split at h
 ·rename_i q; cases h; exact h2 q
 split at h
 ·rename_i q; cases h; exact h4 q
 split at h
 ·rename_i q; cases h; exact h3 q
 split at h
 ·rename_i y hy
  cases h
  clear h2 h4 h3 h6 hc
  generalize s.cases=cs at h0 hy
  induction cs with
  | nil=>cases hy
  | cons c cs ih =>
   unfold first0 at hy
   split at hy
   ·rename_i q; cases hy; exact h0 c (by simp) q
   ·exact ih (fun d hd=>h0 d (by simp [hd])) hy
 ·split at h
  ·rename_i q; cases h; exact h6 q
  ·clear h2 h4 h3 h6 h0
   generalize s.cases=cs at h hc
   induction cs with
   | nil=>cases h
   | cons c cs ih =>
    unfold firstC at h
    split at h
    ·exact ih h (fun d hd=>hc d (by simp [hd]))
    ·rename_i y hy
     cases h
     unfold caseS at hy
     split at hy
     ·cases hy
     ·rename_i l hl
      cases hy
      exact hc c (by simp) l hl
theorem exR_all {g:List Srt} {m:Smps} {Q:Int→Smp→Prop} (hm:∀ i x,m i=some x→Q i x) (hn:∀ i x,newS g m i=some x→Q i x):∀ i x,exR g m i=some x→Q i x:=by
 intro i x h
 unfold exR at h
 cases hq:m i with
 | some y=>rw [hq] at h; cases h; exact hm i _ hq
 | none=>rw [hq] at h; exact hn i x h
theorem newS_some {g:List Srt} {m:Smps} {i:Int} {x:Smp} (h:newS g m i=some x):inG g i∧firstS (gAt g i) m=some x:=by
 have hi:=(newS_in (g:=g) (m:=m) (i:=i) (by rw [h]; rfl)).1
 unfold newS at h
 split at h
 ·cases h
 ·rw [if_pos (show 0≤i∧i < (g.length:Int) from hi)] at h; exact ⟨hi,h⟩
theorem first_ok {s:Srt} {m:Smps} {x:Smp} (h:firstS s m=some x) (hm:∀ i y,m i=some y→okSm y):okSm x:=by
 have e:∀ y∈([]:List Smp),okSm y:=fun _ h=>by cases h
 exact first_made h (fun _=>join_ok e) (fun _=>join_ok e) (fun _=>join_ok e) (fun _ _ _=>join_ok e) (fun _=>join_ok e) (fun c _ l hl=>join_ok (parts_mem hm hl))
end Go.Proofs.YtghaalknpdlobaaGreatDoor

namespace Go.Proofs.YtghaalknpdlobaaGreatDoor
open Go Go.Ev Go.Proofs
set_option maxRecDepth 100000
def cntN:Nat→Smps→Nat
 | 0,_=>0
 | n + 1,m=>cntN n m + cond (m (n:Int)).isSome 1 0
theorem moreM_eq {m:Smps} {a:Int} {n:Nat}:moreM m a n=cond (m a).isSome n (n + 1):=by
 unfold moreM; rw [sel_eq]; cases (m a).isSome <;> rfl
theorem cnt_upd0 {m:Smps} {a:Int} {b:Smp} (h0:0≤a):∀ n:Nat,cntN n (updM m a b)=if a < (n:Int) then cond (m a).isSome (cntN n m) (cntN n m + 1) else cntN n m
 | 0=>by rw [if_neg (by omega)]; rfl
 | n + 1=>by
  have ih:=cnt_upd0 (m:=m) (b:=b) h0 n
  unfold cntN
  rw [ih]
  by_cases c:(n:Int)=a
  ·rw [c,updM_at,if_neg (by omega),if_pos (by omega)]
   cases (m a).isSome <;> simp
  ·rw [updM_ne c]
   by_cases d:a < (n:Int)
   ·rw [if_pos d,if_pos (by omega)]
    cases (m a).isSome <;> simp <;> omega
   ·rw [if_neg d,if_neg (by omega)]
theorem cnt_upd {m:Smps} {a:Int} {b:Smp} {n:Nat} (h0:0≤a) (h:a < (n:Int)):moreM m a (cntN n m)=cntN n (updM m a b):=by
 rw [cnt_upd0 h0,if_pos h,moreM_eq]
theorem cnt_del0 {m:Smps} {a:Int} (h0:0≤a) (hs:(m a).isSome=true):∀ n:Nat,cntN n m=if a < (n:Int) then cntN n (delM m a) + 1 else cntN n (delM m a)
 | 0=>by rw [if_neg (by omega)]; rfl
 | n + 1=>by
  have ih:=cnt_del0 (m:=m) h0 hs n
  unfold cntN
  rw [ih]
  by_cases c:(n:Int)=a
  ·rw [c,delM_at,hs,if_neg (by omega),if_pos (by omega)]; rfl
  ·rw [delM_ne c]
   by_cases d:a < (n:Int)
   ·rw [if_pos d,if_pos (by omega)]; omega
   ·rw [if_neg d,if_neg (by omega)]
theorem cnt_del {m:Smps} {a:Int} {n:Nat} (h0:0≤a) (h:a < (n:Int)) (hs:(m a).isSome=true):cntN n (delM m a) < cntN n m:=by
 rw [cnt_del0 h0 hs n,if_pos h]; omega
theorem cnt_zero {m:Smps}:∀ {n:Nat},cntN n m=0→∀ i:Int,0≤i→i < (n:Int)→m i=none
 | 0,_,i,h0,h=>by omega
 | n + 1,hc,i,h0,h=>by
  unfold cntN at hc
  by_cases c:i=(n:Int)
  ·rw [c]
   cases hq:m (n:Int) with
   | none=>rfl
   | some x=>rw [hq] at hc; simp at hc
  ·exact cnt_zero (n:=n) (by omega) i h0 (by omega)
theorem cnt_none {m:Smps} (h:∀ i,m i=none):∀ n:Nat,cntN n m=0
 | 0=>rfl
 | n + 1=>by unfold cntN; rw [cnt_none h n,h]; rfl
def restr (m:Smps) (i:Int):Smps:=fun x=>if x < i then m x else none
theorem restr_some {m:Smps} {i:Int} {y:Smp} (h:m i=some y):restr m (i + 1)=updM (restr m i) i y:=by
 funext x
 unfold restr
 by_cases c:x=i
 ·rw [c,updM_at,if_pos (by omega),h]
 ·rw [updM_ne c]
  by_cases d:x < i
  ·rw [if_pos d,if_pos (by omega)]
  ·rw [if_neg d,if_neg (by omega)]
theorem restr_none {m:Smps} {i:Int} (h:m i=none):restr m (i + 1)=restr m i:=by
 funext x
 unfold restr
 by_cases c:x=i
 ·rw [c,if_pos (by omega),if_neg (by omega),h]
 ·by_cases d:x < i
  ·rw [if_pos d,if_pos (by omega)]
  ·rw [if_neg d,if_neg (by omega)]
theorem restr_zero {g:List Srt} {m:Smps} (h:inside g m):(fun _=>none)=restr m 0:=by
 funext x
 unfold restr
 split
 ·rename_i c
  cases hq:m x with
  | none=>rfl
  | some y=>have:=h x (by rw [hq]; rfl); unfold inG at this; omega
 ·rfl
theorem restr_full {g:List Srt} {m:Smps} (h:inside g m):restr m (g.length:Int)=m:=by
 funext x
 unfold restr
 split
 ·rfl
 ·rename_i c
  cases hq:m x with
  | none=>rfl
  | some y=>have:=h x (by rw [hq]; rfl); unfold inG at this; omega
def mergeM (m r:Smps):Smps:=fun x=>match r x with
 | some y=>some y
 | none=>m x
theorem merge_step {m r:Smps} {a:Int} {b:Smp} (h:r a=some b):mergeM (updM m a b) (delM r a)=mergeM m r:=by
 funext x
 unfold mergeM
 by_cases c:x=a
 ·rw [c,delM_at,updM_at,h]
 ·rw [delM_ne c,updM_ne c]
theorem merge_end {m r:Smps} (h:∀ x,r x=none):mergeM m r=m:=by
 funext x
 unfold mergeM
 rw [h]
theorem merge_new {g:List Srt} {m:Smps}:mergeM m (newS g m)=exR g m:=by
 funext x
 unfold mergeM exR
 cases hq:m x with
 | some y =>
  have:newS g m x=none:=by unfold newS; rw [hq]; rfl
  rw [this]
 | none=>cases newS g m x <;> rfl
theorem new_inside {g:List Srt} {m:Smps}:inside g (newS g m):=fun i h=>(newS_in h).1
theorem newS_has {g:List Srt} {m:Smps} {i:Int} (h:(m i).isSome=true):newS g m i=none:=by unfold newS; rw [if_pos h]
theorem newS_at {g:List Srt} {m:Smps} {i:Int} (h:m i=none) (hi:0≤i∧i < (g.length:Int)):newS g m i=firstS (gAt g i) m:=by unfold newS; rw [h,if_neg (by simp),if_pos hi]
end Go.Proofs.YtghaalknpdlobaaGreatDoor

namespace Go.Proofs.YtghaalknpdlobaaGreatDoor
open Go Go.Ev Go.Proofs
structure HdA {α:Type} (r:Da α) (p:α→Prop):Prop where
 out:r.holds p
theorem hda_eq {α:Type} {r t:Da α} {p:α→Prop} (e:r=t) (h:t.holds p):HdA r p:=⟨by rw [e]; exact h⟩
noncomputable abbrev mps0:Mps:=[(122,(Cd.int:Cd),(Cd.smp:Cd)),(310,(Cd.int:Cd),(Cd.bool:Cd))]
theorem fkeptX {mp:Mps} {ws:List (FuncId×XSpec)} {cs:List (FuncId×List FSpec)} {ls:List (Nat×LoopC)} (hw:∀ p∈ws,p.2.Kept Tryz.prog p.1) (hc:∀ p∈cs,∀ S∈p.2,S.Kept Tryz.prog p.1) (hl:∀ p∈ls,LpSound Tryz.prog p.2)
  (S:FSpec) (f:FuncId) (F:Func) (ids:List Nat) (hmk:mkFn Tryz.prog f=some (.code (unmark ls (cd F ids)) F.ntmps F.results.toList)) (hc':markOk (cd F ids)=true) (k:Pt)
  (h:∀ x,S.pre x→Hd (S.run (envX Tryz.prog mp ws cs ls) (cd F ids) F.ntmps F.results.toList 60 x) fun q=>q.1=true∧(S.res x).val=some (k.nz q.2)):S.Kept Tryz.prog f :=
 FSpec.keptX ext_ok follows_ok mp ws cs ls hw hc hl S 60 (cd F ids) hmk hc' k fun x hx=>(h x hx).out
theorem pkeptX {mp:Mps} {ws:List (FuncId×XSpec)} {cs:List (FuncId×List FSpec)} {ls:List (Nat×LoopC)} (hw:∀ p∈ws,p.2.Kept Tryz.prog p.1) (hc:∀ p∈cs,∀ S∈p.2,S.Kept Tryz.prog p.1) (hl:∀ p∈ls,LpSound Tryz.prog p.2)
  (S:PSpec) (μ:Pts (S.keep.map (·.2))→Pos (S.objs.map (·.2))→Nat) (hmk:markOk S.body=true)
  (h:∀ x y,S.inv x y→Hd (S.round (envX Tryz.prog mp ws cs ls) 60 x y) fun q=>q.1=true∧match q.2.1 with
   | .normal=>∃ x' y',Pts.vals _ x'=q.2.2.1∧Pos.obs _ y'=q.2.2.2∧S.inv x' y'∧μ x' y' < μ x y∧(S.res x' y').val=(S.res x y).val
   | e=>(S.res x y).val=some (e,q.2.2)):LpSound Tryz.prog (S.loop ls) :=
 PSpec.keptX ext_ok follows_ok mp ws cs ls hw hc hl S 60 μ hmk fun x y hx=>(h x y hx).out
theorem gkept {mp:Mps} {ws:List (FuncId×XSpec)} {cs:List (FuncId×List FSpec)} {ls:List (Nat×LoopC)} (hw:∀ p∈ws,p.2.Kept Tryz.prog p.1) (hc:∀ p∈cs,∀ S∈p.2,S.Kept Tryz.prog p.1) (hl:∀ p∈ls,LpSound Tryz.prog p.2)
  (S:GL) (μ:GKs S.ks→Nat) (hmk:markOk S.body=true)
  (h:∀ x,S.inv x→HdA (S.round (envX Tryz.prog mp ws cs ls) 60 x) fun q=>q.1=true∧match q.2.1 with
   | .normal=>∃ y,GKs.vals S.ks y=q.2.2.1∧GKs.obs S.ks y=q.2.2.2∧S.inv y∧μ y < μ x∧(S.res y).val=(S.res x).val
   | e=>(S.res x).val=some (e,q.2.2)):LpSound Tryz.prog (S.loop ls) :=
 GL.keptX ext_ok follows_ok mp ws cs ls hw hc hl S 60 μ hmk fun x hx=>(h x hx).out
abbrev smpP:List Pt:=[.i .i64,.i .i64,.s,.d Cd.term,.i .i64,.i .i64]
abbrev smp0:List Pt:=[.i .i64,.i .i64,.s,.nl,.i .i64,.i .i64]
abbrev trm0:List Pt:=[.i .i64,.i .i64,.s,.nl]
end Go.Proofs.YtghaalknpdlobaaGreatDoor

namespace Go.Proofs.YtghaalknpdlobaaGreatDoor
open Go Go.Ev Go.Proofs
set_option maxRecDepth 100000
def kindA (a:Int):Int:=if a=0 then 3 else 5
noncomputable def wrC:FSpec:=⟨[symP],fun _=>True,fun (x:SymX×Unit)=>.leaf (.agg [.si .i64 (kindA x.1.2.1),.si .i64 0,.ss x.1.1,.nils])⟩
theorem wr_kept:wrC.Kept Tryz.prog 216:=by
 refine fkept ct0 lp0 wrC 216 Tryz.f216 [] (by kernel_rfl) (by kernel_rfl) ?_
 intro (xx:SymX×Unit) _
 obtain ⟨⟨s,a,u1⟩,u2⟩:=xx
 refine hd_eq (t:=.ite (decide (a=0)) (.leaf (true,.agg [.si .i64 3,.si .i64 0,.ss s,.nils])) (.leaf (true,.agg [.si .i64 5,.si .i64 0,.ss s,.nils]))) (by kernel_rfl) ?_
 refine holds_ite (fun h=>⟨rfl,?_⟩) (fun h=>⟨rfl,?_⟩)
 ·show some (AVal.agg [.si .i64 (kindA a),.si .i64 0,.ss s,.nils])=_
  rw [show kindA a=3 from if_pos (of_decide_eq_true h)]
 ·show some (AVal.agg [.si .i64 (kindA a),.si .i64 0,.ss s,.nils])=_
  rw [show kindA a=5 from if_neg (of_decide_eq_false h)]
abbrev SmpX:Type:=Int×Int×ByteArray×List Trm×Int×Int×Unit
noncomputable def smpIsC:FSpec:=⟨[.agg smpP],fun _=>True,fun (x:SmpX×Unit)=>.leaf (.sb (isS ⟨⟨x.1.1,x.1.2.1,x.1.2.2.1,x.1.2.2.2.1⟩,x.1.2.2.2.2.1,x.1.2.2.2.2.2.1⟩))⟩
theorem smpIs_kept:smpIsC.Kept Tryz.prog 82:=by
 refine fkept ct0 lp0 smpIsC 82 Tryz.f82 [] (by kernel_rfl) (by kernel_rfl) ?_
 intro xx _
 obtain ⟨⟨k,n,s,l,a,b,u1⟩,u2⟩:SmpX×Unit:=xx
 refine hd_eq (t:=.ite (!decide (4000 < a)) (.leaf (true,.sb (!decide (600 < b)))) (.leaf (true,.sb false))) (by kernel_rfl) ?_
 refine holds_ite (fun h=>⟨rfl,?_⟩) (fun h=>⟨rfl,?_⟩)
 ·have h:¬ 4000 < a:=by simpa using h
  show some (AVal.sb (decide (a≤4000) && decide (b≤600)))=some (AVal.sb (!decide (600 < b)))
  rw [decide_eq_true (show a≤4000 by omega)]
  congr 2
  by_cases c:b≤600
  ·rw [decide_eq_true c,decide_eq_false (show ¬ 600 < b by omega)]; rfl
  ·rw [decide_eq_false c,decide_eq_true (show 600 < b by omega)]; rfl
 ·have h:4000 < a:=by simpa using h
  show some (AVal.sb (decide (a≤4000) && decide (b≤600)))=some (AVal.sb false)
  rw [decide_eq_false (show ¬ a≤4000 by omega)]; rfl
structure JnZ where
 k:Int
 n:Int
 s:ByteArray
 k1:Int
 n1:Int
 s1:ByteArray
 a1:Int
 b1:Int
 k2:Int
 n2:Int
 s2:ByteArray
noncomputable abbrev jnOb (z:JnZ) (L:AVal) (a b:Int) (o:AObj):List AObj :=
 [.cells [.si .i64 z.k,.si .i64 z.n,.ss z.s,L] 25 false false 0 0 [(0,0,4)],.cells [.si .i64 z.k1,.si .i64 z.n1,.ss z.s1,.nils,.si .i64 z.a1,.si .i64 z.b1] 120 false false 1 0 [(1,0,6)],
  .cells [.si .i64 z.k2,.si .i64 z.n2,.ss z.s2,.nils,.si .i64 a,.si .i64 b] 120 false false 2 0 [(2,0,6)],o]
noncomputable abbrev jnPs:List AVal:=[.ptr 0 0,.ptr 1 0,.ptr 2 0]
noncomputable def jnEnd (z:JnZ) (tot:List Trm) (a b:Int):Dt (AExit×List AVal×List AObj) :=
 .ite (decide (tot.length=0)) (.leaf (.exit 0,jnPs,jnOb z .nils a b .done)) (.leaf (.exit 0,jnPs,jnOb z (.asl (Cd.term:Cd) 3 0 tot.length) a b (.arr (Cd.term:Cd) (show List Trm from tot))))
theorem jnEnd_some {z:JnZ} {tot:List Trm} {a b:Int} (h:0 < tot.length):(jnEnd z tot a b).val=some (.exit 0,jnPs,jnOb z (.asl (Cd.term:Cd) 3 0 tot.length) a b (.arr (Cd.term:Cd) (show List Trm from tot))):=by
 unfold jnEnd
 rw [decide_eq_false (by omega)]; rfl
abbrev JnS:Type:=Unit×Unit×Unit×List Smp×Int×Int×Unit
abbrev JnO1:Type:=Int×Int×ByteArray×Unit×Int×Int×Unit
abbrev JnA:Type:=JnS×(Int×Int×ByteArray×Unit×Unit)×JnO1×JnO1×Unit×Unit
abbrev JnB:Type:=JnS×(Int×Int×ByteArray×Nat×Unit)×JnO1×JnO1×List Trm×Unit
abbrev JnX:Type:=JnA ⊕ (JnB ⊕ Empty)
noncomputable abbrev jnK:List GK:=[⟨[.p 0 0,.p 1 0,.p 2 0,.d Cd.smp,.i .i64,.i .i64],[.cells trm0 25 0 0 [(0,0,4)],.cells smp0 120 1 0 [(1,0,6)],.cells smp0 120 2 0 [(2,0,6)],.gone]⟩,
   ⟨[.p 0 0,.p 1 0,.p 2 0,.d Cd.smp,.i .i64,.i .i64],[.cells [.i .i64,.i .i64,.s,.al Cd.term 3] 25 0 0 [(0,0,4)],.cells smp0 120 1 0 [(1,0,6)],.cells smp0 120 2 0 [(2,0,6)],.arr Cd.term]⟩]
def jnV (l:List Smp) (len i a b:Int):Prop:=(∀ x∈l,okSm x)∧l.length≤1000∧len=(l.length:Int)∧0≤i∧i≤(l.length:Int)∧1≤a∧a≤4001
def jnI:JnX→Prop
 | .inl ⟨⟨_,_,_,l,len,i,_⟩,_,_,⟨_,_,_,_,a,b,_⟩,_,_⟩=>jnV l len i a b
 | .inr (.inl ⟨⟨_,_,_,l,len,i,_⟩,⟨_,_,_,q,_⟩,_,⟨_,_,_,_,a,b,_⟩,ar,_⟩)=>jnV l len i a b∧q=ar.length∧0 < q∧(q:Int)≤i
 | .inr (.inr x)=>x.elim
def jnZA (x:JnA):JnZ:=⟨x.2.1.1,x.2.1.2.1,x.2.1.2.2.1,x.2.2.1.1,x.2.2.1.2.1,x.2.2.1.2.2.1,x.2.2.1.2.2.2.2.1,x.2.2.1.2.2.2.2.2.1,x.2.2.2.1.1,x.2.2.2.1.2.1,x.2.2.2.1.2.2.1⟩
def jnZB (x:JnB):JnZ:=⟨x.2.1.1,x.2.1.2.1,x.2.1.2.2.1,x.2.2.1.1,x.2.2.1.2.1,x.2.2.1.2.2.1,x.2.2.1.2.2.2.2.1,x.2.2.1.2.2.2.2.2.1,x.2.2.2.1.1,x.2.2.2.1.2.1,x.2.2.2.1.2.2.1⟩
noncomputable def jnRes (x:JnX):Dt (AExit×List AVal×List AObj):=match x with
 | .inl x=>jnEnd (jnZA x) ((x.1.2.2.2.1.drop x.1.2.2.2.2.2.1.toNat).map (·.t)) (joinN (x.1.2.2.2.1.drop x.1.2.2.2.2.2.1.toNat) x.2.2.2.1.2.2.2.2.1) (joinD (x.1.2.2.2.1.drop x.1.2.2.2.2.2.1.toNat) x.2.2.2.1.2.2.2.2.2.1)
 | .inr (.inl x)=>jnEnd (jnZB x) (x.2.2.2.2.1 ++ (x.1.2.2.2.1.drop x.1.2.2.2.2.2.1.toNat).map (·.t)) (joinN (x.1.2.2.2.1.drop x.1.2.2.2.2.2.1.toNat) x.2.2.2.1.2.2.2.2.1) (joinD (x.1.2.2.2.1.drop x.1.2.2.2.2.2.1.toNat) x.2.2.2.1.2.2.2.2.2.1)
 | .inr (.inr x)=>x.elim
def jnMu:JnX→Nat
 | .inl x=>((x.1.2.2.2.1.length:Int) - x.1.2.2.2.2.2.1).toNat
 | .inr (.inl x)=>((x.1.2.2.2.1.length:Int) - x.1.2.2.2.2.2.1).toNat
 | .inr (.inr x)=>x.elim
noncomputable def jnL:GL :=
 {body:=loopIn Tryz.f215 0,nt:=44,nx:=3,nxi:=4,room:=16,gro:=[(.cell 0 3,3)],keep:=[2,4,5,9,10,11],objs:=[0,1,2,3],ks:=jnK
  keepX:=fun _=>[2,4,5],objsX:=fun _=>[0,1,2,3],inv:=fun (x:JnX)=>jnI x,res:=fun (x:JnX)=>jnRes x }
theorem jnL_ok:LpSound Tryz.prog (jnL.loop []):=by
 refine gkept (mp:=[]) xs0 ct0 lp0 jnL (fun (x:JnX)=>jnMu x) (by kernel_rfl) ?_
 intro (xx:JnX) (hx:jnI xx)
 rcases xx with ⟨⟨u1,u2,u3,l,len,i,u4⟩,⟨k,n,s,u5,u6⟩,⟨k1,n1,s1,u7,a1,b1,u8⟩,⟨k2,n2,s2,u9,a,b,u10⟩,u11,u12⟩ | ⟨⟨u1,u2,u3,l,len,i,u4⟩,⟨k,n,s,q,u6⟩,⟨k1,n1,s1,u7,a1,b1,u8⟩,⟨k2,n2,s2,u9,a,b,u10⟩,ar,u12⟩ | x
 ·obtain ⟨hok,hm,hl,h0,h1,ha1,ha2⟩:jnV l len i a b:=hx
  subst hl
  let z:Smp:=Univ.dflt (Cd.smp:Cd)
  refine hda_eq (t:=.ite (decide (i < (l.length:Int))) (.ite (decide (0≤i) && decide (i < (l.length:Int))) (.ite (decide ([eT (l.getD i.toNat z).t].length≤1000000))
    (.leaf (true,.normal,[.ptr 0 0,.ptr 1 0,.ptr 2 0,.dsl (Cd.smp:Cd) l,.si .i64 (l.length:Int),.si .i64 (IntKind.i64.wrap (i + 1))],jnOb ⟨k,n,s,k1,n1,s1,a1,b1,k2,n2,s2⟩ (.asl (Cd.term:Cd) 3 0 ([eT (l.getD i.toNat z).t].length)) (sel true (min 4001 (IntKind.i64.wrap (a + (l.getD i.toNat z).nodes))) (max 4001 (IntKind.i64.wrap (a + (l.getD i.toNat z).nodes)))) (sel false (min b (l.getD i.toNat z).deep) (max b (l.getD i.toNat z).deep)) (.arr (Cd.term:Cd) (show List Trm from [eT (l.getD i.toNat z).t]))))
    .fail) .fail) (.leaf (true,.exit 0,jnPs,jnOb ⟨k,n,s,k1,n1,s1,a1,b1,k2,n2,s2⟩ .nils a b .done))) (by kernel_rfl) ?_
  refine holdsA_ite (fun hlt=>?_) (fun hlt=>?_)
  ·have hlt:=of_decide_eq_true hlt
   have hd:=drop_cons l i z h0 hlt
   have hx:=hok _ (getD_mem l i z h0 hlt)
   unfold okSm at hx
   have hs:sel true (min 4001 (IntKind.i64.wrap (a + (l.getD i.toNat z).nodes))) (max 4001 (IntKind.i64.wrap (a + (l.getD i.toNat z).nodes)))=min 4001 (a + (l.getD i.toNat z).nodes):=by
    rw [wrap64 (by omega) (by omega)]; rfl
   rw [hs,eT_eq,wrap64 (by omega) (by omega)]
   refine holdsA_need (by simp [h0,hlt]) (holdsA_need (by simp) ⟨rfl,(show JnX from .inr (.inl (((),(),(),l,(l.length:Int),i + 1,()),(k,n,s,1,()),(k1,n1,s1,(),a1,b1,()),(k2,n2,s2,(),min 4001 (a + (l.getD i.toNat z).nodes),max b (l.getD i.toNat z).deep,()),[(l.getD i.toNat z).t],()))),rfl,rfl,?_⟩)
   refine ⟨⟨⟨hok,hm,rfl,by omega,by omega,by omega,by omega⟩,rfl,by omega,by omega⟩,by show ((l.length:Int) - (i + 1)).toNat < ((l.length:Int) - i).toNat; omega,?_⟩
   show (jnEnd ⟨k,n,s,k1,n1,s1,a1,b1,k2,n2,s2⟩ ([(l.getD i.toNat z).t] ++ (l.drop (i + 1).toNat).map (·.t)) (joinN (l.drop (i + 1).toNat) _) (joinD (l.drop (i + 1).toNat) _)).val=(jnEnd ⟨k,n,s,k1,n1,s1,a1,b1,k2,n2,s2⟩ ((l.drop i.toNat).map (·.t)) (joinN (l.drop i.toNat) a) (joinD (l.drop i.toNat) b)).val
   rw [hd]; rfl
  ·refine ⟨rfl,?_⟩
   have hd:=drop_end l i h1 (of_decide_eq_false hlt)
   show (jnEnd ⟨k,n,s,k1,n1,s1,a1,b1,k2,n2,s2⟩ ((l.drop i.toNat).map (·.t)) (joinN (l.drop i.toNat) a) (joinD (l.drop i.toNat) b)).val=_
   rw [hd]; rfl
 ·obtain ⟨⟨hok,hm,hl,h0,h1,ha1,ha2⟩,hq,hq0,hqi⟩:jnV l len i a b∧q=ar.length∧0 < q∧(q:Int)≤i:=hx
  subst hl
  let z:Smp:=Univ.dflt (Cd.smp:Cd)
  refine hda_eq (t:=.ite (decide (i < (l.length:Int))) (.ite (decide (0≤i) && decide (i < (l.length:Int))) (.ite (decide (q=ar.length) && decide (q + [eT (l.getD i.toNat z).t].length≤1000000))
    (.leaf (true,.normal,[.ptr 0 0,.ptr 1 0,.ptr 2 0,.dsl (Cd.smp:Cd) l,.si .i64 (l.length:Int),.si .i64 (IntKind.i64.wrap (i + 1))],jnOb ⟨k,n,s,k1,n1,s1,a1,b1,k2,n2,s2⟩ (.asl (Cd.term:Cd) 3 0 (q + [eT (l.getD i.toNat z).t].length)) (sel true (min 4001 (IntKind.i64.wrap (a + (l.getD i.toNat z).nodes))) (max 4001 (IntKind.i64.wrap (a + (l.getD i.toNat z).nodes)))) (sel false (min b (l.getD i.toNat z).deep) (max b (l.getD i.toNat z).deep)) (.arr (Cd.term:Cd) (show List Trm from ar ++ [eT (l.getD i.toNat z).t]))))
    .fail) .fail) (.leaf (true,.exit 0,jnPs,jnOb ⟨k,n,s,k1,n1,s1,a1,b1,k2,n2,s2⟩ (.asl (Cd.term:Cd) 3 0 q) a b (.arr (Cd.term:Cd) (show List Trm from ar))))) (by kernel_rfl) ?_
  refine holdsA_ite (fun hlt=>?_) (fun hlt=>?_)
  ·have hlt:=of_decide_eq_true hlt
   have hd:=drop_cons l i z h0 hlt
   have hx:=hok _ (getD_mem l i z h0 hlt)
   unfold okSm at hx
   have hs:sel true (min 4001 (IntKind.i64.wrap (a + (l.getD i.toNat z).nodes))) (max 4001 (IntKind.i64.wrap (a + (l.getD i.toNat z).nodes)))=min 4001 (a + (l.getD i.toNat z).nodes):=by
    rw [wrap64 (by omega) (by omega)]; rfl
   rw [hs,eT_eq,wrap64 (by omega) (by omega)]
   refine holdsA_need (by simp [h0,hlt]) (holdsA_need (by simp [← hq]; omega) ⟨rfl,(show JnX from .inr (.inl (((),(),(),l,(l.length:Int),i + 1,()),(k,n,s,q + 1,()),(k1,n1,s1,(),a1,b1,()),(k2,n2,s2,(),min 4001 (a + (l.getD i.toNat z).nodes),max b (l.getD i.toNat z).deep,()),ar ++ [(l.getD i.toNat z).t],()))),rfl,rfl,?_⟩)
   refine ⟨⟨⟨hok,hm,rfl,by omega,by omega,by omega,by omega⟩,by rw [hq]; simp,by omega,by omega⟩,by show ((l.length:Int) - (i + 1)).toNat < ((l.length:Int) - i).toNat; omega,?_⟩
   show (jnEnd ⟨k,n,s,k1,n1,s1,a1,b1,k2,n2,s2⟩ ((ar ++ [(l.getD i.toNat z).t]) ++ (l.drop (i + 1).toNat).map (·.t)) (joinN (l.drop (i + 1).toNat) _) (joinD (l.drop (i + 1).toNat) _)).val=(jnEnd ⟨k,n,s,k1,n1,s1,a1,b1,k2,n2,s2⟩ (ar ++ (l.drop i.toNat).map (·.t)) (joinN (l.drop i.toNat) a) (joinD (l.drop i.toNat) b)).val
   rw [hd,List.append_assoc]; rfl
  ·refine ⟨rfl,?_⟩
   have hd:=drop_end l i h1 (of_decide_eq_false hlt)
   show (jnEnd ⟨k,n,s,k1,n1,s1,a1,b1,k2,n2,s2⟩ (ar ++ (l.drop i.toNat).map (·.t)) (joinN (l.drop i.toNat) a) (joinD (l.drop i.toNat) b)).val=_
   rw [hd,List.map_nil,List.append_nil,jnEnd_some (by omega),hq]; rfl
 ·exact x.elim
end Go.Proofs.YtghaalknpdlobaaGreatDoor

namespace Go.Proofs.YtghaalknpdlobaaGreatDoor
open Go Go.Ev Go.Proofs
set_option maxRecDepth 100000
noncomputable abbrev smpA (x:Smp):List AVal:=[.si .i64 x.t.kind,.si .i64 x.t.n,.ss x.t.s,.dsl (Cd.term:Cd) x.t.l,.si .i64 x.nodes,.si .i64 x.deep]
noncomputable abbrev smpV (x:Smp):AVal:=.agg (smpA x)
abbrev TrmX:Type:=Int×Int×ByteArray×Unit×Unit
noncomputable def joinedC:FSpec:=⟨[.agg trm0,.d Cd.smp],fun (x:TrmX×List Smp×Unit)=>(∀ y∈x.2.1,okSm y)∧x.2.1.length≤1000,fun (x:TrmX×List Smp×Unit)=>.leaf (smpV (joinS x.1.1 x.1.2.1 x.1.2.2.1 x.2.1))⟩
theorem joined_kept:joinedC.Kept Tryz.prog 215:=by
 have hL:∀ p∈[(0,jnL.loop [])],LpSound Tryz.prog p.2:=lpc jnL_ok lp0
 have hmk:mkFn Tryz.prog 215=some (.code (unmark [(0,jnL.loop [])] (cd Tryz.f215 [0])) Tryz.f215.ntmps Tryz.f215.results.toList):=by kernel_rfl
 refine fkeptX (mp:=[]) xs0 ct0 hL joinedC 215 Tryz.f215 [0] hmk (by kernel_rfl) (.agg smpP) ?_
 intro (xx:TrmX×List Smp×Unit) (hx:(∀ y∈xx.2.1,okSm y)∧xx.2.1.length≤1000)
 obtain ⟨⟨k,n,s,u1,u2⟩,l,u3⟩:=xx
 obtain ⟨hok,hm⟩:(∀ y∈l,okSm y)∧l.length≤1000:=hx
 have hd:=joinD_ok l 0 hok (by omega) (by omega)
 refine hd_eq (t:=.ite (dec (jnV l (l.length:Int) 0 1 0)) (.ite (decide ((l.map (·.t)).length=0))
   (.leaf (true,.agg [.si .i64 k,.si .i64 n,.ss s,.nils,.si .i64 (joinN l 1),.si .i64 (sel true (min 4001 (IntKind.i64.wrap (joinD l 0 + 1))) (max 4001 (IntKind.i64.wrap (joinD l 0 + 1))))]))
   (.leaf (true,.agg [.si .i64 k,.si .i64 n,.ss s,.dsl (Cd.term:Cd) (subL (α:=Trm) (l.map (·.t)) 0 (l.map (·.t)).length),.si .i64 (joinN l 1),.si .i64 (sel true (min 4001 (IntKind.i64.wrap (joinD l 0 + 1))) (max 4001 (IntKind.i64.wrap (joinD l 0 + 1))))]))) .fail) (by kernel_rfl) ?_
 rw [wrap64 (by omega) (by omega)]
 refine holds_need (dec_true ⟨hok,hm,rfl,by omega,by omega,by omega,by omega⟩) (holds_ite (fun h=>⟨rfl,?_⟩) fun h=>⟨rfl,?_⟩)
 ·have h:=of_decide_eq_true h
  have:l=[]:=by simpa using h
  subst this; rfl
 ·show some (smpV (joinS k n s l))=some (AVal.agg [.si .i64 k,.si .i64 n,.ss s,.dsl (Cd.term:Cd) (subL (α:=Trm) (l.map (·.t)) 0 (l.map (·.t)).length),.si .i64 (joinN l 1),.si .i64 (min 4001 (joinD l 0 + 1))])
  rw [subL_all]; rfl
end Go.Proofs.YtghaalknpdlobaaGreatDoor

namespace Go.Proofs.YtghaalknpdlobaaGreatDoor
open Go Go.Ev Go.Proofs
set_option maxRecDepth 100000
abbrev eS (x:Smp):Smp:=⟨eT x.t,x.nodes,x.deep⟩
theorem eS_eq (x:Smp):eS x=x:=by cases x with | mk t a b=>show Smp.mk (eT t) a b=_; rw [eT_eq]
noncomputable def ptEnd (m:Smps) (tot:List Smp) (l:List Int):Dt (AExit×List AVal×List AObj) :=
 .ite (partsS m l).isSome (.ite (decide ((tot ++ (partsS m l).getD []).length=0)) (.leaf (.exit 0,[.nils],[.done]))
  (.leaf (.exit 0,[.asl (Cd.smp:Cd) 0 0 (tot ++ (partsS m l).getD []).length],[.arr (Cd.smp:Cd) (show List Smp from tot ++ (partsS m l).getD [])]))) (.leaf (.ret,[.nils,.sb false],[]))
theorem ptEnd_cons {m:Smps} {tot:List Smp} {i:Int} {l:List Int} {x:Smp} (h:m i=some x):(ptEnd m tot (i :: l)).val=(ptEnd m (tot ++ [x]) l).val:=by
 unfold ptEnd
 have:partsS m (i :: l)=(partsS m l).map (x :: ·):=by
  conv=>lhs; unfold partsS
  rw [h]
  cases partsS m l <;> rfl
 rw [this]
 cases partsS m l with
 | none=>rfl
 | some r=>simp
theorem ptEnd_none {m:Smps} {tot:List Smp} {i:Int} {l:List Int} (h:m i=none):(ptEnd m tot (i :: l)).val=some (.ret,[.nils,.sb false],[]):=by
 unfold ptEnd partsS
 rw [h]; rfl
theorem ptEnd_end {m:Smps} {tot:List Smp} (h:0 < tot.length):(ptEnd m tot []).val=some (.exit 0,[.asl (Cd.smp:Cd) 0 0 tot.length],[.arr (Cd.smp:Cd) (show List Smp from tot)]):=by
 unfold ptEnd partsS
 show (Dt.ite (decide ((tot ++ []).length=0)) _ _:Dt (AExit×List AVal×List AObj)).val=_
 rw [List.append_nil,decide_eq_false (by omega)]
 show some (AExit.exit 0,[AVal.asl (Cd.smp:Cd) 0 0 (tot ++ []).length],[AObj.arr (Cd.smp:Cd) (show List Smp from (tot ++ []))])=_
 rw [List.append_nil]
noncomputable abbrev ptK:List GK:=[⟨[.dm Cd.int Cd.smp,.nl,.d Cd.int,.i .i64,.i .i64],[.gone]⟩,⟨[.dm Cd.int Cd.smp,.al Cd.smp 0,.d Cd.int,.i .i64,.i .i64],[.arr Cd.smp]⟩]
abbrev PtA:Type:=((Smps×Nat)×Unit×List Int×Int×Int×Unit)×Unit×Unit
abbrev PtB:Type:=((Smps×Nat)×Nat×List Int×Int×Int×Unit)×List Smp×Unit
abbrev PtX:Type:=PtA ⊕ (PtB ⊕ Empty)
def ptV (l:List Int) (len i:Int):Prop:=l.length≤1000∧len=(l.length:Int)∧0≤i∧i≤(l.length:Int)
def ptI:PtX→Prop
 | .inl ⟨⟨_,_,l,len,i,_⟩,_,_⟩=>ptV l len i
 | .inr (.inl ⟨⟨_,q,l,len,i,_⟩,ar,_⟩)=>ptV l len i∧q=ar.length∧0 < q∧(q:Int)≤i
 | .inr (.inr x)=>x.elim
noncomputable def ptRes (x:PtX):Dt (AExit×List AVal×List AObj):=match x with
 | .inl x=>ptEnd x.1.1.1 [] (x.1.2.2.1.drop x.1.2.2.2.2.1.toNat)
 | .inr (.inl x)=>ptEnd x.1.1.1 x.2.1 (x.1.2.2.1.drop x.1.2.2.2.2.1.toNat)
 | .inr (.inr x)=>x.elim
def ptMu:PtX→Nat
 | .inl x=>((x.1.2.2.1.length:Int) - x.1.2.2.2.2.1).toNat
 | .inr (.inl x)=>((x.1.2.2.1.length:Int) - x.1.2.2.2.2.1).toNat
 | .inr (.inr x)=>x.elim
noncomputable def ptL:GL :=
 {body:=loopIn Tryz.f217 0,nt:=31,nx:=0,nxi:=1,room:=16,gro:=[(.slot 6,0)],keep:=[1,6,11,12,13],objs:=[0]
  ks:=ptK
  keepX:=fun e=>match e with | .ret=>[4,5] | _=>[6],objsX:=fun e=>match e with | .ret=>[] | _=>[0]
  inv:=fun (x:PtX)=>ptI x,res:=fun (x:PtX)=>ptRes x }
theorem ptL_ok:LpSound Tryz.prog (ptL.loop []):=by
 refine gkept (mp:=[]) xs0 ct0 lp0 ptL (fun (x:PtX)=>ptMu x) (by kernel_rfl) ?_
 intro (xx:PtX) (hx:ptI xx)
 rcases xx with ⟨⟨⟨m,c⟩,u1,l,len,i,u2⟩,u3,u4⟩ | ⟨⟨⟨m,c⟩,q,l,len,i,u2⟩,ar,u4⟩ | x
 ·obtain ⟨hm,hl,h0,h1⟩:ptV l len i:=hx
  subst hl
  let z:Int:=Univ.dflt (Cd.int:Cd)
  let y:Smp:=(m (l.getD i.toNat z)).getD (Univ.dflt (Cd.smp:Cd))
  refine hda_eq (t:=.ite (decide (i < (l.length:Int))) (.ite (decide (0≤i) && decide (i < (l.length:Int))) (.ite (!(m (l.getD i.toNat z)).isSome) (.leaf (true,.ret,[.nils,.sb false],[])) (.ite (decide ([eS y].length≤1000000))
    (.leaf (true,.normal,[.dmp (Cd.int:Cd) (Cd.smp:Cd) m c,.asl (Cd.smp:Cd) 0 0 [eS y].length,.dsl (Cd.int:Cd) l,.si .i64 (l.length:Int),.si .i64 (IntKind.i64.wrap (i + 1))],[.arr (Cd.smp:Cd) (show List Smp from [eS y])]))
    .fail)) .fail) (.leaf (true,.exit 0,[.nils],[.done]))) (by kernel_rfl) ?_
  refine holdsA_ite (fun hlt=>?_) (fun hlt=>?_)
  ·have hlt:=of_decide_eq_true hlt
   have hd:=drop_cons l i z h0 hlt
   rw [eS_eq,wrap64 (by omega) (by omega)]
   refine holdsA_need (by simp [h0,hlt]) (holdsA_ite (fun hn=>⟨rfl,?_⟩) fun hn=>holdsA_need (by simp) ⟨rfl,(show PtX from .inr (.inl (((m,c),1,l,(l.length:Int),i + 1,()),[y],()))),rfl,rfl,?_⟩)
   ·have hn:m (l.getD i.toNat z)=none:=by simpa using hn
    show (ptEnd m [] (l.drop i.toNat)).val=_
    rw [hd,ptEnd_none hn]
   ·have hn:m (l.getD i.toNat z)=some y:=by
     cases hq:m (l.getD i.toNat z) with
     | none=>rw [hq] at hn; cases hn
     | some w=>show some w=some ((m (l.getD i.toNat z)).getD _); rw [hq]; rfl
    refine ⟨⟨⟨hm,rfl,by omega,by omega⟩,rfl,by omega,by omega⟩,by show ((l.length:Int) - (i + 1)).toNat < ((l.length:Int) - i).toNat; omega,?_⟩
    show (ptEnd m ([] ++ [y]) (l.drop (i + 1).toNat)).val=(ptEnd m [] (l.drop i.toNat)).val
    rw [hd,ptEnd_cons hn]
  ·refine ⟨rfl,?_⟩
   have hd:=drop_end l i h1 (of_decide_eq_false hlt)
   show (ptEnd m [] (l.drop i.toNat)).val=_
   rw [hd]; rfl
 ·obtain ⟨⟨hm,hl,h0,h1⟩,hq,hq0,hqi⟩:ptV l len i∧q=ar.length∧0 < q∧(q:Int)≤i:=hx
  subst hl
  let z:Int:=Univ.dflt (Cd.int:Cd)
  let y:Smp:=(m (l.getD i.toNat z)).getD (Univ.dflt (Cd.smp:Cd))
  refine hda_eq (t:=.ite (decide (i < (l.length:Int))) (.ite (decide (0≤i) && decide (i < (l.length:Int))) (.ite (!(m (l.getD i.toNat z)).isSome) (.leaf (true,.ret,[.nils,.sb false],[])) (.ite (decide (q=ar.length) && decide (q + [eS y].length≤1000000))
    (.leaf (true,.normal,[.dmp (Cd.int:Cd) (Cd.smp:Cd) m c,.asl (Cd.smp:Cd) 0 0 (q + [eS y].length),.dsl (Cd.int:Cd) l,.si .i64 (l.length:Int),.si .i64 (IntKind.i64.wrap (i + 1))],[.arr (Cd.smp:Cd) (show List Smp from ar ++ [eS y])]))
    .fail)) .fail) (.leaf (true,.exit 0,[.asl (Cd.smp:Cd) 0 0 q],[.arr (Cd.smp:Cd) (show List Smp from ar)]))) (by kernel_rfl) ?_
  refine holdsA_ite (fun hlt=>?_) (fun hlt=>?_)
  ·have hlt:=of_decide_eq_true hlt
   have hd:=drop_cons l i z h0 hlt
   rw [eS_eq,wrap64 (by omega) (by omega)]
   refine holdsA_need (by simp [h0,hlt]) (holdsA_ite (fun hn=>⟨rfl,?_⟩) fun hn=>holdsA_need (by simp [← hq]; omega) ⟨rfl,(show PtX from .inr (.inl (((m,c),q + 1,l,(l.length:Int),i + 1,()),ar ++ [y],()))),rfl,rfl,?_⟩)
   ·have hn:m (l.getD i.toNat z)=none:=by simpa using hn
    show (ptEnd m ar (l.drop i.toNat)).val=_
    rw [hd,ptEnd_none hn]
   ·have hn:m (l.getD i.toNat z)=some y:=by
     cases hq:m (l.getD i.toNat z) with
     | none=>rw [hq] at hn; cases hn
     | some w=>show some w=some ((m (l.getD i.toNat z)).getD _); rw [hq]; rfl
    refine ⟨⟨⟨hm,rfl,by omega,by omega⟩,by rw [hq]; simp,by omega,by omega⟩,by show ((l.length:Int) - (i + 1)).toNat < ((l.length:Int) - i).toNat; omega,?_⟩
    show (ptEnd m (ar ++ [y]) (l.drop (i + 1).toNat)).val=(ptEnd m ar (l.drop i.toNat)).val
    rw [hd,ptEnd_cons hn]
  ·refine ⟨rfl,?_⟩
   have hd:=drop_end l i h1 (of_decide_eq_false hlt)
   show (ptEnd m ar (l.drop i.toNat)).val=_
   rw [hd,ptEnd_end (by omega),hq]
 ·exact x.elim
noncomputable def partsC:FSpec:=⟨[.d Cd.int,.dm Cd.int Cd.smp],fun (x:List Int×(Smps×Nat)×Unit)=>x.1.length≤1000,
 fun (x:List Int×(Smps×Nat)×Unit)=>.ite (partsS x.2.1.1 x.1).isSome (.leaf (.tup [.dsl (Cd.smp:Cd) (show List Smp from (partsS x.2.1.1 x.1).getD []),.sb true])) (.leaf (.tup [.dsl (Cd.smp:Cd) (show List Smp from []),.sb false]))⟩
theorem parts_kept:partsC.Kept Tryz.prog 217:=by
 have hL:∀ p∈[(0,ptL.loop [])],LpSound Tryz.prog p.2:=lpc ptL_ok lp0
 have hmk:mkFn Tryz.prog 217=some (.code (unmark [(0,ptL.loop [])] (cd Tryz.f217 [0])) Tryz.f217.ntmps Tryz.f217.results.toList):=by kernel_rfl
 refine fkeptX (mp:=[]) xs0 ct0 hL partsC 217 Tryz.f217 [0] hmk (by kernel_rfl) (.agg [.d Cd.smp,.b]) ?_
 intro (xx:List Int×(Smps×Nat)×Unit) (hx:xx.1.length≤1000)
 obtain ⟨l,⟨m,c⟩,u3⟩:=xx
 have hm:l.length≤1000:=hx
 let r:List Smp:=(partsS m l).getD []
 refine hd_eq (t:=.ite (dec (ptV l (l.length:Int) 0)) (.ite (partsS m l).isSome (.ite (decide (r.length=0)) (.leaf (true,.tup [.nils,.sb true]))
   (.leaf (true,.tup [.dsl (Cd.smp:Cd) (subL (α:=Smp) r 0 r.length),.sb true]))) (.leaf (true,.tup [.nils,.sb false]))) .fail) (by kernel_rfl) ?_
 refine holds_need (dec_true ⟨hm,rfl,by omega,by omega⟩) (holds_ite (fun h=>holds_ite (fun h2=>⟨rfl,?_⟩) fun h2=>⟨rfl,?_⟩) fun h=>⟨rfl,?_⟩)
 ·have h2:=of_decide_eq_true h2
  have:r=[]:=List.eq_nil_of_length_eq_zero h2
  show (Dt.ite (partsS m l).isSome (.leaf (.tup [.dsl (Cd.smp:Cd) (show List Smp from r),.sb true])) _:Dt AVal).val=_
  rw [h,this]; rfl
 ·show (Dt.ite (partsS m l).isSome (.leaf (.tup [.dsl (Cd.smp:Cd) (show List Smp from r),.sb true])) _:Dt AVal).val=_
  rw [h,subL_all]; rfl
 ·show (Dt.ite (partsS m l).isSome _ _:Dt AVal).val=_
  rw [h]; rfl
end Go.Proofs.YtghaalknpdlobaaGreatDoor

namespace Go.Proofs.YtghaalknpdlobaaGreatDoor
open Go Go.Ev Go.Proofs
set_option maxRecDepth 100000
def okMs (m:Smps):Prop:=∀ i y,m i=some y→okSm y
def okCase (c:SCase):Prop:=c.args.length≤1000
def okSrt (s:Srt):Prop:=s.cases.length≤maxL∧∀ c∈s.cases,okCase c
abbrev SrtX:Type:=Bool×Bool×Bool×List SCase×List Int×Unit
abbrev Smp0X:Type:=Int×Int×ByteArray×Unit×Int×Int×Unit
noncomputable abbrev srtO (s:SrtX):AObj:=.cells [.sb s.1,.sb s.2.1,.sb s.2.2.1,.dsl (Cd.case:Cd) s.2.2.2.1,.dsl (Cd.int:Cd) s.2.2.2.2.1] 106 false false 0 0 [(0,0,5)]
noncomputable abbrev sm0O (x:Smp0X):AObj:=.cells [.si .i64 x.1,.si .i64 x.2.1,.ss x.2.2.1,.nils,.si .i64 x.2.2.2.2.1,.si .i64 x.2.2.2.2.2.1] 120 false false 1 0 [(1,0,6)]
noncomputable abbrev smO (x:Smp):AObj:=.cells (smpA x) 120 false false 1 0 [(1,0,6)]
noncomputable def frDt (o:Option Smp) (e:AExit×List AVal×List AObj):Dt (AExit×List AVal×List AObj):=.ite o.isSome (.leaf (.ret,[.ptr 1 0,.sb true],[smO (o.getD (Univ.dflt (Cd.smp:Cd)))])) (.leaf e)
theorem first0q_hit {c:SCase} {l:List SCase} (h:c.arity=0):first0 (c :: l)=some (joinS (kindA c.arity) 0 c.name []):=by
 unfold first0; rw [if_pos h]; unfold kindA; rw [if_pos h]
theorem first0q_on {c:SCase} {l:List SCase} (h:¬ c.arity=0):first0 (c :: l)=first0 l:=by
 conv=>lhs; unfold first0
 rw [if_neg h]
theorem firstC_hit {m:Smps} {c:SCase} {l:List SCase} {r:List Smp} (h:partsS m c.args=some r):firstC m (c :: l)=some (joinS (kindA c.arity) 0 c.name r):=by
 unfold firstC caseS; rw [h]; rfl
theorem firstC_on {m:Smps} {c:SCase} {l:List SCase} (h:partsS m c.args=none):firstC m (c :: l)=firstC m l:=by
 conv=>lhs; unfold firstC caseS
 rw [h]
abbrev FaX:Type:=(Smps×Nat)×Unit×Unit×List SCase×Int×Int×Unit
abbrev FaY:Type:=SrtX×Smp0X×Unit
def faV (l:List SCase) (len i:Int):Prop:=l.length≤maxL∧len=(l.length:Int)∧0≤i∧i≤(l.length:Int)
noncomputable def faL:PSpec :=
 {body:=loopIn Tryz.f142 1,nt:=71,nx:=2,room:=8,keep:=[(1,.dm Cd.int Cd.smp),(2,.p 0 0),(4,.p 1 0),(28,.d Cd.case),(29,.i .i64),(30,.i .i64)],objs:=[(0,.cells sortP 106 0 0 [(0,0,5)]),(1,.cells smp0 120 1 0 [(1,0,6)])]
  keepX:=fun e=>match e with | .ret=>[4,5] | _=>[1,2,4],objsX:=fun e=>match e with | .ret=>[1] | _=>[0,1]
  inv:=fun (x:FaX) (_:FaY)=>faV x.2.2.2.1 x.2.2.2.2.1 x.2.2.2.2.2.1
  res:=fun (x:FaX) (y:FaY)=>frDt (first0 (x.2.2.2.1.drop x.2.2.2.2.2.1.toNat)) (.exit 1,[.dmp (Cd.int:Cd) (Cd.smp:Cd) x.1.1 x.1.2,.ptr 0 0,.ptr 1 0],[srtO y.1,sm0O y.2.1]) }
theorem faL_ok:LpSound Tryz.prog (faL.loop []):=by
 refine pkeptX (mp:=[]) xs0 (ctc wr_kept (ctc joined_kept ct0)) lp0 faL (fun (x:FaX) (_:FaY)=>((x.2.2.2.1.length:Int) - x.2.2.2.2.2.1).toNat) (by kernel_rfl) ?_
 intro (xx:FaX) (yy:FaY) (hx:faV xx.2.2.2.1 xx.2.2.2.2.1 xx.2.2.2.2.2.1)
 obtain ⟨⟨m,c⟩,u1,u2,l,len,i,u3⟩:=xx
 obtain ⟨s,x0,u4⟩:=yy
 obtain ⟨hm,hl,h0,h1⟩:faV l len i:=hx
 have hm2:=len64 hm
 subst hl
 let z:SCase:=Univ.dflt (Cd.case:Cd)
 let e:SCase:=l.getD i.toNat z
 let t0:TrmX:=(kindA e.arity,0,e.name,(),())
 refine hd_eq (t:=.ite (decide (i < (l.length:Int))) (.ite (decide (0≤i) && decide (i < (l.length:Int))) (.ite (decide (e.arity=0)) (.ite (dec (wrC.pre ((e.name,e.arity,()),())))
   (.ite (dec (joinedC.pre (t0,([]:List Smp),()))) (.leaf (true,.ret,[.ptr 1 0,.sb true],[smO (joinS (kindA e.arity) 0 e.name [])])) .fail) .fail)
   (.leaf (true,.normal,[.dmp (Cd.int:Cd) (Cd.smp:Cd) m c,.ptr 0 0,.ptr 1 0,.dsl (Cd.case:Cd) l,.si .i64 (l.length:Int),.si .i64 (IntKind.i64.wrap (i + 1))],[srtO s,sm0O x0]))) .fail)
   (.leaf (true,.exit 1,[.dmp (Cd.int:Cd) (Cd.smp:Cd) m c,.ptr 0 0,.ptr 1 0],[srtO s,sm0O x0]))) (by kernel_rfl) ?_
 refine holds_ite (fun hlt=>?_) (fun hlt=>⟨rfl,?_⟩)
 ·have hlt:=of_decide_eq_true hlt
  have hd:=drop_cons l i z h0 hlt
  refine holds_need (by simp [h0,hlt]) (holds_ite (fun ha=>holds_need (dec_true trivial) (holds_need (dec_true ⟨fun y hy=>(List.not_mem_nil hy).elim,Nat.zero_le _⟩) ⟨rfl,?_⟩)) fun ha=>?_)
  ·show (frDt (first0 (l.drop i.toNat)) _).val=_
   rw [hd,first0q_hit (of_decide_eq_true ha)]; rfl
  ·rw [wrap64 (by omega) (by omega)]
   refine ⟨rfl,(show FaX from ((m,c),(),(),l,(l.length:Int),i + 1,())),(show FaY from (s,x0,())),rfl,rfl,(show faV l (l.length:Int) (i + 1) from ⟨hm,rfl,by omega,by omega⟩),by show ((l.length:Int) - (i + 1)).toNat < ((l.length:Int) - i).toNat; omega,?_⟩
   show (frDt (first0 (l.drop (i + 1).toNat)) _).val=(frDt (first0 (l.drop i.toNat)) _).val
   rw [hd,first0q_on (of_decide_eq_false ha)]
 ·show (frDt (first0 (l.drop i.toNat)) _).val=_
  rw [drop_end l i h1 (of_decide_eq_false hlt)]; rfl
abbrev FbX:Type:=(Smps×Nat)×Unit×List SCase×Int×Int×Unit
abbrev FbY:Type:=Smp0X×Unit
def fbV (m:Smps) (l:List SCase) (len i:Int):Prop:=okMs m∧(∀ c∈l,okCase c)∧l.length≤maxL∧len=(l.length:Int)∧0≤i∧i≤(l.length:Int)
noncomputable def fbL:PSpec :=
 {body:=loopIn Tryz.f142 3,nt:=71,nx:=10,room:=8,keep:=[(1,.dm Cd.int Cd.smp),(4,.p 1 0),(50,.d Cd.case),(51,.i .i64),(52,.i .i64)],objs:=[(1,.cells smp0 120 1 0 [(1,0,6)])]
  keepX:=fun e=>match e with | .ret=>[4,5] | _=>[4],objsX:=fun _=>[1]
  inv:=fun (x:FbX) (_:FbY)=>fbV x.1.1 x.2.2.1 x.2.2.2.1 x.2.2.2.2.1
  res:=fun (x:FbX) (y:FbY)=>frDt (firstC x.1.1 (x.2.2.1.drop x.2.2.2.2.1.toNat)) (.exit 3,[.ptr 1 0],[sm0O y.1]) }
theorem fbL_ok:LpSound Tryz.prog (fbL.loop []):=by
 refine pkeptX (mp:=[]) xs0 (ctc wr_kept (ctc joined_kept (ctc parts_kept ct0))) lp0 fbL (fun (x:FbX) (_:FbY)=>((x.2.2.1.length:Int) - x.2.2.2.2.1).toNat) (by kernel_rfl) ?_
 intro (xx:FbX) (yy:FbY) (hx:fbV xx.1.1 xx.2.2.1 xx.2.2.2.1 xx.2.2.2.2.1)
 obtain ⟨⟨m,c⟩,u1,l,len,i,u3⟩:=xx
 obtain ⟨x0,u4⟩:=yy
 obtain ⟨hok,hcs,hm,hl,h0,h1⟩:fbV m l len i:=hx
 have hm2:=len64 hm
 subst hl
 let z:SCase:=Univ.dflt (Cd.case:Cd)
 let e:SCase:=l.getD i.toNat z
 let t0:TrmX:=(kindA e.arity,0,e.name,(),())
 let r:List Smp:=(partsS m e.args).getD []
 refine hd_eq (t:=.ite (decide (i < (l.length:Int))) (.ite (decide (0≤i) && decide (i < (l.length:Int))) (.ite (dec (partsC.pre (e.args,(m,c),()))) (.ite (partsS m e.args).isSome
   (.ite true (.ite (dec (wrC.pre ((e.name,e.arity,()),()))) (.ite (dec (joinedC.pre (t0,r,()))) (.leaf (true,.ret,[.ptr 1 0,.sb true],[smO (joinS (kindA e.arity) 0 e.name r)])) .fail) .fail)
    (.leaf (true,.normal,[.dmp (Cd.int:Cd) (Cd.smp:Cd) m c,.ptr 1 0,.dsl (Cd.case:Cd) l,.si .i64 (l.length:Int),.si .i64 (IntKind.i64.wrap (i + 1))],[sm0O x0])))
   (.ite false (.ite (dec (wrC.pre ((e.name,e.arity,()),()))) (.ite (dec (joinedC.pre (t0,([]:List Smp),()))) (.leaf (true,.ret,[.ptr 1 0,.sb true],[smO (joinS (kindA e.arity) 0 e.name [])])) .fail) .fail)
    (.leaf (true,.normal,[.dmp (Cd.int:Cd) (Cd.smp:Cd) m c,.ptr 1 0,.dsl (Cd.case:Cd) l,.si .i64 (l.length:Int),.si .i64 (IntKind.i64.wrap (i + 1))],[sm0O x0])))) .fail) .fail)
   (.leaf (true,.exit 3,[.ptr 1 0],[sm0O x0]))) (by kernel_rfl) ?_
 refine holds_ite (fun hlt=>?_) (fun hlt=>⟨rfl,?_⟩)
 ·have hlt:=of_decide_eq_true hlt
  have hd:=drop_cons l i z h0 hlt
  have hc:okCase e:=hcs _ (getD_mem l i z h0 hlt)
  refine holds_need (by simp [h0,hlt]) (holds_need (dec_true hc) (holds_ite (fun hp=>holds_ite (fun _=>?_) fun h=>by cases h) fun hp=>holds_ite (fun h=>by cases h) fun _=>?_))
  ·have hr:partsS m e.args=some r:=by
    cases hq:partsS m e.args with
    | none=>rw [hq] at hp; cases hp
    | some w=>show some w=some ((partsS m e.args).getD _); rw [hq]; rfl
   refine holds_need (dec_true trivial) (holds_need (dec_true ⟨parts_mem hok hr,by rw [parts_len hr]; exact hc⟩) ⟨rfl,?_⟩)
   show (frDt (firstC m (l.drop i.toNat)) _).val=_
   rw [hd,firstC_hit hr]; rfl
  ·have hr:partsS m e.args=none:=by simpa using hp
   rw [wrap64 (by omega) (by omega)]
   refine ⟨rfl,(show FbX from ((m,c),(),l,(l.length:Int),i + 1,())),(show FbY from (x0,())),rfl,rfl,(show fbV m l (l.length:Int) (i + 1) from ⟨hok,hcs,hm,rfl,by omega,by omega⟩),by show ((l.length:Int) - (i + 1)).toNat < ((l.length:Int) - i).toNat; omega,?_⟩
   show (frDt (firstC m (l.drop (i + 1).toNat)) _).val=(frDt (firstC m (l.drop i.toNat)) _).val
   rw [hd,firstC_on hr]
 ·show (frDt (firstC m (l.drop i.toNat)) _).val=_
  rw [drop_end l i h1 (of_decide_eq_false hlt)]; rfl
end Go.Proofs.YtghaalknpdlobaaGreatDoor

namespace Go.Proofs.YtghaalknpdlobaaGreatDoor
open Go Go.Ev Go.Proofs
set_option maxRecDepth 100000
def smpZ:Smp:=⟨⟨0,0,⟨#[]⟩,[]⟩,0,0⟩
def srtOf (s:SrtX):Srt:=⟨s.1,s.2.1,s.2.2.1,s.2.2.2.1,s.2.2.2.2.1⟩
noncomputable def frR (o:Option Smp):Dt AVal:=.ite o.isSome (.leaf (.tup [smpV (o.getD (Univ.dflt (Cd.smp:Cd))),.sb true])) (.leaf (.tup [smpV smpZ,.sb false]))
theorem frR_val {o:Option Smp} {x:Smp} (h:o=some x):(frR o).val=some (.tup [smpV x,.sb true]):=by rw [h]; rfl
noncomputable def frC:FSpec:=⟨[.agg sortP,.dm Cd.int Cd.smp],fun (x:SrtX×(Smps×Nat)×Unit)=>okMs x.2.1.1∧okSrt (srtOf x.1),fun (x:SrtX×(Smps×Nat)×Unit)=>frR (firstS (srtOf x.1) x.2.1.1)⟩
theorem getD_isSome {α:Type} {o:Option α} {z:α} (h:o.isSome=true):o=some (o.getD z):=by cases o with | none=>cases h | some x=>rfl
theorem fr_kept:frC.Kept Tryz.prog 142:=by
 have hL:∀ p∈[(1,faL.loop []),(3,fbL.loop [])],LpSound Tryz.prog p.2:=lpc faL_ok (lpc fbL_ok lp0)
 have hmk:mkFn Tryz.prog 142=some (.code (unmark [(1,faL.loop []),(3,fbL.loop [])] (cd Tryz.f142 [1,3])) Tryz.f142.ntmps Tryz.f142.results.toList):=by kernel_rfl
 refine fkeptX (mp:=[]) xs0 (ctc joined_kept ct0) hL frC 142 Tryz.f142 [1,3] hmk (by kernel_rfl) (.agg [.agg smpP,.b]) ?_
 intro (xx:SrtX×(Smps×Nat)×Unit) (hx:okMs xx.2.1.1∧okSrt (srtOf xx.1))
 obtain ⟨⟨b1,b2,b3,cs,vs,u1⟩,⟨m,c⟩,u3⟩:=xx
 obtain ⟨hok,hc1,hc3⟩:okMs m∧cs.length≤maxL∧∀ c∈cs,okCase c:=hx
 let t2:TrmX:=(2,0,⟨#[]⟩,(),())
 let t4:TrmX:=(4,0,⟨#[]⟩,(),())
 let t3:TrmX:=(3,0,⟨#[97]⟩,(),())
 let t6:TrmX:=(6,0,⟨#[]⟩,(),())
 have hj:∀ t:TrmX,dec (joinedC.pre (t,([]:List Smp),()))=true:=fun t=>dec_true ⟨fun y hy=>(List.not_mem_nil hy).elim,Nat.zero_le _⟩
 refine hd_eq (t:=.ite b1 (.ite (dec (joinedC.pre (t2,([]:List Smp),()))) (.leaf (true,.tup [smpV (joinS 2 0 ⟨#[]⟩ []),.sb true])) .fail)
  (.ite b2 (.ite (dec (joinedC.pre (t4,([]:List Smp),()))) (.leaf (true,.tup [smpV (joinS 4 0 ⟨#[]⟩ []),.sb true])) .fail)
  (.ite b3 (.ite (dec (joinedC.pre (t3,([]:List Smp),()))) (.leaf (true,.tup [smpV (joinS 3 0 ⟨#[97]⟩ []),.sb true])) .fail)
  (.ite (dec (faV cs (cs.length:Int) 0)) (.ite (first0 cs).isSome (.leaf (true,.tup [smpV ((first0 cs).getD (Univ.dflt (Cd.smp:Cd))),.sb true]))
   (.ite (decide (0 < (vs.length:Int))) (.ite (dec (joinedC.pre (t6,([]:List Smp),()))) (.leaf (true,.tup [smpV (joinS 6 0 ⟨#[]⟩ []),.sb true])) .fail)
   (.ite (dec (fbV m cs (cs.length:Int) 0)) (.ite (firstC m cs).isSome (.leaf (true,.tup [smpV ((firstC m cs).getD (Univ.dflt (Cd.smp:Cd))),.sb true]))
    (.leaf (true,.tup [.agg [.si .i64 0,.si .i64 0,.ss ⟨#[]⟩,.nils,.si .i64 0,.si .i64 0],.sb false]))) .fail))) .fail)))) (by kernel_rfl) ?_
 refine holds_ite (fun h=>holds_need (hj _) ⟨rfl,?_⟩) fun h=>?_
 ·exact frR_val (show firstS ⟨b1,b2,b3,cs,vs⟩ m=some _ by unfold firstS; rw [if_pos h])
 refine holds_ite (fun h2=>holds_need (hj _) ⟨rfl,?_⟩) fun h2=>?_
 ·exact frR_val (show firstS ⟨b1,b2,b3,cs,vs⟩ m=some _ by unfold firstS; rw [if_neg (by simp [h]),if_pos h2])
 refine holds_ite (fun h3=>holds_need (hj _) ⟨rfl,?_⟩) fun h3=>?_
 ·exact frR_val (show firstS ⟨b1,b2,b3,cs,vs⟩ m=some _ by unfold firstS; rw [if_neg (by simp [h]),if_neg (by simp [h2]),if_pos h3] <;> rfl)
 have hS:firstS ⟨b1,b2,b3,cs,vs⟩ m=match first0 cs with | some x=>some x | none=>if 0 < (vs.length:Int) then some (joinS 6 0 ⟨#[]⟩ []) else firstC m cs:=by
  unfold firstS
  rw [if_neg (by simp [h]),if_neg (by simp [h2]),if_neg (by simp [h3])] <;> rfl
 refine holds_need (dec_true ⟨hc1,rfl,by omega,by omega⟩) (holds_ite (fun h4=>⟨rfl,?_⟩) fun h4=>?_)
 ·exact frR_val (hS.trans (by rw [getD_isSome (z:=Univ.dflt (Cd.smp:Cd)) h4]; rfl))
 have h4:first0 cs=none:=by simpa using h4
 rw [h4] at hS
 refine holds_ite (fun h5=>holds_need (hj _) ⟨rfl,?_⟩) fun h5=>?_
 ·exact frR_val (hS.trans (if_pos (of_decide_eq_true h5)))
 have hS2:firstS ⟨b1,b2,b3,cs,vs⟩ m=firstC m cs:=hS.trans (if_neg (of_decide_eq_false h5))
 refine holds_need (dec_true ⟨hok,hc3,hc1,rfl,by omega,by omega⟩) (holds_ite (fun h6=>⟨rfl,?_⟩) fun h6=>⟨rfl,?_⟩)
 ·exact frR_val (hS2.trans (getD_isSome h6))
 ·have h6:firstC m cs=none:=by simpa using h6
  show (frR (firstS ⟨b1,b2,b3,cs,vs⟩ m)).val=_
  rw [hS2,h6]; rfl
end Go.Proofs.YtghaalknpdlobaaGreatDoor

namespace Go.Proofs.YtghaalknpdlobaaGreatDoor
open Go Go.Ev Go.Proofs
set_option maxRecDepth 100000
def okG (g:List Srt):Prop:=g.length≤maxL∧∀ s∈g,okSrt s
noncomputable abbrev mapO (m:Smps) (n:Nat):AObj:=.dat (.map (Cd.int:Cd) (Cd.smp:Cd) m n)
abbrev MapY:Type:=Smps×Nat
abbrev EaX:Type:=List Srt×Unit×Unit×List Srt×Int×Int×Unit
abbrev EaY:Type:=MapY×MapY×Unit
structure EaV (g l:List Srt) (len i:Int) (m0 m1:Smps) (n1:Nat):Prop where
 ok:okG g
 lg:l=g
 ln:len=(g.length:Int)
 i0:0≤i
 i1:i≤(g.length:Int)
 om:okMs m0
 e1:m1=restr (newS g m0) i
 c1:n1=cntN g.length m1
noncomputable def eaL:PSpec :=
 {body:=loopIn Tryz.f81 2,nt:=54,nx:=2,room:=8,keep:=[(0,.d Cd.sort),(3,.mp 0),(4,.mp 1),(15,.d Cd.sort),(16,.i .i64),(17,.i .i64)],objs:=[(0,.map Cd.int Cd.smp),(1,.map Cd.int Cd.smp)]
  keepX:=fun _=>[0,3,4],objsX:=fun _=>[0,1]
  inv:=fun (x:EaX) (y:EaY)=>EaV x.1 x.2.2.2.1 x.2.2.2.2.1 x.2.2.2.2.2.1 y.1.1 y.2.1.1 y.2.1.2
  res:=fun (x:EaX) (y:EaY)=>.leaf (.exit 2,[.dsl (Cd.sort:Cd) x.1,.map 0,.map 1],[mapO y.1.1 y.1.2,mapO (newS x.1 y.1.1) (cntN x.1.length (newS x.1 y.1.1))]) }
theorem eaL_ok:LpSound Tryz.prog (eaL.loop []):=by
 refine pkeptX (mp:=mps0) xs0 (ctc fr_kept ct0) lp0 eaL (fun (x:EaX) (_:EaY)=>((x.2.2.2.1.length:Int) - x.2.2.2.2.2.1).toNat) (by kernel_rfl) ?_
 intro (xx:EaX) (yy:EaY) (hx:EaV xx.1 xx.2.2.2.1 xx.2.2.2.2.1 xx.2.2.2.2.2.1 yy.1.1 yy.2.1.1 yy.2.1.2)
 obtain ⟨g,u1,u2,l,len,i,u3⟩:=xx
 obtain ⟨⟨m0,n0⟩,⟨m1,n1⟩,u4⟩:=yy
 obtain ⟨ok,lg,ln,h0,h1,om,e1,c1⟩:EaV g l len i m0 m1 n1:=hx
 subst lg ln
 have hm2:=len64 ok.1
 let z:Srt:=Univ.dflt (Cd.sort:Cd)
 let s:Srt:=l.getD i.toNat z
 let sx:SrtX:=(s.int,s.str,s.atom,s.cases,s.vec,())
 let y:Smp:=(firstS (srtOf sx) m0).getD (Univ.dflt (Cd.smp:Cd))
 refine hd_eq (t:=.ite (decide (i < (l.length:Int))) (.ite (decide (0≤i) && decide (i < (l.length:Int))) (.ite (m0 i).isSome
   (.leaf (true,.normal,[.dsl (Cd.sort:Cd) l,.map 0,.map 1,.dsl (Cd.sort:Cd) l,.si .i64 (l.length:Int),.si .i64 (IntKind.i64.wrap (i + 1))],[mapO m0 n0,mapO m1 n1]))
   (.ite (dec (frC.pre (sx,(m0,n0),()))) (.ite (firstS (srtOf sx) m0).isSome
    (.ite true (.leaf (true,.normal,[.dsl (Cd.sort:Cd) l,.map 0,.map 1,.dsl (Cd.sort:Cd) l,.si .i64 (l.length:Int),.si .i64 (IntKind.i64.wrap (i + 1))],[mapO m0 n0,mapO (updM m1 i (eS y)) (moreM m1 i n1)]))
     (.leaf (true,.normal,[.dsl (Cd.sort:Cd) l,.map 0,.map 1,.dsl (Cd.sort:Cd) l,.si .i64 (l.length:Int),.si .i64 (IntKind.i64.wrap (i + 1))],[mapO m0 n0,mapO m1 n1])))
    (.ite false (.leaf (true,.normal,[.dsl (Cd.sort:Cd) l,.map 0,.map 1,.dsl (Cd.sort:Cd) l,.si .i64 (l.length:Int),.si .i64 (IntKind.i64.wrap (i + 1))],[mapO m0 n0,mapO (updM m1 i (eS smpZ)) (moreM m1 i n1)]))
     (.leaf (true,.normal,[.dsl (Cd.sort:Cd) l,.map 0,.map 1,.dsl (Cd.sort:Cd) l,.si .i64 (l.length:Int),.si .i64 (IntKind.i64.wrap (i + 1))],[mapO m0 n0,mapO m1 n1])))) .fail)) .fail)
   (.leaf (true,.exit 2,[.dsl (Cd.sort:Cd) l,.map 0,.map 1],[mapO m0 n0,mapO m1 n1]))) (by kernel_rfl) ?_
 refine holds_ite (fun hlt=>?_) (fun hlt=>⟨rfl,?_⟩)
 ·have hlt:=of_decide_eq_true hlt
  have hs:gAt l i=srtOf sx:=by
   show l.getD i.toNat zSort=_
   rw [getD_any l i.toNat zSort z (by omega)]
   show s=⟨s.int,s.str,s.atom,s.cases,s.vec⟩
   cases s; rfl
  have hV:∀ (m':Smps) (n':Nat),m'=restr (newS l m0) (i + 1)→n'=cntN l.length m'→EaV l l (l.length:Int) (i + 1) m0 m' n':=fun m' n' e c=>⟨ok,rfl,rfl,by omega,by omega,om,e,c⟩
  have hM:((l.length:Int) - (i + 1)).toNat < ((l.length:Int) - i).toNat:=by omega
  rw [eS_eq,wrap64 (by omega) (by omega)]
  refine holds_need (by simp [h0,hlt]) (holds_ite (fun hp=>⟨rfl,?_⟩) fun hp=>?_)
  ·exact ⟨(show EaX from (l,(),(),l,(l.length:Int),i + 1,())),(show EaY from ((m0,n0),(m1,n1),())),rfl,rfl,hV m1 n1 (by rw [restr_none (newS_has hp)]; exact e1) c1,hM,rfl⟩
  ·have hp:m0 i=none:=by simpa using hp
   have hn:=newS_at hp ⟨h0,hlt⟩
   rw [hs] at hn
   have hsk:okSrt (srtOf sx):=by
    rw [← hs]
    show okSrt (l.getD i.toNat zSort)
    rw [getD_any l i.toNat zSort z (by omega)]
    exact ok.2 _ (getD_mem l i z h0 hlt)
   refine holds_need (dec_true ⟨om,hsk⟩) (holds_ite (fun hf=>holds_ite (fun _=>⟨rfl,?_⟩) fun h=>by cases h) fun hf=>holds_ite (fun h=>by cases h) fun _=>⟨rfl,?_⟩)
   ·have hy:newS l m0 i=some y:=hn.trans (getD_isSome hf)
    refine ⟨(show EaX from (l,(),(),l,(l.length:Int),i + 1,())),(show EaY from ((m0,n0),(updM m1 i y,moreM m1 i n1),())),rfl,rfl,hV _ _ ?_ ?_,hM,rfl⟩
    ·rw [restr_some hy,e1]
    ·rw [c1]; exact cnt_upd h0 hlt
   ·have hf:firstS (srtOf sx) m0=none:=by simpa using hf
    exact ⟨(show EaX from (l,(),(),l,(l.length:Int),i + 1,())),(show EaY from ((m0,n0),(m1,n1),())),rfl,rfl,hV m1 n1 (by rw [restr_none (hn.trans hf)]; exact e1) c1,hM,rfl⟩
 ·have:i=(l.length:Int):=by have:=of_decide_eq_false hlt; omega
  rw [this,restr_full new_inside] at e1
  subst e1 c1
  rfl
abbrev EbX:Type:=((List Srt×Unit×Unit×Unit)×MapY×(Smps×Option (Int×Smp))×Unit) ⊕ Empty
def ebI:EbX→Prop
 | .inl ⟨⟨g,_⟩,⟨m,n⟩,⟨r,_⟩,_⟩=>inside g m∧inside g r∧n=cntN g.length m
 | .inr x=>x.elim
noncomputable def ebRes (x:EbX):Dt (AExit×List AVal×List AObj):=match x with
 | .inl x=>.leaf (.exit 4,[.dsl (Cd.sort:Cd) x.1.1,.map 0],[mapO (mergeM x.2.1.1 x.2.2.1.1) (cntN x.1.1.length (mergeM x.2.1.1 x.2.2.1.1))])
 | .inr x=>x.elim
def ebMu:EbX→Nat
 | .inl x=>cntN x.1.1.length x.2.2.1.1
 | .inr x=>x.elim
noncomputable def ebL:GL :=
 {body:=loopIn Tryz.f81 4,nt:=54,nx:=11,nxi:=11,room:=8,gro:=[],keep:=[0,3,45],objs:=[0,10]
  ks:=[⟨[.d Cd.sort,.mp 0,.p 10 0],[.map Cd.int Cd.smp,.iter Cd.int Cd.smp]⟩]
  keepX:=fun _=>[0,3],objsX:=fun _=>[0]
  inv:=fun (x:EbX)=>ebI x,res:=fun (x:EbX)=>ebRes x }
theorem ebL_ok:LpSound Tryz.prog (ebL.loop []):=by
 refine gkept (mp:=mps0) xs0 ct0 lp0 ebL (fun (x:EbX)=>ebMu x) (by kernel_rfl) ?_
 intro (xx:EbX) (hx:ebI xx)
 rcases xx with ⟨⟨g,u1,u2,u3⟩,⟨m,n⟩,⟨r,cur⟩,u4⟩ | x
 ·obtain ⟨hm,hr,hn⟩:inside g m∧inside g r∧n=cntN g.length m:=hx
  refine hda_eq (t:=.ite (any? fun a:Int=>(r a).isSome) (.each (Cd.int:Cd) (fun a:Int=>(r a).isSome) fun a:Int =>
    .leaf (true,.normal,[.dsl (Cd.sort:Cd) g,.map 0,.ptr 10 0],[mapO (updM m a (eS ((r a).getD (Univ.dflt (Cd.smp:Cd))))) (moreM m a n),.dat (.iter (Cd.int:Cd) (Cd.smp:Cd) (delM r a) (some (a,(r a).getD (Univ.dflt (Cd.smp:Cd)))))]))
   (.leaf (true,.exit 4,[.dsl (Cd.sort:Cd) g,.map 0],[mapO m n]))) (by kernel_rfl) ?_
  refine holdsA_ite (fun h=>holdsA_each (any?_eq.1 h) fun (a:Int) ha=>?_) fun h=>⟨rfl,?_⟩
  ·have hg:=hr a ha
   unfold inG at hg
   obtain ⟨b,hb⟩:∃ b,r a=some b:=by cases hq:r a with | none=>rw [hq] at ha; cases ha | some b=>exact ⟨b,rfl⟩
   have hb2:(r a).getD (Univ.dflt (Cd.smp:Cd))=b:=by rw [hb]; rfl
   rw [hb2,eS_eq]
   refine ⟨rfl,(show EbX from .inl ((g,(),(),()),(updM m a b,moreM m a n),(delM r a,some (a,b)),())),rfl,rfl,⟨?_,?_,?_⟩,cnt_del hg.1 hg.2 ha,?_⟩
   ·intro x hx
    by_cases c:x=a
    ·rw [c]; exact hg
    ·rw [updM_ne c] at hx; exact hm x hx
   ·intro x hx
    by_cases c:x=a
    ·rw [c]; exact hg
    ·rw [delM_ne c] at hx; exact hr x hx
   ·rw [hn]; exact cnt_upd hg.1 hg.2
   ·show (Dt.leaf (AExit.exit 4,[AVal.dsl (Cd.sort:Cd) g,AVal.map 0],[mapO (mergeM (updM m a b) (delM r a)) (cntN g.length (mergeM (updM m a b) (delM r a)))])).val=(Dt.leaf (AExit.exit 4,[AVal.dsl (Cd.sort:Cd) g,AVal.map 0],[mapO (mergeM m r) (cntN g.length (mergeM m r))])).val
    rw [merge_step hb]
  ·have he:mergeM m r=m:=merge_end fun x=>by have:=any?_false h x; simpa using this
   show (Dt.leaf (AExit.exit 4,[AVal.dsl (Cd.sort:Cd) g,AVal.map 0],[mapO (mergeM m r) (cntN g.length (mergeM m r))])).val=_
   rw [he,← hn]; rfl
 ·exact x.elim
end Go.Proofs.YtghaalknpdlobaaGreatDoor

namespace Go.Proofs.YtghaalknpdlobaaGreatDoor
open Go Go.Ev Go.Proofs
set_option maxRecDepth 100000
abbrev EcX:Type:=List Srt×Unit×Unit
abbrev EcY:Type:=MapY×Unit
structure EcV (g:List Srt) (m:Smps) (n:Nat):Prop where
 ok:okG g
 om:okMs m
 im:inside g m
 cn:n=cntN g.length m
theorem okMs_new {g:List Srt} {m:Smps} (h:okMs m):okMs (newS g m):=fun i x e=>by
 obtain ⟨_,hf⟩:=newS_some e
 exact first_ok hf h
noncomputable def ecL:PSpec :=
 {body:=markB [2,4] (loopIn Tryz.f81 0),nt:=54,nx:=1,room:=32,keep:=[(0,.d Cd.sort),(3,.mp 0)],objs:=[(0,.map Cd.int Cd.smp)]
  keepX:=fun _=>[2],objsX:=fun _=>[0]
  inv:=fun (x:EcX) (y:EcY)=>EcV x.1 y.1.1 y.1.2
  res:=fun (x:EcX) (y:EcY)=>.leaf (.ret,[.map 0],[mapO (exAll x.1 y.1.1) (cntN x.1.length (exAll x.1 y.1.1))]) }
theorem ecL_ok:LpSound Tryz.prog (ecL.loop [(2,eaL.loop []),(4,ebL.loop [])]):=by
 refine pkeptX (mp:=mps0) xs0 ct0 (lpc eaL_ok (lpc ebL_ok lp0)) ecL (fun (x:EcX) (y:EcY)=>lack x.1 y.1.1) (by kernel_rfl) ?_
 intro (xx:EcX) (yy:EcY) (hx:EcV xx.1 yy.1.1 yy.1.2)
 obtain ⟨g,u1,u2⟩:=xx
 obtain ⟨⟨m,n⟩,u3⟩:=yy
 obtain ⟨ok,om,im,cn⟩:EcV g m n:=hx
 refine hd_eq (t:=.ite (dec (EaV g g (g.length:Int) 0 m (fun _=>none) 0)) (.ite (decide ((cntN g.length (newS g m):Int)=0)) (.leaf (true,.ret,[.map 0],[mapO m n]))
  (.ite (dec (inside g m∧inside g (newS g m)∧n=cntN g.length m)) (.leaf (true,.normal,[.dsl (Cd.sort:Cd) g,.map 0],[mapO (mergeM m (newS g m)) (cntN g.length (mergeM m (newS g m)))])) .fail)) .fail) (by kernel_rfl) ?_
 refine holds_need (dec_true ⟨ok,rfl,rfl,by omega,by omega,om,restr_zero new_inside,(cnt_none (fun _=>rfl) _).symm⟩) (holds_ite (fun h=>⟨rfl,?_⟩) fun h=>holds_need (dec_true ⟨im,new_inside,cn⟩) ⟨rfl,?_⟩)
 ·have h:cntN g.length (newS g m)=0:=by have:=of_decide_eq_true h; omega
  have hn:∀ i,newS g m i=none:=fun i=>by
   cases hq:newS g m i with
   | none=>rfl
   | some x =>
    have:=(newS_in (g:=g) (m:=m) (i:=i) (by rw [hq]; rfl)).1
    rw [cnt_zero h i this.1 this.2] at hq; cases hq
  show (Dt.leaf (AExit.ret,[AVal.map 0],[mapO (exAll g m) (cntN g.length (exAll g m))])).val=_
  rw [exAll_stop hn,← cn]; rfl
 ·have h:¬ cntN g.length (newS g m)=0:=by have:=of_decide_eq_false h; omega
  have he:∃ i,(newS g m i).isSome=true:=by
   refine Classical.byContradiction fun hc=>h (cnt_none (fun i=>?_) _)
   cases hq:newS g m i with
   | none=>rfl
   | some x=>exact absurd ⟨i,by rw [hq]; rfl⟩ hc
  obtain ⟨i,hi⟩:=he
  rw [merge_new]
  refine ⟨(show EcX from (g,(),())),(show EcY from ((exR g m,cntN g.length (exR g m)),())),rfl,rfl,(show EcV g (exR g m) (cntN g.length (exR g m)) from ⟨ok,exR_all om (okMs_new om),exR_in im,rfl⟩),lack_lt hi,?_⟩
  show (Dt.leaf (AExit.ret,[AVal.map 0],[mapO (exAll g (exR g m)) (cntN g.length (exAll g (exR g m)))])).val=(Dt.leaf (AExit.ret,[AVal.map 0],[mapO (exAll g m) (cntN g.length (exAll g m))])).val
  rw [exAll_step]
noncomputable def exsC:FSpec:=⟨[.d Cd.sort],fun (x:List Srt×Unit)=>okG x.1,fun (x:List Srt×Unit)=>.leaf (.dmp (Cd.int:Cd) (Cd.smp:Cd) (exAll x.1 fun _=>none) (cntN x.1.length (exAll x.1 fun _=>none)))⟩
theorem exs_kept:exsC.Kept Tryz.prog 81:=by
 have hL:∀ p∈[(0,ecL.loop [(2,eaL.loop []),(4,ebL.loop [])])],LpSound Tryz.prog p.2:=lpc ecL_ok lp0
 have hmk:mkFn Tryz.prog 81=some (.code (unmark [(0,ecL.loop [(2,eaL.loop []),(4,ebL.loop [])])] (cd Tryz.f81 [0])) Tryz.f81.ntmps Tryz.f81.results.toList):=by kernel_rfl
 refine fkeptX (mp:=mps0) xs0 ct0 hL exsC 81 Tryz.f81 [0] hmk (by kernel_rfl) .any ?_
 intro (xx:List Srt×Unit) (hx:okG xx.1)
 obtain ⟨g,u⟩:=xx
 refine hd_eq (t:=.ite (dec (EcV g (fun _=>none) 0)) (.leaf (true,.dmp (Cd.int:Cd) (Cd.smp:Cd) (exAll g fun _=>none) (cntN g.length (exAll g fun _=>none)))) .fail) (by kernel_rfl) ?_
 have h1:okMs fun _=>none:=fun i x h=>by cases h
 have h2:inside g fun _=>none:=fun i h=>by cases h
 exact holds_need (dec_true ⟨hx,h1,h2,(cnt_none (fun _=>rfl) _).symm⟩) ⟨rfl,rfl⟩
end Go.Proofs.YtghaalknpdlobaaGreatDoor

namespace Go.Proofs.YtghaalknpdlobaaGreatDoor
open Go Go.Ev Go.Proofs
set_option maxRecDepth 100000
noncomputable abbrev trmV (t:Trm):AVal:=.agg [.si .i64 t.kind,.si .i64 t.n,.ss t.s,.dsl (Cd.term:Cd) t.l]
abbrev TrmY:Type:=Int×Int×ByteArray×List Trm×Unit
def trmOf (x:TrmY):Trm:=⟨x.1,x.2.1,x.2.2.1,x.2.2.2.1⟩
noncomputable def copC (N:Nat):FSpec:=⟨[.agg termP],fun (x:TrmY×Unit)=>sizeT (trmOf x.1)≤(N:Int),fun (x:TrmY×Unit)=>.leaf (trmV (trmOf x.1))⟩
noncomputable abbrev cpOb (a:TrmY) (b:TrmX) (o:AObj):List AObj:=[.cells [.si .i64 a.1,.si .i64 a.2.1,.ss a.2.2.1,.dsl (Cd.term:Cd) a.2.2.2.1] 25 false false 0 0 [(0,0,4)],.cells [.si .i64 b.1,.si .i64 b.2.1,.ss b.2.2.1,.nils] 25 false false 1 0 [(1,0,4)],o]
noncomputable def cpEnd (a:TrmY) (b:TrmX) (tot:List Trm):Dt (AExit×List AVal×List AObj) :=
 .ite (decide (tot.length=0)) (.leaf (.exit 0,[.ptr 0 0,.ptr 1 0,.nils],cpOb a b .done)) (.leaf (.exit 0,[.ptr 0 0,.ptr 1 0,.asl (Cd.term:Cd) 2 0 tot.length],cpOb a b (.arr (Cd.term:Cd) (show List Trm from tot))))
theorem cpEnd_some {a:TrmY} {b:TrmX} {tot:List Trm} (h:0 < tot.length):(cpEnd a b tot).val=some (.exit 0,[.ptr 0 0,.ptr 1 0,.asl (Cd.term:Cd) 2 0 tot.length],cpOb a b (.arr (Cd.term:Cd) (show List Trm from tot))):=by
 unfold cpEnd
 rw [decide_eq_false (by omega)]; rfl
abbrev CpA:Type:=(Unit×Unit×Unit×List Trm×Int×Int×Unit)×TrmY×TrmX×Unit×Unit
abbrev CpB:Type:=(Unit×Unit×Nat×List Trm×Int×Int×Unit)×TrmY×TrmX×List Trm×Unit
abbrev CpX:Type:=CpA ⊕ (CpB ⊕ Empty)
def cpV (N:Nat) (l:List Trm) (len i:Int):Prop:=sizeL l≤(N:Int)∧N≤4000∧len=(l.length:Int)∧0≤i∧i≤(l.length:Int)
def cpI (N:Nat):CpX→Prop
 | .inl ⟨⟨_,_,_,l,len,i,_⟩,_⟩=>cpV N l len i
 | .inr (.inl ⟨⟨_,_,q,l,len,i,_⟩,_,_,ar,_⟩)=>cpV N l len i∧q=ar.length∧0 < q∧(q:Int)≤i
 | .inr (.inr x)=>x.elim
noncomputable def cpRes (x:CpX):Dt (AExit×List AVal×List AObj):=match x with
 | .inl x=>cpEnd x.2.1 x.2.2.1 ([] ++ x.1.2.2.2.1.drop x.1.2.2.2.2.2.1.toNat)
 | .inr (.inl x)=>cpEnd x.2.1 x.2.2.1 (x.2.2.2.1 ++ x.1.2.2.2.1.drop x.1.2.2.2.2.2.1.toNat)
 | .inr (.inr x)=>x.elim
def cpMu:CpX→Nat
 | .inl x=>((x.1.2.2.2.1.length:Int) - x.1.2.2.2.2.2.1).toNat
 | .inr (.inl x)=>((x.1.2.2.2.1.length:Int) - x.1.2.2.2.2.2.1).toNat
 | .inr (.inr x)=>x.elim
noncomputable def cpL (N:Nat):GL :=
 {body:=loopIn Tryz.f83 0,nt:=22,nx:=2,nxi:=3,room:=16,gro:=[(.slot 3,2)],keep:=[1,2,3,7,8,9],objs:=[0,1,2]
  ks:=[⟨[.p 0 0,.p 1 0,.nl,.d Cd.term,.i .i64,.i .i64],[.cells termP 25 0 0 [(0,0,4)],.cells trm0 25 1 0 [(1,0,4)],.gone]⟩,
   ⟨[.p 0 0,.p 1 0,.al Cd.term 2,.d Cd.term,.i .i64,.i .i64],[.cells termP 25 0 0 [(0,0,4)],.cells trm0 25 1 0 [(1,0,4)],.arr Cd.term]⟩]
  keepX:=fun _=>[1,2,3],objsX:=fun _=>[0,1,2]
  inv:=fun (x:CpX)=>cpI N x,res:=fun (x:CpX)=>cpRes x }
theorem cpL_ok (N:Nat) (hc:(copC N).Kept Tryz.prog 83):LpSound Tryz.prog ((cpL N).loop []):=by
 refine gkept (mp:=[]) xs0 (ctc hc ct0) lp0 (cpL N) (fun (x:CpX)=>cpMu x) (by kernel_rfl) ?_
 intro (xx:CpX) (hx:cpI N xx)
 rcases xx with ⟨⟨u1,u2,u3,l,len,i,u4⟩,⟨k,n,s,l0,u5⟩,⟨k2,n2,s2,u6,u7⟩,u8,u9⟩ | ⟨⟨u1,u2,q,l,len,i,u4⟩,⟨k,n,s,l0,u5⟩,⟨k2,n2,s2,u6,u7⟩,ar,u9⟩ | x
 ·obtain ⟨hs,hN,hl,h0,h1⟩:cpV N l len i:=hx
  subst hl
  let z:Trm:=Univ.dflt (Cd.term:Cd)
  let e:Trm:=eT (l.getD i.toNat z)
  let ex:TrmY:=(e.kind,e.n,e.s,e.l,())
  refine hda_eq (t:=.ite (decide (i < (l.length:Int))) (.ite (decide (0≤i) && decide (i < (l.length:Int))) (.ite (dec ((copC N).pre (ex,()))) (.ite (decide ([e].length≤1000000))
    (.leaf (true,.normal,[.ptr 0 0,.ptr 1 0,.asl (Cd.term:Cd) 2 0 ([e].length),.dsl (Cd.term:Cd) l,.si .i64 (l.length:Int),.si .i64 (IntKind.i64.wrap (i + 1))],cpOb (k,n,s,l0,()) (k2,n2,s2,(),()) (.arr (Cd.term:Cd) (show List Trm from [e]))))
    .fail) .fail) .fail) (.leaf (true,.exit 0,[.ptr 0 0,.ptr 1 0,.nils],cpOb (k,n,s,l0,()) (k2,n2,s2,(),()) .done))) (by kernel_rfl) ?_
  have he:e=l.getD i.toNat z:=eT_eq _
  have hex:(copC N).pre (ex,())=(sizeT e≤(N:Int)):=rfl
  rw [wrap64 (by have:=sizeL_len l; omega) (by have:=sizeL_len l; omega),hex,he]
  refine holdsA_ite (fun hlt=>?_) (fun hlt=>?_)
  ·have hlt:=of_decide_eq_true hlt
   have hd:=drop_cons l i z h0 hlt
   have hm:=sizeL_mem (getD_mem l i z h0 hlt)
   have hln:=sizeL_len l
   refine holdsA_need (by simp [h0,hlt]) (holdsA_need (dec_true (by omega)) (holdsA_need (by simp) ⟨rfl,(show CpX from .inr (.inl (((),(),1,l,(l.length:Int),i + 1,()),(k,n,s,l0,()),(k2,n2,s2,(),()),[l.getD i.toNat z],()))),rfl,rfl,?_⟩))
   refine ⟨⟨⟨hs,hN,rfl,by omega,by omega⟩,rfl,by omega,by omega⟩,by show ((l.length:Int) - (i + 1)).toNat < ((l.length:Int) - i).toNat; omega,?_⟩
   show (cpEnd (k,n,s,l0,()) (k2,n2,s2,(),()) ([l.getD i.toNat z] ++ l.drop (i + 1).toNat)).val=(cpEnd (k,n,s,l0,()) (k2,n2,s2,(),()) ([] ++ l.drop i.toNat)).val
   rw [hd]; rfl
  ·refine ⟨rfl,?_⟩
   have hd:=drop_end l i h1 (of_decide_eq_false hlt)
   show (cpEnd (k,n,s,l0,()) (k2,n2,s2,(),()) ([] ++ l.drop i.toNat)).val=_
   rw [hd]; rfl
 ·obtain ⟨⟨hs,hN,hl,h0,h1⟩,hq,hq0,hqi⟩:cpV N l len i∧q=ar.length∧0 < q∧(q:Int)≤i:=hx
  subst hl
  let z:Trm:=Univ.dflt (Cd.term:Cd)
  let e:Trm:=eT (l.getD i.toNat z)
  let ex:TrmY:=(e.kind,e.n,e.s,e.l,())
  refine hda_eq (t:=.ite (decide (i < (l.length:Int))) (.ite (decide (0≤i) && decide (i < (l.length:Int))) (.ite (dec ((copC N).pre (ex,()))) (.ite (decide (q=ar.length) && decide (q + [e].length≤1000000))
    (.leaf (true,.normal,[.ptr 0 0,.ptr 1 0,.asl (Cd.term:Cd) 2 0 (q + [e].length),.dsl (Cd.term:Cd) l,.si .i64 (l.length:Int),.si .i64 (IntKind.i64.wrap (i + 1))],cpOb (k,n,s,l0,()) (k2,n2,s2,(),()) (.arr (Cd.term:Cd) (show List Trm from ar ++ [e]))))
    .fail) .fail) .fail) (.leaf (true,.exit 0,[.ptr 0 0,.ptr 1 0,.asl (Cd.term:Cd) 2 0 q],cpOb (k,n,s,l0,()) (k2,n2,s2,(),()) (.arr (Cd.term:Cd) (show List Trm from ar))))) (by kernel_rfl) ?_
  have he:e=l.getD i.toNat z:=eT_eq _
  have hex:(copC N).pre (ex,())=(sizeT e≤(N:Int)):=rfl
  rw [wrap64 (by have:=sizeL_len l; omega) (by have:=sizeL_len l; omega),hex,he]
  refine holdsA_ite (fun hlt=>?_) (fun hlt=>?_)
  ·have hlt:=of_decide_eq_true hlt
   have hd:=drop_cons l i z h0 hlt
   have hm:=sizeL_mem (getD_mem l i z h0 hlt)
   have hln:=sizeL_len l
   refine holdsA_need (by simp [h0,hlt]) (holdsA_need (dec_true (by omega)) (holdsA_need (by simp [← hq]; omega) ⟨rfl,(show CpX from .inr (.inl (((),(),q + 1,l,(l.length:Int),i + 1,()),(k,n,s,l0,()),(k2,n2,s2,(),()),ar ++ [l.getD i.toNat z],()))),rfl,rfl,?_⟩))
   refine ⟨⟨⟨hs,hN,rfl,by omega,by omega⟩,by rw [hq]; simp,by omega,by omega⟩,by show ((l.length:Int) - (i + 1)).toNat < ((l.length:Int) - i).toNat; omega,?_⟩
   show (cpEnd (k,n,s,l0,()) (k2,n2,s2,(),()) ((ar ++ [l.getD i.toNat z]) ++ l.drop (i + 1).toNat)).val=(cpEnd (k,n,s,l0,()) (k2,n2,s2,(),()) (ar ++ l.drop i.toNat)).val
   rw [hd,List.append_assoc]; rfl
  ·refine ⟨rfl,?_⟩
   have hd:=drop_end l i h1 (of_decide_eq_false hlt)
   show (cpEnd (k,n,s,l0,()) (k2,n2,s2,(),()) (ar ++ l.drop i.toNat)).val=_
   rw [hd,List.append_nil,cpEnd_some (by omega),hq]
 ·exact x.elim
theorem cop_kept:∀ N:Nat,N≤4000→(copC N).Kept Tryz.prog 83
 | 0,_=>fun (x:TrmY×Unit) hx r hr=>by
  have hx:sizeT (trmOf x.1)≤((0:Nat):Int):=hx
  have:=size_pos (trmOf x.1)
  omega
 | N + 1,hN=>by
  have hL:∀ p∈[(0,(cpL N).loop [])],LpSound Tryz.prog p.2:=lpc (cpL_ok N (cop_kept N (by omega))) lp0
  have hmk:mkFn Tryz.prog 83=some (.code (unmark [(0,(cpL N).loop [])] (cd Tryz.f83 [0])) Tryz.f83.ntmps Tryz.f83.results.toList):=by kernel_rfl
  refine fkeptX (mp:=[]) xs0 ct0 hL (copC (N + 1)) 83 Tryz.f83 [0] hmk (by kernel_rfl) (.agg termP) ?_
  intro (xx:TrmY×Unit) (hx:sizeT (trmOf xx.1)≤((N + 1:Nat):Int))
  obtain ⟨⟨k,n,s,l,u1⟩,u2⟩:=xx
  have hx:sizeT ⟨k,n,s,l⟩≤((N + 1:Nat):Int):=hx
  unfold sizeT at hx
  refine hd_eq (t:=.ite (dec (cpV N l (l.length:Int) 0)) (.ite (decide (l.length=0)) (.leaf (true,.agg [.si .i64 k,.si .i64 n,.ss s,.nils])) (.leaf (true,.agg [.si .i64 k,.si .i64 n,.ss s,.dsl (Cd.term:Cd) (subL (α:=Trm) l 0 l.length)]))) .fail) (by kernel_rfl) ?_
  refine holds_need (dec_true ⟨by omega,by omega,rfl,by omega,by omega⟩) (holds_ite (fun h=>⟨rfl,?_⟩) fun h=>⟨rfl,?_⟩)
  ·have h:=of_decide_eq_true h
   have:l=[]:=List.eq_nil_of_length_eq_zero h
   subst this; rfl
  ·rw [subL_all]; rfl
end Go.Proofs.YtghaalknpdlobaaGreatDoor

namespace Go.Proofs.YtghaalknpdlobaaGreatDoor
open Go Go.Ev Go.Proofs
set_option maxRecDepth 100000
mutual
def groundT:Trm→Bool
 | ⟨k,_,_,l⟩=>!decide (k=1) && groundL l
def groundL:List Trm→Bool
 | []=>true
 | x :: l=>groundT x && groundL l
end
def sizeOkS (x:Smp):Prop:=x.nodes=min 4001 (sizeT x.t)∧x.deep=min 4001 (deepT x.t)
def smpOk (g:List Srt) (i:Int) (x:Smp):Prop:=sizeOkS x∧groundT x.t=true∧wellT x.t=true∧fitT g x.t i=true
theorem joinN_size:∀ (l:List Smp) (a b:Int),(∀ x∈l,sizeOkS x)→0≤b→a=min 4001 b→joinN l a=min 4001 (b + sizeL (l.map (·.t)))
 | [],a,b,_,_,h=>by show a=_; rw [h]; unfold sizeL; simp
 | x :: l,a,b,h,hb,e=>by
  have h1:=(h x (by simp)).1
  have hp:=size_pos x.t
  have:=joinN_size l (min 4001 (a + x.nodes)) (b + sizeT x.t) (fun y hy=>h y (by simp [hy])) (by omega) (by rw [e,h1]; omega)
  show joinN l (min 4001 (a + x.nodes))=_
  rw [this]
  show _=min 4001 (b + (sizeT x.t + sizeL (l.map (·.t))))
  rw [Int.add_assoc]
theorem joinD_deep:∀ (l:List Smp) (a b:Int),(∀ x∈l,sizeOkS x)→0≤b→a=min 4001 b→joinD l a=min 4001 (max b (deepL (l.map (·.t))))
 | [],a,b,_,hb,h=>by
  show a=min 4001 (max b (deepL []))
  unfold deepL
  rw [h]; omega
 | x :: l,a,b,h,hb,e=>by
  have h1:=(h x (by simp)).2
  have hp:=deep_pos x.t
  have:=joinD_deep l (max a x.deep) (max b (deepT x.t)) (fun y hy=>h y (by simp [hy])) (by omega) (by rw [e,h1]; omega)
  show joinD l (max a x.deep)=_
  rw [this]
  show _=min 4001 (max b (max (deepT x.t) (deepL (l.map (·.t)))))
  omega
theorem join_size {k n:Int} {s:ByteArray} {l:List Smp} (h:∀ x∈l,sizeOkS x):sizeOkS (joinS k n s l):=by
 refine ⟨?_,?_⟩
 ·show joinN l 1=min 4001 (sizeT ⟨k,n,s,l.map (·.t)⟩)
  rw [joinN_size l 1 1 h (by omega) (by omega)]
  unfold sizeT; rfl
 ·show min 4001 (joinD l 0 + 1)=min 4001 (deepT ⟨k,n,s,l.map (·.t)⟩)
  have hp:=deepL_pos (l.map (·.t))
  rw [joinD_deep l 0 0 h (Int.le_refl _) (by omega)]
  unfold deepT
  omega
theorem ground_list:∀ {l:List Smp},(∀ x∈l,groundT x.t=true)→groundL (l.map (·.t))=true
 | [],_=>by unfold groundL; rfl
 | x :: l,h=>by
  show groundL (x.t :: l.map (·.t))=true
  unfold groundL
  rw [h x (by simp),ground_list fun y hy=>h y (by simp [hy])]; rfl
theorem well_list:∀ {l:List Smp},(∀ x∈l,wellT x.t=true)→wellL (l.map (·.t))=true
 | [],_=>by unfold wellL; rfl
 | x :: l,h=>by
  show wellL (x.t :: l.map (·.t))=true
  unfold wellL
  rw [h x (by simp),well_list fun y hy=>h y (by simp [hy])]; rfl
theorem caseL_mem {l:List SCase} (hs:sorted l) {c:SCase} (hc:c∈l):caseL l c.name c.arity=some c:=by
 unfold caseL
 have hk:keyB c.name c.arity c=true:=by unfold keyB; simp
 induction l with
 | nil=>cases hc
 | cons d l ih =>
  obtain ⟨h1,h2⟩:=List.pairwise_cons.1 hs
  rw [List.find?_cons]
  rcases List.mem_cons.1 hc with e | e
  ·rw [← e,hk]
  ·have ha:=h1 c e
   cases hd:keyB c.name c.arity d with
   | false=>exact ih h2 e
   | true =>
    exfalso
    have h3:=key_not hd
    rw [key_ahead hk,ha] at h3
    cases h3
theorem found_mem {l:List SCase} (hs:sorted l) {c:SCase} (hc:c∈l):foundB l c.name c.arity=true∧caseAt l c.name c.arity=c:=by
 have:=found_eq hs c.name c.arity
 rw [caseL_mem hs hc] at this
 cases hf:foundB l c.name c.arity with
 | false=>rw [hf] at this; cases this
 | true=>rw [hf,if_pos rfl] at this; exact ⟨rfl,Option.some.inj this⟩
theorem fits_parts {g:List Srt} {m:Smps} (hm:∀ i x,m i=some x→fitT g x.t i=true):∀ {ys:List Int} {l:List Smp},partsS m ys=some l→fitLs g (l.map (·.t)) ys=true
 | [],l,e=>by cases e; unfold fitLs; rfl
 | i :: ys,l,e=>by
  unfold partsS at e
  cases hq:m i with
  | none=>rw [hq] at e; cases e
  | some y =>
   rw [hq] at e
   simp only [] at e
   cases hp:partsS m ys with
   | none=>rw [hp] at e; cases e
   | some r' =>
    rw [hp] at e
    cases e
    show fitLs g (y.t :: r'.map (·.t)) (i :: ys)=true
    unfold fitLs
    rw [show (i :: ys).headD 0=i from rfl,show (i :: ys).tail=ys from rfl,hm i y hq,fits_parts hm hp]; rfl
theorem graph_case {g:List Srt} {i:Int} (h:graphP g=true) (hi:inG g i) {c:SCase} (hc:c∈(gAt g i).cases):nameB c.name=true∧0≤c.arity∧c.arity≤16∧(c.args.length:Int)=c.arity:=by
 have hr:=graph_at h hi
 unfold rightB at hr
 have hr:(decide (400 < ((gAt g i).cases.length:Int)) || (decide (1 < ((gAt g i).vec.length:Int)) || ((gAt g i).vec.any (outB (g.length:Int)) || badTail (g.length:Int) (gAt g i).atom none (gAt g i).cases)))=false:=by simpa using hr
 simp only [Bool.or_eq_false_iff] at hr
 have:=tail_all hr.2.2.2 c hc
 unfold caseBad at this
 simp only [Bool.or_eq_false_iff] at this
 obtain ⟨h1,h2,h3,h4,_,_⟩:=this
 have h1:nameP c.name=true:=by simpa using h1
 unfold nameP at h1
 have h1:=errT_ok (of_decide_eq_true h1)
 have h2:=of_decide_eq_false h2
 have h3:=of_decide_eq_false h3
 refine ⟨?_,by omega,by omega,by simpa using h4⟩
 unfold wellT at h1
 rw [Bool.and_eq_true] at h1
 have h1:=h1.1
 unfold formB at h1
 simp [form3] at h1
 exact h1.2.2
theorem nameB_a:nameB strA1=true:=by decide
theorem one_ok {g:List Srt} {i:Int} {k:Int} {s:ByteArray} (h:formB k 0 s []=true) (hk:k≠1) (hf:fitT g ⟨k,0,s,[]⟩ i=true):smpOk g i (joinS k 0 s []):=by
 refine ⟨join_size (fun _ h=>by cases h),?_,?_,hf⟩
 ·show groundT ⟨k,0,s,[]⟩=true
  unfold groundT groundL; simp [hk]
 ·show wellT ⟨k,0,s,[]⟩=true
  unfold wellT wellL; rw [h]; rfl
theorem first_smp {g:List Srt} {i:Int} {m:Smps} {x:Smp} (hg:graphP g=true) (hi:inG g i) (h:firstS (gAt g i) m=some x) (hm:∀ j y,m j=some y→smpOk g j y):smpOk g i x:=by
 have hs:=graph_sorted hg hi
 refine first_made h (fun q=>one_ok (by decide) (by decide) ?_) (fun q=>one_ok (by decide) (by decide) ?_) (fun q=>one_ok ?_ (by decide) ?_) (fun c hc q=>?_) (fun q=>one_ok (by decide) (by decide) ?_) (fun c hc l hl=>?_)
 ·unfold fitT; simp [q]
 ·unfold fitT; simp [q]
 ·unfold formB; simp [form3,no0,noL,nameB_a]
 ·unfold fitT
  simp only [show ¬ ((3:Int)=1) by decide,show ¬ ((3:Int)=2) by decide,show ¬ ((3:Int)=4) by decide,show ¬ ((3:Int)=6) by decide,if_false]
  split
  ·unfold fitLs; rfl
  ·simp [q]
 ·obtain ⟨hn,_,_,_⟩:=graph_case hg hi hc
  refine one_ok (by unfold formB; simp [form3,no0,noL,hn]) (by decide) ?_
  have hf:=(found_mem hs hc).1
  rw [q] at hf
  unfold fitT
  simp only [show ¬ ((3:Int)=1) by decide,show ¬ ((3:Int)=2) by decide,show ¬ ((3:Int)=4) by decide,show ¬ ((3:Int)=6) by decide,if_false,List.length_nil,Int.natCast_zero,hf,if_true]
  unfold fitLs; rfl
 ·obtain ⟨_,hv,_,_⟩:=right_parts (graph_at hg hi)
  unfold fitT fitA
  simp only [show ¬ ((6:Int)=1) by decide,show ¬ ((6:Int)=2) by decide,show ¬ ((6:Int)=4) by decide,if_false,if_true,Bool.and_true,decide_eq_true_eq]
  omega
 ·obtain ⟨hn,h0,h16,hl2⟩:=graph_case hg hi hc
  have hlen:=parts_len hl
  have hall:=fun (Q:Smp→Prop) (hQ:∀ j y,m j=some y→Q y)=>parts_mem (Q:=Q) hQ hl
  have hfl:=fits_parts (g:=g) (fun j y hj=>(hm j y hj).2.2.2) hl
  obtain ⟨hf1,hf2⟩:=found_mem hs hc
  have hlm:((l.map (·.t)).length:Int)=c.arity:=by rw [List.length_map,hlen]; exact hl2
  refine ⟨join_size (hall _ fun j y hj=>(hm j y hj).1),?_,?_,?_⟩
  ·show groundT ⟨kindC c,0,c.name,l.map (·.t)⟩=true
   unfold groundT
   rw [ground_list (hall _ fun j y hj=>(hm j y hj).2.1)]
   unfold kindC; split <;> rfl
  ·show wellT ⟨kindC c,0,c.name,l.map (·.t)⟩=true
   unfold wellT
   rw [well_list (hall _ fun j y hj=>(hm j y hj).2.2.1)]
   unfold kindC
   split
   ·rename_i q
    have:l.map (·.t)=[]:=List.eq_nil_of_length_eq_zero (by omega)
    rw [this]
    unfold formB; simp [form3,no0,noL,hn]
   ·rename_i q
    unfold formB
    simp only [show ¬ ((5:Int)=1) by decide,show ¬ ((5:Int)=2) by decide,show ¬ ((5:Int)=3) by decide,show ¬ ((5:Int)=4) by decide,if_false,if_true]
    unfold form5
    rw [hlm,hn]
    simp [no0]; omega
  ·show fitT g ⟨kindC c,0,c.name,l.map (·.t)⟩ i=true
   unfold fitT
   rw [hlm,hf1,hf2,hfl]
   unfold kindC
   split <;> simp
theorem exAll_smp {g:List Srt} (hg:graphP g=true):∀ i x,exAll g (fun _=>none) i=some x→inG g i∧smpOk g i x:=by
 refine exK_ind (P:=fun m=>∀ i x,m i=some x→inG g i∧smpOk g i x) (fun m hm=>?_) _ _ (fun i x h=>by cases h)
 refine exR_all hm fun i x h=>?_
 obtain ⟨hi,hf⟩:=newS_some h
 exact ⟨hi,first_smp hg hi hf fun j y hj=>(hm j y hj).2⟩
theorem parts_some {m:Smps}:∀ {l:List Int},(∀ i∈l,(m i).isSome=true)→(partsS m l).isSome=true
 | [],_=>rfl
 | i :: l,h=>by
  unfold partsS
  cases hq:m i with
  | none=>have:=h i (by simp); rw [hq] at this; cases this
  | some y =>
   simp only []
   have:=parts_some (l:=l) fun j hj=>h j (by simp [hj])
   cases hp:partsS m l with
   | none=>rw [hp] at this; cases this
   | some r=>rfl
theorem some_parts {m:Smps}:∀ {l:List Int},(partsS m l).isSome=true→∀ i∈l,(m i).isSome=true
 | [],_,i,hi=>by cases hi
 | j :: l,h,i,hi=>by
  unfold partsS at h
  cases hq:m j with
  | none=>rw [hq] at h; cases h
  | some y =>
   rw [hq] at h
   simp only [] at h
   cases hp:partsS m l with
   | none=>rw [hp] at h; cases h
   | some r =>
    rcases List.mem_cons.1 hi with e | e
    ·rw [e,hq]; rfl
    ·exact some_parts (by rw [hp]; rfl) i e
theorem first_live {s:Srt} {m:Smps} {out:List Bool} (h:∀ c∈s.cases,(c.args.length:Int)=c.arity∧∀ i∈c.args,out.getD i.toNat false=(m i).isNone):(firstS s m).isSome=liveB out s:=by
 have alive:∀ c∈s.cases,aliveB out c=(partsS m c.args).isSome:=by
  intro c hc
  obtain ⟨_,h2⟩:=h c hc
  unfold aliveB
  cases hp:(partsS m c.args).isSome with
  | true =>
   have:=some_parts hp
   rw [Bool.not_eq_true',List.any_eq_false]
   intro i hi
   rw [h2 i hi]
   have:=this i hi
   cases hq:m i with
   | none=>rw [hq] at this; cases this
   | some y=>simp
  | false =>
   rw [Bool.not_eq_false',List.any_eq_true]
   apply Classical.byContradiction
   intro hno
   have:(partsS m c.args).isSome=true:=parts_some fun i hi=>by
    cases hq:m i with
    | some y=>rfl
    | none=>exact absurd ⟨i,hi,by rw [h2 i hi,hq]; rfl⟩ hno
   rw [this] at hp; cases hp
 unfold firstS liveB
 cases s.int with
 | true=>rfl
 | false =>
 cases s.str with
 | true=>rfl
 | false =>
 cases s.atom with
 | true=>rfl
 | false =>
  simp only [Bool.false_eq_true,if_false,Bool.false_or]
  have h0:∀ cs:List SCase,(∀ c∈cs,(c.args.length:Int)=c.arity∧aliveB out c=(partsS m c.args).isSome)→(first0 cs).isSome=true→cs.any (aliveB out)=true:=by
   intro cs
   induction cs with
   | nil=>intro _ h; cases h
   | cons c cs ih =>
    intro hc hf
    rw [List.any_cons]
    unfold first0 at hf
    split at hf
    ·rename_i q
     have hl:=(hc c (by simp)).1
     have:c.args=[]:=List.eq_nil_of_length_eq_zero (by omega)
     unfold aliveB
     rw [this]; simp
    ·rw [ih (fun d hd=>hc d (by simp [hd])) hf,Bool.or_true]
  have hC:∀ cs:List SCase,(∀ c∈cs,aliveB out c=(partsS m c.args).isSome)→(firstC m cs).isSome=cs.any (aliveB out):=by
   intro cs
   induction cs with
   | nil=>intro _; rfl
   | cons c cs ih =>
    intro hc
    rw [List.any_cons,hc c (by simp)]
    unfold firstC caseS
    cases hp:partsS m c.args with
    | none=>simp only [Option.isSome_none,Bool.false_or]; exact ih fun d hd=>hc d (by simp [hd])
    | some l=>rfl
  cases hf:first0 s.cases with
  | some x =>
   have:=h0 s.cases (fun c hc=>⟨(h c hc).1,alive c hc⟩) (by rw [hf]; rfl)
   rw [this]; simp
  | none =>
   simp only []
   by_cases hv:0 < (s.vec.length:Int)
   ·rw [if_pos hv,decide_eq_true hv]; rfl
   ·rw [if_neg hv,decide_eq_false hv,hC s.cases alive]; rfl
end Go.Proofs.YtghaalknpdlobaaGreatDoor

namespace Go.Proofs.YtghaalknpdlobaaGreatDoor
open Go Go.Ev Go.Proofs
set_option maxRecDepth 100000
def zTrm:Trm:=⟨0,0,⟨#[]⟩,[]⟩
noncomputable def exO (g:List Srt) (i:Int):Option Smp:=exAll g (fun _=>none) i
noncomputable def exE (g:List Srt) (i:Int):Int:=if askE g i=0 then (match exO g i with | none=>4 | some x=>if isS x=true then 0 else 2) else askE g i
noncomputable def exT (g:List Srt) (i:Int):Trm:=if exE g i=0 then (match exO g i with | none=>zTrm | some x=>x.t) else zTrm
noncomputable def exmC:FSpec:=⟨[.d Cd.sort,.i .i64],fun (x:List Srt×Int×Unit)=>okG x.1,fun (x:List Srt×Int×Unit)=>.leaf (.tup [trmV (exT x.1 x.2.1),.si .i64 (exE x.1 x.2.1)])⟩
theorem ask_zero {g:List Srt} {i:Int} (h:askE g i=0):graphP g=true∧inG g i:=by
 unfold askE at h
 split at h
 ·rename_i he
  have hg:graphP g=true:=by
   unfold errG at he
   split at he
   ·assumption
   ·omega
  refine ⟨hg,?_⟩
  unfold inG
  split at h
  ·omega
  ·split at h
   ·omega
   ·omega
 ·rename_i he; exact absurd h he
theorem exO_size {g:List Srt} {i:Int} {x:Smp} (hg:graphP g=true) (h:exO g i=some x) (hs:isS x=true):sizeT x.t≤4000:=by
 have:=(exAll_smp hg i x h).2.1.1
 unfold isS at hs
 rw [Bool.and_eq_true] at hs
 have:=of_decide_eq_true hs.1
 omega
theorem exm_val {g:List Srt} {i:Int} {t:Trm} {e:Int} (he:exE g i=e) (ht:exT g i=t):(Dt.leaf (AVal.tup [trmV (exT g i),.si .i64 (exE g i)])).val=some (.tup [trmV t,.si .i64 e]):=by rw [he,ht]; rfl
theorem exm_kept:exmC.Kept Tryz.prog 25:=by
 refine fkeptX (mp:=mps0) xs0 (ctc ask_kept (ctc exs_kept (ctc smpIs_kept (ctc (cop_kept 4000 (Nat.le_refl _)) ct0)))) lp0 exmC 25 Tryz.f25 [] (by kernel_rfl) (by kernel_rfl) (.agg [.agg termP,.i .i64]) ?_
 intro (xx:List Srt×Int×Unit) (hx:okG xx.1)
 obtain ⟨g,i,u⟩:=xx
 have hx:okG g:=hx
 let x:Smp:=(exO g i).getD (Univ.dflt (Cd.smp:Cd))
 let sx:SmpX:=(x.t.kind,x.t.n,x.t.s,x.t.l,x.nodes,x.deep,())
 let tx:TrmY:=(x.t.kind,x.t.n,x.t.s,x.t.l,())
 refine hd_eq (t:=.ite (dec (askC.pre (g,i,()))) (.ite (!decide (askE g i=0)) (.leaf (true,.tup [.agg [.si .i64 0,.si .i64 0,.ss ⟨#[]⟩,.nils],.si .i64 (askE g i)]))
  (.ite (dec (okG g)) (.ite (!(exO g i).isSome) (.leaf (true,.tup [.agg [.si .i64 0,.si .i64 0,.ss ⟨#[]⟩,.nils],.si .i64 4]))
   (.ite (dec (smpIsC.pre (sx,()))) (.ite (!isS (eS x)) (.leaf (true,.tup [.agg [.si .i64 0,.si .i64 0,.ss ⟨#[]⟩,.nils],.si .i64 2]))
    (.ite (dec ((copC 4000).pre (tx,()))) (.leaf (true,.tup [trmV (trmOf tx),.si .i64 0])) .fail)) .fail)) .fail)) .fail) (by kernel_rfl) ?_
 have htx:trmOf tx=x.t:=eT_eq _
 rw [eS_eq]
 refine holds_need (dec_true trivial) (holds_ite (fun ha=>⟨rfl,?_⟩) fun ha=>holds_need (dec_true hx) (holds_ite (fun ho=>⟨rfl,?_⟩) fun ho=>holds_need (dec_true trivial) (holds_ite (fun hs=>⟨rfl,?_⟩) fun hs=>holds_need (dec_true ?_) ⟨rfl,?_⟩)))
 ·have ha:¬ askE g i=0:=by simpa using ha
  have h1:exE g i=askE g i:=by unfold exE; rw [if_neg ha]
  exact exm_val h1 (by unfold exT; rw [h1,if_neg ha])
 ·have ha:askE g i=0:=by simpa using ha
  have ho:exO g i=none:=by simpa using ho
  have h1:exE g i=4:=by unfold exE; rw [if_pos ha,ho]
  exact exm_val h1 (by unfold exT; rw [h1,if_neg (by omega)])
 ·have ha:askE g i=0:=by simpa using ha
  have ho:exO g i=some x:=getD_isSome (by simpa using ho)
  have h1:exE g i=2:=by unfold exE; rw [if_pos ha,ho]; exact if_neg (by simpa using hs)
  exact exm_val h1 (by unfold exT; rw [h1,if_neg (by omega)])
 ·have ha:askE g i=0:=by simpa using ha
  have ho:exO g i=some x:=getD_isSome (by simpa using ho)
  show sizeT (trmOf tx)≤((4000:Nat):Int)
  rw [htx]
  exact exO_size (ask_zero ha).1 ho (by simpa using hs)
 ·have ha:askE g i=0:=by simpa using ha
  have ho:exO g i=some x:=getD_isSome (by simpa using ho)
  have h1:exE g i=0:=by unfold exE; rw [if_pos ha,ho]; exact if_pos (by simpa using hs)
  exact exm_val h1 (by unfold exT; rw [h1,if_pos rfl,ho,htx])
end Go.Proofs.YtghaalknpdlobaaGreatDoor

namespace Go.Proofs.YtghaalknpdlobaaGreatDoor
open Go Go.Ev Go.Proofs
set_option maxRecDepth 100000
noncomputable def caE:List Trm→Int→Int
 | [],_=>0
 | x :: l,left=>if left < countT x left 600 then 3 else caE l (left - countT x left 600)
noncomputable def caDt (e:Int):Dt (AExit×List AVal×List AObj):=.ite (decide (e=0)) (.leaf (.exit 0,[],[])) (.leaf (.ret,[.si .i64 e],[]))
abbrev formsO:List Pt:=[.nf,.fn 269 [.p 1 0],.fn 270 [.p 1 0],.fn 271 [.p 1 0],.fn 273 [.p 1 0],.fn 274 [.p 1 0],.fn 275 [.p 1 0]]
abbrev CaX:Type:=Int×Unit×List Trm×Int×Int×Unit
def caV (left:Int) (l:List Trm) (len i:Int):Prop:=0≤left∧left≤4000∧l.length≤maxL∧len=(l.length:Int)∧0≤i∧i≤(l.length:Int)
noncomputable def caL:PSpec :=
 {body:=loopIn Tryz.f124 0,nt:=26,nx:=3,room:=8,keep:=[(3,.i .i64),(4,.p 2 0),(9,.d Cd.term),(10,.i .i64),(11,.i .i64)],objs:=[(1,.cells [.fn 268 []] 345 1 0 [(1,0,1)]),(2,.cells formsO 289 2 0 [(2,0,7)])]
  keepX:=fun e=>match e with | .ret=>[2] | _=>[],objsX:=fun _=>[]
  inv:=fun (x:CaX) _=>caV x.1 x.2.2.1 x.2.2.2.1 x.2.2.2.2.1,res:=fun (x:CaX) _=>caDt (caE (x.2.2.1.drop x.2.2.2.2.1.toNat) x.1) }
theorem count_bounds (t:Trm) {left deep:Int} (h:0≤left):0≤countT t left deep:=by
 rw [count_eq t left deep h]
 have:=size_pos t
 split <;> omega
theorem caL_ok:LpSound Tryz.prog (caL.loop []):=by
 refine pkept (ctc cntA_kept ct0) lp0 caL (fun (x:CaX) _=>((x.2.2.1.length:Int) - x.2.2.2.2.1).toNat) (by kernel_rfl) ?_
 intro (xx:CaX) yy (hx:caV xx.1 xx.2.2.1 xx.2.2.2.1 xx.2.2.2.2.1)
 obtain ⟨left,u1,l,len,i,u2⟩:=xx
 obtain ⟨⟨v1,v2⟩,⟨v3,⟨v4,v5⟩,⟨v6,v7⟩,⟨v8,v9⟩,⟨w1,w2⟩,⟨w3,w4⟩,⟨w5,w6⟩,w7⟩,w8⟩:(Unit×Unit)×(Unit×(Unit×Unit)×(Unit×Unit)×(Unit×Unit)×(Unit×Unit)×(Unit×Unit)×(Unit×Unit)×Unit)×Unit:=yy
 obtain ⟨hl0,hl1,hm,hn,h0,h1⟩:caV left l len i:=hx
 have hm2:=len64 hm
 subst hn
 let z:Trm:=Univ.dflt (Cd.term:Cd)
 let e:Trm:=eT (l.getD i.toNat z)
 refine hd_eq (t:=.ite (decide (i < (l.length:Int))) (.ite (decide (0≤i) && decide (i < (l.length:Int))) (.ite (dec (0≤left∧left≤1000000000∧(0:Int)≤600∧(600:Int)≤1000000000)) (.ite (decide (left < countT e left 600)) (.leaf (true,.ret,[.si .i64 3],[]))
   (.leaf (true,.normal,[.si .i64 (IntKind.i64.wrap (left - countT e left 600)),.ptr 2 0,.dsl (Cd.term:Cd) l,.si .i64 (l.length:Int),.si .i64 (IntKind.i64.wrap (i + 1))],[.cells [.fn 268 [] []] 345 false false 1 0 [(1,0,1)],
    .cells [.nilf,.fn 269 [] [.ptr 1 0],.fn 270 [] [.ptr 1 0],.fn 271 [] [.ptr 1 0],.fn 273 [] [.ptr 1 0],.fn 274 [] [.ptr 1 0],.fn 275 [] [.ptr 1 0]] 289 false false 2 0 [(2,0,7)]]))) .fail) .fail)
   (.leaf (true,.exit 0,[],[]))) (by kernel_rfl) ?_
 have he:e=l.getD i.toNat z:=eT_eq _
 have hc0:=count_bounds (l.getD i.toNat z) (left:=left) (deep:=600) hl0
 rw [he]
 refine holds_ite (fun hlt=>?_) (fun hlt=>⟨rfl,?_⟩)
 ·have hlt:=of_decide_eq_true hlt
  have hd:=drop_cons l i z h0 hlt
  refine holds_need (by simp [h0,hlt]) (holds_need (dec_true (by omega)) (holds_ite (fun hc=>⟨rfl,?_⟩) fun hc=>?_))
  ·have hc:=of_decide_eq_true hc
   show (caDt (caE (l.drop i.toNat) left)).val=_
   rw [hd]
   unfold caE
   rw [if_pos hc]; rfl
  ·have hc:=of_decide_eq_false hc
   rw [wrap64 (by omega) (by omega),wrap64 (by omega) (by omega)]
   refine ⟨rfl,(show CaX from (left - countT (l.getD i.toNat z) left 600,(),l,(l.length:Int),i + 1,())),(((),()),((),((),()),((),()),((),()),((),()),((),()),((),()),()),()),rfl,rfl,(show caV (left - countT (l.getD i.toNat z) left 600) l (l.length:Int) (i + 1) from ⟨by omega,by omega,hm,rfl,by omega,by omega⟩),
    by show ((l.length:Int) - (i + 1)).toNat < ((l.length:Int) - i).toNat; omega,?_⟩
   show (caDt (caE (l.drop (i + 1).toNat) (left - countT (l.getD i.toNat z) left 600))).val=(caDt (caE (l.drop i.toNat) left)).val
   rw [hd]
   conv=>rhs; unfold caE
   rw [if_neg hc]
 ·show (caDt (caE (l.drop i.toNat) left)).val=_
  rw [drop_end l i h1 (of_decide_eq_false hlt)]; rfl
noncomputable def caC:FSpec:=⟨[.d Cd.term],fun (x:List Trm×Unit)=>x.1.length≤maxL,fun (x:List Trm×Unit)=>.leaf (.si .i64 (caE x.1 4000))⟩
theorem ca_kept:caC.Kept Tryz.prog 124:=by
 have hL:∀ p∈[(0,caL.loop [])],LpSound Tryz.prog p.2:=lpc caL_ok lp0
 have hmk:mkFn Tryz.prog 124=some (.code (unmark [(0,caL.loop [])] (cd Tryz.f124 [0])) Tryz.f124.ntmps Tryz.f124.results.toList):=by kernel_rfl
 refine fkept ct0 hL caC 124 Tryz.f124 [0] hmk (by kernel_rfl) ?_
 intro (xx:List Trm×Unit) (hx:xx.1.length≤maxL)
 obtain ⟨l,u⟩:=xx
 have hx:l.length≤maxL:=hx
 refine hd_eq (t:=.ite (dec (caV 4000 l (l.length:Int) 0)) (.ite (decide (caE l 4000=0)) (.leaf (true,.si .i64 0)) (.leaf (true,.si .i64 (caE l 4000)))) .fail) (by kernel_rfl) ?_
 refine holds_need (dec_true ⟨by omega,by omega,hx,rfl,by omega,by omega⟩) (holds_ite (fun h=>⟨rfl,?_⟩) fun h=>⟨rfl,rfl⟩)
 show some (AVal.si .i64 (caE l 4000))=some (AVal.si .i64 0)
 rw [of_decide_eq_true h]
theorem ca_size:∀ {l:List Trm} {left:Int},0≤left→caE l left=0→sizeL l≤left∧∀ x∈l,wellT x=true∧deepT x≤600
 | [],left,h0,_=>⟨by unfold sizeL; omega,fun x h=>by cases h⟩
 | x :: l,left,h0,h=>by
  unfold caE at h
  split at h
  ·omega
  ·rename_i hc
   have he:=count_eq x left 600 h0
   by_cases d:deepT x≤600∧sizeT x≤left∧wellT x=true
   ·rw [if_pos d] at he
    rw [he] at h hc
    obtain ⟨q1,q2⟩:=ca_size (l:=l) (left:=left - sizeT x) (by omega) h
    refine ⟨by unfold sizeL; omega,fun y hy=>?_⟩
    rcases List.mem_cons.1 hy with rfl | hy
    ·exact ⟨d.2.2,d.1⟩
    ·exact q2 y hy
   ·rw [if_neg d] at he; omega
mutual
def varT:Trm→List Int→List Int
 | ⟨k,n,_,l⟩,a=>varLs l (if k=1∧¬ n∈a then a ++ [n] else a)
def varLs:List Trm→List Int→List Int
 | [],a=>a
 | x :: l,a=>varLs l (varT x a)
end
mutual
theorem var_ground:∀ (t:Trm) (a:List Int),groundT t=true→varT t a=a
 | ⟨k,n,s,l⟩,a,h=>by
  unfold groundT at h
  rw [Bool.and_eq_true] at h
  have hk:¬ k=1:=by simpa using h.1
  unfold varT
  rw [if_neg (fun q=>hk q.1)]
  exact vars_ground l a h.2
theorem vars_ground:∀ (l:List Trm) (a:List Int),groundL l=true→varLs l a=a
 | [],a,_=>by unfold varLs; rfl
 | x :: l,a,h=>by
  unfold groundL at h
  rw [Bool.and_eq_true] at h
  unfold varLs
  rw [var_ground x a h.1]
  exact vars_ground l a h.2
end
noncomputable def varsC:FSpec:=⟨[.d Cd.term],fun (x:List Trm×Unit)=>∃ t,x.1=[t]∧sizeT t≤4000∧groundT t=true,fun _=>.leaf .nils⟩
noncomputable def vrsC:FSpec:=⟨[.d Cd.term],fun (x:List Trm×Unit)=>∃ t,x.1=[t]∧groundT t=true,fun (x:List Trm×Unit)=>.leaf (.tup [.nils,.si .i64 (caE x.1 4000)])⟩
theorem vrs_kept (hv:varsC.Kept Tryz.prog 166):vrsC.Kept Tryz.prog 96:=by
 refine fkeptX (mp:=[]) xs0 (ctc ca_kept (ctc hv ct0)) lp0 vrsC 96 Tryz.f96 [] (by kernel_rfl) (by kernel_rfl) .any ?_
 intro (xx:List Trm×Unit) (hx:∃ t,xx.1=[t]∧groundT t=true)
 obtain ⟨l,u⟩:=xx
 obtain ⟨t,rfl,hg⟩:∃ t,l=[t]∧groundT t=true:=hx
 have h1:[t].length≤maxL:=by unfold maxL; simp
 refine hd_eq (t:=.ite (dec ([t].length≤maxL)) (.ite (!decide (caE [t] 4000=0)) (.leaf (true,.tup [.nils,.si .i64 (caE [t] 4000)])) (.ite (dec (∃ t',[t]=[t']∧sizeT t'≤4000∧groundT t'=true)) (.leaf (true,.tup [.nils,.si .i64 0])) .fail)) .fail) (by kernel_rfl) ?_
 refine holds_need (dec_true h1) (holds_ite (fun h=>⟨rfl,rfl⟩) fun h=>?_)
 have h:caE [t] 4000=0:=by simpa using h
 have hz:=(ca_size (by omega) h).1
 have hz2:sizeT t≤4000:=by unfold sizeL sizeL at hz; omega
 refine holds_need (dec_true ⟨t,rfl,hz2,hg⟩) ⟨rfl,?_⟩
 show some (AVal.tup [.nils,.si .i64 (caE [t] 4000)])=_
 rw [h]; rfl
noncomputable def grdC:FSpec:=⟨[.agg termP],fun (x:TrmY×Unit)=>groundT (trmOf x.1)=true,fun (x:TrmY×Unit)=>.leaf (.tup [.sb (decide (caE [trmOf x.1] 4000=0)),.si .i64 (caE [trmOf x.1] 4000)])⟩
theorem grd_kept (hv:varsC.Kept Tryz.prog 166):grdC.Kept Tryz.prog 36:=by
 refine fkeptX (mp:=[]) xs0 (ctc (vrs_kept hv) ct0) lp0 grdC 36 Tryz.f36 [] (by kernel_rfl) (by kernel_rfl) .any ?_
 intro (xx:TrmY×Unit) (hx:groundT (trmOf xx.1)=true)
 obtain ⟨⟨k,n,s,l,u1⟩,u2⟩:=xx
 let t:Trm:=⟨k,n,s,l⟩
 have hx:groundT t=true:=hx
 refine hd_eq (t:=.ite (dec (∃ t',[t]=[t']∧groundT t'=true)) (.leaf (true,.tup [.sb (decide (caE [t] 4000=0)),.si .i64 (caE [t] 4000)])) .fail) (by kernel_rfl) ?_
 exact holds_need (dec_true ⟨t,rfl,hx⟩) ⟨rfl,rfl⟩
end Go.Proofs.YtghaalknpdlobaaGreatDoor

