/- A part of the proof of the statement: no conditions. -/
import Derived.Test.YtghaalknpdlobaaGreatDoorPartF
import Derived.RangeFuncKeeps
import Derived.RangeFuncBound
import Derived.RangeFuncFrom
import Derived.RangeFuncLeaves
import Derived.Shelf.Abstract
import Derived.WalkKit
import Derived.OwnWalkIn
import Derived.TacticsInMore
import Derived.LoopNIn
import Derived.LoopIn
set_option linter.unusedSectionVars false
set_option linter.unusedVariables false
set_option linter.unusedSimpArgs false
namespace Go.Proofs.YtghaalknpdlobaaGreatDoor
open Go Go.Ev Go.Proofs
set_option maxRecDepth 100000
theorem live_anti {out out2:List Bool} {s:Srt} (h:∀ c∈s.cases,∀ x∈c.args,out2.getD x.toNat false=true→out.getD x.toNat false=true) (hl:liveB out s=true):liveB out2 s=true:=by
 unfold liveB at hl ⊢
 simp only [Bool.or_eq_true,List.any_eq_true] at hl ⊢
 rcases hl with q | q | q | q | ⟨c,hc,q⟩
 ·exact .inl q
 ·exact .inr (.inl q)
 ·exact .inr (.inr (.inl q))
 ·exact .inr (.inr (.inr (.inl q)))
 ·refine .inr (.inr (.inr (.inr ⟨c,hc,?_⟩)))
  unfold aliveB at q ⊢
  rw [Bool.not_eq_true',List.any_eq_false] at q ⊢
  intro x hx hx2
  exact q x hx (h c hc x hx hx2)
theorem inE_still:∀ {l:List Srt} {i:Nat} {out:List Bool} {ch:Bool},(inE l i out ch).2=false→(inE l i out ch).1=out∧ch=false∧∀ j (hj:j < l.length),(out.getD (i + j) false && liveB out l[j])=false
 | [],i,out,ch,h=>⟨rfl,h,fun j hj=>by simp at hj⟩
 | s :: l,i,out,ch,h=>by
  unfold inE at h ⊢
  split at h
  ·exfalso
   have:=(inE_still h).2.1
   cases this
  ·rename_i q
   rw [if_neg q]
   obtain ⟨h1,h2,h3⟩:=inE_still h
   refine ⟨h1,h2,fun j hj=>?_⟩
   cases j with
   | zero=>simpa using q
   | succ j =>
    have:=h3 j (by simpa using hj)
    rw [show i + (j + 1)=i + 1 + j by omega]
    simpa using this
theorem inE_keep {S:List Bool}:∀ {l:List Srt} {i:Nat} {out:List Bool} {ch:Bool},(∀ j (hj:j < l.length),S.getD (i + j) false=true→liveB S l[j]=false)→(∀ j (hj:j < l.length),∀ c∈(l[j]).cases,∀ x∈c.args,0≤x) →
  (∀ n,S.getD n false=true→out.getD n false=true)→∀ n,S.getD n false=true→(inE l i out ch).1.getD n false=true
 | [],i,out,ch,_,_,h=>h
 | s :: l,i,out,ch,hS,hx,h=>by
  have hS':∀ j (hj:j < l.length),S.getD (i + 1 + j) false=true→liveB S l[j]=false:=fun j hj q=>by
   have:=hS (j + 1) (by simpa using hj) (by rw [show i + (j + 1)=i + 1 + j by omega]; exact q)
   simpa using this
  have hx':∀ j (hj:j < l.length),∀ c∈(l[j]).cases,∀ x∈c.args,0≤x:=fun j hj c hc x hx2=>hx (j + 1) (by simpa using hj) c (by simpa using hc) x hx2
  unfold inE
  split
  ·rename_i q
   rw [Bool.and_eq_true] at q
   refine inE_keep hS' hx' ?_
   intro n hn
   rw [List.getD_eq_getElem?_getD,List.getElem?_set]
   split
   ·rename_i e
    exfalso
    subst e
    have h1:=hS 0 (by simp) (by simpa using hn)
    have h2:liveB S s=true:=live_anti (fun c _ x _=>h x.toNat) q.2
    simp only [List.getElem_cons_zero] at h1
    rw [h1] at h2; cases h2
   ·have:=h n hn
    rw [List.getD_eq_getElem?_getD] at this
    exact this
  ·exact inE_keep hS' hx' h
theorem fixE_keep {g:List Srt} {S:List Bool} (hS:∀ j (hj:j < g.length),S.getD j false=true→liveB S g[j]=false) (hx:∀ j (hj:j < g.length),∀ c∈(g[j]).cases,∀ x∈c.args,0≤x) :
  ∀ (n:Nat) (out:List Bool),out.count true≤n→(∀ k,S.getD k false=true→out.getD k false=true)→∀ k,S.getD k false=true→(fixE g out).getD k false=true
 | n,out,hn,h=>by
  have h1:∀ k,S.getD k false=true→(inE g 0 out false).1.getD k false=true:=inE_keep (fun j hj q=>hS j hj (by simpa using q)) hx h
  cases hc:(inE g 0 out false).2 with
  | false=>rw [fixE_stop hc]; exact h1
  | true =>
   have hlt:(inE g 0 out false).1.count true < out.count true:=by
    rcases (inE_count g 0 out false).2 hc with q | q
    ·cases q
    ·exact q
   cases n with
   | zero=>omega
   | succ n=>rw [← fixE_step hc]; exact fixE_keep hS hx n _ (by omega) h1
theorem fixE_still {g:List Srt}:∀ (n:Nat) (out:List Bool),out.count true≤n→∀ j (hj:j < g.length),(fixE g out).getD j false=true→liveB (fixE g out) g[j]=false
 | n,out,hn=>by
  cases hc:(inE g 0 out false).2 with
  | false =>
   obtain ⟨h1,_,h3⟩:=inE_still hc
   rw [fixE_stop hc,h1]
   intro j hj hq
   have:=h3 j hj
   rw [Nat.zero_add,hq,Bool.true_and] at this
   exact this
  | true =>
   have hlt:(inE g 0 out false).1.count true < out.count true:=by
    rcases (inE_count g 0 out false).2 hc with q | q
    ·cases q
    ·exact q
   cases n with
   | zero=>omega
   | succ n=>rw [← fixE_step hc]; exact fixE_still n _ (by omega)
def noneL (g:List Srt) (m:Smps):List Bool:=(List.range g.length).map fun (i:Nat)=>(m (i:Int)).isNone
theorem noneL_get {g:List Srt} {m:Smps} {i:Int} (hi:inG g i):(noneL g m).getD i.toNat false=(m i).isNone:=by
 unfold noneL
 obtain ⟨h0,h1⟩:=hi
 rw [List.getD_eq_getElem?_getD,List.getElem?_map,List.getElem?_range (by omega)]
 show (m ((i.toNat:Nat):Int)).isNone=_
 rw [Int.toNat_of_nonneg h0]
theorem noneL_out {g:List Srt} {m:Smps} {n:Nat} (h:g.length≤n):(noneL g m).getD n false=false:=by
 unfold noneL
 rw [List.getD_eq_getElem?_getD,List.getElem?_eq_none (by simpa using h)]; rfl
theorem graph_args2 {g:List Srt} {i:Int} (h:graphP g=true) (hi:inG g i):∀ c∈(gAt g i).cases,(c.args.length:Int)=c.arity∧∀ x∈c.args,inG g x:=(right_parts (graph_at h hi)).2.2.2
theorem gAt_get {g:List Srt} {j:Nat} (hj:j < g.length):gAt g (j:Int)=g[j]:=by
 unfold gAt
 rw [Int.toNat_natCast,List.getD_eq_getElem?_getD,List.getElem?_eq_getElem hj]; rfl
theorem ex_empt {g:List Srt} {i:Int} (hg:graphP g=true) (hi:inG g i):(exAll g (fun _=>none) i).isSome=!(emptL g).getD i.toNat false:=by
 have hin:∀ j (hj:j < g.length),inG g (j:Int):=fun j hj=>⟨by omega,by omega⟩
 have hlive:∀ (m:Smps) (j:Int),inG g j→(firstS (gAt g j) m).isSome=liveB (noneL g m) (gAt g j):=fun m j hj =>
  first_live fun c hc=>⟨(graph_args2 hg hj c hc).1,fun x hx=>noneL_get ((graph_args2 hg hj c hc).2 x hx)⟩
 have hnn:∀ j (hj:j < g.length),∀ c∈(g[j]).cases,∀ x∈c.args,0≤x:=by
  intro j hj c hc x hx
  rw [← gAt_get hj] at hc
  exact ((graph_args2 hg (hin j hj) c hc).2 x hx).1
 have A:∀ k,(noneL g (exAll g fun _=>none)).getD k false=true→(emptL g).getD k false=true:=by
  refine fixE_keep (fun j hj hq=>?_) hnn _ _ (Nat.le_refl _) (fun k hk=>?_)
  ·rw [← gAt_get hj,← hlive _ _ (hin j hj)]
   have hn:(exAll g (fun _=>none)) (j:Int)=none:=by
    have:=noneL_get (g:=g) (m:=exAll g fun _=>none) (hin j hj)
    rw [Int.toNat_natCast,hq] at this
    cases he:exAll g (fun _=>none) (j:Int) with
    | none=>rfl
    | some x=>rw [he] at this; cases this
   have hs:=exAll_stable g (fun _=>none) (j:Int)
   unfold newS at hs
   rw [hn,if_neg (by simp),if_pos (show 0≤(j:Int)∧(j:Int) < (g.length:Int) from hin j hj)] at hs
   rw [hs]; rfl
  ·rcases Nat.lt_or_ge k g.length with q | q
   ·rw [List.getD_eq_getElem?_getD,List.getElem?_replicate,if_pos q]; rfl
   ·rw [noneL_out q] at hk; cases hk
 have B:∀ j x,exAll g (fun _=>none) j=some x→(emptL g).getD j.toNat false=false:=by
  refine exK_ind (P:=fun m=>∀ j x,m j=some x→(emptL g).getD j.toNat false=false) (fun m hm=>?_) _ _ (fun j x h=>by cases h)
  refine exR_all hm fun j x h=>?_
  obtain ⟨hj,hf⟩:=newS_some h
  cases he:(emptL g).getD j.toNat false with
  | false=>rfl
  | true =>
   exfalso
   have hjl:j.toNat < g.length:=by have:=hj.1; have:=hj.2; omega
   have h1:=fixE_still (g:=g) _ (List.replicate g.length true) (Nat.le_refl _) j.toNat hjl he
   rw [← gAt_get hjl,Int.toNat_of_nonneg hj.1] at h1
   have h2:=hlive m j hj
   rw [hf] at h2
   have h2:liveB (noneL g m) (gAt g j)=true:=h2.symm
   have h3:liveB (emptL g) (gAt g j)=true:=live_anti (fun c hc x hx q=>by
    have hxg:=(graph_args2 hg hj c hc).2 x hx
    rw [noneL_get hxg]
    cases hq:m x with
    | none=>rfl
    | some y=>rw [hm x y hq] at q; cases q) h2
   have h1:liveB (emptL g) (gAt g j)=false:=h1
   rw [h1] at h3; cases h3
 cases he:exAll g (fun _=>none) i with
 | some x=>rw [B i x he]; rfl
 | none =>
  have:=A i.toNat (by rw [noneL_get hi,he]; rfl)
  rw [this]; rfl
end Go.Proofs.YtghaalknpdlobaaGreatDoor

namespace Go.Proofs.YtghaalknpdlobaaGreatDoor
open Go Go.Ev Go.Proofs Go.RowKit
set_option maxRecDepth 100000
theorem ask_of {g:List Srt} {i:Int} (hg:graphP g=true) (hi:inG g i):askE g i=0:=by
 unfold askE errG inG at *
 rw [if_pos hg,if_pos rfl,if_neg (by omega),if_pos (by omega)]
theorem exE_none {g:List Srt} {i:Int} (hg:graphP g=true) (hi:inG g i):decide (exE g i=4)=(emptL g).getD i.toNat false:=by
 have h:=ex_empt hg hi
 unfold exE
 rw [if_pos (ask_of hg hi)]
 unfold exO
 cases hq:exAll g (fun _=>none) i with
 | none=>rw [hq] at h; simp at h ⊢; exact h
 | some x =>
  rw [hq] at h
  have h:(emptL g).getD i.toNat false=false:=by simpa using h
  rw [h]
  simp only []
  split <;> simp
theorem exE_vals {g:List Srt} {i:Int} (hg:graphP g=true) (hi:inG g i):exE g i=4∨exE g i=2∨exE g i=0:=by
 unfold exE
 rw [if_pos (ask_of hg hi)]
 cases exO g i with
 | none=>exact .inl rfl
 | some x =>
  simp only []
  split
  ·exact .inr (.inr rfl)
  ·exact .inr (.inl rfl)
theorem exE_ok {g:List Srt} {i:Int} (hg:graphP g=true) (hi:inG g i) (h:exE g i=0):groundT (exT g i)=true∧wellT (exT g i)=true∧fitT g (exT g i) i=true∧sizeT (exT g i)≤4000∧deepT (exT g i)≤600:=by
 unfold exT
 rw [if_pos h]
 unfold exE at h
 rw [if_pos (ask_of hg hi)] at h
 cases hq:exO g i with
 | none=>rw [hq] at h; simp at h
 | some x =>
  rw [hq] at h
  simp only [] at h ⊢
  split at h
  ·rename_i hs
   obtain ⟨_,⟨s1,s2⟩,s3,s4,s5⟩:=exAll_smp hg i x hq
   unfold isS at hs
   rw [Bool.and_eq_true] at hs
   have q1:=of_decide_eq_true hs.1
   have q2:=of_decide_eq_true hs.2
   exact ⟨s3,s4,s5,by omega,by omega⟩
  ·omega
theorem ca_ok {t:Trm} (h1:wellT t=true) (h2:sizeT t≤4000) (h3:deepT t≤600):caE [t] 4000=0:=by
 have he:=count_eq t 4000 600 (by omega)
 rw [if_pos ⟨h3,h2,h1⟩] at he
 unfold caE
 rw [he,if_neg (by omega)]; rfl
theorem errT_of {t:Trm} (h1:wellT t=true) (h2:sizeT t≤4000) (h3:deepT t≤600):errT t=0:=by
 unfold errT
 rw [bad_eq,h1,decide_eq_true h2,decide_eq_true h3]; rfl
abbrev LeX:Type:=List Srt×List Bool×Int×Int×Unit
def leV (g:List Srt) (l:List Bool) (len i:Int):Prop:=okG g∧graphP g=true∧l=emptL g∧len=(g.length:Int)∧0≤i∧i≤(g.length:Int)
noncomputable def leL:PSpec :=
 {body:=loopIn Tryz.f6 0,nt:=85,nx:=1,room:=8,keep:=[(0,.d Cd.sort),(33,.d Cd.bool),(34,.i .i64),(35,.i .i64)],objs:=[]
  keepX:=fun e=>match e with | .ret=>[2] | _=>[],objsX:=fun _=>[]
  inv:=fun (x:LeX) _=>leV x.1 x.2.1 x.2.2.1 x.2.2.2.1,res:=fun _ _=>.leaf (.exit 0,[],[]) }
theorem leL_ok (hv:varsC.Kept Tryz.prog 166):LpSound Tryz.prog (leL.loop []):=by
 refine pkept (ctc exm_kept (ctc (grd_kept hv) (ctc fits_kept ct0))) lp0 leL (fun (x:LeX) _=>((x.1.length:Int) - x.2.2.2.1).toNat) (by kernel_rfl) ?_
 intro (xx:LeX) yy (hx:leV xx.1 xx.2.1 xx.2.2.1 xx.2.2.2.1)
 obtain ⟨g,l,len,i,u⟩:=xx
 obtain ⟨hok,hg,hl,hn,h0,h1⟩:leV g l len i:=hx
 have hm2:=len64 hok.1
 subst hl hn
 let z:Bool:=Univ.dflt (Cd.bool:Cd)
 let t:Trm:=exT g i
 let tx:TrmY:=(t.kind,t.n,t.s,t.l,())
 let nx:Dt (Bool×AExit×List AVal×List AObj):=.leaf (true,.normal,[.dsl (Cd.sort:Cd) g,.dsl (Cd.bool:Cd) (show List Bool from emptL g),.si .i64 (g.length:Int),.si .i64 (IntKind.i64.wrap (i + 1))],[])
 let no:Dt (Bool×AExit×List AVal×List AObj):=.leaf (true,.ret,[.sb false],[])
 refine hd_eq (t:=.ite (decide (i < (g.length:Int))) (.ite (decide (0≤i) && decide (i < ((emptL g).length:Int))) (.ite (dec (okG g)) (.ite (!((emptL g).getD i.toNat z == decide (exE g i=4))) no
  (.ite (!decide (exE g i=0)) (.ite (!decide (exE g i=4)) (.ite (!decide (exE g i=2)) no nx) nx)
   (.ite (dec (grdC.pre (tx,()))) (.ite (dec True) (.ite (!decide (caE [eT t] 4000=0)) no (.ite (!decide (caE [eT t] 4000=0)) no (.ite (!decide (fitsE g i (eT t)=0)) no (.ite (!fitsB g i (eT t)) no nx)))) .fail) .fail))) .fail) .fail)
  (.leaf (true,.exit 0,[],[]))) (by kernel_rfl) ?_
 refine holds_ite (fun hlt=>?_) (fun hlt=>⟨rfl,rfl⟩)
 have hlt:=of_decide_eq_true hlt
 have hi:inG g i:=⟨h0,hlt⟩
 have hnx:nx.holds fun q=>q.1=true∧match q.2.1 with
   | .normal=>∃ x' y',Pts.vals _ x'=q.2.2.1∧Pos.obs _ y'=q.2.2.2∧leL.inv x' y'∧(fun (x:LeX) (_:Pos (leL.objs.map (·.2)))=>((x.1.length:Int) - x.2.2.2.1).toNat) x' y' < ((g.length:Int) - i).toNat∧(leL.res x' y').val=(Dt.leaf (AExit.exit 0,([]:List AVal),([]:List AObj))).val
   | e=>(Dt.leaf (AExit.exit 0,([]:List AVal),([]:List AObj))).val=some (e,q.2.2):=by
  show _∧_
  rw [wrap64 (by omega) (by omega)]
  exact ⟨rfl,(show LeX from (g,emptL g,(g.length:Int),i + 1,())),(),rfl,rfl,(show leV g (emptL g) (g.length:Int) (i + 1) from ⟨hok,hg,rfl,rfl,by omega,by omega⟩),by show ((g.length:Int) - (i + 1)).toNat < ((g.length:Int) - i).toNat; omega,rfl⟩
 have he:=exE_none hg hi
 have hz:(emptL g).getD i.toNat z=(emptL g).getD i.toNat false:=getD_any _ _ _ _ (by rw [empt_len]; omega)
 rw [hz,eT_eq]
 refine holds_need (by rw [empt_len]; simp [h0,hlt]) (holds_need (dec_true hok) (holds_ite (fun h=>by rw [he] at h; simp at h) fun _=>holds_ite (fun h5=>holds_ite (fun h6=>holds_ite (fun h7=>?_) fun _=>hnx) fun _=>hnx) fun h5=>?_))
 ·have h5:¬ exE g i=0:=by simpa using h5
  have h6:¬ exE g i=4:=by simpa using h6
  have h7:¬ exE g i=2:=by simpa using h7
  rcases exE_vals hg hi with q | q | q <;> contradiction
 ·have h5:exE g i=0:=by simpa using h5
  obtain ⟨p1,p2,p3,p4,p5⟩:=exE_ok hg hi h5
  have q1:caE [t] 4000=0:=ca_ok p2 p4 p5
  have q2:fitsE g i t=0:=by unfold fitsE; rw [if_pos (ask_of hg hi)]; exact errT_of p2 p4 p5
  have q3:fitsB g i t=true:=by unfold fitsB; rw [q2,p3]; rfl
  have hgr:grdC.pre (tx,()):=by
   show groundT (eT t)=true
   rw [eT_eq]; exact p1
  refine holds_need (dec_true hgr) (holds_need (dec_true trivial) (holds_ite (fun h=>by rw [q1] at h; simp at h) fun _=>holds_ite (fun h=>by rw [q1] at h; simp at h) fun _=>holds_ite (fun h=>by rw [q2] at h; simp at h) fun _=>holds_ite (fun h=>by rw [q3] at h; simp at h) fun _=>hnx))
theorem small_okG {g:List Srt} (hl:okLens g) (h:smallB g=true):okG g:=by
 unfold smallB at h
 rw [Bool.and_eq_true] at h
 refine ⟨hl.1,fun s hs=>⟨hl.2 s hs,fun c hc=>?_⟩⟩
 have hw:=smG_cases h.1 s hs c hc
 unfold wideB at hw
 simp only [Bool.or_eq_false_iff,decide_eq_false_iff_not] at hw
 unfold okCase
 omega
noncomputable def lawE:FSpec:=⟨[.d Cd.sort],fun (x:List Srt×Unit)=>okLens x.1,fun _=>.leaf (.sb true)⟩
theorem lawE_kept (hv:varsC.Kept Tryz.prog 166):lawE.Kept Tryz.prog 6:=by
 have hL:∀ p∈[(0,leL.loop [])],LpSound Tryz.prog p.2:=lpc (leL_ok hv) lp0
 have hmk:mkFn Tryz.prog 6=some (.code (unmark [(0,leL.loop [])] (cd Tryz.f6 [0])) Tryz.f6.ntmps Tryz.f6.results.toList):=by kernel_rfl
 refine fkept (ctc sane_kept (ctc small_kept (ctc empt_kept ct0))) hL lawE 6 Tryz.f6 [0] hmk (by kernel_rfl) ?_
 intro (xx:List Srt×Unit) (hx:okLens xx.1)
 obtain ⟨g,u⟩:=xx
 have hx:okLens g:=hx
 refine hd_eq (t:=.ite (dec True) (.ite (!true) (.leaf (true,.sb false)) (.ite (dec ((∀ h∈[g],okLens h)∧[g].length≤maxL)) (.ite (!([g].all smallB)) (.leaf (true,.sb true))
  (.ite (dec True) (.ite (graphP g) (.ite (!decide ((0:Int)=0)) (.leaf (true,.sb (decide ((0:Int)=110)))) (.ite (!decide (((emptL g).length:Int)=(g.length:Int))) (.leaf (true,.sb false)) (.ite (dec (leV g (emptL g) ((emptL g).length:Int) 0)) (.leaf (true,.sb true)) .fail)))
   (.ite (!decide ((110:Int)=0)) (.leaf (true,.sb (decide ((110:Int)=110)))) (.ite (!decide ((0:Int)=(g.length:Int))) (.leaf (true,.sb false)) .fail))) .fail)) .fail)) .fail) (by kernel_rfl) ?_
 refine holds_need (dec_true trivial) (holds_ite (fun h=>by cases h) fun _=>holds_need (dec_true ⟨fun h hh=>by rw [List.mem_singleton.1 hh]; exact hx,by unfold maxL; simp⟩) (holds_ite (fun _=>⟨rfl,rfl⟩) fun hs=>holds_need (dec_true trivial) (holds_ite (fun hg=>holds_ite (fun h=>by simp at h) fun _=>holds_ite (fun h=>?_) fun _=>holds_need (dec_true ?_) ⟨rfl,rfl⟩) fun hg=>holds_ite (fun _=>⟨rfl,rfl⟩) fun h=>by simp at h)))
 ·rw [empt_len] at h; simp at h
 ·have hs:smallB g=true:=by simpa using hs
  exact ⟨small_okG hx hs,hg,rfl,by rw [empt_len],by omega,by omega⟩
end Go.Proofs.YtghaalknpdlobaaGreatDoor

namespace Go.Proofs.YtghaalknpdlobaaGreatDoor
open Go Go.Ev Go.Proofs Go.RowKit Go.Shelf
set_option maxRecDepth 100000
attribute [local go_sem] Oper.semAt_some
def Dat (fz:Nat→Option Obj) (W:World):Prop:=∀ b o,fz b=some o→W.heap[b]?=some o
def TrV (fz:Nat→Option Obj) (t:Trm) (v:Value):Prop:=VRel ⟨fun _=>none,fz,0⟩ (trmV t) v
def PureRound (F:Fence) (l:Nat) (lp:Loop):Prop:=∀ (fz:Nat→Option Obj) (m:Nat) (t:Trm) (v:Value) (W:World),groundT t=true→TrV fz t v→Dat fz W→W.heap[l]?=some (.loop lp) →
 YieldAt F m Tryz.prog l #[v] W fun e W'=>e=.returned (.bool true)∧Below W.heap.size W W'
theorem Dat.grow {fz:Nat→Option Obj} {W W':World} (h:Dat fz W) (hb:Below W.heap.size W W'):Dat fz W':=fun b o e=>by
 have:=h b o e
 have hl:b < W.heap.size:=(Array.getElem?_eq_some_iff.1 this).1
 exact (hb.block b hl).trans this
theorem ground_mem:∀ {l:List Trm},groundL l=true→∀ x∈l,groundT x=true
 | [],_,x,h=>by cases h
 | y :: l,h,x,hx=>by
  unfold groundL at h
  rw [Bool.and_eq_true] at h
  rcases List.mem_cons.1 hx with rfl | q
  ·exact h.1
  ·exact ground_mem h.2 x q
theorem term_cells {fz:Nat→Option Obj} {t:Trm} {g:Nat→Value} (h:∀ k cl,(Univ.cells (Cd.term:Cd) t)[k]?=some cl→CRel fz cl (g k)) :
  g 0=.int .i64 t.kind∧g 1=.int .i64 t.n∧g 2=.string t.s∧CRel fz (.sl (Cd.term:Cd) t.l) (g 3):=by
 have h0:=h 0 (.i .i64 t.kind) rfl
 have h1:=h 1 (.i .i64 t.n) rfl
 have h2:=h 2 (.s t.s) rfl
 have h3:=h 3 (.sl (Cd.term:Cd) t.l) rfl
 generalize g 0=v0 at h0 ⊢
 generalize g 1=v1 at h1 ⊢
 generalize g 2=v2 at h2 ⊢
 cases h0; cases h1; cases h2
 exact ⟨rfl,rfl,rfl,h3⟩
theorem slice_parts {fz:Nat→Option Obj} {l:List Trm} {v:Value} (h:CRel fz (.sl (Cd.term:Cd) l) v):∃ A cap,v=.slice A l.length cap∧∀ j x,l[j]?=some x→∃ b o C e z sv,A=some ⟨b,o,none⟩∧fz b=some (.cells C e z) ∧
  C[o + j * 4 + 0]?=some (.int .i64 x.kind)∧C[o + j * 4 + 1]?=some (.int .i64 x.n)∧C[o + j * 4 + 2]?=some (.string x.s)∧C[o + j * 4 + 3]?=some sv∧CRel fz (.sl (Cd.term:Cd) x.l) sv:=by
 generalize hc:(Cell.sl (Cd.term:Cd) l:Cell Univ.C Univ.S)=cl at h
 cases h <;> try (cases hc; done)
 ·rename_i c A cap
  cases hc
  exact ⟨A,cap,rfl,fun j x hj=>by cases hj⟩
 ·rename_i c l' b o cap C e z g hb hcap hg hh
  cases hc
  refine ⟨some ⟨b,o,none⟩,cap,rfl,fun j x hj=>?_⟩
  obtain ⟨q0,q1,q2,q3⟩:=term_cells (hh j x hj)
  have e4:Univ.esz (Cd.term:Cd)=4:=rfl
  have hg:=hg j x hj
  rw [e4] at hg
  refine ⟨b,o,C,e,z,g j 3,rfl,hb,?_,?_,?_,hg 3 (by omega),q3⟩
  ·rw [hg 0 (by omega),q0]
  ·rw [hg 1 (by omega),q1]
  ·rw [hg 2 (by omega),q2]
set_option maxHeartbeats 2000000 in
theorem walk_step (F:Fence) (hd:F.depth=none) (hro:F.round=none) (hF:∀ f,F.fn f) (l:Nat) (lp:Loop) (hY:PureRound F l lp) (fz:Nat→Option Obj) :
  ∀ (k n:Int) (s:ByteArray) (kids:List Trm) (m:Nat) (sv:Value) (W:World),groundT ⟨k,n,s,kids⟩=true→kids.length≤4000→CRel fz (.sl (Cd.term:Cd) kids) sv→Dat fz W→W.heap[l]?=some (.loop lp) →
   (∀ x∈kids,∀ (m:Nat) (sv:Value) (W:World),CRel fz (.sl (Cd.term:Cd) x.l) sv→Dat fz W→W.heap[l]?=some (.loop lp) →
    CallsIn F m Tryz.prog 283 #[.agg #[.int .i64 x.kind,.int .i64 x.n,.string x.s,sv],.func (.yield l) #[] #[]] W fun e W'=>e=.returned (.bool true)∧Below W.heap.size W W') →
   CallsIn F m Tryz.prog 283 #[.agg #[.int .i64 k,.int .i64 n,.string s,sv],.func (.yield l) #[] #[]] W fun e W'=>e=.returned (.bool true)∧Below W.heap.size W W':=by
 intro k n s kids m sv W hg hkl hsv hdt hl ih
 have hlt:l < W.heap.size:=(Array.getElem?_eq_some_iff.1 hl).1
 have htv:TrV fz ⟨k,n,s,kids⟩ (.agg #[.int .i64 k,.int .i64 n,.string s,sv]):=by
  unfold TrV trmV
  unfold VRel
  refine ⟨_,rfl,?_⟩
  refine .cons (by unfold VRel; rfl) (.cons (by unfold VRel; rfl) (.cons (by unfold VRel; rfl) (.cons (by unfold VRel; exact hsv) .nil)))
 have hdd:∀ k:Nat,(F.depth.isSome=true→1≤k):=fun k h=>by rw [hd] at h; cases h
 obtain ⟨W0,hW0⟩:∃ W0,W.alloc (.cells #[.int .i64 k,.int .i64 n,.string s,sv] 25)=W0:=⟨_,rfl⟩
 have hb0:Below W.heap.size W W0:=by rw [← hW0]; exact (Below.refl _ W).alloc (Nat.le_refl _) _
 have hbox:W0.heap[W.heap.size]?=some (.cells #[.int .i64 k,.int .i64 n,.string s,sv] 25 (0,0)):=by rw [← hW0]; exact World.alloc_heap_new W _
 have hl0:W0.heap[l]?=some (.loop lp):=(hb0.block l hlt).trans hl
 have hd0:Dat fz W0:=hdt.grow hb0
 obtain ⟨fn,tmps,assign,body,hy,hR⟩:=hY fz (m - 1) _ _ W0 hg htv hd0 hl0
 refine callsIn_of_wp Tryz.func283 rfl (hF _) ?_ hro
 simp only [Tryz.ntmps283,List.size_toArray,List.length_cons,List.length_nil,Nat.reduceAdd,Nat.reduceSub,Array.replicate_succ,Array.replicate_zero,List.push_toArray,List.append_toArray,List.nil_append,List.cons_append]
 have hc0:W0.cell? ⟨W.heap.size,0,none⟩=some (.int .i64 k):=by simp [World.cell?,hbox]
 have hc1:W0.cell? ⟨W.heap.size,1,none⟩=some (.int .i64 n):=by simp [World.cell?,hbox]
 have hc2:W0.cell? ⟨W.heap.size,2,none⟩=some (.string s):=by simp [World.cell?,hbox]
 have hc3:W0.cell? ⟨W.heap.size,3,none⟩=some sv:=by simp [World.cell?,hbox]
 have hz0:W.heap.size < W0.heap.size:=(Array.getElem?_eq_some_iff.1 hbox).1
 gi_wp2
 refine hR.mono ?_
 rintro e W1 ⟨rfl,hb1⟩
 have hd1:=hd0.grow hb1
 have hl1:W1.heap[l]?=some (.loop lp):=(hb1.block l (Nat.lt_of_lt_of_le hlt hb0.size)).trans hl0
 have hc4:W1.cell? ⟨W.heap.size,3,none⟩=some sv:=(hb1.cell (p:=⟨W.heap.size,3,none⟩) hz0).trans hc3
 have hB1:Below W.heap.size W W1:=hb0.trans (hb1.mono hb0.size)
 obtain ⟨A,cap,rfl,hkids⟩:=slice_parts hsv
 gi_wp2
 gi_loopw [14] (fun i wr=>∃ j:Nat,j≤kids.length∧i=.int .i64 j∧Below W.heap.size W wr)
  (fun i _=>kids.length - (intOf i).toNat)
 case atStart=>exact ⟨0,Nat.zero_le _,rfl,hB1⟩
 case round =>
  obtain ⟨j,hj,rfl,hB⟩:=hrel
  have hdr:=hdt.grow hB
  have hlr:wr.heap[l]?=some (.loop lp):=(hB.block l hlt).trans hl
  by_cases hjl:j < kids.length
  ·obtain ⟨x,hx⟩:∃ x,kids[j]?=some x:=⟨_,List.getElem?_eq_getElem hjl⟩
   obtain ⟨b,o,C,e,z,sx,rfl,hb,hC0,hC1,hC2,hC3,hsx⟩:=hkids j x hx
   have hbw:=hdr b _ hb
   have hx0:wr.cell? ⟨b,o + j * 4,none⟩=some (.int .i64 x.kind):=by simp [World.cell?,hbw]; exact hC0
   have hx1:wr.cell? ⟨b,o + j * 4 + 1,none⟩=some (.int .i64 x.n):=by simp [World.cell?,hbw]; exact hC1
   have hx2:wr.cell? ⟨b,o + j * 4 + 2,none⟩=some (.string x.s):=by simp [World.cell?,hbw]; exact hC2
   have hx3:wr.cell? ⟨b,o + j * 4 + 3,none⟩=some sx:=by simp [World.cell?,hbw]; exact hC3
   have hxm:x∈kids:=List.mem_of_getElem? hx
   have hsx':=hsx
   obtain ⟨Ax,capx,rfl,_⟩:=slice_parts hsx
   obtain ⟨W2,hW2⟩:∃ W2,wr.alloc (.cells #[.int .i64 x.kind,.int .i64 x.n,.string x.s,.slice Ax x.l.length capx] 25)=W2:=⟨_,rfl⟩
   have hb2:Below wr.heap.size wr W2:=by rw [← hW2]; exact (Below.refl _ wr).alloc (Nat.le_refl _) _
   have hbox2:W2.heap[wr.heap.size]?=some (.cells #[.int .i64 x.kind,.int .i64 x.n,.string x.s,.slice Ax x.l.length capx] 25 (0,0)):=by rw [← hW2]; exact World.alloc_heap_new wr _
   have hy0:W2.cell? ⟨wr.heap.size,0,none⟩=some (.int .i64 x.kind):=by simp [World.cell?,hbox2]
   have hy1:W2.cell? ⟨wr.heap.size,1,none⟩=some (.int .i64 x.n):=by simp [World.cell?,hbox2]
   have hy2:W2.cell? ⟨wr.heap.size,2,none⟩=some (.string x.s):=by simp [World.cell?,hbox2]
   have hy3:W2.cell? ⟨wr.heap.size,3,none⟩=some (.slice Ax x.l.length capx):=by simp [World.cell?,hbox2]
   have hl2:W2.heap[l]?=some (.loop lp):=(hb2.block l (Nat.lt_of_lt_of_le hlt hB.size)).trans hlr
   have ihx:=ih x hxm (m - 1) _ W2 hsx' (hdr.grow hb2) hl2
   gi_wp2_with ((try refine ⟨hdd _,?_⟩); gi_at_call 283; refine ihx.mono ?_; clear ihx; rintro e W3 ⟨rfl,hb3⟩)
   exact ⟨⟨j + 1,by omega,by simp,(hB.trans (hb2.mono hB.size)).trans (hb3.mono (Nat.le_trans hB.size hb2.size))⟩,by simp only [intOf]; omega⟩
  ·obtain rfl:j=kids.length:=by omega
   gi_wp2
   go_ret
   exact ⟨rfl,hB⟩
theorem walkAll (F:Fence) (hd:F.depth=none) (hro:F.round=none) (hF:∀ f,F.fn f) (l:Nat) (lp:Loop) (hY:PureRound F l lp) (fz:Nat→Option Obj):∀ (N:Nat) (t:Trm),sizeT t≤(N:Int)→N≤4000→groundT t=true →
  ∀ (m:Nat) (sv:Value) (W:World),CRel fz (.sl (Cd.term:Cd) t.l) sv→Dat fz W→W.heap[l]?=some (.loop lp) →
   CallsIn F m Tryz.prog 283 #[.agg #[.int .i64 t.kind,.int .i64 t.n,.string t.s,sv],.func (.yield l) #[] #[]] W fun e W'=>e=.returned (.bool true)∧Below W.heap.size W W'
 | 0,t,h,_,_=>by have:=size_pos t; omega
 | N + 1,⟨k,n,s,kids⟩,h,hN,hg=>fun m sv W hsv hdt hl=>by
  unfold sizeT at h
  have hlen:=sizeL_len kids
  refine walk_step F hd hro hF l lp hY fz k n s kids m sv W hg (by omega) hsv hdt hl (fun x hx=>?_)
  have hm:=sizeL_mem hx
  refine walkAll F hd hro hF l lp hY fz N x (by omega) (by omega) ?_
  unfold groundT at hg
  rw [Bool.and_eq_true] at hg
  exact ground_mem hg.2 x hx
end Go.Proofs.YtghaalknpdlobaaGreatDoor

namespace Go.Proofs.YtghaalknpdlobaaGreatDoor
open Go Go.Ev Go.Proofs Go.RowKit Go.Shelf
set_option maxRecDepth 100000
attribute [local go_sem] Oper.semAt_some
set_option maxHeartbeats 2000000 in
theorem nodes1q_in (F:Fence) (hd:F.depth=none) (hro:F.round=none) (hF:∀ f,F.fn f) (l:Nat) (lp:Loop) (hY:PureRound F l lp) (fz:Nat→Option Obj) (t:Trm) (hs:sizeT t≤4000) (hg:groundT t=true)
  (m B:Nat) (sv:Value) (W:World) (hsv:CRel fz (.sl (Cd.term:Cd) t.l) sv) (hdt:Dat fz W) (hl:W.heap[l]?=some (.loop lp))
  (hbox:W.heap[B]?=some (.cells #[.int .i64 t.kind,.int .i64 t.n,.string t.s,sv] 25 (0,0))) :
  CallsIn F m Tryz.prog 282 #[.func (.yield l) #[] #[],.pointer (some ⟨B,0,none⟩)] W fun e W'=>(∃ v,e=.returned v)∧Below W.heap.size W W':=by
 have hdd:∀ k:Nat,(F.depth.isSome=true→1≤k):=fun k h=>by rw [hd] at h; cases h
 have hc0:W.cell? ⟨B,0,none⟩=some (.int .i64 t.kind):=by simp [World.cell?,hbox]
 have hc1:W.cell? ⟨B,1,none⟩=some (.int .i64 t.n):=by simp [World.cell?,hbox]
 have hc2:W.cell? ⟨B,2,none⟩=some (.string t.s):=by simp [World.cell?,hbox]
 have hc3:W.cell? ⟨B,3,none⟩=some sv:=by simp [World.cell?,hbox]
 have hw:=walkAll F hd hro hF l lp hY fz 4000 t (by omega) (Nat.le_refl _) hg (m - 1) sv W hsv hdt hl
 refine callsIn_of_wp Tryz.func282 rfl (hF _) ?_ hro
 simp only [Tryz.ntmps282,List.size_toArray,List.length_cons,List.length_nil,Nat.reduceAdd,Nat.reduceSub,Array.replicate_succ,Array.replicate_zero,List.push_toArray,List.append_toArray,List.nil_append,List.cons_append]
 gi_wp2_with ((try refine ⟨hdd _,?_⟩); gi_at_call 283; refine hw.mono ?_; clear hw; rintro e W1 ⟨rfl,hb1⟩)
 go_end0
 exact ⟨⟨_,rfl⟩,hb1⟩
set_option maxHeartbeats 1000000 in
theorem nodes_in (F:Fence) (m:Nat) (hro:F.round=none) (hF:∀ f,F.fn f) (v0 v1 v2 v3:Value) (w:World) :
  CallsIn F m Tryz.prog 225 #[.agg #[v0,v1,v2,v3]] w fun e w'=>e=.returned (.func (.func 282) #[] #[.pointer (some ⟨w.heap.size,0,none⟩)])∧w'=w.alloc (.cells #[v0,v1,v2,v3] 25):=by
 refine callsIn_of_wp Tryz.func225 rfl (hF _) ?_ hro
 simp only [Tryz.ntmps225,List.size_toArray,List.length_cons,List.length_nil,Nat.reduceAdd,Nat.reduceSub,Array.replicate_succ,Array.replicate_zero,List.push_toArray,List.append_toArray,List.nil_append,List.cons_append]
 gi_wp2
 go_ret
 exact ⟨rfl,rfl⟩
theorem pure_round {F:Fence} (hF:∀ f,F.fn f) (hd:F.depth=none) {l:Nat} {fn:FuncId} {tmps:Array Value} {p:Tmp} {ac bd:Code} {D:Nat} (a₁:Value→World→Act) (O:Value→Obj)
  (hassign:∀ (fz:Nat→Option Obj) (m:Nat) (v:Value) (t:Trm) (W:World) (K:Act→World→Prop),groundT t=true→TrV fz t v→K (a₁ v W) (W.alloc (O v))→ac.wpIn (F.inRound l) m Tryz.prog (Exit.then K (fun _ _ _=>False)) { tmps:=(#[p].zip #[v]).foldl (fun t (p,v)=>t.setIfInBounds p v) tmps,defers:=[] } W)
  (hbody:∀ (fz:Nat→Option Obj) (m:Nat) (v:Value) (t:Trm) (W W2:World),groundT t=true→TrV fz t v→W2.heap[W.heap.size]?=some (O v)→bd.wpIn (F.inRound l) m Tryz.prog (fun e _ W3=>e=.normal∧Below W2.heap.size W2 W3) (a₁ v W) W2) :
  PureRound F l { state:=.ready,pending:=none,fn,tmps,params:=#[p],assign:=ac,body:=bd,defers:=D }:=by
 intro fz m t v W hg ht hdt hl
 have hlt:l < W.heap.size:=(Array.getElem?_eq_some_iff.1 hl).1
 have hb1:Below W.heap.size W (W.alloc (O v)):=(Below.refl _ W).alloc (Nat.le_refl _) _
 have hl1:=(hb1.block l hlt).trans hl
 have hz:W.heap.size < (W.alloc (O v)).heap.size:=by simp
 refine ⟨_,_,_,_,run_yield (P:=Tryz.prog) (args:=#[v]) hl rfl,roundIn_of_wpIn (hF _) ?_⟩
 refine hassign fz m v t W _ hg ht ?_
 refine ⟨_,run_beginRound hl1 rfl,?_⟩
 have hO:((W.alloc (O v)).putObj l (.loop { state:=.busy,pending:=none,fn,tmps,params:=#[p],assign:=ac,body:=bd,defers:=D })).heap[W.heap.size]?=some (O v) :=
  (World.putObj_heap_other (by omega)).trans (World.alloc_heap_new W _)
 refine wpIn_mono (hbody fz m v t W _ hg ht hO) ?_
 rintro e a W3 ⟨rfl,hb3⟩
 have hl2:((W.alloc (O v)).putObj l (.loop { state:=.busy,pending:=none,fn,tmps,params:=#[p],assign:=ac,body:=bd,defers:=D })).heap[l]?=some (.loop { state:=.busy,pending:=none,fn,tmps,params:=#[p],assign:=ac,body:=bd,defers:=D }) :=
  World.putObj_heap_same (by omega)
 have hsz:((W.alloc (O v)).putObj l (.loop { state:=.busy,pending:=none,fn,tmps,params:=#[p],assign:=ac,body:=bd,defers:=D })).heap.size=W.heap.size + 1:=by simp
 have hl3:=(hb3.block l (by rw [hsz]; omega)).trans hl2
 refine ⟨_,_,run_endRound (P:=Tryz.prog) none hl3,rfl,⟨?_,?_,?_,?_,fun k hk=>?_⟩⟩
 ·exact hb3.os
 ·exact hb3.tape
 ·exact hb3.output
 ·have:=hb3.size
  rw [hsz] at this
  simp; omega
 ·by_cases c:k=l
  ·subst c
   rw [World.putObj_heap_same (by have:=hb3.size; rw [hsz] at this; omega),hl]; rfl
  ·rw [World.putObj_heap_other c,hb3.block k (by rw [hsz]; omega),World.putObj_heap_other c,hb1.block k hk]
theorem enters282:∀ (args:Array Value) (w:World),(callFunc 282 args).run Tryz.prog w=.ok (.enter 282 args) w:=enters_of Tryz.func282 (by kernel_rfl) rfl
theorem invoke282 (l B:Nat) {w:World}:(invoke (.fn (.func 282) #[.pointer (some ⟨B,0,none⟩)]) #[.func (.yield l) #[] #[]]).run Tryz.prog w=.ok (.enter 282 #[.func (.yield l) #[] #[],.pointer (some ⟨B,0,none⟩)]) w:=by
 simp only [invoke]
 exact enters282 _ _
theorem resolve282 {a:Act} {g:Operand} {B:Nat} (hgv:a.eval g=.func (.func 282) #[] #[.pointer (some ⟨B,0,none⟩)]) (l:Nat) (w:World) :
  (resolve a.eval (rangeCall g l) 0).run Tryz.prog w=.ok { target:=.fn (.func 282) #[.pointer (some ⟨B,0,none⟩)],args:=#[.func (.yield l) #[] #[]] } w:=by
 simp only [resolve,hgv]
 simp [go_sem]
theorem range_pure {F:Fence} (hd:F.depth=none) (hro:F.round=none) (hF:∀ f,F.fn f) {g:Operand} {p:Tmp} {ac bd:Code} {Q:Exit→Act→World→Prop} {a:Act} {w:World} {m:Nat} (fz:Nat→Option Obj) (t:Trm)
  (hs:sizeT t≤4000) (hg:groundT t=true) (B:Nat) (sv:Value) (hgv:a.eval g=.func (.func 282) #[] #[.pointer (some ⟨B,0,none⟩)]) (hbox:w.heap[B]?=some (.cells #[.int .i64 t.kind,.int .i64 t.n,.string t.s,sv] 25 (0,0)))
  (hsv:CRel fz (.sl (Cd.term:Cd) t.l) sv) (hdt:Dat fz w) (a₁:Value→World→Act) (O:Value→Obj)
  (hassign:∀ (l:Nat) (fz:Nat→Option Obj) (m:Nat) (v:Value) (t:Trm) (W:World) (K:Act→World→Prop),groundT t=true→TrV fz t v→K (a₁ v W) (W.alloc (O v))→ac.wpIn (F.inRound l) m Tryz.prog (Exit.then K (fun _ _ _=>False)) { tmps:=(#[p].zip #[v]).foldl (fun t (p,v)=>t.setIfInBounds p v) a.tmps,defers:=[] } W)
  (hbody:∀ (l:Nat) (fz:Nat→Option Obj) (m:Nat) (v:Value) (t:Trm) (W W2:World),groundT t=true→TrV fz t v→W2.heap[W.heap.size]?=some (O v)→bd.wpIn (F.inRound l) m Tryz.prog (fun e _ W3=>e=.normal∧Below W2.heap.size W2 W3) (a₁ v W) W2)
  (hdone:∀ W2,Below w.heap.size w W2→W2.heap[w.heap.size]?=some (.deferred (some []))→Q .normal { a with defers:={ target:=.collected w.heap.size,args:=#[] } :: a.defers } W2) :
  (Code.rangeFunc g #[p] ac bd).wpIn F m Tryz.prog Q a w:=by
 refine wpIn_rangeFunc ?_
 intro fn hfn
 rw [hro]
 have hdd:∀ k:Nat,(F.depth.isSome=true→1≤k):=fun k h=>by rw [hd] at h; cases h
 let lp:Loop:={ state:=.ready,pending:=none,fn,tmps:=a.tmps,params:=#[p],assign:=ac,body:=bd,defers:=w.heap.size }
 obtain ⟨W1,hW1⟩:∃ W1,(w.alloc (.deferred (some []))).alloc (.loop lp)=W1:=⟨_,rfl⟩
 have hL1:W1.heap[w.heap.size + 1]?=some (.loop lp):=by
  rw [← hW1]
  have:=World.alloc_heap_new (w.alloc (.deferred (some []))) (.loop lp); rwa [World.size_alloc] at this
 have hK1:W1.heap[w.heap.size]?=some (.deferred (some [])):=by
  rw [← hW1]; exact (Below.heap_alloc _ _ _ (by simp)).trans (World.alloc_heap_new w _)
 have hb1:Below w.heap.size w W1:=by rw [← hW1]; exact ((Below.refl _ w).alloc (Nat.le_refl _) _).alloc (by simp) _
 have hsz:W1.heap.size=w.heap.size + 2:=by rw [← hW1]; simp
 have hBl:B < w.heap.size:=(Array.getElem?_eq_some_iff.1 hbox).1
 have hd1:=hdt.grow hb1
 have hcall:=nodes1q_in F hd hro hF (w.heap.size + 1) lp (pure_round hF hd a₁ O (hassign _) (hbody _)) fz t hs hg (m - 1) B sv W1 hsv hd1 hL1 ((hb1.block B hBl).trans hbox)
 have hent:(Instr.enterLoop fn a.tmps #[p] ac bd none).run Tryz.prog w=.ok (w.heap.size + 1,[{ target:=.collected w.heap.size,args:=#[] }]) W1:=by rw [← hW1]; exact run_enterLoop_outer _ _ _ _ _
 refine ⟨w.heap.size + 1,[{ target:=.collected w.heap.size,args:=#[] }],W1,{ target:=.fn (.func 282) #[.pointer (some ⟨B,0,none⟩)],args:=#[.func (.yield (w.heap.size + 1)) #[] #[]] },W1,282,
  #[.func (.yield (w.heap.size + 1)) #[] #[],.pointer (some ⟨B,0,none⟩)],W1,hent,resolve282 hgv _ _,fun f' _=>hF f',invoke282 _ _,hdd m,hcall.mono ?_⟩
 rintro e W2 ⟨⟨v,rfl⟩,hb2⟩
 have hl2:=(hb2.block (w.heap.size + 1) (by rw [hsz]; omega)).trans hL1
 have hk2:=(hb2.block w.heap.size (by rw [hsz]; omega)).trans hK1
 have hb3:Below w.heap.size W2 (W2.putObj (w.heap.size + 1) (.loop { lp with state:=.exhausted })):=⟨rfl,rfl,rfl,by simp,fun k hk=>World.putObj_heap_other (by omega)⟩
 exact ⟨none,_,run_endLoop (P:=Tryz.prog) hl2 (by simp [lp]),hdone _ ((hb1.trans (hb2.mono (by rw [hsz]; omega))).trans hb3) ((World.putObj_heap_other (by omega)).trans hk2)⟩
theorem trv_parts {fz:Nat→Option Obj} {t:Trm} {v:Value} (h:TrV fz t v):∃ A cap,v=.agg #[.int .i64 t.kind,.int .i64 t.n,.string t.s,.slice A t.l.length cap]:=by
 unfold TrV trmV VRel at h
 obtain ⟨vs,rfl,h⟩:=h
 obtain ⟨v0,ws,e0,h0,h⟩:=h.cons_inv
 obtain ⟨v1,ws1,e1,h1,h⟩:=h.cons_inv
 obtain ⟨v2,ws2,e2,h2,h⟩:=h.cons_inv
 obtain ⟨v3,ws3,e3,h3,h⟩:=h.cons_inv
 have:=h.nil_inv
 subst this e3 e2 e1
 unfold VRel at h0 h1 h2 h3
 subst h0 h1 h2
 obtain ⟨A,cap,rfl,_⟩:=slice_parts h3
 refine ⟨A,cap,?_⟩
 rw [← Array.toArray_toList (xs:=vs),e0]
end Go.Proofs.YtghaalknpdlobaaGreatDoor

namespace Go.Proofs.YtghaalknpdlobaaGreatDoor
open Go Go.Ev Go.Proofs Go.RowKit Go.Shelf
set_option maxRecDepth 100000
attribute [local go_sem] Oper.semAt_some
set_option maxHeartbeats 2000000 in
theorem vars_in (F:Fence) (hd:F.depth=none) (hro:F.round=none) (hF:∀ f,F.fn f) (fz:Nat→Option Obj) (t:Trm) (hs:sizeT t≤4000) (hg:groundT t=true)
  (m:Nat) (v:Value) (w:World) (hv:CRel fz (.sl (Cd.term:Cd) [t]) v) (hdt:Dat fz w) :
  CallsIn F m Tryz.prog 166 #[v] w fun e W'=>e=.returned (.slice none 0 0)∧Below w.heap.size w W':=by
 have hdd:∀ k:Nat,(F.depth.isSome=true→1≤k):=fun k h=>by rw [hd] at h; cases h
 obtain ⟨A,cap,rfl,hk⟩:=slice_parts hv
 obtain ⟨b,o,C,e,z,sx,rfl,hb,hC0,hC1,hC2,hC3,hsx⟩:=hk 0 t rfl
 have hsx':=hsx
 obtain ⟨Ax,capx,rfl,_⟩:=slice_parts hsx
 have hbw:=hdt b _ hb
 obtain ⟨W3,hW3⟩:∃ W3,((w.alloc (.cells #[.slice none 0 0] 49)).alloc (.map #[] 0)).alloc (.cells #[.map (some (w.heap.size + 1))] 310)=W3:=⟨_,rfl⟩
 have hb3:Below w.heap.size w W3:=by rw [← hW3]; exact (((Below.refl _ w).alloc (Nat.le_refl _) _).alloc (by simp) _).alloc (by simp; omega) _
 have hsz3:W3.heap.size=w.heap.size + 3:=by rw [← hW3]; simp
 have hout:W3.heap[w.heap.size]?=some (.cells #[.slice none 0 0] 49 (0,0)):=by
  rw [← hW3]
  exact (Below.heap_alloc _ _ _ (by simp; omega)).trans ((Below.heap_alloc _ _ _ (by simp)).trans (World.alloc_heap_new w _))
 have hd3:=hdt.grow hb3
 have hbw:=hd3 b _ hb
 have hx0:W3.cell? ⟨b,o,none⟩=some (.int .i64 t.kind):=by simp [World.cell?,hbw]; simpa using hC0
 have hx1:W3.cell? ⟨b,o + 1,none⟩=some (.int .i64 t.n):=by simp [World.cell?,hbw]; simpa using hC1
 have hx2:W3.cell? ⟨b,o + 2,none⟩=some (.string t.s):=by simp [World.cell?,hbw]; simpa using hC2
 have hx3:W3.cell? ⟨b,o + 3,none⟩=some (.slice Ax t.l.length capx):=by simp [World.cell?,hbw]; simpa using hC3
 obtain ⟨W4,hW4⟩:∃ W4,W3.alloc (.cells #[.int .i64 t.kind,.int .i64 t.n,.string t.s,.slice Ax t.l.length capx] 25)=W4:=⟨_,rfl⟩
 have hb4:Below W3.heap.size W3 W4:=by rw [← hW4]; exact (Below.refl _ W3).alloc (Nat.le_refl _) _
 have hbox4:W4.heap[w.heap.size + 3]?=some (.cells #[.int .i64 t.kind,.int .i64 t.n,.string t.s,.slice Ax t.l.length capx] 25 (0,0)):=by rw [← hW4,← hsz3]; exact World.alloc_heap_new W3 _
 have hy0:W4.cell? ⟨w.heap.size + 3,0,none⟩=some (.int .i64 t.kind):=by simp [World.cell?,hbox4]
 have hy1:W4.cell? ⟨w.heap.size + 3,1,none⟩=some (.int .i64 t.n):=by simp [World.cell?,hbox4]
 have hy2:W4.cell? ⟨w.heap.size + 3,2,none⟩=some (.string t.s):=by simp [World.cell?,hbox4]
 have hy3:W4.cell? ⟨w.heap.size + 3,3,none⟩=some (.slice Ax t.l.length capx):=by simp [World.cell?,hbox4]
 obtain ⟨W5,hW5⟩:∃ W5,W4.alloc (.cells #[.int .i64 t.kind,.int .i64 t.n,.string t.s,.slice Ax t.l.length capx] 25)=W5:=⟨_,rfl⟩
 have hsz4:W4.heap.size=w.heap.size + 4:=by rw [← hW4]; simp [hsz3]
 have hb5:Below W4.heap.size W4 W5:=by rw [← hW5]; exact (Below.refl _ W4).alloc (Nat.le_refl _) _
 have hbox5:W5.heap[w.heap.size + 4]?=some (.cells #[.int .i64 t.kind,.int .i64 t.n,.string t.s,.slice Ax t.l.length capx] 25 (0,0)):=by rw [← hW5,← hsz4]; exact World.alloc_heap_new W4 _
 have hsz5:W5.heap.size=w.heap.size + 5:=by rw [← hW5]; simp [hsz4]
 have hB5:Below W3.heap.size W3 W5:=hb4.trans (hb5.mono hb4.size)
 have hd5:=hd3.grow hB5
 have hmm:=@run_makeMap Tryz.prog
 change CallsIn F m Tryz.prog 166 #[Value.slice (some ⟨b,o,none⟩) 1 cap] w _
 refine callsIn_of_wp_marks Tryz.func166 rfl (hF _) ?_ hro
 simp only [Tryz.ntmps166,List.size_toArray,List.length_cons,List.length_nil,Nat.reduceAdd,Nat.reduceSub,Array.replicate_succ,Array.replicate_zero,List.push_toArray,List.append_toArray,List.nil_append,List.cons_append]
 gi_wp2
 refine wpIn_loop_rounds 2 ?_
 rw [roundsIn_succ]
 gi_wp2_with ((try refine ⟨hdd _,?_⟩); gi_at_call 225; refine (nodes_in F (m - 1) hro hF _ _ _ _ _).mono ?_; rintro e W5 ⟨rfl,rfl⟩)
 refine range_pure hd hro hF fz t hs hg (w.heap.size + 4) _ rfl hbox5 hsx' hd5 (fun v W=>{ tmps:=#[.slice (some ⟨b,o,none⟩) 1 cap,undef,.slice none 0 0,.pointer (some ⟨w.heap.size,0,none⟩),.pointer (some ⟨w.heap.size + 1 + 1,0,none⟩),undef,.pointer (some ⟨w.heap.size + 3,0,none⟩),.pointer (some ⟨W.heap.size,0,none⟩),.map (some (w.heap.size + 1)),
   .slice (some ⟨b,o,none⟩) 1 cap,.int .i64 1,.int .i64 0,.bool true,.pointer (some ⟨b,o,none⟩),.agg #[.int .i64 t.kind,.int .i64 t.n,.string t.s,.slice Ax t.l.length capx],.agg #[.int .i64 t.kind,.int .i64 t.n,.string t.s,.slice Ax t.l.length capx],
   .func (.func 282) #[] #[.pointer (some ⟨w.heap.size + 4,0,none⟩)],v,undef,undef,undef,undef,undef,undef,undef,undef,undef,undef,undef,undef,undef,undef,undef,undef,undef,undef,undef,undef],defers:=[] }) (fun v=>.cells v.cells 25) ?assign ?body ?done
 case assign =>
  intro l fz' m' v t' W K hg' ht' hK
  obtain ⟨A',cap',rfl⟩:=trv_parts ht'
  gi_wp2
  exact hK
 case body =>
  intro l fz' m' v t' W W2 hg' ht' hO
  obtain ⟨A',cap',rfl⟩:=trv_parts ht'
  have hk:¬ t'.kind=1:=by
   intro q
   cases t' with
   | mk k n s l =>
    have q:k=1:=q
    unfold groundT at hg'
    rw [q] at hg'
    simp at hg'
  have hO:W2.heap[W.heap.size]?=some (.cells #[.int .i64 t'.kind,.int .i64 t'.n,.string t'.s,.slice A' t'.l.length cap'] 25 (0,0)):=hO
  have hz0:W2.cell? ⟨W.heap.size,0,none⟩=some (.int .i64 t'.kind):=by simp [World.cell?,hO]
  gi_wp2
  exact Below.refl _ _
 case done =>
  intro W6 hb6 hK
  have hz5:w.heap.size < W3.heap.size:=by omega
  have hout6:W6.cell? ⟨w.heap.size,0,none⟩=some (.slice none 0 0):=by
   have h1:=(hb6.block w.heap.size (by omega)).trans ((hB5.block w.heap.size hz5).trans hout)
   simp [World.cell?,h1]
  gi_wp2
  rw [roundsIn_succ]
  gi_wp2
  refine ⟨by simp,.inl ⟨_,_,rfl,run_takeDeferred hK,?_⟩⟩
  refine ⟨_,results_tmp rfl _ _ _,rfl,?_⟩
  have hB6:Below w.heap.size w W6:=(hb3.trans (hB5.mono (by omega))).trans (hb6.mono (by omega))
  exact hB6.trans ⟨rfl,rfl,rfl,by simp,fun k hk=>World.putObj_heap_other (by omega)⟩
theorem vars_kept:varsC.Kept Tryz.prog 166:=by
 intro (x:List Trm×Unit) (hx:∃ t,x.1=[t]∧sizeT t≤4000∧groundT t=true) r hr
 obtain ⟨l,u⟩:=x
 obtain ⟨t,rfl,hs,hg⟩:∃ t,l=[t]∧sizeT t≤4000∧groundT t=true:=hx
 have hr:some (AVal.nils)=some r:=hr
 cases hr
 refine ⟨rfl,fun Γ w vs hst hno hlo hv=>?_⟩
 have hv:VRels Γ [AVal.dsl (Cd.term:Cd) (show List Trm from [t])] vs.toList:=hv
 obtain ⟨v,ws,e,h1,h2⟩:=hv.cons_inv
 have:=h2.nil_inv
 subst this
 have e:vs=#[v]:=by rw [← Array.toArray_toList (xs:=vs),e]
 subst e
 unfold VRel at h1
 refine ⟨enters_of Tryz.func166 (by kernel_rfl) rfl _ _,fun m=>?_⟩
 refine CallsIn.mono (vars_in (FW none) rfl rfl (fun _=>trivial) Γ.fz t hs hg m v w h1 (fun b o e=>hst b o e)) ?_
 rintro e w' ⟨rfl,hb⟩
 refine ⟨_,Γ,rfl,by unfold VRel; rfl,hno,Ext.refl Γ,fun b o e=>?_,hb⟩
 have h0:=hst b o e
 exact (hb.block b (Array.getElem?_eq_some_iff.1 h0).1).trans h0
end Go.Proofs.YtghaalknpdlobaaGreatDoor

