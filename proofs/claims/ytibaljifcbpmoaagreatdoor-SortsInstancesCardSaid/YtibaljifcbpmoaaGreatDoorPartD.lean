/- A part of the proof of the statement: no conditions. -/
import Derived.Test.YtibaljifcbpmoaaGreatDoorPartC
import Derived.KernelRfl
import Derived.Lib.Bytealg
set_option linter.unusedSectionVars false
set_option linter.unusedVariables false
set_option linter.unusedSimpArgs false
namespace Go.Ev
open Go Go.RowKit
variable[Univ]
section
variable{P:Program}{E:Env}{base:Bs}{w0:World}{Γ:Gam}{w:World}{s:St}
theorem Y0z(hX:C0U P)(hm:P.follows .mixedOrders=true)(n:Nat)(ih:∀k,k<n+1→CodeSound P base w0 (A0v k)):CodeSound P base w0 (A0v (n+1)):=by
 intro E hE det c T s Γ w ro a N m hc R hT hL g hN hF hLH
 have ih0:=ih n (Nat.lt_succ_self n)
 have hcall:=K0a hX ih0 hE (fun E=>D0E n E) det
 have hcallT:=K0a hX ih0 hE (fun E=>D0E n E) true
 have upCall:∀f as,Up (F0b E (A0v n) det f as):=by
  intro f as
  unfold F0b
  cases det with
  |true=>exact F0V upCl (D0E n E true)
  |false=>exact P0K (D0E n E false)
 cases c with
 |skip=>exact wpIn_skip ⟨.normal,T,s,Γ,⟨rfl,rfl⟩,rfl,hT,Got.same hF rfl R⟩
 |exit id=>exact wpIn_exit ⟨.exit id,T,s,Γ,⟨rfl,rfl⟩,rfl,hT,Got.same hF rfl R⟩
 |ret=>exact wpIn_ret ⟨.ret,T,s,Γ,⟨rfl,rfl⟩,rfl,hT,Got.same hF rfl R⟩
 |scope b=>exact g.elim
 |label l=>exact g.elim
 |
  goto l=>
  have e:A0v (n+1) E det (.goto l) T=R0V l E (A0v n) det T:=rfl
  rw[e] at g hN⊢
  unfold R0V at g hN⊢
  cases det with
  |true=>exact g.elim
  |false=>
  rw[A0f] at g hN⊢
  show((match E0N l E.lps with |some p=>Code.loop p.body|none=>Code.goto l):Code).wpIn _ _ _ _ _ _
  cases hp:E0N l E.lps with
  |none=>rw[hp] at g;exact g.elim
  |
   some p=>
   rw[hp] at g hN
   exact hE.lps l p hp E base w0 Γ s w T ro a N m hE.ty0 R hT g hN hF hLH
 |refuse y=>exact g.elim
 |loop b=>exact V0J (n:=n+1) ih hE hc R hT hL g hN hF hLH
 |
  rangeFunc gv ps x y=>
  have hc:(B0q x&&B0q y)=true:=hc
  rw[Bool.and_eq_true] at hc
  exact T0H hX ih0 (fun E=>D0E n E) hE hc.1 hc.2 R hT hL g hN hF hLH m
 |
  seq x y=>
  have hc:(A0M x&&A0M y)=true:=hc
  rw[Bool.and_eq_true] at hc
  show(Code.seq (A0u E.lps x) (A0u E.lps y)).wpIn _ _ _ _ _ _
  have e:A0v (n+1) E det (.seq x y) T=M.bind (A0v n E det x T) (fun r=>match r.1 with
   |.normal=>A0v n E det y r.2
   |z=>M.pure (z,r.2)):=rfl
  rw[e] at g hN⊢
  have upf:∀r:AExit×Tm,Up (match r.1 with
   |.normal=>A0v n E det y r.2
   |z=>M.pure (z,r.2)):=by
   intro r
   split
   ·exact D0E n E det _ _
   ·exact upCl.pure _
  refine wpIn_seq (wpIn_mono (ih0 E hE det x T s Γ w ro a N m hc.1 R hT hL (A0a g) (fun q t hh=>A0V g upf hN hh) hF hLH) ?_)
  rintro ex a1 w1⟨z,T1,s1,Γ1,hh,rfl,hT1,hG1⟩
  have g1:=A0z g hh
  refine C0F (fun hx=>?_) (fun hx=>?_)
  ·subst hx
   refine wpIn_mono (ih0 E hE det y T1 s1 Γ1 w1 ro a1 N m hc.2 hG1.rel hT1 (hL.ext hG1.ext) g1 (fun q t h2=>hN q t (A0K hh h2)) hG1.fresh hLH) ?_
   intro ex2 a2 w2 hp
   exact W0T (T0e hG1 hp) fun q t h2=>A0K hh h2
  ·refine⟨z,T1,s1,Γ1,A0K hh ?_,rfl,hT1,hG1⟩
   cases z with
   |normal=>exact absurd rfl hx
   |exit id=>exact⟨rfl,rfl⟩
   |ret=>exact⟨rfl,rfl⟩
 |
  cond x y z=>
  have hc:(A0M y&&A0M z)=true:=hc
  rw[Bool.and_eq_true] at hc
  change(N0n x y z E (A0v n) det T s).Good at g
  change∀q t,(N0n x y z E (A0v n) det T s).Has q t→t.nx≤N at hN
  show(Code.cond x (A0u E.lps y) (A0u E.lps z)).wpIn (FW ro) m P (E0i E base w0 Γ ro s N (N0n x y z E (A0v n) det T s)) a w
  unfold N0n at g hN⊢
  have hx:=hT.rho x
  cases hv:T.rho x<;>rw[hv] at g hx<;>simp only[hv] at g hN⊢<;>first
   |exact g.elim
   |skip
  case sb b=>
   unfold VRel at hx
   refine wpIn_cond hx ?_
   cases b with
   |true=>exact ih0 E hE det y T s Γ w ro a N m hc.1 R hT hL g hN hF hLH
   |false=>exact ih0 E hE det z T s Γ w ro a N m hc.2 R hT hL g hN hF hLH
  case bool b=>
   unfold VRel at hx
   refine wpIn_cond hx ?_
   cases b with
   |true=>exact ih0 E hE det y T s Γ w ro a N m hc.1 R hT hL g hN hF hLH
   |false=>exact ih0 E hE det z T s Γ w ro a N m hc.2 R hT hL g hN hF hLH
 |
  block id x=>
  have e:A0v (n+1) E det (.block id x) T=M.bind (A0v n E det x T) (fun r=>match r.1 with
   |.exit j=>sel (Nat.beq j id) (M.pure (.normal,r.2)) (M.pure (.exit j,r.2))
   |z=>M.pure (z,r.2)):=rfl
  rw[e] at g hN⊢
  show(Code.block id (A0u E.lps x)).wpIn _ _ _ _ _ _
  have upf:∀r:AExit×Tm,Up (match r.1 with
   |.exit j=>sel (Nat.beq j id) (M.pure (AExit.normal,r.2)) (M.pure (.exit j,r.2))
   |z=>M.pure (z,r.2)):=by
   intro r
   split
   ·exact upCl.sel (upCl.pure _) (upCl.pure _)
   ·exact upCl.pure _
  refine wpIn_block (wpIn_mono (ih0 E hE det x T s Γ w ro a N m hc R hT hL (A0a g) (fun q t hh=>A0V g upf hN hh) hF hLH) ?_)
  rintro ex a1 w1⟨z,T1,s1,Γ1,hh,rfl,hT1,hG1⟩
  cases z with
  |normal=>exact⟨.normal,T1,s1,Γ1,A0K hh ⟨rfl,rfl⟩,rfl,hT1,hG1⟩
  |ret=>exact⟨.ret,T1,s1,Γ1,A0K hh ⟨rfl,rfl⟩,rfl,hT1,hG1⟩
  |
   exit j=>
   show(if j=id then E0i E base w0 Γ ro s N _ .normal a1 w1 else E0i E base w0 Γ ro s N _ (.exit j) a1 w1)
   by_cases hj:j=id
   ·rw[if_pos hj]
    refine⟨.normal,T1,s1,Γ1,A0K hh ?_,rfl,hT1,hG1⟩
    show(sel (Nat.beq j id) (M.pure (AExit.normal,T1)) (M.pure (.exit j,T1)) s1).Has _ _
    rw[show Nat.beq j id=true from beqT hj,A0e];exact⟨rfl,rfl⟩
   ·rw[if_neg hj]
    refine⟨.exit j,T1,s1,Γ1,A0K hh ?_,rfl,hT1,hG1⟩
    show(sel (Nat.beq j id) (M.pure (AExit.normal,T1)) (M.pure (.exit j,T1)) s1).Has _ _
    rw[show Nat.beq j id=false by rw[beqN];simpa using hj,A0f];exact⟨rfl,rfl⟩
 |
  region id ops draw=>
  cases draw with
  |
   false=>
   have e:A0v (n+1) E det (.region id ops false) T=M.bind (N0o E det (F0b E (A0v n) det) ops.toList ops.toList T) (fun T'=>M.pure (AExit.normal,T')):=rfl
   rw[e] at g hN⊢
   refine wpIn_region ?_
   rw[List.range_eq_range']
   have :=Q0K (m:=m) (ro:=ro) (ops:=ops) (Q:=E0i E base w0 Γ ro s N (M.bind (N0o E det (F0b E (A0v n) det) ops.toList ops.toList T) (fun T'=>M.pure (AExit.normal,T')) s)) hE hcall upCall det hLH ops.toList 0 rfl R hT hL (A0a g)
    (fun T' s' hh=>A0V g (fun _=>upCl.pure _) hN hh) hF (fun T' s' Γ' a' w' hh hT' hG=>⟨.normal,T',s',Γ',A0K hh ⟨rfl,rfl⟩,rfl,hT',hG⟩)
   simpa using this
  |
   true=>
   have e:A0v (n+1) E det (.region id ops true) T=M.bind (D0Z E (evFn E (A0v n E true)) ops.toList ops.toList 0 [] T) (fun T'=>M.pure (AExit.normal,T')):=rfl
   rw[e] at g hN⊢
   have hok:F0f ops.toList ops.toList 0 [] []=true:=hc
   refine wpIn_region_any hm ?_
   exact T0J hE hcallT (fun f as=>F0V upCl (D0E n E true)) (fun f as=>F0V frCl (P0c n E)) hok (R.drawn _) hT hL (A0a g)
    (fun T' s' hh=>A0V g (fun _=>upCl.pure _) hN hh) hF hLH (fun T' s' Γ' a' w' hh hT' hG=>⟨.normal,T',s',Γ',A0K hh ⟨rfl,rfl⟩,rfl,hT',hG⟩)
theorem B0Y(hX:C0U P)(hm:P.follows .mixedOrders=true):∀n,CodeSound P base w0 (A0v n):=by
 intro n
 induction n using Nat.strongRecOn with
 |
  _ n ih=>
  cases n with
  |zero=>intro E hE det c T s Γ w ro a N m hc R hT hL g;exact g.elim
  |succ n=>exact Y0z hX hm n ih
end
noncomputable def St.new:St:=⟨Tr.full DH,0,0,[],[]⟩
def Gam.start(W:World):Gam:=⟨fun _=>none,fun b=>W.heap[b]?,W.heap.size⟩
theorem d0s{E:Env}(W:World):Rel E W.heap.size W (Gam.start W) St.new.h W:=
 {deep:=A0Z DH
  below:=Bel.refl _ _
  room:=Nat.le_refl _
  dom:=fun n i h=>by cases h
  obj:=fun n o _ h=>by rw[show St.new.h.get n=none from A0q DH n] at h;cases h
  inj:=fun n m o p i j _ _ h=>by rw[show St.new.h.get n=none from A0q DH n] at h;cases h
  fam:=fun n cs e frz root rel al _ h=>by rw[show St.new.h.get n=none from A0q DH n] at h;cases h
  iter:=fun n m since seen kt es clock i j ents b borns stepped _ _ h=>by rw[show St.new.h.get n=none from A0q DH n] at h;cases h
  own:=fun n i cs e frz rel al _ h=>by rw[show St.new.h.get n=none from A0q DH n] at h;cases h
  stay:=fun b ob h=>h
  lo:=Nat.le_refl _
  sep:=fun n i o _ h=>by rw[show St.new.h.get n=none from A0q DH n] at h;cases h
  solo:=fun _=>⟨fun _ h=>h,by first|exact Nat.le_refl _|(rw[hlo];exact Nat.le_refl _)⟩
  hid:=Hid.none fun k c m q l h=>by rw[show St.new.h.get 0=none from A0q DH 0] at h;cases h}
theorem E0b(P:Program):EnvR (G0x P) P:=
 {ty0:=rfl
  fn:=fun f fn hf h=>by
   unfold G0x at h
   rwa[C0o DY _ f (show f<4096 from hf)] at h
  ctr:=fun f g h=>by cases h
  lps:=fun n p h=>by cases h}
noncomputable def Res.all{α:Type}(p:α→St→Bool):Res α→Bool
 |.ok a s=>p a s
 |.br l r=>l.all p&&r.all p
 |.ite b l r=>sel b (l.all p) (r.all p)
 |.fail _=>false
 |.each _ _ _=>false
theorem H0y{α:Type}{p:α→St→Bool}:∀{r:Res α},r.all p=true→r.Good∧∀a s,r.Has a s→p a s=true
 |.ok a s,h=>⟨trivial,by rintro b t⟨rfl,rfl⟩;exact h⟩
 |
  .br l r,h=>by
  unfold Res.all at h
  rw[Bool.and_eq_true] at h
  obtain⟨h1,h2⟩:=H0y h.1
  obtain⟨h3,h4⟩:=H0y h.2
  exact⟨⟨h1,h3⟩,fun a s k=>k.elim (h2 a s) (h4 a s)⟩
 |.ite true l _,h=>H0y (r:=l) h
 |.ite false _ r,h=>H0y (r:=r) h
 |.fail _,h=>by cases h
noncomputable def isTrue(v:AVal)(s:St):Bool:=match v with
 |.bool b=>sel b (Nat.ble s.nx LH) false
 |_=>false
def C0E:Nat→Code→Code×Option Code
 |
  n+1,.seq a b=>match n with
  |0=>(a,some b)
  |n+1=>(.seq a (C0E (n+1) b).1,(C0E (n+1) b).2)
 |_,c=>(c,none)
def f0d(r:Option Code)(F:Fence)(m:Nat)(P:Program)(Q:Exit→Act→World→Prop)(a:Act)(w:World):Prop:=match r with
 |none=>Q .normal a w
 |some c=>c.wpIn F m P Q a w
section
variable{P:Program}{E:Env}{base:Bs}{w0:World}
theorem T0t(hX:C0U P)(hm:P.follows .mixedOrders=true)(hE:EnvR E P){det:Bool}{ro:Option Nat}{N m:Nat}(hLH:N≤LH){Q:Exit→Act→World→Prop}:
  ∀
   (n fuel:Nat) (c:Code) {T:Tm} {s:St} {Γ:Gam} {w:World} {a:Act},B0q c=true→Rel E base w0 Γ s.h w→TRel Γ ro T a→LoopsOk Γ E.loops→(A0v fuel E det (C0E n c).1 T s).Good→
   (∀q t,(A0v fuel E det (C0E n c).1 T s).Has q t→t.nx≤N)→C0q Γ s.nx N→
   (∀x T' s' Γ' a' w',(A0v fuel E det (C0E n c).1 T s).Has (x,T') s'→TRel Γ' ro T' a'→Got E base w0 Γ s N Γ' s' w'→(x=.normal→f0d (C0E n c).2 (FW ro) m P Q a' w')∧(x≠.normal→Q x.ex a' w'))→
   c.wpIn (FW ro) m P Q a w:=by
 have plain:∀(fuel:Nat)(c:Code){T:Tm}{s:St}{Γ:Gam}{w:World}{a:Act},B0q c=true→Rel E base w0 Γ s.h w→TRel Γ ro T a→LoopsOk Γ E.loops→(A0v fuel E det c T s).Good→
   (∀q t,(A0v fuel E det c T s).Has q t→t.nx≤N)→C0q Γ s.nx N→
   (∀x T' s' Γ' a' w',(A0v fuel E det c T s).Has (x,T') s'→TRel Γ' ro T' a'→Got E base w0 Γ s N Γ' s' w'→(x=.normal→Q .normal a' w')∧(x≠.normal→Q x.ex a' w'))→
   c.wpIn (FW ro) m P Q a w:=by
  intro fuel c T s Γ w a hc R hT hL g hN hF hQ
  refine wpIn_mono ((B0Y (base:=base) (w0:=w0) hX hm fuel).plain hE hc R hT hL g hN hF hLH) ?_
  rintro e a' w'⟨x,T',s',Γ',hh,rfl,hT',hG⟩
  obtain⟨h1,h2⟩:=hQ x T' s' Γ' a' w' hh hT' hG
  cases x with
  |normal=>exact h1 rfl
  |exit id=>exact h2 (by simp)
  |ret=>exact h2 (by simp)
 intro n
 induction n with
 |
  zero=>
  intro fuel c T s Γ w a hc R hT hL g hN hF hQ
  have e:C0E 0 c=(c,none):=by cases c<;>rfl
  rw[e] at g hN hQ
  exact plain fuel c hc R hT hL g hN hF hQ
 |
  succ n ih=>
  intro fuel c T s Γ w a hc R hT hL g hN hF hQ
  by_cases hseq:∃x y,c=.seq x y
  ·obtain⟨x,y,rfl⟩:=hseq
   have hc:(B0q x&&B0q y)=true:=hc
   rw[Bool.and_eq_true] at hc
   cases n with
   |
    zero=>
    refine wpIn_seq (wpIn_mono ((B0Y (base:=base) (w0:=w0) hX hm fuel).plain hE hc.1 R hT hL g hN hF hLH) ?_)
    rintro e a' w'⟨z,T',s',Γ',hh,rfl,hT',hG⟩
    obtain⟨h1,h2⟩:=hQ z T' s' Γ' a' w' hh hT' hG
    exact C0F h1 h2
   |
    succ n=>
    cases fuel with
    |zero=>exact g.elim
    |
     succ fuel=>
     have e:A0v (fuel+1) E det (C0E (n+1+1) (.seq x y)).1 T=M.bind (A0v fuel E det x T) (fun r=>match r.1 with
      |.normal=>A0v fuel E det (C0E (n+1) y).1 r.2
      |z=>M.pure (z,r.2)):=rfl
     rw[e] at g hN hQ
     have upf:∀r:AExit×Tm,Up (match r.1 with
      |.normal=>A0v fuel E det (C0E (n+1) y).1 r.2
      |z=>M.pure (z,r.2)):=by
      intro r
      split
      ·exact D0E fuel E det _ _
      ·exact upCl.pure _
     refine wpIn_seq (wpIn_mono ((B0Y (base:=base) (w0:=w0) hX hm fuel).plain hE hc.1 R hT hL (A0a g) (fun q t hh=>A0V g upf hN hh) hF hLH) ?_)
     rintro ex a1 w1⟨z,T1,s1,Γ1,hh,rfl,hT1,hG1⟩
     have g1:=A0z g hh
     refine C0F (fun hx=>?_) (fun hx=>?_)
     ·subst hx
      exact ih fuel y hc.2 hG1.rel hT1 (hL.ext hG1.ext) g1 (fun q t h2=>hN q t (A0K hh h2)) hG1.fresh
       fun x T' s' Γ' a' w' h2 hT' hG'=>hQ x T' s' Γ' a' w' (A0K hh h2) hT' (hG1.trans hG')
     ·refine(hQ z T1 s1 Γ1 a1 w1 (A0K hh ?_) hT1 hG1).2 hx
      cases z with
      |normal=>exact absurd rfl hx
      |exit id=>exact⟨rfl,rfl⟩
      |ret=>exact⟨rfl,rfl⟩
  ·have e:C0E (n+1) c=(c,none):=by cases c<;>first|rfl|exact absurd ⟨_,_,rfl⟩ hseq
   rw[e] at g hN hQ
   exact plain fuel c hc R hT hL g hN hF hQ
end
noncomputable def D0q(l:List (Nat×AVal)):Tr AVal:=l.foldl (fun t p=>t.set p.1 p.2) (Tr.build DT fun _=>some .any)
noncomputable def D0e(l:List (Nat×AObj)):Tr AObj:=l.foldl (fun t p=>t.set p.1 p.2) (Tr.full DH)
structure Seam where
 slots:List (Nat×AVal)
 heap:List (Nat×AObj)
 nt:Nat
 nx:Nat
noncomputable def Seam.T(S:Seam):Tm:=⟨D0q S.slots,S.nt,[],none⟩
noncomputable def Seam.s(S:Seam):St:=⟨D0e S.heap,S.nx,0,[],[]⟩
noncomputable def Q0a(T:Tm):List (Nat×AVal)→Bool
 |[]=>true
 |p::l=>sel (Nat.blt p.1 LT&&AVal.same (getT T.t p.1) p.2) (Q0a T l) false
noncomputable def V0d(s:St):List (Nat×AObj)→Bool
 |[]=>true
 |p::l=>sel (Nat.blt p.1 LH&&(match s.h.get p.1 with |some o=>AObj.same o p.2|none=>false)) (V0d s l) false
def G0V(l:List Nat):Bool:=match l with
 |[]=>true
 |_=>false
def c0T(r:Option Nat):Bool:=match r with
 |none=>true
 |_=>false
noncomputable def Seam.covers(S:Seam)(q:AExit×Tm)(s:St):Bool:=
 C0z q.1&&Nat.ble s.nx S.nx&&Nat.ble S.nx LH&&Nat.beq q.2.n S.nt&&G0V q.2.mks&&c0T q.2.rnd&&Q0a q.2 S.slots&&V0d s S.heap
section
variable{P:Program}{E:Env}{base:Bs}{w0:World}
def L0r(T:Tm)(s:St)(E:Env)(base:Bs)(w0:World)(a:Act)(w:World):Prop:=∃Γ,Rel E base w0 Γ s.h w∧TRel Γ none T a∧C0q Γ s.nx LH
def Seam.At(S:Seam)(E:Env)(base:Bs)(w0:World)(a:Act)(w:World):Prop:=L0r S.T S.s E base w0 a w
theorem F0O{α:Type}:∀(d:Nat)(f:Nat→Option α),(Tr.build d f).deep d
 |0,f=>by unfold Tr.build;split<;>trivial
 |d+1,f=>⟨F0O d _,F0O d _⟩
theorem M0x{Γ:Gam}{T:Tm}{a:Act}(h:∀i,VRel Γ (getT T.t i) (a.tmps.getD i undef)):∀(l:List (Nat×AVal))(t:Tr AVal),Q0a T l=true→t.deep DT→(∀i,i<LT→∃v,t.get i=some v∧VRel Γ v (a.tmps.getD i undef))→
  (l.foldl (fun t p=>t.set p.1 p.2) t).deep DT∧∀i,i<LT→∃v,(l.foldl (fun t p=>t.set p.1 p.2) t).get i=some v∧VRel Γ v (a.tmps.getD i undef)
 |[],t,_,hd,ht=>⟨hd,ht⟩
 |
  p::l,t,hs,hd,ht=>by
  unfold Q0a at hs
  rw[B0v] at hs
  by_cases c:(Nat.blt p.1 LT&&AVal.same (getT T.t p.1) p.2)=true
  ·rw[if_pos c] at hs
   rw[Bool.and_eq_true,Nat.blt_eq] at c
   have e:=K0r c.2
   refine M0x h l (t.set p.1 p.2) hs (A0j _ DT _ _ hd) fun i hi=>?_
   rw[A0y p.2 DT t p.1 i hd c.1 hi]
   by_cases ci:i=p.1
   ·rw[if_pos ci];exact⟨_,rfl,by rw[←e,ci];exact h p.1⟩
   ·rw[if_neg ci];exact ht i hi
  ·rw[if_neg c] at hs;cases hs
theorem O0s{s:St}:∀(l:List (Nat×AObj))(t:Tr AObj),V0d s l=true→t.deep DH→(∀n,n<LH→t.get n=none∨t.get n=s.h.get n)→
  (l.foldl (fun t p=>t.set p.1 p.2) t).deep DH∧∀n,n<LH→(l.foldl (fun t p=>t.set p.1 p.2) t).get n=none∨(l.foldl (fun t p=>t.set p.1 p.2) t).get n=s.h.get n
 |[],t,_,hd,ht=>⟨hd,ht⟩
 |
  p::l,t,hs,hd,ht=>by
  unfold V0d at hs
  rw[B0v] at hs
  by_cases c:(Nat.blt p.1 LH&&(match s.h.get p.1 with |some o=>AObj.same o p.2|none=>false))=true
  ·rw[if_pos c] at hs
   rw[Bool.and_eq_true,Nat.blt_eq] at c
   refine O0s l (t.set p.1 p.2) hs (A0j _ DH _ _ hd) fun i hi=>?_
   rw[A0y p.2 DH t p.1 i hd c.1 hi]
   by_cases ci:i=p.1
   ·rw[if_pos ci,ci]
    right
    have c2:=c.2
    split at c2
    ·rename_i o ho
     rw[ho,N0I c2]
    ·cases c2
   ·rw[if_neg ci];exact ht i hi
  ·rw[if_neg c] at hs;cases hs
theorem Z0f{S:Seam}{q:AExit×Tm}{s:St}(h:S.covers q s=true){Γ:Gam}{w:World}{a:Act}(R:Rel E base w0 Γ s.h w)(hT:TRel Γ none q.2 a)(hF:C0q Γ s.nx LH):q.1=.normal∧S.At E base w0 a w:=by
 unfold Seam.covers at h
 simp only[Bool.and_eq_true] at h
 obtain⟨⟨⟨⟨⟨⟨⟨h1,h2⟩,h3⟩,h4⟩,h5⟩,h6⟩,h7⟩,h8⟩:=h
 refine⟨?_,Γ,?_,?_,fun n hn1 hn2=>hF n (Nat.le_trans (Nat.le_of_ble_eq_true h2) hn1) hn2⟩
 ·cases hx:q.1<;>rw[hx] at h1<;>first|rfl|cases h1
 ·obtain⟨d1,d2⟩:=O0s S.heap (Tr.full DH) h8 (A0Z DH) (fun n _=>.inl (A0q DH n))
  refine R.fewer d1 fun n hn=>?_
  rcases d2 n hn with q|q
  ·exact .inl (.inl q)
  ·exact .inr q
 ·obtain⟨d1,d2⟩:=M0x hT.get S.slots (Tr.build DT fun _=>some .any) h7 (F0O DT _) (fun i hi=>⟨.any,by rw[C0o DT _ i hi],by unfold VRel;trivial⟩)
  have hn:q.2.n=S.nt:=A0E h4
  refine⟨d1,?_,rfl,by rw[hT.size,hn];rfl,by show S.nt≤LT;rw[←hn];exact hT.le,fun i=>?_⟩
  ·have hm:=hT.marks
   have :q.2.mks=[]:=by
    unfold G0V at h5
    split at h5
    ·assumption
    ·cases h5
   rw[this] at hm
   exact hm
  ·show VRel Γ (getT (D0q S.slots) i) _
   by_cases hi:i<LT
   ·obtain⟨v,e1,e2⟩:=d2 i hi
    rw[Q0c hi]
    rw[show(D0q S.slots).get i=some v from e1];exact e2
   ·rw[K0X hi]
    have :a.tmps.getD i undef=undef:=by
     have hs:=hT.size
     have hl:=hT.le
     rw[Array.getD_eq_getD_getElem?,Array.getElem?_eq_none (by omega)];rfl
    rw[this];exact D0B Γ
theorem D0v(hX:C0U P)(hm:P.follows .mixedOrders=true)(hE:EnvR E P)(hl:E.loops=[]){T:Tm}{s:St}{S':Seam}{n fuel m:Nat}{c d:Code}(hc:B0q c=true)(hh:(C0E n c).2=some d)
  (h:(A0v fuel E false (C0E n c).1 T s).all S'.covers=true) {Q:Exit→Act→World→Prop} {a:Act} {w:World} (hA:L0r T s E base w0 a w)
  (hQ:∀a' w',S'.At E base w0 a' w'→d.wpIn (FW none) m P Q a' w'):c.wpIn (FW none) m P Q a w:=by
 obtain⟨Γ,R,hT,hF⟩:=hA
 obtain⟨g,hlf⟩:=H0y h
 have hb:∀q t,(A0v fuel E false (C0E n c).1 T s).Has q t→t.nx≤LH:=by
  intro q t k
  have :=hlf q t k
  unfold Seam.covers at this
  simp only[Bool.and_eq_true] at this
  exact Nat.le_trans (Nat.le_of_ble_eq_true this.1.1.1.1.1.1.2) (Nat.le_of_ble_eq_true this.1.1.1.1.1.2)
 refine T0t hX hm hE (Nat.le_refl LH) n fuel c hc R hT (by rw[hl];intro d hd;cases hd) g hb hF ?_
 intro x T' s' Γ' a' w' k hT' hG
 obtain⟨e,hS⟩:=Z0f (hlf _ _ k) hG.rel hT' hG.fresh
 have e:x=.normal:=e
 refine⟨fun _=>?_,fun q=>absurd e q⟩
 rw[hh]
 exact hQ a' w' hS
noncomputable def L0n(t:Nat)(q:AExit×Tm)(s:St):Bool:=
 (match q.1 with |.exit _=>false|_=>true)&&Nat.ble s.nx LH&&G0V q.2.mks&&(match getT q.2.t t with |.bool b=>b|_=>false)
theorem X0p(hX:C0U P)(hm:P.follows .mixedOrders=true)(hE:EnvR E P)(hl:E.loops=[]){T:Tm}{s:St}{fuel m t:Nat}{c:Code}{fn:Func}(hc:B0q c=true)(hr:fn.results=#[.tmp t])
  (h:(A0v fuel E false c T s).all (L0n t)=true) {a:Act} {w:World} (hA:L0r T s E base w0 a w):
  c.wpIn (FW none) m P (bodyPostM (FW none) m P fn (fun e w'=>e=.returned (.bool true)∧Bel base w0 w')) a w:=by
 obtain⟨Γ,R,hT,hF⟩:=hA
 obtain⟨g,hlf⟩:=H0y h
 have hb:∀q t',(A0v fuel E false c T s).Has q t'→t'.nx≤LH:=by
  intro q t' k
  have :=hlf q t' k
  unfold L0n at this
  simp only[Bool.and_eq_true] at this
  exact Nat.le_of_ble_eq_true this.1.1.2
 refine wpIn_mono ((B0Y (base:=base) (w0:=w0) hX hm fuel).plain hE hc R hT (by rw[hl];intro d hd;cases hd) g hb hF (Nat.le_refl _)) ?_
 rintro e a' w'⟨x,T',s',Γ',hh,rfl,hT',hG⟩
 have k:=hlf _ _ hh
 unfold L0n at k
 simp only[Bool.and_eq_true] at k
 obtain⟨⟨⟨k1,k2⟩,k3⟩,k4⟩:=k
 have hd:a'.defers=[]:=by
  have hm:=hT'.marks
  have :T'.mks=[]:=by
   unfold G0V at k3
   split at k3
   ·assumption
   ·cases k3
  rw[this] at hm
  exact hm
 have hv:a'.tmps.getD t undef=.bool true:=by
  have :=hT'.get t
  split at k4
  ·rename_i b hb
   rw[hb] at this
   unfold VRel at this
   rw[this,k4]
  ·cases k4
 have fin:LeavesInM (FW none) m P fn a'.tmps (fun e w'=>e=.returned (.bool true)∧Bel base w0 w') a'.defers .returning w':=by
  rw[hd]
  refine⟨.bool true,?_,rfl,hG.rel.below⟩
  rw[results_tmp hr,hv]
 cases x with
 |normal=>exact fin
 |ret=>exact fin
 |exit id=>cases k1
theorem f0m(W:World)(nt:Nat)(h:nt≤LT):L0r ⟨Tr.full DT,nt,[],none⟩ St.new E W.heap.size W {tmps:=#[]++Array.replicate (nt-(#[]:Array Value).size) undef,defers:=[]} W:=
 ⟨Gam.start W,d0s W,Q0O (as:=[]) (vs:=#[]) .nil h (Nat.zero_le _),fun _ _ _=>rfl⟩
end
theorem Y0O:∀a b:List UInt8,cmpS a b=Lib.compareBytes a b
 |[],[]=>rfl
 |[],_::_=>rfl
 |_::_,[]=>rfl
 |
  x::a,y::b=>by
  have ih:=Y0O a b
  unfold cmpS at ih⊢
  unfold Lib.compareBytes
  have lt1:(x<y)↔x.toNat<y.toNat:=UInt8.lt_iff_toNat_lt
  have lt2:(y<x)↔y.toNat<x.toNat:=UInt8.lt_iff_toNat_lt
  simp only[ltS,B0v,beqN,bltN,decide_eq_true_eq] at ih⊢
  by_cases e:x.toNat=y.toNat
  ·have n1:¬x<y:=by rw[lt1];omega
   have n2:¬y<x:=by rw[lt2];omega
   simp only[if_pos e,if_pos e.symm,if_neg n1,if_neg n2]
   exact ih
  ·have e':¬y.toNat=x.toNat:=fun q=>e q.symm
   simp only[if_neg e,if_neg e',decide_eq_true_eq]
   by_cases h:x.toNat<y.toNat
   ·rw[if_pos h,if_pos (lt1.2 h)]
   ·rw[if_neg h,if_neg (fun q=>h (lt1.1 q)),if_pos (by omega),if_pos (lt2.2 (by omega))]
def c0O(o:Option AFn):Bool:=match o with
 |some .cmpstr=>true
 |_=>false
def b0x(o:Option AFn):Bool:=match o with
 |some .same=>true
 |_=>false
noncomputable def S0o(p:Option AFn→Bool)(P:Program)(k:Nat):Nat→Bool
 |0=>true
 |n+1=>sel (p (mkFn P n)) (Nat.beq n k) true&&S0o p P k n
theorem H0V{p:Option AFn→Bool}{P:Program}{k:Nat}:∀{n:Nat},S0o p P k n=true→∀f,f<n→p (mkFn P f)=true→f=k
 |0,_,f,hf,_=>by omega
 |
  n+1,h,f,hf,hp=>by
  unfold S0o at h
  rw[Bool.and_eq_true] at h
  rcases Nat.lt_or_ge f n with q|q
  ·exact H0V h.2 f q hp
  ·have :f=n:=by omega
   subst this
   have h1:=h.1
   rw[hp,A0e] at h1
   exact A0E h1
theorem X0H{P:Program}{f:FuncId}{x:AFn}(h:mkFn P f=some x):f<P.funcs.size:=by
 unfold mkFn at h
 cases hf:P.funcs[f]? with
 |none=>rw[hf] at h;cases h
 |some fn=>exact(Array.getElem?_eq_some_iff.1 hf).1
theorem b0M{P:Program}{n kc ks:Nat}(hn:P.funcs.size=n)(h1:S0o c0O P kc n=true)(h2:S0o b0x P ks n=true)
  {fc fs:Func} (c1:P.funcs[kc]?=some fc) (c2:(fc.name== "runtime.NumGoroutine")=false) (c3:fc.body.isNone=true) (c4:Extern.findNext fc=none) (c5:Extern.find fc=some Extern.BytealgCompare.compare)
  (s1:P.funcs[ks]?=some fs) (s2:(fs.name== "runtime.NumGoroutine")=false) (s3:fs.body.isNone=true) (s4:Extern.findNext fs=none) (s5:Extern.find fs=some Extern.AbiNoEscape.same):C0U P where
 cmp f hf a b w:=by
  have e:=H0V h1 f (by rw[←hn];exact X0H hf) (by rw[hf];rfl)
  subst e
  rw[run_callFunc_extern c1 c2 c3 c4 c5,Lib.run_compareString]
  simp only[Result.andThen]
  rw[Y0O]
 same f hf v w:=by
  have e:=H0V h2 f (by rw[←hn];exact X0H hf) (by rw[hf];rfl)
  subst e
  rw[run_callFunc_extern s1 s2 s3 s4 s5]
  rfl
mutual
def AVal.low(nx:Nat):AVal→Bool
 |.ptr n _=>Nat.blt n nx
 |.slice n _ _ _ _=>Nat.blt n nx
 |.map n=>Nat.blt n nx
 |.fn _ l m=>AVal.lows nx l&&AVal.lows nx m
 |.iface _ v=>AVal.low nx v
 |.agg l=>AVal.lows nx l
 |.tup l=>AVal.lows nx l
 |.yld n=>Nat.blt n nx
 |.asl _ n _ _=>Nat.blt n nx
 |.aptr _ n _ _=>Nat.blt n nx
 |_=>true
def AVal.lows(nx:Nat):List AVal→Bool
 |[]=>true
 |a::l=>AVal.low nx a&&AVal.lows nx l
end
def AObj.low(nx:Nat)(o:AObj):Bool:=match o with
 |.cells cs _ _ _ root _ _=>AVal.lows nx cs&&Nat.blt root nx
 |.map _ es _=>es.all fun e=>AVal.low nx e.1&&AVal.low nx e.2
 |.siter _ _ _=>true
 |.arr _ _=>true
 |.rcd _=>true
 |.dat _=>true
 |.mps _ _ _ _ _=>true
 |_=>false
structure C0w(nx:Nat)(Γ Γ':Gam):Prop where
 nm:∀n i,n<nx→Γ n=some i→Γ' n=some i
 fz:∀b o,Γ.fz b=some o→Γ'.fz b=some o
mutual
theorem VRel.agree{Γ Γ':Gam}{nx:Nat}(h:C0w nx Γ Γ'):∀{a:AVal}{v:Value},AVal.low nx a=true→VRel Γ a v→VRel Γ' a v
 |.bool _,_,_,k=>k
 |.int _ _,_,_,k=>k
 |.str _,_,_,k=>k
 |.ptr n _,_,l,k=>by unfold AVal.low at l;unfold VRel at k⊢;obtain⟨i,e,k⟩:=k;exact⟨i,h.nm _ _ (by simpa [Nat.blt_eq] using l) e,k⟩
 |.nilp,_,_,k=>k
 |.slice n _ _ _ _,_,l,k=>by unfold AVal.low at l;unfold VRel at k⊢;obtain⟨i,e,k⟩:=k;exact⟨i,h.nm _ _ (by simpa [Nat.blt_eq] using l) e,k⟩
 |.nils,_,_,k=>k
 |.map n,_,l,k=>by unfold AVal.low at l;unfold VRel at k⊢;obtain⟨i,e,k⟩:=k;exact⟨i,h.nm _ _ (by simpa [Nat.blt_eq] using l) e,k⟩
 |.nilm,_,_,k=>k
 |
  .fn _ _ _,_,l,k=>by
  unfold AVal.low at l;rw[Bool.and_eq_true] at l
  unfold VRel at k⊢;obtain⟨vs,ws,e,k1,k2⟩:=k;exact⟨vs,ws,e,VRels.agree h l.1 k1,VRels.agree h l.2 k2⟩
 |.nilf,_,_,k=>k
 |.iface _ _,_,l,k=>by unfold AVal.low at l;unfold VRel at k⊢;obtain⟨u,e,k⟩:=k;exact⟨u,e,VRel.agree h l k⟩
 |.nili,_,_,k=>k
 |.agg _,_,l,k=>by unfold AVal.low at l;unfold VRel at k⊢;obtain⟨vs,e,k⟩:=k;exact⟨vs,e,VRels.agree h l k⟩
 |.tup _,_,l,k=>by unfold AVal.low at l;unfold VRel at k⊢;obtain⟨vs,e,k⟩:=k;exact⟨vs,e,VRels.agree h l k⟩
 |.raw _,_,_,k=>k
 |.any,_,_,_=>by unfold VRel;trivial
 |.yld n,_,l,k=>by unfold AVal.low at l;unfold VRel at k⊢;obtain⟨i,e,k⟩:=k;exact⟨i,h.nm _ _ (by simpa [Nat.blt_eq] using l) e,k⟩
 |.sb _,_,_,k=>k
 |.si _ _,_,_,k=>k
 |.ss _,_,_,k=>k
 |.dsl _ _,_,_,k=>by unfold VRel at k⊢;exact k.mono h.fz
 |.dptr _ _ _ _,_,_,k=>by unfold VRel at k⊢;obtain⟨h1,b,z,cap,h2,h3⟩:=k;exact⟨h1,b,z,cap,h2.mono h.fz,h3⟩
 |.asl _ n _ _,_,l,k=>by unfold AVal.low at l;unfold VRel at k⊢;obtain⟨i,e,k⟩:=k;exact⟨i,h.nm _ _ (by simpa [Nat.blt_eq] using l) e,k⟩
 |.aptr _ n _ _,_,l,k=>by unfold AVal.low at l;unfold VRel at k⊢;obtain⟨i,e,k⟩:=k;exact⟨i,h.nm _ _ (by simpa [Nat.blt_eq] using l) e,k⟩
 |.dmp _ _ _ _,_,_,k=>by unfold VRel at k⊢;obtain⟨b,es,c,h1,h2,h3⟩:=k;exact⟨b,es,c,h1,h.fz _ _ h2,h3.mono h.fz⟩
theorem VRels.agree{Γ Γ':Gam}{nx:Nat}(h:C0w nx Γ Γ'):∀{l:List AVal}{vs:List Value},AVal.lows nx l=true→VRels Γ l vs→VRels Γ' l vs
 |[],_,_,k=>k
 |
  _::_,_,l,k=>by
  unfold AVal.lows at l;rw[Bool.and_eq_true] at l
  unfold VRels at k⊢;obtain⟨v,ws,e,k1,k2⟩:=k;exact⟨v,ws,e,VRel.agree h l.1 k1,VRels.agree h l.2 k2⟩
end
theorem V0m{nx:Nat}:∀{l:List AVal},AVal.lows nx l=true→∀a∈l,AVal.low nx a=true
 |[],_,a,h=>by cases h
 |
  b::l,hl,a,h=>by
  unfold AVal.lows at hl;rw[Bool.and_eq_true] at hl
  rcases List.mem_cons.1 h with q|q
  ·rw[q];exact hl.1
  ·exact V0m hl.2 a q
mutual
def AVal.sym:AVal→AVal
 |.bool b=>.sb b
 |.int k n=>.si k n
 |.str s=>.ss ⟨s.toArray⟩
 |.fn f l m=>.fn f (AVal.syms l) (AVal.syms m)
 |.agg l=>.agg (AVal.syms l)
 |.tup l=>.tup (AVal.syms l)
 |v=>v
def AVal.syms:List AVal→List AVal
 |[]=>[]
 |a::l=>a.sym::AVal.syms l
end
mutual
theorem VRel.sym{Γ:Gam}:∀{a:AVal}{v:Value},VRel Γ a v→VRel Γ a.sym v
 |.bool _,_,k=>by unfold VRel at k;unfold AVal.sym VRel;exact k
 |.int _ _,_,k=>by unfold VRel at k;unfold AVal.sym VRel;exact k
 |.str _,_,k=>by unfold VRel at k;unfold AVal.sym VRel;exact k
 |.ptr _ _,_,k=>k
 |.nilp,_,k=>k
 |.slice _ _ _ _ _,_,k=>k
 |.nils,_,k=>k
 |.map _,_,k=>k
 |.nilm,_,k=>k
 |
  .fn _ _ _,_,k=>by
  unfold VRel at k;unfold AVal.sym VRel
  obtain⟨vs,ws,e,k1,k2⟩:=k;exact⟨vs,ws,e,VRels.sym k1,VRels.sym k2⟩
 |.nilf,_,k=>k
 |.iface _ _,_,k=>k
 |.nili,_,k=>k
 |.agg _,_,k=>by unfold VRel at k;unfold AVal.sym VRel;obtain⟨vs,e,k⟩:=k;exact⟨vs,e,VRels.sym k⟩
 |.tup _,_,k=>by unfold VRel at k;unfold AVal.sym VRel;obtain⟨vs,e,k⟩:=k;exact⟨vs,e,VRels.sym k⟩
 |.raw _,_,k=>k
 |.any,_,_=>by unfold AVal.sym VRel;trivial
 |.yld _,_,k=>k
 |.sb _,_,k=>k
 |.si _ _,_,k=>k
 |.ss _,_,k=>k
 |.dsl _ _,_,k=>k
 |.dptr _ _ _ _,_,k=>k
 |.asl _ _ _ _,_,k=>k
 |.aptr _ _ _ _,_,k=>k
 |.dmp _ _ _ _,_,k=>k
theorem VRels.sym{Γ:Gam}:∀{l:List AVal}{vs:List Value},VRels Γ l vs→VRels Γ (AVal.syms l) vs
 |[],_,k=>k
 |
  _::_,_,k=>by
  unfold VRels at k;unfold AVal.syms VRels
  obtain⟨v,ws,e,k1,k2⟩:=k;exact⟨v,ws,e,VRel.sym k1,VRels.sym k2⟩
end
theorem L0o:∀l:List AVal,AVal.syms l=l.map AVal.sym
 |[]=>by unfold AVal.syms;rfl
 |a::l=>by unfold AVal.syms;rw[L0o l];rfl
mutual
theorem S0D(nx:Nat):∀a:AVal,AVal.low nx a.sym=AVal.low nx a
 |.fn _ l m=>by unfold AVal.sym AVal.low;rw[I0G nx l,I0G nx m]
 |.agg l=>by unfold AVal.sym AVal.low;exact I0G nx l
 |.tup l=>by unfold AVal.sym AVal.low;exact I0G nx l
 |.bool _=>by unfold AVal.sym AVal.low;rfl
 |.int _ _=>by unfold AVal.sym AVal.low;rfl
 |.str _=>by unfold AVal.sym AVal.low;rfl
 |.ptr _ _=>rfl
 |.nilp=>rfl
 |.slice _ _ _ _ _=>rfl
 |.nils=>rfl
 |.map _=>rfl
 |.nilm=>rfl
 |.nilf=>rfl
 |.iface _ _=>rfl
 |.nili=>rfl
 |.raw _=>rfl
 |.any=>rfl
 |.yld _=>rfl
 |.sb _=>rfl
 |.si _ _=>rfl
 |.ss _=>rfl
 |.dsl _ _=>rfl
 |.dptr _ _ _ _=>rfl
 |.asl _ _ _ _=>rfl
 |.aptr _ _ _ _=>rfl
 |.dmp _ _ _ _=>rfl
theorem I0G(nx:Nat):∀l:List AVal,AVal.lows nx (AVal.syms l)=AVal.lows nx l
 |[]=>rfl
 |a::l=>by unfold AVal.syms AVal.lows;rw[S0D nx a,I0G nx l]
end
def AObj.sym(o:AObj):AObj:=match o with
 |.cells cs e frz dead root rel al=>.cells (AVal.syms cs) e frz dead root rel al
 |o=>o
section
variable{P:Program}{E:Env}{base:Bs}{w0:World}{Γ Γ2:Gam}{w:World}{s:St}
theorem Rel.kept{h h2:Tr AObj}(R:Rel E base w0 Γ h w){nx:Nat}(hd:h2.deep DH)(hk:∀n o2,n<LH→h2.get n=some o2→n<nx∧∃o,h.get n=some o∧o2=o.sym∧o.low nx=true)(ha:C0w nx Γ Γ2)
  (hsub:∀n i,Γ2 n=some i→Γ n=some i) (hfz:Γ2.fz=Γ.fz) (hlo:Γ2.lo=Γ.lo):Rel E base w0 Γ2 h2 w:=by
 have liv:∀o:AObj,o.sym.live→o.live:=fun o h=>by cases o<;>exact h
 have cell:∀n cs2 e frz d root rel al,n<LH→h2.get n=some (.cells cs2 e frz d root rel al)→∃cs,h.get n=some (.cells cs e frz d root rel al)∧cs2=AVal.syms cs∧cs.length=cs2.length:=by
  intro n cs2 e frz d root rel al hn h1
  obtain⟨_,o,ho,e1,_⟩:=hk n _ hn h1
  cases o<;>simp only[AObj.sym,AObj.cells.injEq,reduceCtorEq] at e1
  obtain⟨rfl,rfl,rfl,rfl,rfl,rfl,rfl⟩:=e1
  exact⟨_,ho,rfl,by rw[L0o,List.length_map]⟩
 constructor
 ·exact hd
 ·exact R.below
 ·exact R.room
 ·exact fun n i e=>R.dom n i (hsub n i e)
 ·intro n o2 hn ho2
  obtain⟨hnx,o,ho,rfl,hl⟩:=hk n o2 hn ho2
  have hO:=R.obj n o hn ho
  cases o with
  |
   cells cs e frz dead root rel al=>
   unfold AObj.low at hl
   simp only[Bool.and_eq_true,Nat.blt_eq] at hl
   obtain⟨i,h1,h2,⟨⟨r,h3⟩,h3'⟩,C,fz,h4,h5,h6,h7,h8⟩:=hO
   refine⟨i,ha.nm _ _ hnx h1,by rw[L0o,List.length_map];exact h2,⟨⟨r,ha.nm _ _ hl.2 h3⟩,h3'⟩,C,fz,h4,h5,h6,fun hd k a hka=>?_,h8⟩
   rw[L0o,List.getElem?_map] at hka
   cases hc:cs[k]? with
   |none=>rw[hc] at hka;cases hka
   |
    some a0=>
    rw[hc] at hka
    cases hka
    obtain⟨v,e1,e2⟩:=h7 hd k a0 hc
    exact⟨v,e1,(e2.agree ha (V0m hl.1 a0 (List.mem_of_getElem? hc))).sym⟩
  |
   map kt es c=>
   unfold AObj.low at hl
   rw[List.all_eq_true] at hl
   obtain⟨i,h1,ents,h2,h3⟩:=hO
   obtain⟨l,p,z1,z2⟩:=h3.zip
   refine⟨i,ha.nm _ _ hnx h1,ents,h2,⟨⟨l,p,z1,fun k e x a b=>?_⟩,h3.keys,h3.fits,h3.borns,h3.old⟩⟩
   obtain⟨q1,q2⟩:=z2 k e x a b
   have :=hl e (p.mem_iff.1 (List.mem_of_getElem? a))
   rw[Bool.and_eq_true] at this
   exact⟨q1.agree ha this.1,q2.agree ha this.2⟩
  |miter m since seen=>cases hl
  |siter l p=>obtain⟨i,h1,h2⟩:=hO;exact⟨i,ha.nm _ _ hnx h1,h2⟩
  |arr c l=>obtain⟨i,h1,h2,C,e,fz,h3,h6,h4,h5⟩:=hO;exact⟨i,ha.nm _ _ hnx h1,h2,C,e,fz,h3,h6,h4.mono ha.fz,h5⟩
  |rcd k=>obtain⟨i,h1,ob,h2,h3⟩:=hO;exact⟨i,ha.nm _ _ hnx h1,ob,h2,h3⟩
  |dat d=>obtain⟨i,h1,hl0,ob,h2,h3⟩:=hO;exact⟨i,ha.nm _ _ hnx h1,by rw[hlo];exact hl0,ob,h2,h3.mono ha.fz⟩
  |done=>trivial
  |mps k c m q l=>obtain⟨h0,i,h1,ents,clock,h2⟩:=hO;exact⟨h0,i,ha.nm _ _ hnx h1,ents,clock,h2⟩
 ·intro n m o2 p2 i j hn hm h1 h2 l1 l2 ne e1 e2 eb
  obtain⟨_,o,ho,rfl,_⟩:=hk n o2 hn h1
  obtain⟨_,p,hp,rfl,_⟩:=hk m p2 hm h2
  have :=R.inj n m o p i j hn hm ho hp (liv o l1) (liv p l2) ne (hsub _ _ e1) (hsub _ _ e2) eb
  cases o<;>cases p<;>exact this
 ·intro n cs e frz root rel al hn h1 cs' e' frz' d' root' rel' al' h2'
  obtain⟨cs0,h0,_,hl0⟩:=cell n _ _ _ _ _ _ _ hn h1
  obtain⟨_,_,_,⟨⟨r,hr⟩,_⟩,_⟩:=R.obj n _ hn h0
  obtain⟨cs1,h1',_,_⟩:=cell root _ _ _ _ _ _ _ (R.dom root r hr).1 h2'
  have :=R.fam n _ _ _ _ _ _ hn h0 _ _ _ _ _ _ _ h1'
  rwa[hl0] at this
 ·intro n m since seen kt es clock i j ents b borns stepped hn hm h1
  obtain⟨_,o,ho,e1,hl⟩:=hk n _ hn h1
  cases o<;>simp only[AObj.sym,reduceCtorEq] at e1
  cases hl
 ·intro n i cs e frz rel al hn h1 e1
  obtain⟨cs0,h0,_,_⟩:=cell n _ _ _ _ _ _ _ hn h1
  exact R.own n i _ _ _ _ _ hn h0 (hsub _ _ e1)
 ·rw[hfz];exact R.stay
 ·intro n i o2 hn ho2 hl e
  obtain⟨_,o,ho,rfl,_⟩:=hk n o2 hn ho2
  rw[hfz];exact R.sep n i o hn ho (liv o hl) (hsub _ _ e)
 ·rw[hlo];exact R.lo
 ·first|exact R.solo|(rw[hx.lo];exact R.solo)|(rw[hlo];exact R.solo)
 ·refine R.hid.keep ⟨fun k c m q l e=>?_,fun m o2 j h1 h2 h3 h4=>?_,fun b C e z hb hB=>⟨rfl,by rw[hfz];exact hB.1⟩,fun b o e=>by rw[hfz];exact e⟩
  ·obtain⟨_,o,ho,e1,_⟩:=hk 0 _ (by decide) e
   cases o<;>simp only[AObj.sym,AObj.mps.injEq,reduceCtorEq] at e1
   obtain⟨rfl,rfl,e3,rfl,e5⟩:=e1
   cases e3;cases e5
   exact⟨ho,fun i hi=>⟨hsub _ _ hi,rfl⟩⟩
  ·obtain⟨_,o,ho,rfl,_⟩:=hk m o2 h1 h2
   exact .inr ⟨m,o,j,h1,ho,liv o h3,hsub _ _ h4,rfl⟩
end
def d0a(h:Tr AObj)(nx:Nat)(l:List (Nat×AObj)):Prop:=∀p∈l,p.1<nx∧p.1<LH∧∃o,h.get p.1=some o∧p.2=o.sym∧o.low nx=true
theorem J0J:∀(l:List (Nat×AObj))(t:Tr AObj),t.deep DH→(∀p∈l,p.1<LH)→
  (l.foldl (fun t p=>t.set p.1 p.2) t).deep DH∧∀n,n<LH→(l.foldl (fun t p=>t.set p.1 p.2) t).get n=t.get n∨∃p∈l,p.1=n∧(l.foldl (fun t p=>t.set p.1 p.2) t).get n=some p.2
 |[],t,hd,_=>⟨hd,fun _ _=>.inl rfl⟩
 |
  p::l,t,hd,hl=>by
  have hp:p.1<LH:=hl p (by simp)
  obtain⟨h1,h2⟩:=J0J l (t.set p.1 p.2) (A0j _ DH _ _ hd) (fun q hq=>hl q (by simp[hq]))
  refine⟨h1,fun n hn=>?_⟩
  rcases h2 n hn with q|⟨q,hq,e1,e2⟩
  ·have :((t.set p.1 p.2).get n)=if n=p.1 then some p.2 else t.get n:=A0y p.2 DH t p.1 n hd hp hn
   by_cases c:n=p.1
   ·rw[if_pos c] at this
    exact .inr ⟨p,by simp,c.symm,q.trans this⟩
   ·rw[if_neg c] at this
    exact .inl (q.trans this)
  ·exact .inr ⟨q,by simp[hq],e1,e2⟩
theorem T0Q{h:Tr AObj}{nx:Nat}{l:List (Nat×AObj)}(hk:d0a h nx l):(D0e l).deep DH∧∀n o,n<LH→(D0e l).get n=some o→n<nx∧∃p,h.get n=some p∧o=p.sym∧p.low nx=true:=by
 obtain⟨h1,h2⟩:=J0J l (Tr.full DH) (A0Z DH) (fun p hp=>(hk p hp).2.1)
 refine⟨h1,fun n o hn ho=>?_⟩
 rcases h2 n hn with q|⟨p,hp,e1,e2⟩
 ·have :(D0e l).get n=none:=q.trans (A0q DH n)
  rw[this] at ho;cases ho
 ·have :(D0e l).get n=some p.2:=e2
  rw[this] at ho;cases ho
  obtain⟨a,_,b⟩:=hk p hp
  subst e1
  exact⟨a,b⟩
theorem I0c{Γ:Gam}{a:Act}:∀(l:List (Nat×AVal))(t:Tr AVal),t.deep DT→(∀i,i<LT→∃v,t.get i=some v∧VRel Γ v (a.tmps.getD i undef))→(∀p∈l,p.1<LT∧VRel Γ p.2 (a.tmps.getD p.1 undef))→
  (l.foldl (fun t p=>t.set p.1 p.2) t).deep DT∧∀i,i<LT→∃v,(l.foldl (fun t p=>t.set p.1 p.2) t).get i=some v∧VRel Γ v (a.tmps.getD i undef)
 |[],t,hd,ht,_=>⟨hd,ht⟩
 |
  p::l,t,hd,ht,hl=>by
  obtain⟨hp,hv⟩:=hl p (by simp)
  refine I0c l (t.set p.1 p.2) (A0j _ DT _ _ hd) (fun i hi=>?_) (fun q hq=>hl q (by simp[hq]))
  rw[A0y p.2 DT t p.1 i hd hp hi]
  by_cases c:i=p.1
  ·rw[if_pos c];exact⟨_,rfl,by rw[c];exact hv⟩
  ·rw[if_neg c];exact ht i hi
def e0E(T:Tm)(nx:Nat)(l:List (Nat×AVal)):Prop:=∀p∈l,p.1<LT∧p.2=(getT T.t p.1).sym∧AVal.low nx p.2=true
theorem G0S{Γ Γ2:Gam}{ro:Option Nat}{T:Tm}{a:Act}(h:TRel Γ ro T a)(hm:T.mks=[])(hr:T.rnd=none){nx:Nat}(ha:C0w nx Γ Γ2){l:List (Nat×AVal)}(hk:e0E T nx l):
  TRel Γ2 ro ⟨D0q l,T.n,[],none⟩ a:=by
 obtain⟨h1,h2⟩:=I0c (Γ:=Γ2) (a:=a) l (Tr.build DT fun _=>some .any) (F0O DT _) (fun i hi=>⟨.any,by rw[C0o DT _ i hi],by unfold VRel;trivial⟩)
  (fun p hp=>⟨(hk p hp).1,by
   obtain⟨_,e,q⟩:=hk p hp
   have :=(h.get p.1).sym
   rw[←e] at this
   exact this.agree ha q⟩)
 refine⟨h1,?_,?_,h.size,h.le,fun i=>?_⟩
 ·have :=h.marks
  rw[hm] at this
  exact this
 ·have :=h.rnd
  rw[hr] at this
  exact this
 ·show VRel Γ2 (getT (D0q l) i) _
  by_cases hi:i<LT
  ·obtain⟨v,e1,e2⟩:=h2 i hi
   rw[Q0c hi,show(D0q l).get i=some v from e1];exact e2
  ·rw[K0X hi]
   have :a.tmps.getD i undef=undef:=by
    have hs:=h.size
    have hl:=h.le
    rw[Array.getD_eq_getD_getElem?,Array.getElem?_eq_none (by omega)];rfl
   rw[this];exact D0B Γ2
section
variable{P:Program}{E:Env}{base:Bs}{w0:World}{Γ Γ':Gam}{w:World}{s t:St}
def Gam.back(Γ Γ':Gam):Gam:=⟨Γ.nm,Γ'.fz,Γ'.lo⟩
theorem Got.agrees{N:Nat}(G:Got E base w0 Γ s N Γ' t w):C0w s.nx Γ' (Γ.back Γ'):=
 ⟨fun n i hn e=>by rw[G.off n (.inl hn)] at e;exact e,fun _ _ e=>e⟩
theorem Got.trim{N:Nat}(G:Got E base w0 Γ s N Γ' t w){l:List (Nat×AObj)}(hk:d0a t.h s.nx l){t2:St}(h2:t2.h=D0e l)(hnx:s.nx≤t2.nx)(hF:C0q Γ s.nx N):
  Got E base w0 Γ s N (Γ.back Γ') t2 w:=by
 obtain⟨hd,hg⟩:=T0Q hk
 refine⟨⟨fun n i e=>e,G.ext.fz,G.ext.lo,G.ext.same⟩,fun _ _=>rfl,hnx,fun n a b=>hF n (Nat.le_trans hnx a) b,?_⟩
 rw[h2]
 exact G.rel.kept (nx:=s.nx) hd hg G.agrees (fun n i e=>G.ext.nm n i e) rfl rfl
end
noncomputable def dec(p:Prop):Bool:=@decide p (Classical.propDecidable p)
theorem dec_eq{p:Prop}:dec p=true↔p:=by unfold dec;exact@decide_eq_true_iff p (Classical.propDecidable p)
theorem A0g{p:Prop}(h:p):dec p=true:=dec_eq.2 h
theorem R0j{p:Prop}(h:¬p):dec p=false:=by
 cases hb:dec p with
 |false=>rfl
 |true=>exact absurd (dec_eq.1 hb) h
inductive Dt(α:Type) where
 |leaf (a:α)
 |ite (b:Bool) (l r:Dt α)
 |fail
def Dt.holds{α:Type}(p:α→Prop):Dt α→Prop
 |.leaf a=>p a
 |.ite b l r=>(b=true→l.holds p)∧(b=false→r.holds p)
 |.fail=>False
def Dt.val{α:Type}:Dt α→Option α
 |.leaf a=>some a
 |
  .ite b l r=>match b with
  |true=>l.val
  |false=>r.val
 |.fail=>none
def Res.view{α β:Type}(f:α→St→β):Res α→Dt β
 |.ok a s=>.leaf (f a s)
 |.br _ _=>.fail
 |.ite b l r=>.ite b (l.view f) (r.view f)
 |.fail _=>.fail
 |.each _ _ _=>.fail
theorem C0D{α β:Type}{f:α→St→β}{p:β→Prop}:∀{r:Res α},(r.view f).holds p→∃a s,r.det=some (a,s)∧p (f a s)
 |.ok a s,h=>⟨a,s,rfl,h⟩
 |.br _ _,h=>h.elim
 |.ite true l _,h=>C0D (r:=l) (h.1 rfl)
 |.ite false _ r,h=>C0D (r:=r) (h.2 rfl)
 |.fail _,h=>h.elim
 |.each _ _ _,h=>h.elim
theorem J0a{α β:Type}{f:α→St→β}{a:α}{s:St}:∀{r:Res α},r.det=some (a,s)→(r.view f).val=some (f a s)
 |.ok _ _,h=>by cases h;rfl
 |.br _ _,h=>by cases h
 |.ite true l _,h=>J0a (r:=l) h
 |.ite false _ r,h=>J0a (r:=r) h
 |.fail _,h=>by cases h
 |.each _ _ _,h=>by cases h
def Dt.toRes{α β:Type}(f:α→β)(g:α→St):Dt α→Res β
 |.leaf a=>.ok (f a) (g a)
 |.ite b l r=>.ite b (l.toRes f g) (r.toRes f g)
 |.fail=>.fail []
theorem F0A{α β:Type}{f:α→β}{g:α→St}:∀{t:Dt α}{b:β}{s:St},(t.toRes f g).Has b s→∃a,t.val=some a∧b=f a∧s=g a
 |.leaf a,b,s,h=>⟨a,rfl,h.1.symm,h.2.symm⟩
 |.ite true l _,b,s,h=>F0A (t:=l) h
 |.ite false _ r,b,s,h=>F0A (t:=r) h
 |.fail,_,_,h=>h.elim
theorem J0c{α β:Type}{f:α→β}{g:α→St}:∀{t:Dt α}{a:α},t.val=some a→(t.toRes f g).Has (f a) (g a)
 |.leaf _,_,h=>by cases h;exact⟨rfl,rfl⟩
 |.ite true l _,_,h=>J0c (t:=l) h
 |.ite false _ r,_,h=>J0c (t:=r) h
 |.fail,_,h=>by cases h
structure LoopSpec(γ δ:Type) where
 body:Code
 nt:Nat
 nx:Nat
 room:Nat
 keep:List Nat
 objs:List Nat
 ext:List AVal→List AObj→Option γ
 vals:γ→List AVal
 obs:γ→List AObj
 keepX:AExit→List Nat
 objsX:AExit→List Nat
 valsX:AExit→δ→List AVal
 obsX:AExit→δ→List AObj
 inv:γ→Prop
 res:γ→Dt (AExit×δ)
section
variable{γ δ:Type}
noncomputable def LoopSpec.inT(L:LoopSpec γ δ)(x:γ):Tm:=⟨D0q (L.keep.zip (L.vals x)),L.nt,[],none⟩
noncomputable def LoopSpec.inS(L:LoopSpec γ δ)(x:γ):St:=⟨D0e (L.objs.zip (L.obs x)),L.nx,0,[],[]⟩
noncomputable def LoopSpec.outT(L:LoopSpec γ δ)(q:AExit×δ):AExit×Tm:=(q.1,⟨D0q ((L.keepX q.1).zip (L.valsX q.1 q.2)),L.nt,[],none⟩)
noncomputable def LoopSpec.outS(L:LoopSpec γ δ)(q:AExit×δ):St:=⟨D0e ((L.objsX q.1).zip (L.obsX q.1 q.2)),L.nx+L.room,0,[],[]⟩
noncomputable def H0g(T:Tm)(l:List Nat):List AVal:=l.map fun k=>(getT T.t k).sym
noncomputable def d0h(s:St)(k:Nat):AObj:=match s.h.get k with
 |some o=>o.sym
 |none=>.done
noncomputable def K0O(s:St)(l:List Nat):List AObj:=l.map (d0h s)
noncomputable def L0G(nt nx:Nat)(keep objs:List Nat)(T:Tm)(s:St):Bool:=
 Nat.beq T.n nt&&Nat.beq s.nx nx&&G0V T.mks&&(match T.rnd with |none=>true|some _=>false)&&
 keep.all (fun k=>Nat.blt k LT&&AVal.low nx (getT T.t k))&&objs.all fun k=>Nat.blt k nx&&Nat.blt k LH&&(match s.h.get k with |some o=>o.low nx|none=>false)
noncomputable def LoopSpec.run(L:LoopSpec γ δ)(T:Tm)(s:St):Res (AExit×Tm):=sel (L0G L.nt L.nx L.keep L.objs T s)
 (match L.ext (H0g T L.keep) (K0O s L.objs) with
  |some x=>.ite (dec (L.inv x)) ((L.res x).toRes L.outT L.outS) (.fail [])
  |none=>.fail []) (.fail [])
theorem F0Y(l:List (Nat×AObj)):(D0e l).deep DH:=by
 have :∀(l:List (Nat×AObj))(t:Tr AObj),t.deep DH→(l.foldl (fun t p=>t.set p.1 p.2) t).deep DH:=by
  intro l
  induction l with
  |nil=>intro t h;exact h
  |cons p l ih=>intro t h;exact ih _ (A0j _ DH _ _ h)
 exact this l _ (A0Z DH)
theorem LoopSpec.run_up(L:LoopSpec γ δ)(T:Tm)(s:St)(q:AExit×Tm)(t:St)(h:(L.run T s).Has q t):s.nx≤t.nx∧(s.h.deep DH→t.h.deep DH):=by
 unfold LoopSpec.run at h
 cases hg:L0G L.nt L.nx L.keep L.objs T s with
 |false=>rw[hg] at h;exact h.elim
 |
  true=>
  rw[hg,A0e] at h
  unfold L0G at hg
  simp only[Bool.and_eq_true] at hg
  have hn:s.nx=L.nx:=A0E hg.1.1.1.1.2
  cases he:L.ext (H0g T L.keep) (K0O s L.objs) with
  |none=>rw[he] at h;exact h.elim
  |
   some x=>
   rw[he] at h
   have h:(Res.ite (dec (L.inv x)) ((L.res x).toRes L.outT L.outS) (.fail [])).Has q t:=h
   cases hb:dec (L.inv x) with
   |false=>rw[hb] at h;exact h.elim
   |
    true=>
    rw[hb] at h
    obtain⟨a,_,_,rfl⟩:=F0A h
    exact⟨by rw[hn];exact Nat.le_add_right _ _,fun _=>F0Y _⟩
noncomputable def LoopSpec.next(L:LoopSpec γ δ)(q:AExit×Tm)(t:St):Bool:=L0G L.nt t.nx (match q.1 with |.normal=>L.keep|e=>L.keepX e) [] q.2 t&&Nat.ble t.nx (L.nx+L.room)&&
 (match q.1 with |.normal=>L.keep|e=>L.keepX e).all (fun k=>AVal.low L.nx (getT q.2.t k))&&
 (match q.1 with |.normal=>L.objs|e=>L.objsX e).all fun k=>Nat.blt k L.nx&&Nat.blt k LH&&(match t.h.get k with |some o=>o.low L.nx|none=>false)
end
theorem I0T{T:Tm}{nx:Nat}:∀{l:List Nat}{vs:List AVal},vs=H0g T l→(∀k∈l,k<LT∧AVal.low nx (getT T.t k)=true)→e0E T nx (l.zip vs)
 |[],vs,h,_=>by intro p hp;simp at hp
 |
  k::l,vs,h,hl=>by
  subst h
  intro p hp
  have hp:p∈(k,(getT T.t k).sym)::l.zip (H0g T l):=hp
  rcases List.mem_cons.1 hp with q|q
  ·subst q
   exact⟨(hl k (by simp)).1,rfl,by rw[S0D];exact(hl k (by simp)).2⟩
  ·exact I0T rfl (fun k hk=>hl k (by simp[hk])) p q
theorem I0V{s:St}{nx:Nat}:∀{l:List Nat}{os:List AObj},os=K0O s l→(∀k∈l,k<nx∧k<LH∧∃o,s.h.get k=some o∧o.low nx=true)→d0a s.h nx (l.zip os)
 |[],os,h,_=>by intro p hp;simp at hp
 |
  k::l,os,h,hl=>by
  subst h
  intro p hp
  have hp:p∈(k,d0h s k)::l.zip (K0O s l):=hp
  rcases List.mem_cons.1 hp with q|q
  ·subst q
   obtain⟨h1,h2,o,h3,h4⟩:=hl k (by simp)
   exact⟨h1,h2,o,h3,by unfold d0h;rw[h3],h4⟩
  ·exact I0V rfl (fun k hk=>hl k (by simp[hk])) p q
theorem L0M{l:List Nat}(h:G0V l=true):l=[]:=by
 unfold G0V at h
 split at h
 ·rfl
 ·cases h
theorem L0u{nt nx:Nat}{keep objs:List Nat}{T:Tm}{s:St}(h:L0G nt nx keep objs T s=true):T.n=nt∧s.nx=nx∧T.mks=[]∧T.rnd=none∧(∀k∈keep,k<LT∧AVal.low nx (getT T.t k)=true)∧
  ∀k∈objs,k<nx∧k<LH∧∃o,s.h.get k=some o∧o.low nx=true:=by
 unfold L0G at h
 simp only[Bool.and_eq_true,List.all_eq_true,Nat.blt_eq] at h
 obtain⟨⟨⟨⟨⟨h1,h2⟩,h3⟩,h4⟩,h5⟩,h6⟩:=h
 refine⟨A0E h1,A0E h2,L0M h3,?_,h5,fun k hk=>?_⟩
 ·cases hr:T.rnd with
  |none=>rfl
  |some x=>rw[hr] at h4;cases h4
 ·obtain⟨⟨a,b⟩,c⟩:=h6 k hk
  refine⟨a,b,?_⟩
  cases ho:s.h.get k with
  |none=>rw[ho] at c;cases c
  |some o=>rw[ho] at c;exact⟨o,rfl,c⟩
section
variable{P:Program}{γ δ:Type}
set_option maxHeartbeats 1000000 in
theorem c0F(hX:C0U P)(hm:P.follows .mixedOrders=true){E:Env}(hE:EnvR E P)(hl:E.loops=[])(L:LoopSpec γ δ)(fuel:Nat)(μ:γ→Nat)(hmk:A0M L.body=true)
  (hext:∀vs os x,L.ext vs os=some x→vs=L.vals x∧os=L.obs x)
  (hgood:∀x,L.inv x→((A0v fuel E false L.body (L.inT x) (L.inS x)).view fun q t=>L.next q t).holds fun b=>b=true)
  (hstep:∀x,L.inv x→((A0v fuel E false L.body (L.inT x) (L.inS x)).view fun q t=>(q.1,H0g q.2 (match q.1 with |.normal=>L.keep|e=>L.keepX e),K0O t (match q.1 with |.normal=>L.objs|e=>L.objsX e))).holds fun q=>
   match q.1 with
   |.normal=>∃y,L.vals y=q.2.1∧L.obs y=q.2.2∧L.inv y∧μ y<μ x∧(L.res y).val=(L.res x).val
   |e=>∃d,L.valsX e d=q.2.1∧L.obsX e d=q.2.2∧(L.res x).val=some (e,d)) (hso:E.solo=false):
  A0h P ⟨A0u E.lps L.body,L.run,L.run_up⟩:=by
 intro E1 base w0 Γ s w T ro a N m hty R1 hT g hN hF hLH
 have hty':E1.ty=E.ty:=hty.trans hE.ty0.symm
 have R:Rel E base w0 Γ s.h w:=R1.less hty' hso
 have post:∀{x a' w'},E0i E base w0 Γ ro s N (L.run T s) x a' w'→E0i E1 base w0 Γ ro s N (L.run T s) x a' w':=by
  rintro x a' w'⟨q,T',s',Γ',h1,h2,h3,h4⟩
  exact⟨q,T',s',Γ',h1,h2,h3,h4.more hty'.symm R1⟩
 refine wpIn_mono (Q:=E0i E base w0 Γ ro s N (L.run T s)) ?_ fun _ _ _ h=>post h
 show(Code.loop (A0u E.lps L.body)).wpIn (FW ro) m P (E0i E base w0 Γ ro s N (L.run T s)) a w
 have g:(L.run T s).Good:=g
 have hN:∀q s',(L.run T s).Has q s'→s'.nx≤N:=hN
 unfold LoopSpec.run at g hN⊢
 cases hg:L0G L.nt L.nx L.keep L.objs T s with
 |false=>rw[hg] at g;exact g.elim
 |true=>
 rw[hg,A0e] at g hN
 rw[A0e]
 obtain⟨g1,g2,g3,g4,g5,g6⟩:=L0u hg
 cases he:L.ext (H0g T L.keep) (K0O s L.objs) with
 |none=>rw[he] at g;exact g.elim
 |some x0=>
 rw[he] at g hN
 simp only[] at g hN⊢
 by_cases hinv:L.inv x0
 case neg=>
  have hd:dec (L.inv x0)=false:=R0j hinv
  rw[hd] at g;exact g.elim
 have hd:dec (L.inv x0)=true:=A0g hinv
 rw[hd] at g hN
 simp only[hd]
 have g:((L.res x0).toRes L.outT L.outS).Good:=g
 have hN:∀q s',((L.res x0).toRes L.outT L.outS).Has q s'→s'.nx≤N:=hN
 obtain⟨hv,ho⟩:=hext _ _ _ he
 --there is a result
 obtain⟨q0,t0,hh0⟩:=E0M g
 have hroom:L.nx+L.room≤N:=by
  obtain⟨b,_,_,rfl⟩:=F0A hh0
  exact hN _ _ hh0
 --the start
 have R0:=(Got.same (N:=N) (s':=s) hF rfl R)
 have T0:TRel (Γ.back Γ) ro (L.inT x0) a:=by
  have :=G0S (Γ2:=Γ.back Γ) hT g3 g4 (nx:=L.nx) ⟨fun _ _ _ e=>e,fun _ _ e=>e⟩ (I0T hv.symm g5)
  rw[g1] at this
  exact this
 have G0:Got E base w0 Γ s N (Γ.back Γ) (L.inS x0) w:=R0.trim (t2:=L.inS x0) (by rw[g2];exact I0V ho.symm g6) rfl (by rw[g2];exact Nat.le_refl _) hF
 let At :γ→Act→World→Prop:=fun x a' w'=>L.inv x∧(L.res x).val=(L.res x0).val∧∃Γ',TRel (Γ.back Γ') ro (L.inT x) a'∧Got E base w0 Γ s N (Γ.back Γ') (L.inS x) w'
 have νex:∃ν:Act→World→Nat,∀a' w',(∃k x,μ x=k∧At x a' w')→(∃x,μ x=ν a' w'∧At x a' w')∧∀x,At x a' w'→ν a' w'≤μ x:=by
  classical
  refine⟨fun a' w'=>if h:∃k,∃x,μ x=k∧At x a' w' then Classical.choose (V0M _ h) else 0,fun a' w' h=>?_⟩
  simp only[dif_pos h]
  obtain⟨h1,h2⟩:=Classical.choose_spec (V0M _ h)
  exact⟨h1,fun x hx=>h2 _ ⟨x,rfl,hx⟩⟩
 obtain⟨ν,hν⟩:=νex
 refine wpIn_loop (fun a' w'=>∃x,At x a' w') ν ⟨x0,hinv,rfl,Γ,T0,G0⟩ ?_
 rintro a' w'⟨y,hy⟩
 obtain⟨⟨x,hxμ,hxi,hxr,Γ1,hT1,hG1⟩,hmin⟩:=hν a' w' ⟨_,y,rfl,hy⟩
 have hgd:=hgood x hxi
 have hst:=hstep x hxi
 obtain⟨q,t,hdet,hnext⟩:=C0D hgd
 obtain⟨q',t',hdet',hnew⟩:=C0D hst
 rw[hdet] at hdet'
 cases hdet'
 obtain⟨hgr,hhas⟩:=D0y hdet
 have honly:∀q1 t1,(A0v fuel E false L.body (L.inT x) (L.inS x)).Has q1 t1→q1=q∧t1=t:=fun q1 t1 h=>C0t hdet h
 unfold LoopSpec.next at hnext
 simp only[Bool.and_eq_true,List.all_eq_true,Nat.blt_eq] at hnext
 obtain⟨⟨⟨n1,n2⟩,n3⟩,n4⟩:=hnext
 have n2:=Nat.le_of_ble_eq_true n2
 obtain⟨m1,_,m3,m4,m5,_⟩:=L0u n1
 have hF1:C0q (Γ.back Γ1) L.nx N:=fun n h1 h2=>hF n (by rw[g2];exact h1) h2
 refine wpIn_mono (B0Y (base:=base) (w0:=w0) hX hm fuel E hE false L.body (L.inT x) (L.inS x) (Γ.back Γ1) w' ro a' N m hmk hG1.rel hT1 (by rw[hl];intro d hd;cases hd) hgr (fun q1 t1 h=>by obtain⟨rfl,rfl⟩:=honly q1 t1 h;omega) hF1 hLH) ?_
 rintro e a2 w2⟨e2,T2,s2,Γ2,hh,rfl,hT2,hG2⟩
 obtain⟨hq,ht⟩:=honly _ _ hh
 subst hq;subst ht
 have hG:=hG1.trans hG2
 simp only[] at hnew m1 m3 m4 m5 n3 n4
 have agr:C0w L.nx Γ2 (Γ.back Γ2):=by rw[←g2];exact hG.agrees
 have low4:∀l:List Nat,(∀k∈l,(k<L.nx∧k<LH)∧(match s2.h.get k with |some o=>o.low L.nx|none=>false)=true)→∀k∈l,k<L.nx∧k<LH∧∃o,s2.h.get k=some o∧o.low L.nx=true:=by
  intro l h k hk
  obtain⟨⟨a,b⟩,c⟩:=h k hk
  refine⟨a,b,?_⟩
  cases ho:s2.h.get k with
  |none=>rw[ho] at c;cases c
  |some o=>rw[ho] at c;exact⟨o,rfl,c⟩
 have fin:∀e3:AExit,e2=e3→e3≠.normal→(∃d,L.valsX e3 d=H0g T2 (L.keepX e3)∧L.obsX e3 d=K0O s2 (L.objsX e3)∧(L.res x).val=some (e3,d))→(∀k∈L.keepX e3,k<LT)→(∀k∈L.keepX e3,AVal.low L.nx (getT T2.t k)=true)→
   (∀k∈L.objsX e3,(k<L.nx∧k<LH)∧(match s2.h.get k with |some o=>o.low L.nx|none=>false)=true)→E0i E base w0 Γ ro s N ((L.res x0).toRes L.outT L.outS) e3.ex a2 w2:=by
  rintro e3 rfl hne⟨d,d1,d2,d3⟩k1 k2 k3
  have hout:=J0c (f:=L.outT) (g:=L.outS) (hxr.symm.trans d3)
  refine⟨e2,_,_,Γ.back Γ2,hout,rfl,?_,?_⟩
  ·have :=G0S (Γ2:=Γ.back Γ2) hT2 m3 m4 (nx:=L.nx) agr (I0T d1 (fun k hk=>⟨k1 k hk,k2 k hk⟩))
   rw[m1] at this
   exact this
  ·exact hG.trim (t2:=L.outS (e2,d)) (by rw[g2];exact I0V d2 (low4 _ k3)) rfl (by rw[g2];exact Nat.le_add_right _ _) hF
 cases e2 with
 |
  normal=>
  obtain⟨y2,v1,v2,v3,v4,v5⟩:=hnew
  have hat:At y2 a2 w2:=by
   refine⟨v3,v5.trans hxr,Γ2,?_,?_⟩
   ·have :=G0S (Γ2:=Γ.back Γ2) hT2 m3 m4 (nx:=L.nx) agr (I0T v1 (fun k hk=>⟨(m5 k hk).1,n3 k hk⟩))
    rw[m1] at this
    exact this
   ·exact hG.trim (t2:=L.inS y2) (by rw[g2];exact I0V v2 (low4 _ n4)) rfl (by rw[g2];exact Nat.le_refl _) hF
  refine C0F (x:=.normal) (fun _=>⟨⟨y2,hat⟩,?_⟩) (fun q=>absurd rfl q)
  have :=(hν a2 w2 ⟨_,y2,rfl,hat⟩).2 y2 hat
  omega
 |exit id=>exact C0F (x:=.exit id) (fun q=>by cases q) (fun _=>fin (.exit id) rfl (by simp) hnew (fun k hk=>(m5 k hk).1) n3 n4)
 |ret=>exact C0F (x:=.ret) (fun q=>by cases q) (fun _=>fin .ret rfl (by simp) hnew (fun k hk=>(m5 k hk).1) n3 n4)
end
end Go.Ev
namespace Go.Ev
open Go Go.RowKit
variable[Univ]
def Dt.toCT{α:Type}:Dt α→CT α
 |.leaf a=>.ret a
 |.ite b l r=>.ite b l.toCT r.toCT
 |.fail=>.fail
structure FnSpec(γ:Type) where
 ext:List AVal→Option γ
 args:γ→List AVal
 pre:γ→Prop
 res:γ→Dt AVal
noncomputable def FnSpec.ct{γ:Type}(F:FnSpec γ)(as:List AVal):CT AVal:=sel (AVal.lows 0 as) (match F.ext (AVal.syms as) with
 |some x=>.need (dec (F.pre x)) (F.res x).toCT
 |none=>.fail) .fail
section
variable{P:Program}{E:Env}{base:Bs}{w0:World}{Γ:Gam}{w w':World}{s:St}
theorem L0F{b:Nat}{B:Bs}(hc:B.n≤b)(h:Below b w w'):Bel B w w':=⟨h.os,h.tape,h.output,h.size,fun k hk _=>h.block k (by omega),c0e fun k hk=>h.block k (by omega)⟩
theorem Rel.over{h:Tr AObj}(R:Rel E base w0 Γ h w)(hb:Below w.heap.size w w'){Γ2:Gam}(hnm:Γ2.nm=Γ.nm)(hx:Ext Γ Γ2)(hst:∀b ob,Γ2.fz b=some ob→w'.heap[b]?=some ob)
  (hsame:∀b,b<w.heap.size→Γ2.fz b=Γ.fz b):Rel E base w0 Γ2 h w':=by
 have hn:∀n,Γ2 n=Γ n:=fun n=>congrFun hnm n
 have blk:∀n i,Γ n=some i→w'.heap[i.b]?=w.heap[i.b]?:=fun n i e=>hb.block _ (R.dom n i e).2.2
 constructor
 ·exact R.deep
 ·exact R.below.trans (L0F R.room hb)
 ·exact Nat.le_trans R.room hb.size
 ·intro n i e
  rw[hn] at e
  obtain⟨a,b,c⟩:=R.dom n i e
  exact⟨a,b,Nat.lt_of_lt_of_le c hb.size⟩
 ·exact fun n o hl ho=>(R.obj n o hl ho).keep hx fun i e=>blk n i e
 ·intro n m o p i j h1 h2 h3 h4 h5 h6 h7 h8 h9
  rw[hn] at h8 h9
  exact R.inj n m o p i j h1 h2 h3 h4 h5 h6 h7 h8 h9
 ·exact R.fam
 ·intro n m since seen kt es clock i j ents b borns stepped h1 h2 h3 h4 e1 e2 b1 b2
  rw[hn] at e1 e2
  rw[blk n i e1] at b1
  rw[blk m j e2] at b2
  obtain⟨z1,z2⟩:=R.iter n m since seen kt es clock i j ents b borns stepped h1 h2 h3 h4 e1 e2 b1 b2
  exact⟨z1,fun z=>(z2 z).ext hx⟩
 ·intro n i cs e frz rel al h1 h2 h3
  rw[hn] at h3
  exact R.own n i cs e frz rel al h1 h2 h3
 ·exact hst
 ·intro n i o h1 h2 h3 h4
  rw[hn] at h4
  rw[hsame _ (R.dom n i h4).2.2]
  exact R.sep n i o h1 h2 h3 h4
 ·rw[hx.lo];exact Nat.le_trans R.lo hb.size
 ·first|exact R.solo|(rw[hx.lo];exact R.solo)|(rw[hlo];exact R.solo)
 ·refine R.hid.keep ⟨fun k c m q l e=>⟨e,fun i hi=>?_⟩,fun m o j h1 h2 h3 h4=>.inr ⟨m,o,j,h1,h2,h3,by rw[←hn];exact h4,rfl⟩,fun b C e z hb' hB=>?_,fun b o e=>hx.fz b o e⟩
  ·rw[hn] at hi
   exact⟨hi,blk _ _ hi⟩
  ·have hl:b<w.heap.size:=(Array.getElem?_eq_some_iff.1 hb').1
   exact⟨hb.block _ hl,by rw[hsame _ hl];exact hB.1⟩
theorem G0h{Γ1 Γ2:Gam}(h:Γ2.fz=Γ1.fz):C0w 0 Γ1 Γ2:=⟨fun _ _ h=>absurd h (Nat.not_lt_zero _),fun _ _ e=>by rw[h];exact e⟩
def Gam.bare(Γ:Gam)(w:World):Gam:=⟨fun _=>none,Γ.fz,w.heap.size⟩
end
mutual
theorem VRel.names{Γ Γ':Gam}(hn:∀n i,Γ n=some i→Γ' n=some i)(hf:∀b o,Γ.fz b=some o→Γ'.fz b=some o):∀{a:AVal}{v:Value},VRel Γ a v→VRel Γ' a v
 |.bool _,_,k=>k
 |.int _ _,_,k=>k
 |.str _,_,k=>k
 |.ptr _ _,_,k=>by unfold VRel at k⊢;obtain⟨i,e,k⟩:=k;exact⟨i,hn _ _ e,k⟩
 |.nilp,_,k=>k
 |.slice _ _ _ _ _,_,k=>by unfold VRel at k⊢;obtain⟨i,e,k⟩:=k;exact⟨i,hn _ _ e,k⟩
 |.nils,_,k=>k
 |.map _,_,k=>by unfold VRel at k⊢;obtain⟨i,e,k⟩:=k;exact⟨i,hn _ _ e,k⟩
 |.nilm,_,k=>k
 |.fn _ _ _,_,k=>by unfold VRel at k⊢;obtain⟨vs,ws,e,k1,k2⟩:=k;exact⟨vs,ws,e,VRels.names hn hf k1,VRels.names hn hf k2⟩
 |.nilf,_,k=>k
 |.iface _ _,_,k=>by unfold VRel at k⊢;obtain⟨u,e,k⟩:=k;exact⟨u,e,VRel.names hn hf k⟩
 |.nili,_,k=>k
 |.agg _,_,k=>by unfold VRel at k⊢;obtain⟨vs,e,k⟩:=k;exact⟨vs,e,VRels.names hn hf k⟩
 |.tup _,_,k=>by unfold VRel at k⊢;obtain⟨vs,e,k⟩:=k;exact⟨vs,e,VRels.names hn hf k⟩
 |.raw _,_,k=>k
 |.any,_,_=>by unfold VRel;trivial
 |.yld _,_,k=>by unfold VRel at k⊢;obtain⟨i,e,k⟩:=k;exact⟨i,hn _ _ e,k⟩
 |.sb _,_,k=>k
 |.si _ _,_,k=>k
 |.ss _,_,k=>k
 |.dsl _ _,_,k=>by unfold VRel at k⊢;exact k.mono hf
 |.dptr _ _ _ _,_,k=>by unfold VRel at k⊢;obtain⟨h1,b,z,cap,h2,h3⟩:=k;exact⟨h1,b,z,cap,h2.mono hf,h3⟩
 |.asl _ _ _ _,_,k=>by unfold VRel at k⊢;obtain⟨i,e,k⟩:=k;exact⟨i,hn _ _ e,k⟩
 |.aptr _ _ _ _,_,k=>by unfold VRel at k⊢;obtain⟨i,e,k⟩:=k;exact⟨i,hn _ _ e,k⟩
 |.dmp _ _ _ _,_,k=>by unfold VRel at k⊢;obtain⟨b,es,c,h1,h2,h3⟩:=k;exact⟨b,es,c,h1,hf _ _ h2,h3.mono hf⟩
theorem VRels.names{Γ Γ':Gam}(hn:∀n i,Γ n=some i→Γ' n=some i)(hf:∀b o,Γ.fz b=some o→Γ'.fz b=some o):∀{l:List AVal}{vs:List Value},VRels Γ l vs→VRels Γ' l vs
 |[],_,k=>k
 |_::_,_,k=>by unfold VRels at k⊢;obtain⟨v,ws,e,k1,k2⟩:=k;exact⟨v,ws,e,VRel.names hn hf k1,VRels.names hn hf k2⟩
end
noncomputable def c0b(h:Tr AObj)(n off:Nat):AVal:=match h.get n with
 |
  some o=>(match o with
  |
   .cells cs e _ dead _ _ _=>sel (dead||!Nat.beq off 0) (.ptr n off) (match Univ.elt e with
   |
    some c=>(match cellsOf cs with
    |
     some l=>(match Univ.unc c l with
     |some x=>.dptr c [x] 0 0
     |none=>.ptr n off)
    |none=>.ptr n off)
   |none=>.ptr n off)
  |_=>.ptr n off)
 |none=>.ptr n off
noncomputable def AVal.out0(k0:Nat)(h:Tr AObj)(a:AVal):AVal:=match a with
 |.ptr n off=>sel (Nat.ble k0 n) (c0b h n off) (.ptr n off)
 |
  .map n=>(match h.get n with
  |
   some o=>(match o with
   |
    .dat d=>(match d with
    |.map k v m c=>.dmp k v m c
    |_=>.map n)
   |_=>.map n)
  |none=>.map n)
 |
  .asl c n off k=>(match h.get n with
  |
   some o=>(match o with
   |
    .arr c' l=>(match D0V c' c l with
    |some l=>.dsl c (subL l off k)
    |none=>.asl c n off k)
   |_=>.asl c n off k)
  |none=>.asl c n off k)
 |a=>a
noncomputable def AVal.out1(k0:Nat)(h:Tr AObj)(a:AVal):AVal:=match a with
 |.agg l=>.agg (map1 (AVal.out0 k0 h) l)
 |.fn f x y=>.fn f x (map1 (AVal.out0 k0 h) y)
 |a=>a.out0 k0 h
noncomputable def AVal.out(k0:Nat)(h:Tr AObj)(a:AVal):AVal:=match a with
 |.tup l=>.tup (map1 (AVal.out1 k0 h) l)
 |a=>a.out1 k0 h
noncomputable def Gam.left(Γ:Gam)(w:World):Gam:=⟨Γ.nm,fun b=>if b<Γ.lo then Γ.fz b else w.heap[b]?,Γ.lo⟩
section
variable{E:Env}{base:Bs}{w0:World}{Γ Γt:Gam}{w:World}{s:St}
theorem L0b{h:Tr AObj}(R:Rel E base w0 Γ h w){c:Univ.C}{n off k:Nat}{l:List (Univ.S c)}{v:Value}(ho:h.get n=some (.arr c l))(hv:VRel Γ (.asl c n off k) v)
  (ht:∀i,Γ n=some i→∀ob,w.heap[i.b]?=some ob→Γt.fz i.b=some ob) (hag:∀b o,Γ.fz b=some o→Γt.fz b=some o):CRel Γt.fz (.sl c (subL l off k)) v:=by
 unfold VRel at hv
 obtain⟨i,hi,hbd,o,cap,rfl,hcap,hoo⟩:=hv
 obtain⟨i',hi',hasz,C,e,fz,hb,_,hA,hsz,_⟩:=R.obj n _ (R.dom n i hi).1 ho
 rw[hi] at hi';cases hi'
 have hlen:(subL l off k).length=k:=by unfold subL;simp;omega
 by_cases k0:k=0
 ·subst k0
  have :subL l off 0=[]:=by unfold subL;simp
  rw[this];exact .nil c _ cap
 ·obtain⟨rfl,_⟩:=hoo (by omega)
  have each:∀(j:Nat)(x:Univ.S c),(subL l off k)[j]?=some x→∀(q:Nat)(cl:Cell Univ.C Univ.S),(Univ.cells c x)[q]?=some cl→∃v,C[off*Univ.esz c+j*Univ.esz c+q]?=some v∧CRel Γt.fz cl v:=by
   intro j x hj q cl hq
   have hjk:j<k:=by rw[←hlen];exact(List.getElem?_eq_some_iff.1 hj).1
   unfold subL at hj
   rw[List.getElem?_take,if_pos hjk,List.getElem?_drop] at hj
   obtain⟨v,v1,v2⟩:=hA _ x hj q cl hq
   rw[Nat.add_mul] at v1
   exact⟨v,v1,v2.mono hag⟩
  have :=CRel.sl (fz:=Γt.fz) c (subL l off k) i.b (off*Univ.esz c) cap C e fz (fun j q=>(C[off*Univ.esz c+j*Univ.esz c+q]?).getD (.bool false)) (ht i hi _ hb) (by omega)
   (fun j x hj q hq=>by
    have :q<(Univ.cells c x).length:=by rw[Univ.len];exact hq
    obtain⟨v,v1,_⟩:=each j x hj q _ (List.getElem?_eq_getElem this)
    rw[v1];rfl)
   (fun j x hj q cl hq=>by
    obtain⟨v,v1,v2⟩:=each j x hj q cl hq
    show CRel _ cl ((C[off*Univ.esz c+j*Univ.esz c+q]?).getD (.bool false))
    rw[v1];exact v2)
  rw[hlen] at this
  exact this
theorem U0F{h:Tr AObj}(R:Rel E base w0 Γ h w){n off:Nat}{i:Info}(hi:Γ n=some i)(c:Univ.C){cs:List (Cell Univ.C Univ.S)}{x:Univ.S c}
  (hv:∀j cl,cs[j]?=some cl→∃v,(∃cs e frz root rel al,h.get n=some (.cells cs e frz false root rel al)∧cs[off+j]?=some v)∧∀u,VRel Γ v u→CRel Γt.fz cl u)
  (hx:Univ.unc c cs=some x) (ht:∀ob,w.heap[i.b]?=some ob→Γt.fz i.b=some ob):
  CRel Γt.fz (.sl c [x]) (.slice (some ⟨i.b,i.o+off,none⟩) 1 1):=by
 have hcx:=Univ.unc_ok c cs x hx
 have hp:=Univ.pos c
 have hcl:cs.length=Univ.esz c:=by rw[←hcx,Univ.len]
 obtain⟨v0,⟨cells,e,frz,root,rel,al,hget,_⟩,_⟩:=hv 0 _ (List.getElem?_eq_getElem (by omega))
 have hn:=(R.dom n i hi).1
 obtain⟨i',hi',hasz,_,C,fz,hb,hsz,hbd,hval,_⟩:=R.obj n _ hn hget
 rw[hi] at hi';cases hi'
 have each:∀j cl,(Univ.cells c x)[j]?=some cl→∃v,C[i.o+off+j]?=some v∧CRel Γt.fz cl v:=by
  intro j cl e
  rw[hcx] at e
  obtain⟨a,⟨cells',e',frz',root',rel',al',hg',hk'⟩,ha2⟩:=hv j cl e
  rw[hget] at hg';cases hg'
  obtain⟨v,z1,z2⟩:=hval rfl _ _ hk'
  exact⟨v,by rw[show i.o+off+j=i.o+(off+j) by omega];exact z1,ha2 v z2⟩
 let g:Nat→Nat→Value:=fun _ k=>(C[i.o+off+k]?).getD (.bool false)
 refine .sl c [x] i.b (i.o+off) 1 C e fz g (ht _ hb) (Nat.le_refl _) (fun j y hj k hk=>?_) (fun j y hj k cl hcl=>?_)
 ·cases j with
  |succ j=>simp at hj
  |
   zero=>
   have :k<(Univ.cells c x).length:=by rw[Univ.len];exact hk
   obtain⟨v,z1,_⟩:=each k _ (List.getElem?_eq_getElem this)
   rw[show i.o+off+0*Univ.esz c+k=i.o+off+k by omega]
   show _=some ((C[i.o+off+k]?).getD (.bool false))
   rw[z1];rfl
 ·cases j with
  |succ j=>simp at hj
  |
   zero=>
   simp at hj;subst hj
   obtain⟨v,z1,z2⟩:=each k cl hcl
   show CRel _ cl ((C[i.o+off+k]?).getD (.bool false))
   rw[z1];exact z2
def Mine(k0:Nat)(Γ:Gam)(h:Tr AObj):Prop:=(∀n i c l,h.get n=some (.arr c l)→Γ n=some i→Γ.lo≤i.b)∧
 ∀n i cs e frz root rel al,k0≤n→h.get n=some (.cells cs e frz false root rel al)→Γ n=some i→Γ.lo≤i.b
theorem c0U{n:Nat}{h:Tr AObj}(R:Rel E (n:Bs) w0 Γ h w)(hlo:Γ.lo≤n):Mine 0 Γ h:=by
 have key:∀m i,Γ m=some i→Γ.lo≤i.b:=fun m i hi=>by
  rcases(R.dom _ _ hi).2.1 with q|q
  ·exact Nat.le_trans hlo q
  ·cases q
 exact⟨fun _ _ _ _ _ hi=>key _ _ hi,fun _ _ _ _ _ _ _ _ _ _ hi=>key _ _ hi⟩
theorem Y0Z{h:Tr AObj}(R:Rel E base w0 Γ h w):∀b o,Γ.fz b=some o→(Γ.left w).fz b=some o:=by
 intro b o e
 show(if b<Γ.lo then Γ.fz b else w.heap[b]?)=some o
 by_cases hb:b<Γ.lo
 ·rw[if_pos hb];exact e
 ·rw[if_neg hb];exact R.stay b o e
theorem P0B{k0:Nat}{h:Tr AObj}(R:Rel E base w0 Γ h w)(hlo:Mine k0 Γ h){a:AVal}{v:Value}(hv:VRel Γ a v):VRel (Γ.left w) (a.out0 k0 h) v:=by
 have fzm:=Y0Z R
 have hx:VRel (Γ.left w) a v:=by
  exact VRel.names (Γ:=Γ) (Γ':=Γ.left w) (fun n i e=>e) fzm hv
 unfold AVal.out0
 split
 ·rename_i n off
  cases hk:Nat.ble k0 n with
  |false=>exact hx
  |
   true=>
   rw[A0e]
   unfold c0b
   split
   ·rename_i o ho
    split
    ·rename_i cs e frz dead root rel al
     cases hd:(dead||!Nat.beq off 0) with
     |true=>exact hx
     |
      false=>
      rw[A0f]
      simp only[Bool.or_eq_false_iff,Bool.not_eq_false'] at hd
      obtain⟨rfl,h0⟩:=hd
      have :=A0E h0
      subst this
      split
      ·rename_i c _
       split
       ·rename_i l hl
        split
        ·rename_i x hu
         unfold VRel at hv⊢
         obtain⟨i,hi,rfl⟩:=hv
         obtain⟨i',hi',_,_,C,fz,hb,_,_,_,_⟩:=R.obj n _ (R.dom n i hi).1 ho
         rw[hi] at hi';cases hi'
         obtain⟨_,hcs⟩:=C0M hl
         refine⟨by simp,i.b,i.o+0,1,U0F R hi c (cs:=l) (fun j cl e=>?_) hu (fun ob hb=>?_),by simp⟩
         ·obtain⟨a,a1,a2⟩:=hcs j cl e
          exact⟨a,⟨cs,_,frz,root,rel,al,ho,by rw[Nat.zero_add];exact a1⟩,fun u hu=>(F0y a2 hu).mono fzm⟩
         ·show(if i.b<Γ.lo then Γ.fz i.b else w.heap[i.b]?)=some ob
          have :=hlo.2 n i _ _ _ _ _ _ (Nat.le_of_ble_eq_true hk) ho hi
          rw[if_neg (by omega)];exact hb
        ·exact hx
       ·exact hx
      ·exact hx
    ·exact hx
   ·exact hx
 ·rename_i n
  split
  ·rename_i o ho
   split
   ·split
    ·rename_i k v m c
     unfold VRel at hv⊢
     obtain⟨i,hi,rfl⟩:=hv
     obtain⟨i',hi',hil,ob,hb,ents,clock,rfl,hM⟩:=R.obj n _ (R.dom n i hi).1 ho
     rw[hi] at hi';cases hi'
     refine⟨i.b,ents,clock,rfl,?_,hM.mono fzm⟩
     show(if i.b<Γ.lo then Γ.fz i.b else w.heap[i.b]?)=some _
     rw[if_neg (by omega)];exact hb
    ·exact hx
   ·exact hx
  ·exact hx
 ·rename_i c n off k
  split
  ·rename_i o ho
   split
   ·rename_i c' l
    split
    ·rename_i m hm
     have :=D0U hm
     cases this
     unfold VRel
     refine L0b R ho hv (fun i hi ob hb=>?_) fzm
     show(if i.b<Γ.lo then Γ.fz i.b else w.heap[i.b]?)=some ob
     have :=hlo.1 n i _ _ ho hi
     rw[if_neg (by omega)];exact hb
    ·exact hx
   ·exact hx
  ·exact hx
 ·exact hx
theorem L0z{Γ':Gam}{f:AVal→AVal}(hf:∀{a:AVal}{v:Value},VRel Γ a v→VRel Γ' (f a) v){l:List AVal}{vs:List Value}(hl:VRels Γ l vs):VRels Γ' (map1 f l) vs:=by
 rw[C0m]
 refine VRels.of_get (by have :=hl.length;simpa using this) fun i a ha=>?_
 rw[List.getElem?_map] at ha
 cases hi:l[i]? with
 |none=>rw[hi] at ha;cases ha
 |
  some b=>
  rw[hi] at ha
  cases ha
  obtain⟨v,v1,v2⟩:=hl.get hi
  exact⟨v,v1,hf v2⟩
theorem U0a{k0:Nat}{h:Tr AObj}(R:Rel E base w0 Γ h w)(hlo:Mine k0 Γ h){a:AVal}{v:Value}(hv:VRel Γ a v):VRel (Γ.left w) (a.out1 k0 h) v:=by
 unfold AVal.out1
 split
 ·unfold VRel at hv⊢
  obtain⟨vs,rfl,hl⟩:=hv
  exact⟨vs,rfl,L0z (P0B R hlo) hl⟩
 ·unfold VRel at hv⊢
  obtain⟨vs,ws,rfl,h1,h2⟩:=hv
  exact⟨vs,ws,rfl,VRels.names (Γ:=Γ) (Γ':=Γ.left w) (fun n i e=>e) (Y0Z R) h1,L0z (P0B R hlo) h2⟩
 ·exact P0B R hlo hv
theorem X0y{k0:Nat}{h:Tr AObj}(R:Rel E base w0 Γ h w)(hlo:Mine k0 Γ h){a:AVal}{v:Value}(hv:VRel Γ a v):VRel (Γ.left w) (a.out k0 h) v:=by
 unfold AVal.out
 split
 ·unfold VRel at hv⊢
  obtain⟨vs,rfl,hl⟩:=hv
  exact⟨vs,rfl,L0z (U0a R hlo) hl⟩
 ·exact U0a R hlo hv
end
def Q0S(P:Program)(f:FuncId)(as:List AVal)(r:AVal):Prop:=∀(Γ:Gam)(w:World)(vs:Array Value),(∀b ob,Γ.fz b=some ob→w.heap[b]?=some ob)→(∀n,Γ n=none)→Γ.lo=w.heap.size→VRels Γ as vs.toList→
 (callFunc f vs).run P w=.ok (.enter f vs) w∧∀m,CallsIn (FW none) m P f vs w fun e w'=>∃v Γ',e=.returned v∧VRel Γ' r v∧(∀n,Γ' n=none)∧Ext Γ Γ'∧(∀b ob,Γ'.fz b=some ob→w'.heap[b]?=some ob)∧Below w.heap.size w w'
section
variable{P:Program}{γ:Type}
theorem F0j(hX:C0U P)(hm:P.follows .mixedOrders=true){E:Env}(hE:EnvR E P)(hl:E.loops=[]){f:FuncId}{c:Code}{nt:Nat}{rs:List ResultVar}(hmk:mkFn P f=some (.code c nt rs))
  (c':Code) (hc':A0M c'=true) (hu:A0u E.lps c'=c) (fuel:Nat) {as:List AVal} {r:AVal}
  (h1:((H0S (.code c' nt rs) E (A0v fuel E false) as St.new).view fun a s=>AVal.low 0 (a.out 0 s.h)&&Nat.ble s.nx LH).holds fun b=>b=true)
  (h2:((H0S (.code c' nt rs) E (A0v fuel E false) as St.new).view fun a s=>(a.out 0 s.h).sym).val=some r):AVal.low 0 r=true∧Q0S P f as r:=by
 obtain⟨a,t,hdet,hq⟩:=C0D h1
 rw[J0a hdet] at h2
 cases h2
 rw[Bool.and_eq_true] at hq
 have hq2:=Nat.le_of_ble_eq_true hq.2
 refine⟨by rw[S0D];exact hq.1,fun Γ w vs hst hno hlo hv=>?_⟩
 obtain⟨_,_,_,_,_,_,hrun⟩:=C0X hmk
 refine⟨hrun _ _,fun m=>?_⟩
 have R0:Rel E w.heap.size w Γ St.new.h w:=
  {deep:=A0Z DH
   below:=Bel.refl _ _
   room:=Nat.le_refl _
   dom:=fun n i h=>by rw[hno] at h;cases h
   obj:=fun n o _ h=>by rw[show St.new.h.get n=none from A0q DH n] at h;cases h
   inj:=fun n m o p i j _ _ h=>by rw[show St.new.h.get n=none from A0q DH n] at h;cases h
   fam:=fun n cs e frz root rel al _ h=>by rw[show St.new.h.get n=none from A0q DH n] at h;cases h
   iter:=fun n m since seen kt es clock i j ents b borns stepped _ _ h=>by rw[show St.new.h.get n=none from A0q DH n] at h;cases h
   own:=fun n i cs e frz rel al _ h=>by rw[show St.new.h.get n=none from A0q DH n] at h;cases h
   stay:=hst
   lo:=by rw[hlo];exact Nat.le_refl _
   sep:=fun n i o _ h=>by rw[show St.new.h.get n=none from A0q DH n] at h;cases h
   solo:=fun _=>⟨fun _ h=>h,by first|exact Nat.le_refl _|(rw[hlo];exact Nat.le_refl _)⟩
   hid:=Hid.none fun k c m q l h=>by rw[show St.new.h.get 0=none from A0q DH 0] at h;cases h}
 refine CallsIn.mono (D0d (N:=LH) (B0Y (base:=w.heap.size) (w0:=w) hX hm fuel) hE hmk hc' hu R0 (by rw[hl];intro d hd;cases hd) hv (D0y hdet).1 (fun b u k=>by obtain⟨rfl,rfl⟩:=C0t hdet k;exact hq2) (fun n _ _=>hno n) (Nat.le_refl _) m) ?_
 rintro e w'⟨v,b,u,Γ',rfl,hh,hrel,hG⟩
 obtain⟨rfl,rfl⟩:=C0t hdet hh
 have hlo':Γ'.lo=w.heap.size:=hG.ext.lo.trans hlo
 have hout:=X0y hG.rel (c0U hG.rel (by rw[hlo'];exact Nat.le_refl _)) hrel
 have hfzm:∀b o,Γ'.fz b=some o→(Γ'.left w').fz b=some o:=by
  intro b o e
  show(if b<Γ'.lo then Γ'.fz b else w'.heap[b]?)=some o
  by_cases hb:b<Γ'.lo
  ·rw[if_pos hb];exact e
  ·rw[if_neg hb];exact hG.rel.stay b o e
 refine⟨v,⟨fun _=>none,(Γ'.left w').fz,Γ'.lo⟩,rfl,(hout.agree (G0h (Γ1:=Γ'.left w') (Γ2:=⟨fun _=>none,(Γ'.left w').fz,Γ'.lo⟩) rfl) hq.1).sym,fun _=>rfl,
  ⟨fun n i e=>(by rw[hno] at e;cases e),fun b o e=>hfzm b o (hG.ext.fz b o e),hG.ext.lo,fun b hb=>?_⟩,fun b ob e=>?_,hG.rel.below.down⟩
 ·show(if b<Γ'.lo then Γ'.fz b else w'.heap[b]?)=Γ.fz b
  rw[if_pos (by rw[hlo',←hlo];exact hb)]
  exact hG.ext.same b hb
 ·have e:(if b<Γ'.lo then Γ'.fz b else w'.heap[b]?)=some ob:=e
  by_cases hb:b<Γ'.lo
  ·rw[if_pos hb] at e;exact hG.rel.stay b ob e
  ·rw[if_neg hb] at e;exact e
end
end Go.Ev

namespace Go.Ev
open Go Go.RowKit
variable[Univ]
noncomputable def rdN{β:Type}(n:Nat):Nat→Nat→(List AVal→CT β)→CT β
 |0,_,k=>k []
 |m+1,off,k=>.rd n off fun v=>rdN n m (off+1) fun vs=>k (v::vs)
def Gam.all(w:World):Gam:=⟨fun _=>none,fun b=>w.heap[b]?,w.heap.size⟩
noncomputable def okOr{α β:Type}(o:Option α)(k:α→CT β):CT β:=match o with
 |some x=>k x
 |none=>.fail
theorem B0t{α β:Type}{o:Option α}{k:α→CT β}{s:St}(g:((okOr o k).run s).Good):∃x,o=some x∧okOr o k=k x:=by
 cases o with
 |none=>exact g.elim
 |some x=>exact⟨x,rfl,rfl⟩
noncomputable def resA{β:Type}(a:AVal)(k:AVal→CT β):CT β:=match a with
 |.asl c n off len=>.rda n fun A=>okOr (D0V A.c c A.l) fun l=>k (.dsl c (subL l off len))
 |a=>k a
noncomputable def R0r{β:Type}:List AVal→(List AVal→CT β)→CT β
 |[],k=>k []
 |a::l,k=>resA a fun x=>R0r l fun xs=>k (x::xs)
section
variable{P:Program}{E:Env}{base:Bs}{w0:World}{Γ Γt:Gam}{w:World}
theorem M0r{β:Type}{s0:St}(R:Rel E base w0 Γ s0.h w)(hag:C0w 0 Γ Γt)(ht:∀b ob,w.heap[b]?=some ob→Γt.fz b=some ob){a:AVal}{k:AVal→CT β}{s:St}(hs:s.h=s0.h)(g:((resA a k).run s).Good):
  ∃x s',Same s s'∧(resA a k).run s=(k x).run s'∧∀cl,F0B x=some cl→∀u,VRel Γ a u→CRel Γt.fz cl u:=by
 unfold resA at g⊢
 split at g
 ·rename_i c n off len
  have g:(M.bind (rdArr n) (fun A=>(okOr (D0V A.c c A.l) fun l=>k (.dsl c (subL l off len))).run) s).Good:=g
  obtain⟨c',l',s1,ho,h2,h3⟩:=H0r (A0a g)
  rw[A0d h2] at g
  obtain⟨m,h4,h5⟩:=B0t g
  have :=D0U h4
  cases this
  refine⟨.dsl c' (subL l' off len),s1,h3,?_,fun cl e u hu=>?_⟩
  ·show M.bind (rdArr n) (fun A=>(okOr (D0V A.c c' A.l) fun l=>k (.dsl c' (subL l off len))).run) s=_
   rw[A0d h2]
   show(okOr (D0V c' c' l') fun l=>k (.dsl c' (subL l off len))).run s1=_
   rw[h5]
  ·cases e
   rw[hs] at ho
   exact L0b R ho hu (fun i _ ob hb=>ht _ _ hb) hag.fz
 ·exact⟨a,s,.refl s,rfl,fun cl e u hu=>(F0y e hu).mono hag.fz⟩
theorem K0d{β:Type}{s0:St}(R:Rel E base w0 Γ s0.h w)(hag:C0w 0 Γ Γt)(ht:∀b ob,w.heap[b]?=some ob→Γt.fz b=some ob):∀{l:List AVal}{k:List AVal→CT β}{s:St},s.h=s0.h→((R0r l k).run s).Good→
  ∃xs s',Same s s'∧(R0r l k).run s=(k xs).run s'∧∀(j:Nat) x,xs[j]?=some x→∃a,l[j]?=some a∧∀cl,F0B x=some cl→∀u,VRel Γ a u→CRel Γt.fz cl u
 |[],k,s,hs,g=>⟨[],s,.refl s,rfl,fun j x e=>by simp at e⟩
 |
  a::l,k,s,hs,g=>by
  unfold R0r at g⊢
  obtain⟨x,s1,h1,h2,h3⟩:=M0r R hag ht hs g
  rw[h2] at g⊢
  obtain⟨xs,s2,h4,h5,h6⟩:=K0d R hag ht (h1.h.trans hs) g
  refine⟨x::xs,s2,h1.trans h4,h5,fun j y e=>?_⟩
  cases j with
  |zero=>simp at e;subst e;exact⟨a,rfl,h3⟩
  |succ j=>obtain⟨b,b1,b2⟩:=h6 j y (by simpa using e);exact⟨b,by simpa using b1,b2⟩
theorem K0Z{β:Type}{n:Nat}:∀(m off:Nat){k:List AVal→CT β}{s:St},((rdN n m off k).run s).Good→∃vs s',vs.length=m∧Same s s'∧(rdN n m off k).run s=(k vs).run s'∧
  ∀j v,vs[j]?=some v→∃cs e frz root rel al,s.h.get n=some (.cells cs e frz false root rel al)∧cs[off+j]?=some v
 |0,off,k,s,g=>⟨[],s,rfl,.refl s,rfl,fun j v e=>by simp at e⟩
 |
  m+1,off,k,s,g=>by
  have g:(M.bind (rdCell n off) (fun v=>(rdN n m (off+1) fun vs=>k (v::vs)).run) s).Good:=g
  obtain⟨cs,e,frz,root,rel,al,v,s1,h1,h2,h3,h4⟩:=I0p (A0a g)
  rw[A0d h3] at g
  obtain⟨vs,s2,q1,q2,q3,q4⟩:=K0Z m (off+1) g
  refine⟨v::vs,s2,by simp[q1],h4.trans q2,?_,fun j x hx=>?_⟩
  ·show M.bind (rdCell n off) (fun v=>(rdN n m (off+1) fun vs=>k (v::vs)).run) s=_
   rw[A0d h3];exact q3
  ·cases j with
   |zero=>simp at hx;subst hx;exact⟨cs,e,frz,root,rel,al,h1,h2⟩
   |
    succ j=>
    obtain⟨cs',e',frz',root',rel',al',y1,y2⟩:=q4 j x (by simpa using hx)
    rw[h4.h] at y1
    exact⟨cs',e',frz',root',rel',al',y1,by rw[show off+(j+1)=off+1+j by omega];exact y2⟩
theorem O0C{h:Tr AObj}(R:Rel E base w0 Γ h w){n off k:Nat}{cap:Option Nat}{v:Value}(c:Univ.C){cs:List (Cell Univ.C Univ.S)}{l:List (Univ.S c)}(hvr:VRel Γ (.slice n off k cap (Univ.esz c)) v)
  (hv:∀j cl,cs[j]?=some cl→∃v,(∃cs e frz root rel al,h.get n=some (.cells cs e frz false root rel al)∧cs[off+j]?=some v)∧∀u,VRel Γ v u→CRel Γt.fz cl u)
  (hcl:cs.length=k*Univ.esz c) (hx:G0W c k cs=some l) (ht:∀b ob,w.heap[b]?=some ob→Γt.fz b=some ob):CRel Γt.fz (.sl c l) v:=by
 have hp:=Univ.pos c
 obtain⟨hlen,hget⟩:=G0o k hx hcl
 obtain⟨_,i,hi,o,C0,rfl,hoo⟩:=C0a hvr
 by_cases k0:k=0
 ·subst k0
  have :l=[]:=List.length_eq_zero_iff.1 hlen
  subst this
  exact .nil c _ C0
 ·obtain rfl:=hoo (by omega)
  have hcl0:0<cs.length:=by rw[hcl];exact Nat.mul_pos (by omega) hp
  obtain⟨v0,⟨cells,e,frz,root,rel,al,hgt,_⟩,_⟩:=hv 0 _ (List.getElem?_eq_getElem hcl0)
  have hn:=(R.dom n i hi).1
  obtain⟨i',hi',hasz,_,C,fz,hb,hsz,hbd,hval,_⟩:=R.obj n _ hn hgt
  rw[hi] at hi';cases hi'
  have each:∀(j:Nat)(x:Univ.S c),l[j]?=some x→∀(q:Nat)(cl:Cell Univ.C Univ.S),(Univ.cells c x)[q]?=some cl→∃v,C[i.o+off+j*Univ.esz c+q]?=some v∧CRel Γt.fz cl v:=by
   intro j x hj q cl hq
   obtain⟨a,⟨cells',e',frz',root',rel',al',hg',hk'⟩,ha2⟩:=hv _ cl (hget j x hj q cl hq)
   rw[hgt] at hg';cases hg'
   obtain⟨v,z1,z2⟩:=hval rfl _ _ hk'
   exact⟨v,by rw[show i.o+off+j*Univ.esz c+q=i.o+(off+(j*Univ.esz c+q)) by omega];exact z1,ha2 v z2⟩
  unfold VRel V0z at hvr
  have hcap:k≤C0:=by
   obtain⟨i2,hi2,_,hvr⟩:=hvr
   rw[hi] at hi2;cases hi2
   cases cap with
   |some c0=>obtain⟨e1,e2,_⟩:=hvr;cases e1;exact e2
   |
    none=>
    rcases hvr.2 with⟨C1,e1,e2,_⟩|⟨z,_⟩
    ·cases e1;exact e2
    ·omega
  have :=CRel.sl (fz:=Γt.fz) c l i.b (i.o+off) C0 C e fz (fun j q=>(C[i.o+off+j*Univ.esz c+q]?).getD (.bool false)) (ht _ _ hb) (by omega)
   (fun j x hj q hq=>by
    have :q<(Univ.cells c x).length:=by rw[Univ.len];exact hq
    obtain⟨v,v1,_⟩:=each j x hj q _ (List.getElem?_eq_getElem this)
    rw[v1];rfl)
   (fun j x hj q cl hq=>by
    obtain⟨v,v1,v2⟩:=each j x hj q cl hq
    show CRel _ cl ((C[i.o+off+j*Univ.esz c+q]?).getD (.bool false))
    rw[v1];exact v2)
  rw[hlen] at this
  exact this
end
mutual
def AVal.flat:AVal→Bool
 |.bool _=>true
 |.int _ _=>true
 |.str _=>true
 |.sb _=>true
 |.si _ _=>true
 |.ss _=>true
 |.nilp=>true
 |.nils=>true
 |.nilm=>true
 |.nilf=>true
 |.nili=>true
 |.agg l=>AVal.flats l
 |.tup l=>AVal.flats l
 |_=>false
def AVal.flats:List AVal→Bool
 |[]=>true
 |a::l=>AVal.flat a&&AVal.flats l
end
mutual
theorem VRel.flat{Γ Γ':Gam}:∀{a:AVal}{v:Value},AVal.flat a=true→VRel Γ a v→VRel Γ' a v
 |.bool _,_,_,k=>k
 |.int _ _,_,_,k=>k
 |.str _,_,_,k=>k
 |.sb _,_,_,k=>k
 |.si _ _,_,_,k=>k
 |.ss _,_,_,k=>k
 |.nilp,_,_,k=>k
 |.nils,_,_,k=>k
 |.nilm,_,_,k=>k
 |.nilf,_,_,k=>k
 |.nili,_,_,k=>k
 |.agg _,_,l,k=>by unfold AVal.flat at l;unfold VRel at k⊢;obtain⟨vs,e,k⟩:=k;exact⟨vs,e,VRels.flat l k⟩
 |.tup _,_,l,k=>by unfold AVal.flat at l;unfold VRel at k⊢;obtain⟨vs,e,k⟩:=k;exact⟨vs,e,VRels.flat l k⟩
 |.ptr _ _,_,l,_=>by cases l
 |.slice _ _ _ _ _,_,l,_=>by cases l
 |.map _,_,l,_=>by cases l
 |.fn _ _ _,_,l,_=>by cases l
 |.iface _ _,_,l,_=>by cases l
 |.raw _,_,l,_=>by cases l
 |.any,_,l,_=>by cases l
 |.yld _,_,l,_=>by cases l
 |.dsl _ _,_,l,_=>by cases l
 |.dptr _ _ _ _,_,l,_=>by cases l
 |.asl _ _ _ _,_,l,_=>by cases l
 |.aptr _ _ _ _,_,l,_=>by cases l
 |.dmp _ _ _ _,_,l,_=>by cases l
theorem VRels.flat{Γ Γ':Gam}:∀{l:List AVal}{vs:List Value},AVal.flats l=true→VRels Γ l vs→VRels Γ' l vs
 |[],_,_,k=>k
 |
  _::_,_,l,k=>by
  unfold AVal.flats at l;rw[Bool.and_eq_true] at l
  unfold VRels at k⊢;obtain⟨v,ws,e,k1,k2⟩:=k;exact⟨v,ws,e,VRel.flat l.1 k1,VRels.flat l.2 k2⟩
end
inductive Pt where
 |i (k:IntKind)
 |b
 |s
 |d (c:Univ.C)
 |any
 |agg (l:List Pt)
 |fn (f:Nat) (l:List Pt)
 |box (c:Univ.C)
 |p (n off:Nat)
 |nf
 |nl
 |al (c:Univ.C) (n:Nat)
 |dm (k v:Univ.C)
 |mp (n:Nat)
mutual
def Pt.ty:Pt→Type
 |.i _=>Int
 |.b=>Bool
 |.s=>ByteArray
 |.d c=>List (Univ.S c)
 |.any=>AVal
 |.agg l=>Pts l
 |.fn _ l=>Pts l
 |.box c=>Univ.S c
 |.p _ _=>Unit
 |.nf=>Unit
 |.nl=>Unit
 |.al _ _=>Nat
 |.dm k v=>(Univ.S k→Option (Univ.S v))×Nat
 |.mp _=>Unit
def Pts:List Pt→Type
 |[]=>Unit
 |p::ps=>p.ty×Pts ps
end
mutual
def Pt.val:(p:Pt)→p.ty→AVal
 |.i k,x=>.si k x
 |.b,x=>.sb x
 |.s,x=>.ss x
 |.d c,x=>.dsl c x
 |.any,x=>x
 |.agg l,x=>.agg (Pts.vals l x)
 |.fn f l,x=>.fn f [] (Pts.vals l x)
 |.box c,x=>.dptr c [x] 0 0
 |.p n o,_=>.ptr n o
 |.nf,_=>.nilf
 |.nl,_=>.nils
 |.al c n,x=>.asl c n 0 x
 |.dm k v,x=>.dmp k v x.1 x.2
 |.mp n,_=>.map n
def Pts.vals:(ps:List Pt)→Pts ps→List AVal
 |[],_=>[]
 |p::ps,x=>p.val x.1::Pts.vals ps x.2
end
def I0Y(j k:IntKind):Bool:=match j,k with
 |.i64,.i64=>true
 |.u8,.u8=>true
 |.i32,.i32=>true
 |.u64,.u64=>true
 |_,_=>false
theorem T0W{j k:IntKind}(h:I0Y j k=true):j=k:=by cases j<;>cases k<;>first|rfl|cases h
theorem P0n{c' c:Univ.C}{l:List (Univ.S c')}{m:List (Univ.S c)}(h:D0V c' c l=some m):AVal.dsl c' l=AVal.dsl c m∧∀i o,AVal.dptr c' l i o=AVal.dptr c m i o:=by
 unfold D0V at h
 split at h
 ·rename_i hc _
  subst hc
  cases h;exact⟨rfl,fun _ _=>rfl⟩
 ·cases h
def T0j{k' v':Univ.C}(k v:Univ.C)(m:Univ.S k'→Option (Univ.S v')):Option (Univ.S k→Option (Univ.S v)):=match Univ.dec k' k with
 |
  .isTrue h=>(match Univ.dec v' v with
  |.isTrue h2=>some (h▸h2▸m)
  |.isFalse _=>none)
 |.isFalse _=>none
theorem L0j{k' v' k v:Univ.C}{m:Univ.S k'→Option (Univ.S v')}{m2:Univ.S k→Option (Univ.S v)}(h:T0j k v m=some m2):
  (∀n,AVal.dmp k' v' m n=AVal.dmp k v m2 n)∧(∀n,DObj.map k' v' m n=DObj.map k v m2 n):=by
 unfold T0j at h
 split at h
 ·rename_i hk _
  split at h
  ·rename_i hv _
   subst hk;subst hv
   cases h;exact⟨fun _=>rfl,fun _=>rfl⟩
  ·cases h
 ·cases h
def a0b{k' v':Univ.C}(k v:Univ.C)(m:Univ.S k'→Option (List (Univ.S v')))(l:Option (Univ.S k')):Option (Univ.S k→Option (List (Univ.S v))):=match Univ.dec k' k with
 |
  .isTrue h=>(match Univ.dec v' v with
  |
   .isTrue h2=>(match l with
   |none=>some (h▸h2▸m)
   |some _=>none)
  |.isFalse _=>none)
 |.isFalse _=>none
theorem U0w{k' v' k v:Univ.C}{m:Univ.S k'→Option (List (Univ.S v'))}{l:Option (Univ.S k')}{m2:Univ.S k→Option (List (Univ.S v))}(h:a0b k v m l=some m2):∀n,AObj.mps k' v' m n l=AObj.mps k v m2 n none:=by
 unfold a0b at h
 split at h
 ·rename_i hk _
  split at h
  ·rename_i hv _
   subst hk;subst hv
   split at h
   ·cases h;exact fun _=>rfl
   ·cases h
  ·cases h
 ·cases h
def d0i{k' v':Univ.C}(k v:Univ.C)(m:(Univ.S k'→Option (Univ.S v'))×Option (Univ.S k'×Univ.S v')):Option ((Univ.S k→Option (Univ.S v))×Option (Univ.S k×Univ.S v)):=match Univ.dec k' k with
 |
  .isTrue h=>(match Univ.dec v' v with
  |.isTrue h2=>some (h▸h2▸m)
  |.isFalse _=>none)
 |.isFalse _=>none
theorem a0i{k' v' k v:Univ.C}{m:(Univ.S k'→Option (Univ.S v'))×Option (Univ.S k'×Univ.S v')}{m2:(Univ.S k→Option (Univ.S v))×Option (Univ.S k×Univ.S v)}(h:d0i k v m=some m2):
  DObj.iter k' v' m.1 m.2=DObj.iter k v m2.1 m2.2:=by
 unfold d0i at h
 split at h
 ·rename_i hk _
  split at h
  ·rename_i hv _
   subst hk;subst hv
   cases h;rfl
  ·cases h
 ·cases h
def f0q{α:Type}(l:Option (List α)):Option α:=match l with
 |
  some l=>(match l with
  |[x]=>some x
  |_=>none)
 |none=>none
mutual
noncomputable def Pt.ext:(p:Pt)→AVal→Option p.ty
 |
  .i k,a=>(match a with
  |.si j x=>sel (I0Y j k) (some x) none
  |_=>none)
 |
  .b,a=>(match a with
  |.sb x=>some x
  |_=>none)
 |
  .s,a=>(match a with
  |.ss x=>some x
  |_=>none)
 |
  .d c,a=>(match a with
  |.dsl c' l=>D0V c' c l
  |_=>none)
 |.any,a=>some a
 |
  .agg l,a=>(match a with
  |.agg cs=>Pts.ext l cs
  |_=>none)
 |
  .fn f l,a=>(match a with
  |
   .fn g fs cs=>(match fs with
   |[]=>sel (Nat.beq g f) (Pts.ext l cs) none
   |_=>none)
  |_=>none)
 |
  .box c,a=>(match a with
  |.dptr c' l i o=>sel (Nat.beq i 0&&Nat.beq o 0) (f0q (D0V c' c l)) none
  |_=>none)
 |
  .p n o,a=>(match a with
  |.ptr m q=>sel (Nat.beq m n&&Nat.beq q o) (some ()) none
  |_=>none)
 |
  .nf,a=>(match a with
  |.nilf=>some ()
  |_=>none)
 |
  .nl,a=>(match a with
  |.nils=>some ()
  |_=>none)
 |
  .al c n,a=>(match a with
  |.asl c' m off k=>sel (F0r c' c&&Nat.beq m n&&Nat.beq off 0) (some k) none
  |_=>none)
 |
  .dm k v,a=>(match a with
  |
   .dmp _ _ m n=>(match T0j k v m with
   |some m=>some (m,n)
   |none=>none)
  |_=>none)
 |
  .mp n,a=>(match a with
  |.map m=>sel (Nat.beq m n) (some ()) none
  |_=>none)
noncomputable def Pts.ext:(ps:List Pt)→List AVal→Option (Pts ps)
 |
  [],l=>(match l with
  |[]=>some ()
  |_=>none)
 |
  p::ps,l=>(match l with
  |[]=>none
  |
   a::l=>(match p.ext a with
   |none=>none
   |
    some x=>(match Pts.ext ps l with
    |none=>none
    |some y=>some (x,y))))
end
mutual
theorem Pt.ext_eq:∀(p:Pt){a:AVal}{x:p.ty},p.ext a=some x→a=p.val x
 |
  .i k,a,x,h=>by
  unfold Pt.ext at h
  cases a<;>simp only[reduceCtorEq] at h
  rename_i j y
  cases hk:I0Y j k with
  |false=>rw[hk] at h;cases h
  |
   true=>
   rw[hk] at h
   cases h
   rw[T0W hk]
   unfold Pt.val;rfl
 |
  .b,a,x,h=>by
  unfold Pt.ext at h
  cases a<;>simp only[reduceCtorEq] at h
  cases h;unfold Pt.val;rfl
 |
  .s,a,x,h=>by
  unfold Pt.ext at h
  cases a<;>simp only[reduceCtorEq] at h
  cases h;unfold Pt.val;rfl
 |
  .d c,a,x,h=>by
  unfold Pt.ext at h
  cases a<;>simp only[reduceCtorEq] at h
  unfold Pt.val;exact(P0n h).1
 |
  .any,a,x,h=>by
  unfold Pt.ext at h
  cases h;first|rfl|simp only[Pt.val]
 |
  .agg l,a,x,h=>by
  unfold Pt.ext at h
  cases a<;>simp only[reduceCtorEq] at h
  unfold Pt.val
  rw[Pts.ext_eq l h]
 |
  .fn f l,a,x,h=>by
  unfold Pt.ext at h
  cases a<;>simp only[reduceCtorEq] at h
  rename_i g fs cs
  cases fs with
  |cons _ _=>cases h
  |
   nil=>
   simp only[] at h
   cases hk:Nat.beq g f with
   |false=>rw[hk] at h;cases h
   |
    true=>
    rw[hk] at h
    have e:g=f:=A0E hk
    unfold Pt.val
    rw[e,Pts.ext_eq l h]
 |
  .box c,a,x,h=>by
  unfold Pt.ext at h
  cases a<;>simp only[reduceCtorEq] at h
  rename_i c' l i o
  cases hk:(Nat.beq i 0&&Nat.beq o 0) with
  |false=>rw[hk] at h;cases h
  |
   true=>
   rw[hk,A0e] at h
   rw[Bool.and_eq_true] at hk
   rw[A0E hk.1,A0E hk.2]
   cases hc:D0V c' c l with
   |none=>rw[hc] at h;cases h
   |
    some m=>
    rw[hc] at h
    rw[(P0n hc).2]
    cases m with
    |nil=>cases h
    |
     cons y m=>
     cases m with
     |nil=>cases h;unfold Pt.val;rfl
     |cons _ _=>cases h
 |
  .p n o,a,x,h=>by
  unfold Pt.ext at h
  cases a<;>simp only[reduceCtorEq] at h
  rename_i m q
  cases hk:(Nat.beq m n&&Nat.beq q o) with
  |false=>rw[hk] at h;cases h
  |
   true=>
   rw[Bool.and_eq_true] at hk
   unfold Pt.val
   rw[A0E hk.1,A0E hk.2]
 |
  .nf,a,x,h=>by
  unfold Pt.ext at h
  cases a<;>simp only[reduceCtorEq] at h
  unfold Pt.val;rfl
 |
  .nl,a,x,h=>by
  unfold Pt.ext at h
  cases a<;>simp only[reduceCtorEq] at h
  unfold Pt.val;rfl
 |
  .al c n,a,x,h=>by
  unfold Pt.ext at h
  cases a<;>simp only[reduceCtorEq] at h
  rename_i c' m off k
  cases hk:(F0r c' c&&Nat.beq m n&&Nat.beq off 0) with
  |false=>rw[hk] at h;cases h
  |
   true=>
   rw[hk] at h
   cases h
   simp only[Bool.and_eq_true] at hk
   unfold Pt.val
   rw[G0n hk.1.1,A0E hk.1.2,A0E hk.2]
 |
  .dm k v,a,x,h=>by
  unfold Pt.ext at h
  cases a<;>simp only[reduceCtorEq] at h
  rename_i k' v' m n
  cases hc:T0j k v m with
  |none=>rw[hc] at h;cases h
  |
   some m2=>
   rw[hc] at h
   cases h
   show AVal.dmp k' v' m n=.dmp k v m2 n
   exact(L0j hc).1 n
 |
  .mp n,a,x,h=>by
  unfold Pt.ext at h
  cases a<;>simp only[reduceCtorEq] at h
  rename_i m
  cases hk:Nat.beq m n with
  |false=>rw[hk] at h;cases h
  |true=>unfold Pt.val;rw[A0E hk]
theorem Pts.ext_eq:∀(ps:List Pt){l:List AVal}{x:Pts ps},Pts.ext ps l=some x→l=Pts.vals ps x
 |
  [],l,x,h=>by
  unfold Pts.ext at h
  cases l with
  |nil=>unfold Pts.vals;rfl
  |cons a l=>cases h
 |
  p::ps,l,x,h=>by
  unfold Pts.ext at h
  cases l with
  |nil=>cases h
  |
   cons a l=>
   simp only[] at h
   cases h1:p.ext a with
   |none=>rw[h1] at h;cases h
   |
    some y=>
    rw[h1] at h
    simp only[] at h
    cases h2:Pts.ext ps l with
    |none=>rw[h2] at h;cases h
    |
     some z=>
     rw[h2] at h
     cases h
     first
      |(show a::l=p.val y::Pts.vals ps z;rw[Pt.ext_eq p h1,Pts.ext_eq ps h2])
      |(simp only[Pts.vals];rw[Pt.ext_eq p h1,Pts.ext_eq ps h2])
end
noncomputable def B0T{α β:Type}(e:AVal→Option α)(a:AVal)(k:α→CT β):CT β:=sel (AVal.low 0 a) (okOr (e a.sym) k) .fail
noncomputable def dGet{β:Type}(c:Univ.C)(n off len esz:Nat)(k:List (Univ.S c)→CT β):CT β:=
 sel (Nat.beq esz (Univ.esz c)) (rdN n (len*esz) off fun vs=>R0r vs fun vs=>okOr (cellsOf vs) fun cs=>sel (Nat.beq (Go.Ev.len cs) (len*esz)) (okOr (G0W c len cs) k) .fail) .fail
noncomputable def c0i(c:Univ.C):Option Univ.C:=match(Univ.cells c (Univ.dflt c)).map Cell.kd with
 |[]=>none
 |
  x::l=>match l with
  |
   []=>(match x with
   |.sl d=>some d
   |_=>none)
  |_=>none
noncomputable def resB{β:Type}(o:Option Univ.C)(a:AVal)(k:AVal→CT β):CT β:=match o with
 |none=>resA a k
 |
  some c=>match a with
  |.slice n off len _ esz=>dGet c n off len esz fun l=>k (.dsl c l)
  |a=>resA a k
noncomputable def X0O{β:Type}(o:Option Univ.C):List AVal→(List AVal→CT β)→CT β
 |[],k=>k []
 |a::l,k=>resB o a fun x=>X0O o l fun xs=>k (x::xs)
section
variable{P:Program}{E:Env}{base:Bs}{w0:World}{Γ Γt:Gam}{w:World}
theorem Z0a{β:Type}{s0:St}(R:Rel E base w0 Γ s0.h w)(hag:C0w 0 Γ Γt)(ht:∀b ob,w.heap[b]?=some ob→Γt.fz b=some ob)(c:Univ.C){n off len esz:Nat}{cap:Option Nat}{k:List (Univ.S c)→CT β}{s:St}(hs:s.h=s0.h)
  (g:((dGet c n off len esz k).run s).Good):∃x s',Same s s'∧(dGet c n off len esz k).run s=(k x).run s'∧∀v,VRel Γ (.slice n off len cap esz) v→CRel Γt.fz (.sl c x) v:=by
 unfold dGet at g⊢
 cases hes:Nat.beq esz (Univ.esz c) with
 |false=>rw[hes] at g;exact g.elim
 |true=>
 rw[hes,A0e] at g
 have hes:=Nat.eq_of_beq_eq_true hes
 subst hes
 rw[A0e]
 obtain⟨vs,s1,q1,q2,q3,q4⟩:=K0Z (len*Univ.esz c) off g
 rw[q3] at g⊢
 obtain⟨xs,s2,r1,r2,r3⟩:=K0d R hag ht (q2.h.trans hs) g
 rw[r2] at g⊢
 obtain⟨cs,h1,h2⟩:=B0t g
 rw[h2] at g⊢
 cases hcl:Nat.beq (Go.Ev.len cs) (len*Univ.esz c) with
 |false=>rw[hcl] at g;exact g.elim
 |true=>
 rw[hcl,A0e] at g
 rw[A0e]
 have hcl:=Nat.eq_of_beq_eq_true hcl
 rw[A0O] at hcl
 obtain⟨x,h3,h4⟩:=B0t g
 rw[h4]
 refine⟨x,s2,q2.trans r1,rfl,fun v hv=>?_⟩
 rw[hs] at q4
 obtain⟨_,hcs⟩:=C0M h1
 refine O0C R c hv (fun j cl e=>?_) hcl h3 ht
 obtain⟨a,a1,a2⟩:=hcs j cl e
 obtain⟨b,b1,b2⟩:=r3 j a a1
 exact⟨b,q4 j b b1,b2 cl a2⟩
theorem Y0T{β:Type}{s0:St}(R:Rel E base w0 Γ s0.h w)(hag:C0w 0 Γ Γt)(ht:∀b ob,w.heap[b]?=some ob→Γt.fz b=some ob)(o:Option Univ.C){a:AVal}{k:AVal→CT β}{s:St}(hs:s.h=s0.h)(g:((resB o a k).run s).Good):
  ∃x s',Same s s'∧(resB o a k).run s=(k x).run s'∧∀cl,F0B x=some cl→∀u,VRel Γ a u→CRel Γt.fz cl u:=by
 unfold resB at g⊢
 cases o with
 |none=>exact M0r R hag ht hs g
 |
  some c=>
  simp only[] at g⊢
  split at g
  ·rename_i n off len cap esz
   obtain⟨x,s',h1,h2,h3⟩:=Z0a (cap:=cap) R hag ht c hs g
   exact⟨.dsl c x,s',h1,h2,fun cl e u hu=>by cases e;exact h3 u hu⟩
  ·exact M0r R hag ht hs g
theorem N0F{β:Type}{s0:St}(R:Rel E base w0 Γ s0.h w)(hag:C0w 0 Γ Γt)(ht:∀b ob,w.heap[b]?=some ob→Γt.fz b=some ob)(o:Option Univ.C):∀{l:List AVal}{k:List AVal→CT β}{s:St},s.h=s0.h→((X0O o l k).run s).Good→
  ∃xs s',Same s s'∧(X0O o l k).run s=(k xs).run s'∧∀(j:Nat) x,xs[j]?=some x→∃a,l[j]?=some a∧∀cl,F0B x=some cl→∀u,VRel Γ a u→CRel Γt.fz cl u
 |[],k,s,hs,g=>⟨[],s,.refl s,rfl,fun j x e=>by simp at e⟩
 |
  a::l,k,s,hs,g=>by
  unfold X0O at g⊢
  obtain⟨x,s1,h1,h2,h3⟩:=Y0T R hag ht o hs g
  rw[h2] at g⊢
  obtain⟨xs,s2,h4,h5,h6⟩:=N0F R hag ht o (h1.h.trans hs) g
  refine⟨x::xs,s2,h1.trans h4,h5,fun j y e=>?_⟩
  cases j with
  |zero=>simp at e;subst e;exact⟨a,rfl,h3⟩
  |succ j=>obtain⟨b,b1,b2⟩:=h6 j y (by simpa using e);exact⟨b,by simpa using b1,b2⟩
end
mutual
noncomputable def Pt.get{β:Type}:(p:Pt)→AVal→(p.ty→CT β)→CT β
 |
  .fn f l,a,k=>(match a with
  |
   .fn g fs cs=>(match fs with
   |[]=>sel (Nat.beq g f) (Pts.get l cs k) .fail
   |_=>.fail)
  |_=>.fail)
 |
  .box c,a,k=>(match a with
  |.ptr n off=>rdN n (Univ.esz c) off fun vs=>R0r vs fun vs=>okOr (cellsOf vs) fun cs=>okOr (Univ.unc c cs) k
  |a=>B0T (Pt.ext (.box c)) a k)
 |
  .d c,a,k=>(match a with
  |.nils=>k []
  |.asl c' n off len=>.rda n fun A=>okOr (D0V A.c c' A.l) fun l=>okOr (D0V c' c (subL l off len)) k
  |.slice n off len _ esz=>sel (Nat.beq esz (Univ.esz c)) (rdN n (len*esz) off fun vs=>X0O (c0i c) vs fun vs=>okOr (cellsOf vs) fun cs=>sel (Nat.beq (Go.Ev.len cs) (len*esz)) (okOr (G0W c len cs) k) .fail) .fail
  |a=>B0T (Pt.ext (.d c)) a k)
 |.i j,a,k=>B0T (Pt.ext (.i j)) a k
 |.b,a,k=>B0T (Pt.ext .b) a k
 |.s,a,k=>B0T (Pt.ext .s) a k
 |.any,a,k=>B0T (Pt.ext .any) a k
 |
  .agg l,a,k=>(match a with
  |.agg cs=>Pts.get l cs k
  |_=>.fail)
 |.p n o,a,k=>B0T (Pt.ext (.p n o)) a k
 |.nf,a,k=>B0T (Pt.ext .nf) a k
 |.nl,a,k=>B0T (Pt.ext .nl) a k
 |.al c n,a,k=>B0T (Pt.ext (.al c n)) a k
 |
  .dm kc vc,a,k=>(match a with
  |
   .map n=>.rdd n fun d=>(match d with
   |.map _ _ m c=>okOr (T0j kc vc m) fun m=>k (m,c)
   |_=>.fail)
  |a=>B0T (Pt.ext (.dm kc vc)) a k)
 |.mp n,a,k=>B0T (Pt.ext (.mp n)) a k
noncomputable def Pts.get{β:Type}:(ps:List Pt)→List AVal→(Pts ps→CT β)→CT β
 |
  [],l,k=>(match l with
  |[]=>k ()
  |_=>.fail)
 |
  p::ps,l,k=>(match l with
  |[]=>.fail
  |a::l=>Pt.get p a fun x=>Pts.get ps l fun y=>k (x,y))
end
section
variable{P:Program}{E:Env}{base:Bs}{w0:World}{Γ Γt:Gam}{w:World}
theorem A0p{β:Type}(p:Pt)(hag:C0w 0 Γ Γt){a:AVal}{v:Value}{k:p.ty→CT β}{s:St}(hv:VRel Γ a v)(g:((B0T p.ext a k).run s).Good):
  ∃x s',VRel Γt (p.val x) v∧Same s s'∧(B0T p.ext a k).run s=(k x).run s':=by
 unfold B0T at g⊢
 cases hl:AVal.low 0 a with
 |false=>rw[hl] at g;exact g.elim
 |
  true=>
  rw[hl,A0e] at g
  rw[A0e]
  obtain⟨x,h1,h2⟩:=B0t g
  refine⟨x,s,?_,.refl s,by rw[h2]⟩
  rw[←Pt.ext_eq p h1]
  exact(hv.agree hag hl).sym
theorem c0M{β:Type}{s0:St}(c:Univ.C)(R:Rel E base w0 Γ s0.h w)(hag:C0w 0 Γ Γt){n off:Nat}{v:Value}{k:Univ.S c→CT β}{s:St}
  (ht:AVal.low 0 (.ptr n off)=true∨∀b ob,w.heap[b]?=some ob→Γt.fz b=some ob) (hs:s.h=s0.h) (hv:VRel Γ (.ptr n off) v)
  (g:((rdN n (Univ.esz c) off fun vs=>R0r vs fun vs=>okOr (cellsOf vs) fun cs=>okOr (Univ.unc c cs) k).run s).Good):
  ∃x s',VRel Γt (.dptr c [x] 0 0) v∧Same s s'∧(rdN n (Univ.esz c) off fun vs=>R0r vs fun vs=>okOr (cellsOf vs) fun cs=>okOr (Univ.unc c cs) k).run s=(k x).run s':=by
 rcases ht with ht|ht
 ·simp[AVal.low] at ht
 obtain⟨vs,s',q1,q2,q3,q4⟩:=K0Z (Univ.esz c) off g
 rw[q3] at g⊢
 obtain⟨xs,s2,r1,r2,r3⟩:=K0d R hag ht (q2.h.trans hs) g
 rw[r2] at g⊢
 obtain⟨cs,h1,h2⟩:=B0t g
 rw[h2] at g⊢
 obtain⟨x,h3,h4⟩:=B0t g
 rw[h4]
 refine⟨x,s2,?_,q2.trans r1,rfl⟩
 unfold VRel at hv
 obtain⟨i,hi,rfl⟩:=hv
 unfold VRel
 rw[hs] at q4
 obtain⟨_,hcs⟩:=C0M h1
 refine⟨by simp,i.b,i.o+off,1,U0F R hi c (fun j cl e=>?_) h3 (fun ob hb=>ht _ _ hb),by simp⟩
 obtain⟨a,a1,a2⟩:=hcs j cl e
 obtain⟨b,b1,b2⟩:=r3 j a a1
 exact⟨b,q4 j b b1,b2 cl a2⟩
mutual
theorem Pt.get_good{β:Type}{s0:St}(R:Rel E base w0 Γ s0.h w)(hag:C0w 0 Γ Γt):∀(p:Pt){a:AVal}{v:Value}{k:p.ty→CT β}{s:St},
  (AVal.low 0 a=true∨∀b ob,w.heap[b]?=some ob→Γt.fz b=some ob)→s.h=s0.h→VRel Γ a v→((p.get a k).run s).Good→∃x s',VRel Γt (p.val x) v∧Same s s'∧(p.get a k).run s=(k x).run s'
 |
  .fn f l,a,v,k,s,ht,hs,hv,g=>by
  unfold Pt.get at g⊢
  cases a<;>simp only[] at g⊢<;>first
   |exact g.elim
   |skip
  rename_i h fs cs
  cases fs with
  |cons _ _=>exact g.elim
  |
   nil=>
   simp only[] at g⊢
   cases hk:Nat.beq h f with
   |false=>rw[hk] at g;exact g.elim
   |
    true=>
    rw[hk,A0e] at g
    rw[A0e]
    have e:h=f:=A0E hk
    unfold VRel at hv
    obtain⟨vs,ws,rfl,q1,q2⟩:=hv
    obtain⟨x,s',z1,z2,z3⟩:=Pts.get_good R hag l (ht.imp (fun h=>by unfold AVal.low at h;rw[Bool.and_eq_true] at h;exact h.2) id) hs q2 g
    refine⟨x,s',?_,z2,z3⟩
    show VRel Γt (.fn f [] (Pts.vals l x)) _
    unfold VRel
    rw[e]
    refine⟨vs,ws,rfl,?_,z1⟩
    rw[q1.nil_inv];exact VRels.nil
 |
  .box c,a,v,k,s,ht,hs,hv,g=>by
  unfold Pt.get at g⊢
  split at g
  case h_2=>exact A0p (.box c) hag hv g
  case h_1 n off=>exact c0M c R hag ht hs hv g
 |
  .d c,a,v,k,s,ht,hs,hv,g=>by
  unfold Pt.get at g⊢
  split at g
  case h_4=>exact A0p (.d c) hag hv g
  case h_3 n off len cap esz=>
   rcases ht with ht|ht
   ·simp[AVal.low] at ht
   cases hes:Nat.beq esz (Univ.esz c) with
   |false=>rw[hes] at g;exact g.elim
   |true=>
   rw[hes,A0e] at g
   have hes:=Nat.eq_of_beq_eq_true hes
   subst hes
   rw[A0e]
   obtain⟨vs,s1,q1,q2,q3,q4⟩:=K0Z (len*Univ.esz c) off g
   rw[q3] at g⊢
   obtain⟨xs,s2,r1,r2,r3⟩:=N0F R hag ht (c0i c) (q2.h.trans hs) g
   rw[r2] at g⊢
   obtain⟨cs,h1,h2⟩:=B0t g
   rw[h2] at g⊢
   cases hcl:Nat.beq (Go.Ev.len cs) (len*Univ.esz c) with
   |false=>rw[hcl] at g;exact g.elim
   |true=>
   rw[hcl,A0e] at g
   rw[A0e]
   have hcl:=Nat.eq_of_beq_eq_true hcl
   rw[A0O] at hcl
   obtain⟨x,h3,h4⟩:=B0t g
   rw[h4]
   refine⟨x,s2,?_,q2.trans r1,rfl⟩
   rw[hs] at q4
   obtain⟨_,hcs⟩:=C0M h1
   show VRel Γt (.dsl c x) v
   unfold VRel
   refine O0C R c hv (fun j cl e=>?_) hcl h3 ht
   obtain⟨a,a1,a2⟩:=hcs j cl e
   obtain⟨b,b1,b2⟩:=r3 j a a1
   exact⟨b,q4 j b b1,b2 cl a2⟩
  case h_1=>
   refine⟨[],s,?_,.refl s,rfl⟩
   unfold VRel at hv
   subst hv
   show VRel Γt (.dsl c []) _
   unfold VRel
   exact .nil c none 0
  case h_2 c' n off len=>
   rcases ht with ht|ht
   ·simp[AVal.low] at ht
   have g:(M.bind (rdArr n) (fun A=>(okOr (D0V A.c c' A.l) fun l=>okOr (D0V c' c (subL l off len)) k).run) s).Good:=g
   show∃x s',VRel Γt ((Pt.d c).val x) v∧Same s s'∧M.bind (rdArr n) (fun A=>(okOr (D0V A.c c' A.l) fun l=>okOr (D0V c' c (subL l off len)) k).run) s=(k x).run s'
   obtain⟨c2,l2,s1,ho,h2,h3⟩:=H0r (A0a g)
   rw[A0d h2] at g⊢
   simp only[] at g⊢
   obtain⟨m,h4,h5⟩:=B0t g
   rw[h5] at g⊢
   have :=D0U h4
   cases this
   obtain⟨m2,h6,h7⟩:=B0t g
   rw[h7]
   have e:=(P0n h6).1
   refine⟨m2,s1,?_,h3,rfl⟩
   rw[hs] at ho
   have :=L0b R ho hv (fun i _ ob hb=>ht _ _ hb) hag.fz
   show VRel Γt (.dsl c m2) v
   rw[←e]
   unfold VRel
   exact this
 |.i j,a,v,k,s,ht,hs,hv,g=>by unfold Pt.get at g⊢;exact A0p (.i j) hag hv g
 |.b,a,v,k,s,ht,hs,hv,g=>by unfold Pt.get at g⊢;exact A0p .b hag hv g
 |.s,a,v,k,s,ht,hs,hv,g=>by unfold Pt.get at g⊢;exact A0p .s hag hv g
 |.any,a,v,k,s,ht,hs,hv,g=>by unfold Pt.get at g⊢;exact A0p .any hag hv g
 |
  .agg l,a,v,k,s,ht,hs,hv,g=>by
  unfold Pt.get at g⊢
  cases a<;>simp only[] at g⊢<;>first
   |exact g.elim
   |skip
  rename_i cs
  unfold VRel at hv
  obtain⟨vs,rfl,q1⟩:=hv
  obtain⟨x,s',z1,z2,z3⟩:=Pts.get_good R hag l (ht.imp (fun h=>by unfold AVal.low at h;exact h) id) hs q1 g
  refine⟨x,s',?_,z2,z3⟩
  show VRel Γt (.agg (Pts.vals l x)) _
  unfold VRel
  exact⟨vs,rfl,z1⟩
 |.p n o,a,v,k,s,ht,hs,hv,g=>by unfold Pt.get at g⊢;exact A0p (.p n o) hag hv g
 |.nf,a,v,k,s,ht,hs,hv,g=>by unfold Pt.get at g⊢;exact A0p .nf hag hv g
 |.nl,a,v,k,s,ht,hs,hv,g=>by unfold Pt.get at g⊢;exact A0p .nl hag hv g
 |.al c n,a,v,k,s,ht,hs,hv,g=>by unfold Pt.get at g⊢;exact A0p (.al c n) hag hv g
 |
  .dm kc vc,a,v,k,s,ht,hs,hv,g=>by
  unfold Pt.get at g⊢
  split at g
  case h_2=>exact A0p (.dm kc vc) hag hv g
  case h_1 n=>
   rcases ht with ht|ht
   ·simp[AVal.low] at ht
   obtain⟨d,s1,ho,h2,h3⟩:=H0B (A0a (m:=rdDat n) g)
   have e:∀K:DObj→CT β,(CT.rdd n K).run s=(K d).run s1:=fun K=>A0d (f:=fun d=>(K d).run) h2
   rw[e] at g⊢
   cases d with
   |iter _ _ _ _=>exact g.elim
   |
    map k' v' m c=>
    simp only[] at g⊢
    obtain⟨m2,h4,h5⟩:=B0t g
    rw[h5]
    refine⟨(m2,c),s1,?_,h3,rfl⟩
    show VRel Γt (.dmp kc vc m2 c) v
    rw[←(L0j h4).1 c]
    rw[hs] at ho
    unfold VRel at hv⊢
    obtain⟨i,hi,rfl⟩:=hv
    obtain⟨i',hi',_,ob,hb,ents,clock,rfl,hM⟩:=R.obj n _ (R.dom n i hi).1 ho
    rw[hi] at hi';cases hi'
    exact⟨i.b,ents,clock,rfl,ht _ _ hb,hM.mono hag.fz⟩
 |.mp n,a,v,k,s,ht,hs,hv,g=>by unfold Pt.get at g⊢;exact A0p (.mp n) hag hv g
theorem Pts.get_good{β:Type}{s0:St}(R:Rel E base w0 Γ s0.h w)(hag:C0w 0 Γ Γt):∀(ps:List Pt){as:List AVal}{vs:List Value}{k:Pts ps→CT β}{s:St},
  (AVal.lows 0 as=true∨∀b ob,w.heap[b]?=some ob→Γt.fz b=some ob)→s.h=s0.h→VRels Γ as vs→((Pts.get ps as k).run s).Good→∃x s',VRels Γt (Pts.vals ps x) vs∧Same s s'∧(Pts.get ps as k).run s=(k x).run s'
 |
  [],as,vs,k,s,ht,hs,hv,g=>by
  unfold Pts.get at g⊢
  cases as with
  |cons _ _=>exact g.elim
  |nil=>exact⟨(),s,by show VRels Γt [] vs;rw[hv.nil_inv];exact VRels.nil,.refl s,rfl⟩
 |
  p::ps,as,vs,k,s,ht,hs,hv,g=>by
  unfold Pts.get at g⊢
  cases as with
  |nil=>exact g.elim
  |
   cons a as=>
   simp only[] at g⊢
   obtain⟨v,ws,rfl,h1,h2⟩:=hv.cons_inv
   obtain⟨x,s1,q1,q2,q3⟩:=Pt.get_good R hag p (ht.imp (fun h=>by unfold AVal.lows at h;rw[Bool.and_eq_true] at h;exact h.1) id) hs h1 g
   rw[q3] at g⊢
   obtain⟨y,s2,z1,z2,z3⟩:=Pts.get_good R hag ps (ht.imp (fun h=>by unfold AVal.lows at h;rw[Bool.and_eq_true] at h;exact h.2) id) (q2.h.trans hs) h2 g
   refine⟨(x,y),s2,?_,q2.trans z2,z3⟩
   show VRels Γt (p.val x::Pts.vals ps y) _
   exact VRels.cons q1 z1
end
end
noncomputable def c0I(c' c:Univ.C):Bool:=match Univ.dec c' c with
 |.isTrue _=>true
 |.isFalse _=>false
mutual
noncomputable def Pt.fits:Pt→AVal→Bool
 |
  .i k,a=>(match a with
  |.int j _=>I0Y j k
  |.si j _=>I0Y j k
  |_=>false)
 |
  .b,a=>(match a with
  |.bool _=>true
  |.sb _=>true
  |_=>false)
 |
  .s,a=>(match a with
  |.str _=>true
  |.ss _=>true
  |_=>false)
 |
  .d c,a=>(match a with
  |.nils=>true
  |.dsl c' _=>c0I c' c
  |.asl c' _ _ _=>c0I c' c
  |.slice _ _ _ _ esz=>Nat.beq esz (Univ.esz c)
  |_=>false)
 |.any,_=>true
 |
  .agg l,a=>(match a with
  |.agg cs=>Pts.fits l cs
  |_=>false)
 |
  .fn f l,a=>(match a with
  |.fn g _ cs=>sel (Nat.beq g f) (Pts.fits l cs) false
  |_=>false)
 |
  .box c,a=>(match a with
  |.ptr _ _=>true
  |.dptr c' _ _ _=>c0I c' c
  |_=>false)
 |.p _ _,_=>false
 |.al _ _,_=>false
 |.mp _,_=>false
 |
  .dm _ _,a=>(match a with
  |.map _=>true
  |.dmp _ _ _ _=>true
  |_=>false)
 |
  .nf,a=>(match a with
  |.nilf=>true
  |_=>false)
 |
  .nl,a=>(match a with
  |.nils=>true
  |_=>false)
noncomputable def Pts.fits:List Pt→List AVal→Bool
 |
  [],l=>(match l with
  |[]=>true
  |_=>false)
 |
  p::ps,l=>(match l with
  |[]=>false
  |a::l=>sel (p.fits a) (Pts.fits ps l) false)
end
inductive Po where
 |cells (ps:List Pt) (e:TypeId) (root:Nat) (rel:Nat) (al:List (Nat×Nat×Nat))
 |sit
 |arr (c:Univ.C)
 |map (k v:Univ.C)
 |iter (k v:Univ.C)
 |mps (k v:Univ.C)
 |gone
def Po.ty(o:Po):Type:=match o with
 |.cells ps _ _ _ _=>Pts ps
 |.sit=>List UInt8×Nat
 |.arr c=>List (Univ.S c)
 |.map k v=>(Univ.S k→Option (Univ.S v))×Nat
 |.iter k v=>(Univ.S k→Option (Univ.S v))×Option (Univ.S k×Univ.S v)
 |.mps k v=>(Univ.S k→Option (List (Univ.S v)))×Nat
 |.gone=>Unit
def Po.obj(o:Po):o.ty→AObj:=match o with
 |.cells ps e root rel al=>fun x=>.cells (Pts.vals ps x) e false false root rel al
 |.sit=>fun x=>.siter true x.1 x.2
 |.arr c=>fun l=>.arr c l
 |.map k v=>fun x=>.dat (.map k v x.1 x.2)
 |.iter k v=>fun m=>.dat (.iter k v m.1 m.2)
 |.mps k v=>fun x=>.mps k v x.1 x.2 none
 |.gone=>fun _=>.done
noncomputable def Po.ext(o:Po)(a:AObj):Option o.ty:=match o with
 |
  .cells ps e0 root0 rel0 al0=>(match a with
  |.cells cs e frz dead root rel al=>sel (Nat.beq e e0&&not frz&&not dead&&Nat.beq root root0&&Nat.beq rel rel0&&Q0m al al0) (Pts.ext ps cs) none
  |_=>none)
 |
  .sit=>(match a with
  |.siter y l p=>sel y (some (l,p)) none
  |_=>none)
 |
  .arr c=>(match a with
  |.arr c' l=>D0V c' c l
  |_=>none)
 |
  .map k v=>(match a with
  |
   .dat d=>(match d with
   |
    .map _ _ m n=>(match T0j k v m with
    |some m=>some (m,n)
    |none=>none)
   |_=>none)
  |_=>none)
 |
  .iter k v=>(match a with
  |
   .dat d=>(match d with
   |.iter _ _ m cur=>d0i k v (m,cur)
   |_=>none)
  |_=>none)
 |
  .mps k v=>(match a with
  |
   .mps _ _ m n l=>(match a0b k v m l with
   |some m=>some (m,n)
   |none=>none)
  |_=>none)
 |
  .gone=>(match a with
  |.done=>some ()
  |_=>none)
theorem Po.ext_eq(o:Po){a:AObj}{x:o.ty}(h:o.ext a=some x):a=o.obj x:=by
 cases o with
 |
  cells ps e0 root0 rel0 al0=>
  unfold Po.ext at h
  cases a<;>simp only[reduceCtorEq] at h
  rename_i cs e frz dead root rel al
  cases hb:(Nat.beq e e0&&not frz&&not dead&&Nat.beq root root0&&Nat.beq rel rel0&&Q0m al al0) with
  |false=>rw[hb] at h;cases h
  |
   true=>
   rw[hb] at h
   have h:Pts.ext ps cs=some x:=h
   simp only[Bool.and_eq_true,Bool.not_eq_true'] at hb
   obtain⟨⟨⟨⟨⟨h1,h2⟩,h3⟩,h4⟩,h5⟩,h6⟩:=hb
   show _=AObj.cells (Pts.vals ps x) e0 false false root0 rel0 al0
   rw[←Pts.ext_eq _ h,A0E h1,h2,h3,A0E h4,A0E h5,P0S h6]
 |
  sit=>
  unfold Po.ext at h
  cases a<;>simp only[reduceCtorEq] at h
  rename_i y l p
  cases y with
  |false=>cases h
  |true=>cases h;rfl
 |
  arr c=>
  unfold Po.ext at h
  cases a<;>simp only[reduceCtorEq] at h
  have :=D0U h
  cases this
  rfl
 |
  map k v=>
  unfold Po.ext at h
  cases a<;>simp only[reduceCtorEq] at h
  rename_i d
  cases d<;>simp only[reduceCtorEq] at h
  rename_i k' v' m n
  cases hc:T0j k v m with
  |none=>rw[hc] at h;cases h
  |
   some m2=>
   rw[hc] at h
   cases h
   exact congrArg AObj.dat ((L0j hc).2 n)
 |
  iter k v=>
  unfold Po.ext at h
  cases a<;>simp only[reduceCtorEq] at h
  rename_i d
  cases d<;>simp only[reduceCtorEq] at h
  exact congrArg AObj.dat (a0i h)
 |
  mps k v=>
  unfold Po.ext at h
  cases a<;>simp only[reduceCtorEq] at h
  rename_i k' v' m n l
  cases hc:a0b k v m l with
  |none=>rw[hc] at h;cases h
  |
   some m2=>
   rw[hc] at h
   cases h
   exact U0w hc n
 |
  gone=>
  unfold Po.ext at h
  cases a<;>simp only[reduceCtorEq] at h
  rfl
def Pos:List Po→Type
 |[]=>Unit
 |o::os=>o.ty×Pos os
def Pos.obs:(os:List Po)→Pos os→List AObj
 |[],_=>[]
 |o::os,x=>o.obj x.1::Pos.obs os x.2
noncomputable def Pos.ext:(os:List Po)→List AObj→Option (Pos os)
 |
  [],l=>match l with
  |[]=>some ()
  |_=>none
 |
  o::os,l=>match l with
  |[]=>none
  |
   a::l=>match o.ext a with
   |none=>none
   |
    some x=>match Pos.ext os l with
    |none=>none
    |some y=>some (x,y)
theorem Pos.ext_eq:∀(os:List Po){l:List AObj}{x:Pos os},Pos.ext os l=some x→l=Pos.obs os x
 |
  [],l,x,h=>by
  unfold Pos.ext at h
  cases l with
  |nil=>rfl
  |cons a l=>cases h
 |
  o::os,l,x,h=>by
  unfold Pos.ext at h
  cases l with
  |nil=>cases h
  |
   cons a l=>
   simp only[] at h
   cases h1:o.ext a with
   |none=>rw[h1] at h;cases h
   |
    some y=>
    rw[h1] at h
    simp only[] at h
    cases h2:Pos.ext os l with
    |none=>rw[h2] at h;cases h
    |
     some z=>
     rw[h2] at h
     cases h
     show a::l=o.obj y::Pos.obs os z
     rw[Po.ext_eq o h1,Pos.ext_eq os h2]
noncomputable def I0r(ids:List Nat)(c:Code):Code:=match c with
 |.seq a b=>.seq (I0r ids a) (I0r ids b)
 |.cond x a b=>.cond x (I0r ids a) (I0r ids b)
 |
  .block id a=>(match a with
  |.loop b=>sel (memN id ids) (.block id (.goto id)) (.block id (.loop (I0r ids b)))
  |a=>.block id (I0r ids a))
 |.loop a=>.loop (I0r ids a)
 |c=>c
def R0X{α:Type}(x y:Option α):Option α:=match x with
 |some a=>some a
 |none=>y
noncomputable def K0F(id:Nat)(c:Code):Option Code:=match c with
 |.seq a b=>R0X (K0F id a) (K0F id b)
 |.cond _ a b=>R0X (K0F id a) (K0F id b)
 |
  .block j a=>(match a with
  |.loop b=>sel (Nat.beq j id) (some b) (K0F id b)
  |a=>K0F id a)
 |.loop a=>K0F id a
 |_=>none
def Y0y(f:Func):Code:=match f.body with
 |some c=>c
 |none=>.skip
noncomputable def B0e(f:Func)(id:Nat):Code:=match K0F id (Y0y f) with
 |some c=>c
 |none=>.skip
structure PSpec where
 body:Code
 nt:Nat
 nx:Nat
 room:Nat
 keep:List (Nat×Pt)
 objs:List (Nat×Po)
 keepX:AExit→List Nat
 objsX:AExit→List Nat
 inv:Pts (keep.map (·.2))→Pos (objs.map (·.2))→Prop
 res:Pts (keep.map (·.2))→Pos (objs.map (·.2))→Dt (AExit×List AVal×List AObj)
noncomputable def PSpec.ext(S:PSpec)(vs:List AVal)(os:List AObj):Option (Pts (S.keep.map (·.2))×Pos (S.objs.map (·.2))):=match Pts.ext (S.keep.map (·.2)) vs with
 |none=>none
 |
  some x=>match Pos.ext (S.objs.map (·.2)) os with
  |none=>none
  |some y=>some (x,y)
noncomputable def PSpec.spec(S:PSpec):LoopSpec (Pts (S.keep.map (·.2))×Pos (S.objs.map (·.2))) (List AVal×List AObj):=
 {body:=S.body,nt:=S.nt,nx:=S.nx,room:=S.room,keep:=S.keep.map (·.1),objs:=S.objs.map (·.1)
  ext:=S.ext
  vals:=fun x=>Pts.vals _ x.1,obs:=fun x=>Pos.obs _ x.2,keepX:=S.keepX,objsX:=S.objsX,valsX:=fun _ d=>d.1,obsX:=fun _ d=>d.2
  inv:=fun x=>S.inv x.1 x.2,res:=fun x=>S.res x.1 x.2}
theorem PSpec.ext_eq(S:PSpec){vs:List AVal}{os:List AObj}{x:Pts (S.keep.map (·.2))×Pos (S.objs.map (·.2))}(h:S.ext vs os=some x):vs=Pts.vals _ x.1∧os=Pos.obs _ x.2:=by
 unfold PSpec.ext at h
 cases h1:Pts.ext (S.keep.map (·.2)) vs with
 |none=>rw[h1] at h;cases h
 |
  some y=>
  rw[h1] at h
  simp only[] at h
  cases h2:Pos.ext (S.objs.map (·.2)) os with
  |none=>rw[h2] at h;cases h
  |
   some z=>
   rw[h2] at h
   cases h
   exact⟨Pts.ext_eq _ h1,Pos.ext_eq _ h2⟩
noncomputable def PSpec.loop(S:PSpec)(l:List (Nat×B0s)):B0s:=⟨A0u l S.body,S.spec.run,S.spec.run_up⟩
noncomputable def PSpec.round(S:PSpec)(E:Env)(fuel:Nat)(x:Pts (S.keep.map (·.2)))(y:Pos (S.objs.map (·.2))):Dt (Bool×AExit×List AVal×List AObj):=
 (A0v fuel E false S.body (S.spec.inT (x,y)) (S.spec.inS (x,y))).view fun q t=>(S.spec.next q t,q.1,H0g q.2 (match q.1 with |.normal=>S.keep.map (·.1)|e=>S.keepX e),K0O t (match q.1 with |.normal=>S.objs.map (·.1)|e=>S.objsX e))
theorem A0b{α:Type}{b:Bool}{l r:Dt α}{p:α→Prop}(hl:b=true→l.holds p)(hr:b=false→r.holds p):(Dt.ite b l r).holds p:=⟨hl,hr⟩
theorem A0c{α:Type}{b:Bool}{l:Dt α}{p:α→Prop}(hb:b=true)(hl:l.holds p):(Dt.ite b l .fail).holds p:=⟨fun _=>hl,fun h=>by rw[hb] at h;cases h⟩
theorem A0L{α:Type}{a:α}{p:α→Prop}(h:p a):(Dt.leaf a).holds p:=h
theorem B0X{α β δ:Type}{f:α→St→β}{g:α→St→δ}{p:β→Prop}{q:δ→Prop}(hpq:∀a s,p (f a s)→q (g a s)):∀{r:Res α},(r.view f).holds p→(r.view g).holds q
 |.ok a s,h=>hpq a s h
 |.br _ _,h=>h.elim
 |.ite _ l r,h=>⟨fun e=>B0X hpq (r:=l) (h.1 e),fun e=>B0X hpq (r:=r) (h.2 e)⟩
 |.fail _,h=>h.elim
 |.each _ _ _,h=>h.elim
theorem PSpec.sound{P:Program}(hX:C0U P)(hm:P.follows .mixedOrders=true){E:Env}(hE:EnvR E P)(hl:E.loops=[])(S:PSpec)(fuel:Nat)(μ:Pts (S.keep.map (·.2))→Pos (S.objs.map (·.2))→Nat)(hmk:A0M S.body=true)
  (h:∀x y,S.inv x y→(S.round E fuel x y).holds fun q=>q.1=true∧match q.2.1 with
   |.normal=>∃x' y',Pts.vals _ x'=q.2.2.1∧Pos.obs _ y'=q.2.2.2∧S.inv x' y'∧μ x' y'<μ x y∧(S.res x' y').val=(S.res x y).val
   |e=>(S.res x y).val=some (e,q.2.2)) (hso:E.solo=false):A0h P (S.loop E.lps):=by
 refine c0F hX hm hE hl S.spec fuel (fun x=>μ x.1 x.2) hmk (fun vs os x hx=>S.ext_eq hx) (fun x hx=>?_) (fun x hx=>?_) hso
 ·exact B0X (fun q t k=>k.1) (h x.1 x.2 hx)
 ·refine B0X (fun q t k=>?_) (h x.1 x.2 hx)
  obtain⟨_,k⟩:=k
  cases hq:q.1 with
  |
   normal=>
   rw[hq] at k
   obtain⟨x',y',k1,k2,k3,k4,k5⟩:=k
   exact⟨(x',y'),k1,k2,k3,k4,k5⟩
  |exit id=>rw[hq] at k;exact⟨_,rfl,rfl,k⟩
  |ret=>rw[hq] at k;exact⟨_,rfl,rfl,k⟩
structure FSpec where
 ps:List Pt
 pre:Pts ps→Prop
 res:Pts ps→Dt AVal
mutual
def AVal.nomap:AVal→Bool
 |.bool _=>true
 |.int _ _=>true
 |.str _=>true
 |.sb _=>true
 |.si _ _=>true
 |.ss _=>true
 |.nilp=>true
 |.nils=>true
 |.nilm=>true
 |.nilf=>true
 |.nili=>true
 |.dsl _ _=>true
 |.dptr _ _ _ _=>true
 |.agg l=>AVal.nomaps l
 |.tup l=>AVal.nomaps l
 |_=>false
def AVal.nomaps:List AVal→Bool
 |[]=>true
 |a::l=>AVal.nomap a&&AVal.nomaps l
end
theorem CRel.monoC{fz fz':Nat→Option Obj}(hx:∀b C e z,fz b=some (.cells C e z)→fz' b=some (.cells C e z)){x:Cell Univ.C Univ.S}{v:Value}(h:CRel fz x v):CRel fz' x v:=by
 induction h with
 |b x=>exact .b x
 |i k x=>exact .i k x
 |s x=>exact .s x
 |f n=>exact .f n
 |nil c A cap=>exact .nil c A cap
 |sl c l b o cap C e z g hb hc hg _ ih=>exact .sl c l b o cap C e z g (hx _ _ _ _ hb) hc hg ih
mutual
theorem VRel.nomap{Γ Γ':Gam}(hx:∀b C e z,Γ.fz b=some (.cells C e z)→Γ'.fz b=some (.cells C e z)):∀{a:AVal}{v:Value},AVal.nomap a=true→VRel Γ a v→VRel Γ' a v
 |.bool _,_,_,k=>k
 |.int _ _,_,_,k=>k
 |.str _,_,_,k=>k
 |.sb _,_,_,k=>k
 |.si _ _,_,_,k=>k
 |.ss _,_,_,k=>k
 |.nilp,_,_,k=>k
 |.nils,_,_,k=>k
 |.nilm,_,_,k=>k
 |.nilf,_,_,k=>k
 |.nili,_,_,k=>k
 |.dsl _ _,_,_,k=>by unfold VRel at k⊢;exact k.monoC hx
 |.dptr _ _ _ _,_,_,k=>by unfold VRel at k⊢;obtain⟨h,b,z,cap,h1,h2⟩:=k;exact⟨h,b,z,cap,h1.monoC hx,h2⟩
 |.agg _,_,l,k=>by unfold AVal.nomap at l;unfold VRel at k⊢;obtain⟨vs,e,k⟩:=k;exact⟨vs,e,VRels.nomap hx l k⟩
 |.tup _,_,l,k=>by unfold AVal.nomap at l;unfold VRel at k⊢;obtain⟨vs,e,k⟩:=k;exact⟨vs,e,VRels.nomap hx l k⟩
 |.ptr _ _,_,l,_=>by simp[AVal.nomap] at l
 |.slice _ _ _ _ _,_,l,_=>by simp[AVal.nomap] at l
 |.map _,_,l,_=>by simp[AVal.nomap] at l
 |.fn _ _ _,_,l,_=>by simp[AVal.nomap] at l
 |.iface _ _,_,l,_=>by simp[AVal.nomap] at l
 |.raw _,_,l,_=>by simp[AVal.nomap] at l
 |.any,_,l,_=>by simp[AVal.nomap] at l
 |.yld _,_,l,_=>by simp[AVal.nomap] at l
 |.asl _ _ _ _,_,l,_=>by simp[AVal.nomap] at l
 |.aptr _ _ _ _,_,l,_=>by simp[AVal.nomap] at l
 |.dmp _ _ _ _,_,l,_=>by simp[AVal.nomap] at l
theorem VRels.nomap{Γ Γ':Gam}(hx:∀b C e z,Γ.fz b=some (.cells C e z)→Γ'.fz b=some (.cells C e z)):∀{l:List AVal}{vs:List Value},AVal.nomaps l=true→VRels Γ l vs→VRels Γ' l vs
 |[],_,_,k=>k
 |
  _::_,_,l,k=>by
  unfold AVal.nomaps at l;rw[Bool.and_eq_true] at l
  unfold VRels at k⊢;obtain⟨v,ws,e,k1,k2⟩:=k;exact⟨v,ws,e,VRel.nomap hx l.1 k1,VRels.nomap hx l.2 k2⟩
end
def AVal.lowM(a:AVal):Bool:=match a with
 |.map _=>true
 |a=>AVal.low 0 a
def AVal.lowsM:List AVal→Bool
 |[]=>true
 |a::l=>AVal.lowM a&&AVal.lowsM l
def AVal.may(b c:Bool)(a:AVal):Bool:=b||a.flat||(c&&a.nomap)
noncomputable def Dt.ctg(b c:Bool):Dt AVal→CT AVal
 |.leaf a=>sel (AVal.may b c a) (.ret a) .fail
 |.ite d l r=>.ite d (l.ctg b c) (r.ctg b c)
 |.fail=>.fail
theorem I0J{b c:Bool}:∀{t:Dt AVal}{s:St},((t.ctg b c).run s).Good→∃a,t.val=some a∧AVal.may b c a=true∧((t.ctg b c).run s).Has a s
 |
  .leaf a,s,h=>by
  unfold Dt.ctg at h⊢
  cases hb:AVal.may b c a with
  |false=>rw[hb] at h;exact h.elim
  |true=>exact⟨a,rfl,hb,by exact⟨rfl,rfl⟩⟩
 |.ite true l _,_,h=>I0J (t:=l) h
 |.ite false _ r,_,h=>I0J (t:=r) h
 |.fail,_,h=>h.elim
section
variable{P:Program}{E:Env}{base:Bs}{w0:World}{Γ Γt:Gam}{w:World}
theorem Pt.get_map{β:Type}{s0:St}(R:Rel E base w0 Γ s0.h w)(hag:C0w 0 Γ Γt)(ht:∀b ents clock,w.heap[b]?=some (.map ents clock)→Γt.fz b=some (.map ents clock)):∀(p:Pt){n:Nat}{v:Value}{k:p.ty→CT β}{s:St},
  s.h=s0.h→VRel Γ (.map n) v→((p.get (.map n) k).run s).Good→∃x s',VRel Γt (p.val x) v∧Same s s'∧(p.get (.map n) k).run s=(k x).run s'
 |.fn f l,n,v,k,z,hs,hv,g=>g.elim
 |.box c,n,v,k,z,hs,hv,g=>A0p (.box c) hag hv g
 |.d c,n,v,k,z,hs,hv,g=>A0p (.d c) hag hv g
 |.i j,n,v,k,z,hs,hv,g=>A0p (.i j) hag hv g
 |.b,n,v,k,z,hs,hv,g=>A0p .b hag hv g
 |.s,n,v,k,z,hs,hv,g=>A0p .s hag hv g
 |.any,n,v,k,z,hs,hv,g=>A0p .any hag hv g
 |.agg l,n,v,k,z,hs,hv,g=>g.elim
 |.p m o,n,v,k,z,hs,hv,g=>A0p (.p m o) hag hv g
 |.nf,n,v,k,z,hs,hv,g=>A0p .nf hag hv g
 |.nl,n,v,k,z,hs,hv,g=>A0p .nl hag hv g
 |.al c m,n,v,k,z,hs,hv,g=>A0p (.al c m) hag hv g
 |.mp m,n,v,k,z,hs,hv,g=>A0p (.mp m) hag hv g
 |
  .dm kc vc,n,v,k,z,hs,hv,g=>by
  unfold Pt.get at g⊢
  simp only[] at g⊢
  obtain⟨d,s1,ho,h2,h3⟩:=H0B (A0a (m:=rdDat n) g)
  have e:∀K:DObj→CT β,(CT.rdd n K).run z=(K d).run s1:=fun K=>A0d (f:=fun d=>(K d).run) h2
  rw[e] at g⊢
  cases d with
  |iter _ _ _ _=>exact g.elim
  |
   map k' v' m c=>
   simp only[] at g⊢
   obtain⟨m2,h4,h5⟩:=B0t g
   rw[h5]
   refine⟨(m2,c),s1,?_,h3,rfl⟩
   show VRel Γt (.dmp kc vc m2 c) v
   rw[←(L0j h4).1 c]
   rw[hs] at ho
   unfold VRel at hv⊢
   obtain⟨i,hi,rfl⟩:=hv
   obtain⟨i',hi',_,ob,hb,ents,clock,rfl,hM⟩:=R.obj n _ (R.dom n i hi).1 ho
   rw[hi] at hi';cases hi'
   exact⟨i.b,ents,clock,rfl,ht _ _ _ hb,hM.mono hag.fz⟩
theorem Pts.get_map{β:Type}{s0:St}(R:Rel E base w0 Γ s0.h w)(hag:C0w 0 Γ Γt)(ht:∀b ents clock,w.heap[b]?=some (.map ents clock)→Γt.fz b=some (.map ents clock)):∀(ps:List Pt){as:List AVal}{vs:List Value}{k:Pts ps→CT β}{s:St},
  AVal.lowsM as=true→s.h=s0.h→VRels Γ as vs→((Pts.get ps as k).run s).Good→∃x s',VRels Γt (Pts.vals ps x) vs∧Same s s'∧(Pts.get ps as k).run s=(k x).run s'
 |
  [],as,vs,k,s,hl,hs,hv,g=>by
  unfold Pts.get at g⊢
  cases as with
  |cons _ _=>exact g.elim
  |nil=>exact⟨(),s,by show VRels Γt [] vs;rw[hv.nil_inv];exact VRels.nil,.refl s,rfl⟩
 |
  p::ps,as,vs,k,s,hl,hs,hv,g=>by
  unfold Pts.get at g⊢
  cases as with
  |nil=>exact g.elim
  |
   cons a as=>
   simp only[] at g⊢
   unfold AVal.lowsM at hl
   rw[Bool.and_eq_true] at hl
   obtain⟨v,ws,rfl,h1,h2⟩:=hv.cons_inv
   have :∃x s',VRel Γt (p.val x) v∧Same s s'∧(p.get a fun x=>Pts.get ps as fun y=>k (x,y)).run s=(Pts.get ps as fun y=>k (x,y)).run s':=by
    by_cases c:∃n,a=.map n
    ·obtain⟨n,rfl⟩:=c
     exact Pt.get_map R hag ht p hs h1 g
    ·have :AVal.low 0 a=true:=by
      have :=hl.1
      unfold AVal.lowM at this
      split at this
      ·rename_i n;exact absurd ⟨n,rfl⟩ c
      ·exact this
     exact Pt.get_good R hag p (.inl this) hs h1 g
   obtain⟨x,s1,q1,q2,q3⟩:=this
   rw[q3] at g⊢
   obtain⟨y,s2,z1,z2,z3⟩:=Pts.get_map R hag ht ps hl.2 (q2.h.trans hs) h2 g
   refine⟨(x,y),s2,?_,q2.trans z2,z3⟩
   show VRels Γt (p.val x::Pts.vals ps y) _
   exact VRels.cons q1 z1
def Gam.maps(Γ:Gam)(w:World):Gam:=⟨fun _=>none,fun b=>match w.heap[b]? with |some (Obj.map e c)=>some (Obj.map e c)|_=>Γ.fz b,w.heap.size⟩
def Gam.lessM(Γ Γ':Gam)(w:World):Gam:=⟨Γ.nm,fun b=>if b<w.heap.size then Γ.fz b else Γ'.fz b,Γ.lo⟩
end
noncomputable def FSpec.ct(S:FSpec)(as:List AVal):CT AVal:=Pts.get S.ps as fun x=>.need (dec (S.pre x)) ((S.res x).ctg (AVal.lows 0 as) (AVal.lowsM as))
noncomputable def Q0Y:List FSpec→List AVal→CT AVal
 |[],_=>.fail
 |S::l,as=>sel (Pts.fits S.ps as) (S.ct as) (Q0Y l as)
noncomputable def FSpec.run(S:FSpec)(E:Env)(c:Code)(nt:Nat)(rs:List ResultVar)(fuel:Nat)(x:Pts S.ps):Dt (Bool×AVal):=
 (H0S (.code c nt rs) E (A0v fuel E false) (Pts.vals S.ps x) St.new).view fun a s=>(AVal.low 0 (a.out 0 s.h)&&Nat.ble s.nx LH,(a.out 0 s.h).sym)
def FSpec.Kept(P:Program)(f:FuncId)(S:FSpec):Prop:=∀x,S.pre x→∀r,(S.res x).val=some r→AVal.low 0 r=true∧Q0S P f (Pts.vals S.ps x) r
theorem J0t{α β δ:Type}{f:α→St→β}{g:α→St→δ}{p:β→Prop}{q:δ}(hpq:∀a s,p (f a s)→g a s=q):∀{r:Res α},(r.view f).holds p→(r.view g).val=some q
 |.ok a s,h=>by show some (g a s)=some q;rw[hpq a s h]
 |.br _ _,h=>h.elim
 |.ite true l _,h=>J0t hpq (r:=l) (h.1 rfl)
 |.ite false _ r,h=>J0t hpq (r:=r) (h.2 rfl)
 |.fail _,h=>h.elim
 |.each _ _ _,h=>h.elim
section
variable{P:Program}
theorem FSpec.ct_sound{f:FuncId}(S:FSpec)(h:S.Kept P f):CtrSound P f S.ct:=by
 intro E base w0 Γ s w as vs N hty R hv g hN hF hLH
 unfold FSpec.ct at g hN⊢
 cases hl:AVal.lows 0 as with
 |
  true=>
  rw[hl] at g hN
  obtain⟨x,s',h1,h2,h3⟩:=Pts.get_good R (Γt:=Γ.bare w) (G0h rfl) S.ps (.inl hl) rfl hv g
  rw[h3] at g hN⊢
  obtain⟨hp,g2,hh⟩:=A0W (m:=((S.res x).ctg true (AVal.lowsM as)).run) g
  have hp:S.pre x:=dec_eq.1 hp
  obtain⟨r,hr,_,hhas⟩:=I0J g2
  obtain⟨hrl,hpure⟩:=h x hp r hr
  obtain⟨hrun,hcalls⟩:=hpure (Γ.bare w) w vs R.stay (fun _=>rfl) rfl h1
  rw[hrun]
  refine Inv.enter fun m=>CallsIn.mono (hcalls m) ?_
  rintro e w'⟨v,Γ',rfl,hrel,hno,hx',hst,hb⟩
  have hext2:Ext Γ ⟨Γ.nm,Γ'.fz,Γ.lo⟩:=⟨fun _ _ e=>e,hx'.fz,rfl,fun b hb=>hx'.same b (Nat.lt_of_lt_of_le hb R.lo)⟩
  refine⟨v,r,s',⟨Γ.nm,Γ'.fz,Γ.lo⟩,rfl,hh _ _ hhas,hrel.agree (G0h (Γ1:=Γ') (Γ2:=⟨Γ.nm,Γ'.fz,Γ.lo⟩) rfl) hrl,?_⟩
  exact⟨hext2,fun _ _=>rfl,Nat.le_of_eq h2.nx.symm,by rw[h2.nx];exact hF,by rw[h2.h];exact R.over hb rfl hext2 hst hx'.same⟩
 |false=>
 rw[hl] at g hN
 cases hm:AVal.lowsM as with
 |
  false=>
  rw[hm] at g hN
  obtain⟨x,s',h1,h2,h3⟩:=Pts.get_good R (Γt:=Gam.all w) ⟨fun _ _ h=>absurd h (Nat.not_lt_zero _),fun b o e=>R.stay b o e⟩ S.ps (.inr fun _ _ e=>e) rfl hv g
  rw[h3] at g hN⊢
  obtain⟨hp,g2,hh⟩:=A0W (m:=((S.res x).ctg false false).run) g
  have hp:S.pre x:=dec_eq.1 hp
  obtain⟨r,hr,hfl,hhas⟩:=I0J g2
  obtain⟨hrl,hpure⟩:=h x hp r hr
  obtain⟨hrun,hcalls⟩:=hpure (Gam.all w) w vs (fun _ _ e=>e) (fun _=>rfl) rfl h1
  rw[hrun]
  refine Inv.enter fun m=>CallsIn.mono (hcalls m) ?_
  rintro e w'⟨v,Γ',rfl,hrel,hno,hx',hst,hb⟩
  refine⟨v,r,s',Γ,rfl,hh _ _ hhas,hrel.flat (by simpa [AVal.may] using hfl),?_⟩
  have hst':∀b ob,Γ.fz b=some ob→w'.heap[b]?=some ob:=fun b ob e=>by
   have e1:=R.stay b ob e
   have :b<w.heap.size:=by
    rcases Nat.lt_or_ge b w.heap.size with q|q
    ·exact q
    ·rw[Array.getElem?_eq_none q] at e1;cases e1
   rw[hb.block b this];exact e1
  exact⟨Ext.refl Γ,fun _ _=>rfl,Nat.le_of_eq h2.nx.symm,by rw[h2.nx];exact hF,by rw[h2.h];exact R.over hb rfl (Ext.refl Γ) hst' (fun _ _=>rfl)⟩
 |
  true=>
  rw[hm] at g hN
  have hlt:∀b ob,w.heap[b]?=some ob→b<w.heap.size:=fun b ob e=>by
   rcases Nat.lt_or_ge b w.heap.size with q|q
   ·exact q
   ·rw[Array.getElem?_eq_none q] at e;cases e
  have hag:∀b o,Γ.fz b=some o→(Γ.maps w).fz b=some o:=fun b o e=>by
   show(match w.heap[b]? with |some (Obj.map e c)=>some (Obj.map e c)|_=>Γ.fz b)=some o
   rw[R.stay b o e]
   cases o<;>first|rfl|exact e
  have hst0:∀b ob,(Γ.maps w).fz b=some ob→w.heap[b]?=some ob:=fun b ob e=>by
   have e:(match w.heap[b]? with |some (Obj.map e c)=>some (Obj.map e c)|_=>Γ.fz b)=some ob:=e
   split at e
   ·rename_i h;rw[h];exact e
   ·exact R.stay b ob e
  obtain⟨x,s',h1,h2,h3⟩:=Pts.get_map R (Γt:=Γ.maps w) ⟨fun _ _ h=>absurd h (Nat.not_lt_zero _),hag⟩ (fun b ents clock e=>by
   show(match w.heap[b]? with |some (Obj.map e c)=>some (Obj.map e c)|_=>Γ.fz b)=_
   rw[e]) S.ps hm rfl hv g
  rw[h3] at g hN⊢
  obtain⟨hp,g2,hh⟩:=A0W (m:=((S.res x).ctg false true).run) g
  have hp:S.pre x:=dec_eq.1 hp
  obtain⟨r,hr,hfl,hhas⟩:=I0J g2
  obtain⟨hrl,hpure⟩:=h x hp r hr
  obtain⟨hrun,hcalls⟩:=hpure (Γ.maps w) w vs hst0 (fun _=>rfl) rfl h1
  rw[hrun]
  refine Inv.enter fun m=>CallsIn.mono (hcalls m) ?_
  rintro e w'⟨v,Γ',rfl,hrel,hno,hx',hst,hb⟩
  have hext2:Ext Γ (Γ.lessM Γ' w):=⟨fun _ _ e=>e,fun b o e=>by
   show(if b<w.heap.size then Γ.fz b else Γ'.fz b)=some o
   rw[if_pos (hlt b o (R.stay b o e))];exact e,rfl,fun b hb=>by
   show(if b<w.heap.size then Γ.fz b else Γ'.fz b)=Γ.fz b
   rw[if_pos (Nat.lt_of_lt_of_le hb R.lo)]⟩
  have hrel2:VRel (Γ.lessM Γ' w) r v:=by
   unfold AVal.may at hfl
   simp only[Bool.false_or,Bool.true_and,Bool.or_eq_true] at hfl
   rcases hfl with hfl|hfl
   ·exact hrel.flat hfl
   ·refine hrel.nomap (fun b C e z q=>?_) hfl
    show(if b<w.heap.size then Γ.fz b else Γ'.fz b)=some _
    by_cases c:b<w.heap.size
    ·rw[if_pos c]
     have q2:(match w.heap[b]? with |some (Obj.map e c)=>some (Obj.map e c)|_=>Γ.fz b)=some (.cells C e z):=(hx'.same b c).symm.trans q
     split at q2
     ·cases q2
     ·exact q2
    ·rw[if_neg c];exact q
  have hst2:∀b ob,(Γ.lessM Γ' w).fz b=some ob→w'.heap[b]?=some ob:=fun b ob q=>by
   have q:(if b<w.heap.size then Γ.fz b else Γ'.fz b)=some ob:=q
   by_cases c:b<w.heap.size
   ·rw[if_pos c] at q;rw[hb.block b c];exact R.stay b ob q
   ·rw[if_neg c] at q;exact hst b ob q
  have hsm:∀b,b<w.heap.size→(Γ.lessM Γ' w).fz b=Γ.fz b:=fun b hb=>by
   show(if b<w.heap.size then Γ.fz b else Γ'.fz b)=Γ.fz b
   rw[if_pos hb]
  exact⟨v,r,s',Γ.lessM Γ' w,rfl,hh _ _ hhas,hrel2,hext2,fun _ _=>rfl,Nat.le_of_eq h2.nx.symm,by rw[h2.nx];exact hF,by rw[h2.h];exact R.over hb rfl hext2 hst2 hsm⟩
theorem G0f{f:FuncId}:∀{l:List FSpec},(∀S∈l,S.Kept P f)→CtrSound P f (Q0Y l)
 |
  [],_=>by
  intro E base w0 Γ s w as vs N hty R hv g
  exact g.elim
 |
  S::l,h=>by
  intro E base w0 Γ s w as vs N hty R hv g hN hF hLH
  have e:Q0Y (S::l) as=sel (Pts.fits S.ps as) (S.ct as) (Q0Y l as):=rfl
  rw[e] at g hN⊢
  cases hx:Pts.fits S.ps as with
  |
   false=>
   rw[hx] at g hN
   exact G0f (fun S hS=>h S (by simp[hS])) E base w0 Γ s w as vs N hty R hv g hN hF hLH
  |
   true=>
   rw[hx] at g hN
   exact S.ct_sound (h S (by simp)) E base w0 Γ s w as vs N hty R hv g hN hF hLH
theorem C0i{α:Type}{f:Nat}{g:α}:∀{l:List (Nat×α)},E0N f l=some g→(f,g)∈l
 |[],h=>by cases h
 |
  p::l,h=>by
  unfold E0N at h
  rw[B0v,beqN] at h
  by_cases c:f=p.1
  ·rw[if_pos (by simpa using c)] at h
   cases h
   rw[c];exact List.mem_cons_self ..
  ·rw[if_neg (by simpa using c)] at h
   exact List.mem_cons_of_mem _ (C0i h)
noncomputable def Y0h(P:Program)(cs:List (FuncId×List FSpec))(ls:List (Nat×B0s)):Env:=⟨(G0x P).ty,(G0x P).fn,[],cs.map (fun p=>(p.1,Q0Y p.2)),ls,[],false⟩
theorem U0z(cs:List (FuncId×List FSpec))(ls:List (Nat×B0s))(hc:∀p∈cs,∀S∈p.2,S.Kept P p.1)(hl:∀p∈ls,A0h P p.2):EnvR (Y0h P cs ls) P:=
 {ty0:=rfl
  fn:=(E0b P).fn
  ctr:=fun f g h=>by
   have :=C0i h
   obtain⟨p,hp,e⟩:=List.mem_map.1 this
   cases e
   exact(G0f (hc p hp)).to _
  lps:=fun n p h=>hl _ (C0i h)}
theorem FSpec.kept(hX:C0U P)(hm:P.follows .mixedOrders=true)(cs:List (FuncId×List FSpec))(ls:List (Nat×B0s))(hc:∀p∈cs,∀S∈p.2,S.Kept P p.1)(hl:∀p∈ls,A0h P p.2)
  (S:FSpec) {f:FuncId} (fuel:Nat) (c:Code) {nt:Nat} {rs:List ResultVar} (hmk:mkFn P f=some (.code (A0u ls c) nt rs)) (hc':A0M c=true)
  (h:∀x,S.pre x→(S.run (Y0h P cs ls) c nt rs fuel x).holds fun q=>q.1=true∧(S.res x).val=some q.2):S.Kept P f:=by
 intro x hx r hr
 have hh:=h x hx
 refine F0j hX hm (U0z cs ls hc hl) rfl hmk c hc' rfl fuel (r:=r) ?_ ?_
 ·exact B0X (fun a s k=>k.1) hh
 ·exact J0t (fun a s k=>by have :=k.2;rw[hr] at this;exact(Option.some.inj this).symm) hh
theorem PSpec.kept(hX:C0U P)(hm:P.follows .mixedOrders=true)(cs:List (FuncId×List FSpec))(ls:List (Nat×B0s))(hc:∀p∈cs,∀S∈p.2,S.Kept P p.1)(hl:∀p∈ls,A0h P p.2)
  (S:PSpec) (fuel:Nat) (μ:Pts (S.keep.map (·.2))→Pos (S.objs.map (·.2))→Nat) (hmk:A0M S.body=true)
  (h:∀x y,S.inv x y→(S.round (Y0h P cs ls) fuel x y).holds fun q=>q.1=true∧match q.2.1 with
   |.normal=>∃x' y',Pts.vals _ x'=q.2.2.1∧Pos.obs _ y'=q.2.2.2∧S.inv x' y'∧μ x' y'<μ x y∧(S.res x' y').val=(S.res x y).val
   |e=>(S.res x y).val=some (e,q.2.2)):A0h P (S.loop ls):=
 PSpec.sound hX hm (U0z cs ls hc hl) rfl S fuel μ hmk h rfl
end
def OwnW(fz:Nat→Option Obj)(w:World)(c:Univ.C)(l:List (Univ.S c))(b:Nat)(v:Value):Prop:=
 0<l.length∧fz b=none∧∃cap C e z,v=.slice (some ⟨b,0,none⟩) l.length cap∧l.length≤cap∧w.heap[b]?=some (.cells C e z)∧cap*Univ.esz c≤C.size∧ARel fz c l C∧∀k,k<C.size→z.1≤k→k<z.2→False
structure PW(fz:Nat→Option Obj)(w:World)(k c:Univ.C)(m:Univ.S k→Option (List (Univ.S c)))(n:Nat)(ents:List MapEntry)(clock:Nat)(bl:Value→Nat):Prop where
 map:MRelG fz k (fun(_:List (Univ.S c)) _=>True) m n ents clock
 own:∀x∈ents,∀a l,DRel fz k a x.key→m a=some l→OwnW fz w c l (bl x.key) x.val
 apart:∀x∈ents,∀y∈ents,x.key≠y.key→bl x.key≠bl y.key
theorem PW.block{fz:Nat→Option Obj}{w:World}{k c:Univ.C}{m:Univ.S k→Option (List (Univ.S c))}{n:Nat}{ents:List MapEntry}{clock:Nat}{bl:Value→Nat}(h:PW fz w k c m n ents clock bl){x:MapEntry}(hx:x∈ents):
  fz (bl x.key)=none∧∃C e z,w.heap[bl x.key]?=some (.cells C e z):=by
 obtain⟨a,l,h1,h2,_⟩:=h.map.ent x hx
 obtain⟨_,q,_,C,e,z,_,_,hb,_⟩:=h.own x hx a l h2 h1
 exact⟨q,C,e,z,hb⟩
def b0O(P:Program)(f:FuncId)(as:List AVal)(k c:Univ.C)(m m':Univ.S k→Option (List (Univ.S c)))(n n':Nat):Prop:=
 ∀(Γ:Gam)(w:World)(b:Nat)(ents:Array MapEntry)(clock:Nat)(bl:Value→Nat)(vs:List Value),(∀b ob,Γ.fz b=some ob→w.heap[b]?=some ob)→(∀n,Γ n=none)→Γ.lo=w.heap.size→
 Γ.fz b=none→w.heap[b]?=some (.map ents clock)→PW Γ.fz w k c m n ents.toList clock bl→VRels Γ as vs→
 (callFunc f (vs++[Value.map (some b)]).toArray).run P w=.ok (.enter f (vs++[Value.map (some b)]).toArray) w∧
 ∀
  q,CallsIn (FW none) q P f (vs++[Value.map (some b)]).toArray w fun e w'=>∃u Γ' ents' clock' bl',e=.returned u∧VRel Γ' (.tup []) u∧(∀n,Γ' n=none)∧Ext Γ Γ'∧(∀k ob,Γ'.fz k=some ob→w'.heap[k]?=some ob)∧
  w'.os=w.os∧w'.tape=w.tape∧w'.output=w.output∧w.heap.size≤w'.heap.size∧(∀k,k<w.heap.size→k≠b→(∀x∈ents.toList,k≠bl x.key)→w'.heap[k]?=w.heap[k]?)∧
  (∀k,k<w.heap.size→∀C e z,w.heap[k]?=some (.cells C e z)→∃C' z',w'.heap[k]?=some (.cells C' e z')∧C'.size=C.size)∧
  w'.heap[b]?=some (.map ents' clock')∧PW Γ'.fz w' k c m' n' ents'.toList clock' bl'∧∀x∈ents'.toList,w.heap.size≤bl' x.key∨∃y∈ents.toList,bl' x.key=bl y.key
structure MSpec where
 ps:List Pt
 k:Univ.C
 c:Univ.C
 pre:Pts ps→(Univ.S k→Option (List (Univ.S c)))×Nat→Prop
 res:Pts ps→(Univ.S k→Option (List (Univ.S c)))×Nat→Dt ((Univ.S k→Option (List (Univ.S c)))×Nat)
noncomputable def MSpec.inS(S:MSpec)(y:(Univ.S S.k→Option (List (Univ.S S.c)))×Nat):St:=⟨D0e [(0,.mps S.k S.c y.1 y.2 none)],1,0,[],[]⟩
noncomputable def f0g(k c:Univ.C)(s:St):Option ((Univ.S k→Option (List (Univ.S c)))×Nat):=match s.h.get 0 with
 |none=>none
 |some o=>(Po.mps k c).ext o
def c0l(a:AVal):Bool:=match a with
 |.tup l=>(match l with |[]=>true|_=>false)
 |_=>false
noncomputable def MSpec.run(S:MSpec)(E:Env)(c:Code)(nt:Nat)(rs:List ResultVar)(fuel:Nat)(x:Pts S.ps)(y:(Univ.S S.k→Option (List (Univ.S S.c)))×Nat):Dt (Bool×Option ((Univ.S S.k→Option (List (Univ.S S.c)))×Nat)):=
 (H0S (.code c nt rs) E (A0v fuel E false) (Pts.vals S.ps x++[.map 0]) (S.inS y)).view fun a s=>(c0l a&&Nat.ble s.nx LH,f0g S.k S.c s)
def MSpec.Kept(P:Program)(f:FuncId)(S:MSpec):Prop:=∀x y,S.pre x y→∀r,(S.res x y).val=some r→b0O P f (Pts.vals S.ps x) S.k S.c y.1 r.1 y.2 r.2
section
variable{P:Program}
theorem MSpec.calls(hX:C0U P)(hm:P.follows .mixedOrders=true){E:Env}(hE:EnvR E P)(hl:E.loops=[])(hso:E.solo=false)(S:MSpec){f:FuncId}{c:Code}{nt:Nat}{rs:List ResultVar}(hmk:mkFn P f=some (.code c nt rs))
  (c':Code) (hc':A0M c'=true) (hu:A0u E.lps c'=c) (fuel:Nat) (x:Pts S.ps) (y:(Univ.S S.k→Option (List (Univ.S S.c)))×Nat) {r:(Univ.S S.k→Option (List (Univ.S S.c)))×Nat}
  (hh:(S.run E c' nt rs fuel x y).holds fun q=>q.1=true∧q.2=some r):b0O P f (Pts.vals S.ps x) S.k S.c y.1 r.1 y.2 r.2:=by
 intro Γ w b ents clock bl vs hst hno hlo hnb hb hPW hvs
 obtain⟨a,t,hdet,hq⟩:=C0D hh
 simp only[Bool.and_eq_true] at hq
 obtain⟨⟨hq1,hq2⟩,hq3⟩:=hq
 have hq2:=Nat.le_of_ble_eq_true hq2
 have hget:t.h.get 0=some (.mps S.k S.c r.1 r.2 none):=by
  unfold f0g at hq3
  cases ho:t.h.get 0 with
  |none=>rw[ho] at hq3;cases hq3
  |some o=>rw[ho] at hq3;rw[Po.ext_eq _ hq3];rfl
 have ha:a=.tup []:=by
  unfold c0l at hq1
  split at hq1
  ·split at hq1
   ·rfl
   ·cases hq1
  ·cases hq1
 subst ha
 have hbs:b<w.heap.size:=(Array.getElem?_eq_some_iff.1 hb).1
 let Γ0:Gam:=⟨fun n=>if n=0 then some ⟨b,0,1,1,default⟩ else none,Γ.fz,w.heap.size⟩
 let B:Bs:=⟨w.heap.size,fun q=>q=b∨∃x∈ents.toList,q=bl x.key⟩
 have e0:Γ0 0=some ⟨b,0,1,1,default⟩:=rfl
 have en:∀n i,Γ0 n=some i→n=0∧i=⟨b,0,1,1,default⟩:=by
  intro n i e
  have e:(if n=0 then some (⟨b,0,1,1,default⟩:Info) else none)=some i:=e
  by_cases hn:n=0
  ·rw[if_pos hn] at e;cases e;exact⟨hn,rfl⟩
  ·rw[if_neg hn] at e;cases e
 have nmm:∀n i,Γ n=some i→Γ0 n=some i:=fun n i e=>by rw[hno] at e;cases e
 have gs:∀m,m<LH→(S.inS y).h.get m=if m=0 then some (.mps S.k S.c y.1 y.2 none) else none:=by
  intro m hm
  have :=A0y (AObj.mps S.k S.c y.1 y.2 none) DH (Tr.full DH) 0 m (A0Z DH) (by decide) hm
  rw[A0q] at this
  unfold MSpec.inS D0e
  simp only[List.foldl_cons,List.foldl_nil]
  exact this
 have one:∀m o,m<LH→(S.inS y).h.get m=some o→m=0∧o=.mps S.k S.c y.1 y.2 none:=by
  intro m o hm ho
  rw[gs m hm] at ho
  by_cases h0:m=0
  ·rw[if_pos h0] at ho;cases ho;exact⟨h0,rfl⟩
  ·rw[if_neg h0] at ho;cases ho
 have nbl:∀x∈ents.toList,b≠bl x.key:=fun x hx e=>by
  obtain⟨_,C,e',z,q⟩:=hPW.block hx
  rw[←e,hb] at q;cases q
 have R0:Rel E B w Γ0 (S.inS y).h w:=
  {deep:=F0Y _
   below:=Bel.refl _ _
   room:=Nat.le_refl _
   dom:=fun n i h=>by obtain⟨rfl,rfl⟩:=en n i h;exact⟨by decide,.inr (.inl rfl),hbs⟩
   obj:=fun n o hn h=>by
    obtain⟨rfl,rfl⟩:=one n o hn h
    exact⟨rfl,_,e0,ents,clock,hb⟩
   inj:=fun n m o p i j hn hm h1 h2 _ _ ne=>by
    obtain⟨rfl,_⟩:=one n o hn h1
    obtain⟨rfl,_⟩:=one m p hm h2
    exact absurd rfl ne
   fam:=fun n cs e frz root rel al hn h1=>by obtain⟨_,q⟩:=one n _ hn h1;cases q
   iter:=fun n m since seen kt es clock i j ents b borns stepped hn _ h=>by obtain⟨_,q⟩:=one n _ hn h;cases q
   own:=fun n i cs e frz rel al hn h hi=>by obtain⟨_,q⟩:=one n _ hn h;cases q
   stay:=hst
   lo:=Nat.le_refl _
   sep:=fun n i o hn h _ hi=>by obtain⟨rfl,rfl⟩:=en n i hi;exact hnb
   solo:=fun h=>by rw[hso] at h;cases h
   hid:=fun k c m q lent i h1 h2=>by
    obtain⟨_,e⟩:=one 0 _ (by decide) h1
    cases e
    rw[e0] at h2;cases h2
    refine⟨ents,clock,hb,hPW.map,bl,fun x hx a l g1 g2=>.inr ?_,fun x hx y hy ne _ _=>hPW.apart x hx y hy ne⟩
    obtain⟨h1,h2,h3⟩:=hPW.own x hx a l g1 g2
    refine⟨h1,.inr (.inr ⟨x,hx,rfl⟩),⟨h2,fun m o j hm ho hl hj=>?_⟩,h3⟩
    obtain⟨rfl,rfl⟩:=en m j hj
    exact nbl x hx}
 have hargs:VRels Γ0 (Pts.vals S.ps x++[.map 0]) (vs++[Value.map (some b)]).toArray.toList:=by
  rw[List.toList_toArray]
  refine(hvs.names nmm (fun _ _ e=>e)).append (.cons ?_ .nil)
  unfold VRel
  exact⟨_,e0,rfl⟩
 obtain⟨_,_,_,_,_,_,hrun⟩:=C0X hmk
 refine⟨hrun _ _,fun q=>?_⟩
 refine CallsIn.mono (D0d (N:=LH) (B0Y (base:=B) (w0:=w) hX hm fuel) hE hmk hc' hu R0 (by rw[hl];intro d hd;cases hd) hargs (D0y hdet).1 (fun b u k=>by obtain⟨rfl,rfl⟩:=C0t hdet k;exact hq2)
  (fun n h1 _=>if_neg (by have h1:1≤n:=h1;omega)) (Nat.le_refl _) q) ?_
 rintro e w'⟨u,bb,uu,Γ',rfl,hh',hrel,hG⟩
 obtain⟨rfl,rfl⟩:=C0t hdet hh'
 have h00:=hG.ext.nm 0 _ e0
 obtain⟨ents',clock',hb',PR⟩:=hG.rel.hid _ _ _ _ _ _ hget h00
 obtain⟨bl',o1,o2⟩:=PR.own
 have own':∀x∈ents'.toList,∀a l,DRel Γ'.fz S.k a x.key→r.1 a=some l→Own1 B Γ' uu.h w' S.c l (bl' x.key) x.val:=fun x hx a l g1 g2=>by
  rcases o1 x hx a l g1 g2 with q|q
  ·cases q
  ·exact q
 refine⟨u,⟨fun _=>none,Γ'.fz,Γ'.lo⟩,ents',clock',bl',rfl,hrel.flat rfl,fun _=>rfl,
  ⟨fun n i e=>(by rw[hno] at e;cases e),fun b o e=>hG.ext.fz b o e,hG.ext.lo.trans hlo.symm,fun k hk=>hG.ext.same k (by show k<w.heap.size;rw[←hlo];exact hk)⟩,hG.rel.stay,
  hG.rel.below.os,hG.rel.below.tape,hG.rel.below.output,hG.rel.below.size,fun k hk hkb hkx=>hG.rel.below.block k hk ?_,fun k hk=>hG.rel.below.shape k hk,hb',⟨PR.map,fun x hx a l g1 g2=>?_,fun x hx y hy ne=>o2 x hx y hy ne (fun _ _ e=>by cases e) (fun _ _ e=>by cases e)⟩,fun x hx=>?_⟩
 ·rintro(e|⟨x,hx,e⟩)
  ·exact hkb e
  ·exact hkx x hx e
 ·obtain⟨z1,z2,z3,z4⟩:=own' x hx a l g1 g2
  exact⟨z1,z3.1,z4⟩
 ·obtain⟨a,l,g1,g2,_⟩:=PR.map.ent x hx
  obtain⟨z1,z2,z3,_,C,e,z,_,_,z5,_⟩:=own' x hx a l g2 g1
  rcases z2 with q|q|q
  ·exact .inl q
  ·have hb2:w'.heap[b]?=some (.map ents' clock'):=hb'
   rw[q,hb2] at z5;cases z5
  ·exact .inr q
theorem Rel.hidCall{E:Env}{base:Bs}{w0:World}{Γ Γ2:Gam}{h:Tr AObj}{w w':World}(R:Rel E base w0 Γ h w){n:Nat}{i:Info}(hi:Γ n=some i){o o':AObj}(ho:h.get n=some o)(hl:o.live)(hp:o.plain)(hp':o'.plain)
  {ob:Obj} (hb:w.heap[i.b]?=some ob) {H:Nat→Prop} (hH:∀q,H q→base.own q∧Bare Γ h q)
  (os:w'.os=w.os) (tape:w'.tape=w.tape) (output:w'.output=w.output) (size:w.heap.size≤w'.heap.size) (blk:∀q,q<w.heap.size→q≠i.b→¬H q→w'.heap[q]?=w.heap[q]?)
  (shape:∀q,q<w.heap.size→∀C e z,w.heap[q]?=some (.cells C e z)→∃C' z',w'.heap[q]?=some (.cells C' e z')∧C'.size=C.size)
  (hnm:Γ2.nm=Γ.nm) (hx:Ext Γ Γ2) (hst:∀b ob,Γ2.fz b=some ob→w'.heap[b]?=some ob) (hsame:∀b,b<w.heap.size→Γ2.fz b=Γ.fz b) (hO:ORel E Γ2 w' n o')
  (hmi:∀m since seen,o'≠.miter m since seen) (hma:∀kt es c,o'≠.map kt es c) (hhid:Hid base Γ2 (h.set n o') w'):Rel E base w0 Γ2 (h.set n o') w':=by
 have hn:=(R.dom n i hi).1
 have hN:∀n,Γ2 n=Γ n:=fun n=>congrFun hnm n
 have gs:=R.gs n o' hn
 have nok:∀(j:Info)(p:AObj),¬Kin i j o p:=fun j p=>J0v hp
 have lone:∀m p j,m<LH→m≠n→h.get m=some p→p.live→Γ m=some j→j.b≠i.b:=fun m p j hm ne hpm hpl hj e=>
  nok j p (R.inj n m o p i j hn hm ho hpm hl hpl (fun q=>ne q.symm) hi hj e.symm)
 have same:∀m p j,m<LH→m≠n→h.get m=some p→p.live→Γ m=some j→w'.heap[j.b]?=w.heap[j.b]?:=fun m p j hm ne hpm hpl hj=>
  blk _ (R.dom m j hj).2.2 (lone m p j hm ne hpm hpl hj) fun q=>(hH _ q).2.2 m p j hm hpm hpl hj rfl
 constructor
 ·exact A0j _ DH h n R.deep
 ·refine R.below.trans ⟨os,tape,output,size,fun q hq hx=>blk q (Nat.lt_of_lt_of_le hq R.room) (I0F (R.dom n i hi).2.1 hq hx) fun c=>I0F (hH q c).1 hq hx rfl,fun q hq=>shape q (Nat.lt_of_lt_of_le hq R.room)⟩
 ·exact Nat.le_trans R.room size
 ·intro m j hj
  rw[hN] at hj
  obtain⟨a,b,c⟩:=R.dom m j hj
  exact⟨a,b,Nat.lt_of_lt_of_le c size⟩
 ·intro m p hm hpm
  rw[gs m hm] at hpm
  by_cases c:m=n
  ·subst c;rw[if_pos rfl] at hpm;cases hpm;exact hO
  ·rw[if_neg c] at hpm
   have hOm:=R.obj m p hm hpm
   by_cases lv:p.live
   ·exact hOm.keep hx fun j hj=>same m p j hm c hpm lv hj
   ·cases p with
    |done=>trivial
    |
     cells cs e2 frz dd root rel al=>
     obtain⟨j,g1,g2,⟨⟨r,g3⟩,g3'⟩,D,fz1,g4,g5,g6,g7,g8⟩:=hOm
     have hdd:dd=true:=by
      cases dd with
      |true=>rfl
      |false=>exact absurd rfl lv
     subst hdd
     obtain⟨C',z',q1,q2⟩:=shape _ (R.dom m j g1).2.2 _ _ _ g4
     exact⟨j,by rw[hN];exact g1,g2,⟨⟨r,by rw[hN];exact g3⟩,g3'⟩,C',z',q1,by omega,g6,fun q=>(by cases q),fun q=>(by cases q)⟩
    |map _ _ _=>exact absurd trivial lv
    |miter _ _ _=>exact absurd trivial lv
    |siter _ _ _=>exact absurd trivial lv
    |arr _ _=>exact absurd trivial lv
    |rcd _=>exact absurd trivial lv
    |dat _=>exact absurd trivial lv
    |mps _ _ _ _ _=>exact absurd trivial lv
 ·intro m q p1 p2 j k hm hq h1 h2 l1 l2 ne e1 e2 eb
  rw[gs m hm] at h1
  rw[gs q hq] at h2
  rw[hN] at e1 e2
  by_cases c:m=n
  ·subst c
   rw[if_neg (fun z=>ne z.symm)] at h2
   rw[hi] at e1;cases e1
   exact absurd eb.symm (lone q p2 k hq (fun z=>ne z.symm) h2 l2 e2)
  ·rw[if_neg c] at h1
   by_cases c':q=n
   ·subst c'
    rw[hi] at e2;cases e2
    exact absurd eb (lone m p1 j hm c h1 l1 e1)
   ·rw[if_neg c'] at h2
    exact R.inj m q p1 p2 j k hm hq h1 h2 l1 l2 ne e1 e2 eb
 ·intro m cs1 e1 frz1 root1 rel1 al1 hm h1 cs' e' frz' d' root' rel' al' h2
  have key:∀y,y<LH→∀cs2 e2 f2 d2 r2 l2 a2,(h.set n o').get y=some (.cells cs2 e2 f2 d2 r2 l2 a2)→h.get y=some (.cells cs2 e2 f2 d2 r2 l2 a2):=by
   intro y hy cs2 e2 f2 d2 r2 l2 a2 hg
   rw[gs y hy] at hg
   by_cases c:y=n
   ·rw[if_pos c] at hg;cases hg;exact hp'.elim
   ·rw[if_neg c] at hg;exact hg
  have h3:=key m hm _ _ _ _ _ _ _ h1
  obtain⟨_,_,_,⟨⟨r,hr⟩,_⟩,_⟩:=R.obj m _ hm h3
  exact R.fam m _ _ _ _ _ _ hm h3 _ _ _ _ _ _ _ (key root1 (R.dom root1 r hr).1 _ _ _ _ _ _ _ h2)
 ·intro m q since seen kt es clock j k ents b borns stepped hm hq h1 h2 e1 e2 b1 b2
  rw[gs m hm] at h1
  rw[gs q hq] at h2
  rw[hN] at e1 e2
  have cm:m≠n:=fun z=>by subst z;rw[if_pos rfl] at h1;cases h1;exact hmi _ _ _ rfl
  have cq:q≠n:=fun z=>by subst z;rw[if_pos rfl] at h2;cases h2;exact hma _ _ _ rfl
  rw[if_neg cm] at h1
  rw[if_neg cq] at h2
  rw[same m _ j hm cm h1 trivial e1] at b1
  rw[same q _ k hq cq h2 trivial e2] at b2
  obtain⟨z1,z2⟩:=R.iter m q since seen kt es clock j k ents b borns stepped hm hq h1 h2 e1 e2 b1 b2
  exact⟨z1,fun z=>(z2 z).ext hx⟩
 ·intro m j cs1 e1 frz1 rel1 al1 hm h1 ej
  rw[gs m hm] at h1
  rw[hN] at ej
  by_cases c:m=n
  ·rw[if_pos c] at h1;cases h1;exact hp'.elim
  ·rw[if_neg c] at h1
   exact R.own m j _ _ _ _ _ hm h1 ej
 ·exact hst
 ·intro m j o1 hm h1 l1 e1
  rw[gs m hm] at h1
  rw[hN] at e1
  rw[hsame _ (R.dom m j e1).2.2]
  by_cases c:m=n
  ·subst c
   exact R.sep m j o hm ho hl e1
  ·rw[if_neg c] at h1
   exact R.sep m j o1 hm h1 l1 e1
 ·rw[hx.lo];exact Nat.le_trans R.lo size
 ·first|exact R.solo|(rw[hx.lo];exact R.solo)|(rw[hlo];exact R.solo)
 ·exact hhid
theorem OwnW.data{fz fz':Nat→Option Obj}{w:World}{c:Univ.C}{l:List (Univ.S c)}{b:Nat}{v:Value}(h:OwnW fz w c l b v)(hx:∀b o,fz b=some o→fz' b=some o)(ht:fz' b=w.heap[b]?):CRel fz' (.sl c l) v:=by
 obtain⟨_,_,cap,C,e,z,rfl,hcap,hb,_,hA,_⟩:=h
 have each:∀(j:Nat)(x:Univ.S c),l[j]?=some x→∀(q:Nat)(cl:Cell Univ.C Univ.S),(Univ.cells c x)[q]?=some cl→∃v,C[0+j*Univ.esz c+q]?=some v∧CRel fz' cl v:=by
  intro j x hj q cl hq
  obtain⟨v,v1,v2⟩:=hA j x hj q cl hq
  exact⟨v,by rw[Nat.zero_add];exact v1,v2.mono hx⟩
 exact CRel.sl c l b 0 cap C e z (fun j q=>(C[0+j*Univ.esz c+q]?).getD (.bool false)) (ht.trans hb) hcap
  (fun j x hj q hq=>by
   have :q<(Univ.cells c x).length:=by rw[Univ.len];exact hq
   obtain⟨v,v1,_⟩:=each j x hj q _ (List.getElem?_eq_getElem this)
   rw[v1];rfl)
  (fun j x hj q cl hq=>by
   obtain⟨v,v1,v2⟩:=each j x hj q cl hq
   show CRel _ cl ((C[0+j*Univ.esz c+q]?).getD (.bool false))
   rw[v1];exact v2)
noncomputable def Dt.ctm(k c:Univ.C):Dt ((Univ.S k→Option (List (Univ.S c)))×Nat)→CT AVal
 |.leaf a=>.wrm 0 ⟨k,c,a.1,a.2,none⟩ (.ret (.tup []))
 |.ite b l r=>.ite b (l.ctm k c) (r.ctm k c)
 |.fail=>.fail
noncomputable def Dt.ctt(k c vc:Univ.C)(emb:List (Univ.S c)→Univ.S vc)(n:Nat):Dt ((Univ.S k→Option (List (Univ.S c)))×Nat)→CT AVal
 |.leaf a=>.wrd n (.map k vc (fun q=>(a.1 q).map emb) a.2) (.ret (.tup []))
 |.ite b l r=>.ite b (l.ctt k c vc emb n) (r.ctt k c vc emb n)
 |.fail=>.fail
theorem P0p{k c:Univ.C}:∀{t:Dt ((Univ.S k→Option (List (Univ.S c)))×Nat)}{s:St},((t.ctm k c).run s).Good→∃r s',t.val=some r∧Sets s 0 (.mps k c r.1 r.2 none) s'∧((t.ctm k c).run s).Has (.tup []) s'
 |
  .leaf a,s,g=>by
  have g:(M.bind (wrMps 0 ⟨k,c,a.1,a.2,none⟩) (fun _=>M.pure (AVal.tup [])) s).Good:=g
  obtain⟨_,_,_,_,_,s',_,e,st⟩:=K0c (A0a g)
  refine⟨a,s',rfl,st,?_⟩
  show(M.bind (wrMps 0 ⟨k,c,a.1,a.2,none⟩) (fun _=>M.pure (AVal.tup [])) s).Has _ _
  rw[A0d e];exact⟨rfl,rfl⟩
 |.ite true l _,_,g=>P0p (t:=l) g
 |.ite false _ r,_,g=>P0p (t:=r) g
 |.fail,_,g=>g.elim
theorem P0G{k c vc:Univ.C}{emb:List (Univ.S c)→Univ.S vc}{n:Nat}:∀{t:Dt ((Univ.S k→Option (List (Univ.S c)))×Nat)}{s:St},((t.ctt k c vc emb n).run s).Good→
  ∃r s',t.val=some r∧Sets s n (.dat (.map k vc (fun q=>(r.1 q).map emb) r.2)) s'∧((t.ctt k c vc emb n).run s).Has (.tup []) s'
 |
  .leaf a,s,g=>by
  have g:(M.bind (wrDat n (.map k vc (fun q=>(a.1 q).map emb) a.2)) (fun _=>M.pure (AVal.tup [])) s).Good:=g
  obtain⟨_,s',_,e,st⟩:=J0V (A0a g)
  refine⟨a,s',rfl,st,?_⟩
  show(M.bind (wrDat n (.map k vc (fun q=>(a.1 q).map emb) a.2)) (fun _=>M.pure (AVal.tup [])) s).Has _ _
  rw[A0d e];exact⟨rfl,rfl⟩
 |.ite true l _,_,g=>P0G (t:=l) g
 |.ite false _ r,_,g=>P0G (t:=r) g
 |.fail,_,g=>g.elim
def X0J{α:Type}(l:List α):Bool:=match l with |[]=>true|_=>false
noncomputable def R0c(ps:List Pt)(k:Nat→Pts ps→CT AVal)(as:List AVal):CT AVal:=match drp as (len ps) with
 |[]=>.fail
 |
  a::l=>match a with
  |.map n=>sel (X0J l&&AVal.lows 0 (tak as (len ps))) (Pts.get ps (tak as (len ps)) (k n)) .fail
  |_=>.fail
noncomputable def MSpec.at'(S:MSpec)(n:Nat)(x:Pts S.ps):CT AVal:=sel (Nat.beq n 0) (.rdm 0 fun p=>okOr (a0b S.k S.c p.m p.lent) fun m=>.need (dec (S.pre x (m,p.n))) ((S.res x (m,p.n)).ctm S.k S.c)) .fail
noncomputable def MSpec.ct(S:MSpec)(as:List AVal):CT AVal:=R0c S.ps S.at' as
structure TSpec where
 S:MSpec
 vc:Univ.C
 emb:List (Univ.S S.c)→Univ.S vc
noncomputable def TSpec.at'(T:TSpec)(n:Nat)(x:Pts T.S.ps):CT AVal:=.rdd n fun d=>match d with
 |.map k v _ c=>sel (F0r k T.S.k&&F0r v T.vc&&Nat.beq c 0) (.need (dec (T.S.pre x (fun _=>none,0))) ((T.S.res x (fun _=>none,0)).ctt T.S.k T.S.c T.vc T.emb n)) .fail
 |_=>.fail
noncomputable def TSpec.ct(T:TSpec)(as:List AVal):CT AVal:=R0c T.S.ps T.at' as
def TSpec.Kept(P:Program)(f:FuncId)(T:TSpec):Prop:=T.S.Kept P f∧∀fz l v,CRel fz (.sl T.S.c l) v→DRel fz T.vc (T.emb l) v
theorem L0C{E:Env}{base:Bs}{w0:World}{Γ:Gam}{s:St}{w:World}(R:Rel E base w0 Γ s.h w){ps:List Pt}{k:Nat→Pts ps→CT AVal}{as:List AVal}{vs:Array Value}(hv:VRels Γ as vs.toList)(g:((R0c ps k as).run s).Good):
  ∃n x v1 i s1,vs=(v1++[Value.map (some i.b)]).toArray∧Γ n=some i∧VRels (Γ.bare w) (Pts.vals ps x) v1∧Same s s1∧(R0c ps k as).run s=(k n x).run s1:=by
 unfold R0c at g⊢
 rw[G0s,F0g,A0O] at g⊢
 have hv1:=hv.take ps.length
 have hv2:=hv.drop ps.length
 have hsplit:=List.take_append_drop ps.length vs.toList
 cases hd:as.drop ps.length with
 |nil=>rw[hd] at g;exact g.elim
 |cons a l=>
 rw[hd] at g hv2
 simp only[] at g⊢
 cases a<;>simp only[] at g⊢<;>first
  |exact g.elim
  |skip
 rename_i n
 obtain⟨pv,v2,hvd,hp,hv3⟩:=hv2.cons_inv
 rw[hvd] at hsplit
 cases hq:(X0J l&&AVal.lows 0 (as.take ps.length)) with
 |false=>rw[hq] at g;exact g.elim
 |true=>
 rw[hq,A0e] at g
 rw[A0e]
 rw[Bool.and_eq_true] at hq
 cases l with
 |cons _ _=>exact absurd hq.1 (by unfold X0J;simp)
 |nil=>
 have h2:=hv3.nil_inv
 subst h2
 unfold VRel at hp
 obtain⟨i,hi,rfl⟩:=hp
 obtain⟨x,s1,x1,x2,x3⟩:=Pts.get_good R (Γt:=Γ.bare w) (G0h rfl) ps (.inl hq.2) rfl hv1 g
 exact⟨n,x,_,i,s1,by rw[hsplit],hi,x1,x2,x3⟩
theorem d0u{α:Type}(n:Nat)(k:MpS→CT α):(CT.rdm n k).run=M.bind (rdMps? n) fun p=>(match p with
  |some p=>(k p).run
  |none=>M.fail):=by
 rw[CT.run];congr 1
theorem MSpec.ct_sound{f:FuncId}(S:MSpec)(h:S.Kept P f):CtrSound P f S.ct:=by
 intro E base w0 Γ s w as vs N hty R hv g hN hF hLH
 unfold MSpec.ct at g hN⊢
 obtain⟨n,x,v1,i,s1,rfl,hi,x1,x2,x3⟩:=L0C R hv g
 rw[x3] at g hN⊢
 unfold MSpec.at' at g hN⊢
 cases hn:Nat.beq n 0 with
 |false=>rw[hn] at g;exact g.elim
 |true=>
 rw[hn,A0e] at g hN
 rw[A0e]
 have :n=0:=A0E hn
 subst this
 rw[d0u] at g hN⊢
 obtain⟨p,s2,e1,q1,h1,_⟩:=I0j (A0a g)
 rw[A0d e1] at g hN⊢
 cases p with
 |none=>exact g.elim
 |some p=>
 simp only[] at g hN⊢
 obtain⟨m,y1,y2⟩:=B0t g
 rw[y2] at g hN⊢
 have ho:s.h.get 0=some (.mps S.k S.c m p.n none):=by rw[←U0w y1,←x2.h];exact h1 p rfl
 obtain⟨hpre,g2,hlift⟩:=A0W (m:=((S.res x (m,p.n)).ctm S.k S.c).run) g
 have hpre:S.pre x (m,p.n):=dec_eq.1 hpre
 obtain⟨r,s3,hr,st,hhas⟩:=P0p g2
 have hcall:=h x (m,p.n) hpre r hr
 obtain⟨ents,clock,hb,PR⟩:=R.hid _ _ _ _ _ _ ho hi
 obtain⟨bl,b1,b2⟩:=PR.own
 have own':∀x∈ents.toList,∃l,Own1 base Γ s.h w S.c l (bl x.key) x.val∧∀a l',DRel Γ.fz S.k a x.key→m a=some l'→Own1 base Γ s.h w S.c l' (bl x.key) x.val:=fun x hx=>by
  have all:∀a l',DRel Γ.fz S.k a x.key→m a=some l'→Own1 base Γ s.h w S.c l' (bl x.key) x.val:=fun a l' g1 g2=>by
   rcases b1 x hx a l' g1 g2 with q|q
   ·cases q
   ·exact q
  obtain⟨a,l,g1,g2,_⟩:=PR.map.ent x hx
  exact⟨l,all a l g2 g1,all⟩
 have hPW:PW (Γ.bare w).fz w S.k S.c m p.n ents.toList clock bl:=⟨PR.map,fun x hx a l g1 g2=>by
  obtain⟨_,_,all⟩:=own' x hx
  obtain⟨z1,_,z3,z4⟩:=all a l g1 g2
  exact⟨z1,z3.1,z4⟩,fun x hx y hy ne=>b2 x hx y hy ne (fun _ _ e=>by cases e) (fun _ _ e=>by cases e)⟩
 have hH:∀q,(∃x∈ents.toList,q=bl x.key)→base.own q∧Bare Γ s.h q:=by
  rintro q⟨x,hx,rfl⟩
  obtain⟨_,z,_⟩:=own' x hx
  exact⟨z.2.1,z.2.2.1⟩
 obtain⟨hrun,hcalls⟩:=hcall (Γ.bare w) w i.b ents clock bl v1 R.stay (fun _=>rfl) rfl (R.sep 0 i _ (by decide) ho trivial hi) hb hPW x1
 rw[hrun]
 refine Inv.enter fun m'=>CallsIn.mono (hcalls m') ?_
 rintro e w'⟨u,Γ',ents',clock',bl',rfl,hur,hno',hx',hst',os,tape,output,size,blk,shape,hb',hPW',hor⟩
 have hext2:Ext Γ ⟨Γ.nm,Γ'.fz,Γ.lo⟩:=⟨fun _ _ e=>e,hx'.fz,rfl,fun b hb=>hx'.same b (Nat.lt_of_lt_of_le hb R.lo)⟩
 have gs:=R.gs 0 (.mps S.k S.c r.1 r.2 none) (by decide)
 have RR:=R.hidCall (Γ2:=⟨Γ.nm,Γ'.fz,Γ.lo⟩) hi ho trivial trivial (o':=.mps S.k S.c r.1 r.2 none) trivial hb hH os tape output size (fun q hq hqi hqH=>blk q hq hqi fun x hx e=>hqH ⟨x,hx,e⟩) shape rfl hext2 hst' hx'.same
  ⟨rfl,i,hi,ents',clock',hb'⟩ (by intros;simp) (by intros;simp) (by
   intro k c m2 q lent i' g1 g3
   rw[gs 0 (by decide),if_pos rfl] at g1
   cases g1
   have g3:Γ 0=some i':=g3
   rw[hi] at g3;cases g3
   refine⟨ents',clock',hb',hPW'.map,bl',fun x hx a l g4 g5=>.inr ?_,fun x hx y hy ne _ _=>hPW'.apart x hx y hy ne⟩
   obtain⟨z1,z2,z3⟩:=hPW'.own x hx a l g4 g5
   have z3':=z3
   obtain⟨_,C,e,z,_,_,z5,_⟩:=z3'
   refine⟨z1,?_,⟨z2,fun j o k hj hg hl hk=>?_⟩,z3⟩
   ·rcases hor x hx with q|⟨y,hy,q⟩
    ·exact .inl (Nat.le_trans R.room q)
    ·rw[q];exact(hH _ ⟨y,hy,rfl⟩).1
   ·have hk:Γ j=some k:=hk
    rw[gs j hj] at hg
    by_cases c:j=0
    ·subst c;rw[hi] at hk;cases hk
     intro e;rw[←e,hb'] at z5;cases z5
    ·rw[if_neg c] at hg
     rcases hor x hx with q|⟨y,hy,q⟩
     ·have :=(R.dom j k hk).2.2;omega
     ·rw[q];exact(hH _ ⟨y,hy,rfl⟩).2.2 j o k hj hg hl hk)
 have hs2:s2.h=s.h:=q1.h.trans x2.h
 refine⟨u,.tup [],s3,⟨Γ.nm,Γ'.fz,Γ.lo⟩,rfl,hlift _ _ hhas,hur.flat rfl,hext2,fun _ _=>rfl,by rw[st.nx,q1.nx,x2.nx];exact Nat.le_refl _,by rw[st.nx,q1.nx,x2.nx];exact hF,by rw[st.h,hs2];exact RR⟩
theorem TSpec.ct_sound{f:FuncId}(T:TSpec)(h:T.Kept P f):CtrSound P f T.ct:=by
 intro E base w0 Γ s w as vs N hty R hv g hN hF hLH
 unfold TSpec.ct at g hN⊢
 obtain⟨n,x,v1,i,s1,rfl,hi,x1,x2,x3⟩:=L0C R hv g
 rw[x3] at g hN⊢
 unfold TSpec.at' at g hN⊢
 let K:DObj→CT AVal:=fun d=>match d with
  |.map k v _ c=>sel (F0r k T.S.k&&F0r v T.vc&&Nat.beq c 0) (.need (dec (T.S.pre x (fun _=>none,0))) ((T.S.res x (fun _=>none,0)).ctt T.S.k T.S.c T.vc T.emb n)) .fail
  |_=>.fail
 have g:(M.bind (rdDat n) (fun d=>(K d).run) s1).Good:=g
 have hN:∀a s',(M.bind (rdDat n) (fun d=>(K d).run) s1).Has a s'→s'.nx≤N:=hN
 show Inv P E base w0 Γ s N (M.bind (rdDat n) (fun d=>(K d).run) s1) _
 obtain⟨d,s2,ho,e1,q1⟩:=H0B (A0a g)
 rw[A0d e1] at g hN⊢
 cases d with
 |iter _ _ _ _=>exact g.elim
 |map k v m c=>
 show Inv P E base w0 Γ s N ((sel (F0r k T.S.k&&F0r v T.vc&&Nat.beq c 0) (CT.need (dec (T.S.pre x (fun _=>none,0))) ((T.S.res x (fun _=>none,0)).ctt T.S.k T.S.c T.vc T.emb n)) .fail:CT AVal).run s2) _
 have g3:((sel (F0r k T.S.k&&F0r v T.vc&&Nat.beq c 0) (CT.need (dec (T.S.pre x (fun _=>none,0))) ((T.S.res x (fun _=>none,0)).ctt T.S.k T.S.c T.vc T.emb n)) .fail:CT AVal).run s2).Good:=g
 have hN3:∀a s',((sel (F0r k T.S.k&&F0r v T.vc&&Nat.beq c 0) (CT.need (dec (T.S.pre x (fun _=>none,0))) ((T.S.res x (fun _=>none,0)).ctt T.S.k T.S.c T.vc T.emb n)) .fail:CT AVal).run s2).Has a s'→s'.nx≤N:=hN
 cases hq:(F0r k T.S.k&&F0r v T.vc&&Nat.beq c 0) with
 |false=>rw[hq] at g3;exact g3.elim
 |true=>
 clear g hN
 rw[hq,A0e] at g3 hN3
 rw[A0e]
 simp only[Bool.and_eq_true] at hq
 obtain⟨⟨qk,qv⟩,qc⟩:=hq
 have :=G0n qk
 subst this
 have :=G0n qv
 have hc0:c=0:=A0E qc
 subst hc0
 obtain⟨hpre,g2,hlift⟩:=A0W (m:=((T.S.res x (fun _=>none,0)).ctt T.S.k T.S.c T.vc T.emb n).run) g3
 have hpre:T.S.pre x (fun _=>none,0):=dec_eq.1 hpre
 obtain⟨r,s3,hr,st,hhas⟩:=P0G g2
 have hcall:=h.1 x (fun _=>none,0) hpre r hr
 have ho:s.h.get n=some (.dat (.map T.S.k v m 0)):=by rw[←x2.h];exact ho
 have hn:=(R.dom n i hi).1
 obtain⟨i',hi',hlo,ob,hb,ents,clock,rfl,MR⟩:=R.obj n _ hn ho
 rw[hi] at hi';cases hi'
 have hsz:ents.toList=[]:=List.eq_nil_of_length_eq_zero MR.size
 have hPW:PW (Γ.bare w).fz w T.S.k T.S.c (fun _=>none) 0 ents.toList clock (fun _=>0):=by
  rw[hsz] at MR⊢
  exact⟨⟨MR.flat,rfl,fun x hx=>(by cases hx),fun a b e=>(by cases e),.nil,.nil,fun x hx=>(by cases hx)⟩,fun x hx=>(by cases hx),fun x hx=>(by cases hx)⟩
 obtain⟨hrun,hcalls⟩:=hcall (Γ.bare w) w i.b ents clock (fun _=>0) v1 R.stay (fun _=>rfl) rfl (R.sep n i _ hn ho trivial hi) hb hPW x1
 rw[hrun]
 refine Inv.enter fun m'=>CallsIn.mono (hcalls m') ?_
 rintro e w'⟨u,Γ',ents',clock',bl',rfl,hur,hno',hx',hst',os,tape,output,size,blk,shape,hb',hPW',hor⟩
 have new:∀x∈ents'.toList,w.heap.size≤bl' x.key:=fun x hx=>by
  rcases hor x hx with q|⟨y,hy,_⟩
  ·exact q
  ·rw[hsz] at hy;cases hy
 let Γ2:Gam:=⟨Γ.nm,fun b=>if b<w.heap.size then Γ'.fz b else w'.heap[b]?,Γ.lo⟩
 have up:∀b o,Γ'.fz b=some o→Γ2.fz b=some o:=fun b o e=>by
  show(if b<w.heap.size then Γ'.fz b else w'.heap[b]?)=some o
  by_cases c:b<w.heap.size
  ·rw[if_pos c];exact e
  ·rw[if_neg c];exact hst' b o e
 have hsame:∀b,b<w.heap.size→Γ2.fz b=Γ.fz b:=fun b hb=>by
  show(if b<w.heap.size then Γ'.fz b else w'.heap[b]?)=Γ.fz b
  rw[if_pos hb];exact hx'.same b hb
 have hext2:Ext Γ Γ2:=⟨fun _ _ e=>e,fun b o e=>up b o (hx'.fz b o e),rfl,fun b hb=>hsame b (Nat.lt_of_lt_of_le hb R.lo)⟩
 have lone:∀m p j,m<LH→m≠n→s.h.get m=some p→p.live→Γ m=some j→j.b≠i.b:=fun m p j hm ne hpm hpl hj e=>
  J0v (o:=.dat (.map T.S.k v (by assumption) 0)) trivial (R.inj n m _ p i j hn hm ho hpm trivial hpl (fun q=>ne q.symm) hi hj e.symm)
 have hhid:Hid base Γ2 (s.h.set n (.dat (.map T.S.k T.vc (fun q=>(r.1 q).map T.emb) r.2))) w':=by
  refine R.hid.keep ⟨fun k c m q l e=>?_,fun m p j hm hp hpl e=>?_,fun b C e z hb2 hB=>?_,fun b o e=>up b o (hx'.fz b o e)⟩
  ·rw[R.gs n _ hn 0 (by decide)] at e
   by_cases c0:0=n
   ·rw[if_pos c0] at e;cases e
   ·rw[if_neg c0] at e
    refine⟨e,fun j hj=>⟨hj,blk _ (R.dom 0 j hj).2.2 (lone 0 _ j (by decide) c0 e trivial hj) fun x hx=>?_⟩⟩
    rw[hsz] at hx;cases hx
  ·rw[R.gs n _ hn m hm] at hp
   by_cases c0:m=n
   ·subst c0;exact .inr ⟨m,_,j,hm,ho,trivial,e,rfl⟩
   ·rw[if_neg c0] at hp;exact .inr ⟨m,p,j,hm,hp,hpl,e,rfl⟩
  ·have hbs:=(Array.getElem?_eq_some_iff.1 hb2).1
   exact⟨blk b hbs (fun q=>hB.2 n _ i hn ho trivial hi q.symm) (fun x hx=>by rw[hsz] at hx;cases hx),(hsame b hbs).trans hB.1⟩
 have RR:=R.hidCall (Γ2:=Γ2) hi ho trivial trivial (o':=.dat (.map T.S.k T.vc (fun q=>(r.1 q).map T.emb) r.2)) trivial hb (H:=fun _=>False) (fun _ q=>q.elim) os tape output size (fun q hq hqi _=>blk q hq hqi fun x hx=>by rw[hsz] at hx;cases hx) shape rfl hext2
  (fun b ob e=>by
   have e:(if b<w.heap.size then Γ'.fz b else w'.heap[b]?)=some ob:=e
   by_cases c:b<w.heap.size
   ·rw[if_pos c] at e;exact hst' b ob e
   ·rw[if_neg c] at e;exact e) hsame
  ⟨i,hi,hlo,_,hb',ents',clock',rfl,hPW'.map.flat,hPW'.map.size,fun x hx=>by
   obtain⟨a,l,g1,g2,_⟩:=hPW'.map.ent x hx
   refine⟨a,T.emb l,by rw[g1];rfl,g2.mono up,h.2 _ _ _ ((hPW'.own x hx a l g2 g1).data up ?_)⟩
   show(if bl' x.key<w.heap.size then _ else _)=_
   rw[if_neg (by have :=new x hx;omega)],fun a b e=>by
   cases hm:r.1 a with
   |none=>rw[hm] at e;cases e
   |some l=>obtain⟨x,hx,hd⟩:=hPW'.map.has a l hm;exact⟨x,hx,hd.mono up⟩,hPW'.map.keys,hPW'.map.borns,hPW'.map.old⟩ (by intros;simp) (by intros;simp)
  hhid
 have hs2:s2.h=s.h:=q1.h.trans x2.h
 refine⟨u,.tup [],s3,Γ2,rfl,hlift _ _ hhas,hur.flat rfl,hext2,fun _ _=>rfl,by rw[st.nx,q1.nx,x2.nx];exact Nat.le_refl _,by rw[st.nx,q1.nx,x2.nx];exact hF,by rw[st.h,hs2];exact RR⟩
end
end Go.Ev
namespace Go.Ev
open Go Go.RowKit
variable[Univ]
section
variable{P:Program}{E:Env}{base:Bs}{w0:World}{Γ Γt:Gam}{w w':World}{s:St}
theorem Rel.cell1{h:Tr AObj}(R:Rel E base w0 Γ h w){n:Nat}{i:Info}(hi:Γ n=some i){v v':AVal}{e:TypeId}{x:Nat×Nat×Nat}(ho:h.get n=some (.cells [v] e false false n 0 [x]))
  (os:w'.os=w.os) (tape:w'.tape=w.tape) (output:w'.output=w.output) (size:w.heap.size≤w'.heap.size) (blk:∀k,k<w.heap.size→k≠i.b→w'.heap[k]?=w.heap[k]?)
  {C':Array Value} {fz':Nat×Nat} (hb':w'.heap[i.b]?=some (.cells C' e fz')) (hsz:C'.size=i.csz) {u:Value} (hc0:C'[0]?=some u) (hu:VRel Γ v' u) (hfz:∀k,k<C'.size→fz'.1≤k→k<fz'.2→False):
  Rel E base w0 Γ (h.set n (.cells [v'] e false false n 0 [x])) w':=by
 have hn:=(R.dom n i hi).1
 have gs:=R.gs n (.cells [v'] e false false n 0 [x]) hn
 obtain⟨i',hi',hasz,hroot,C,fz,hb,hcsz,hfit,_,_⟩:=R.obj n _ hn ho
 rw[hi] at hi';cases hi'
 have h0:i.o=0:=R.own n i _ _ _ _ _ hn ho hi
 have hx:x.1=n:=by
  have :=R.fam n _ _ _ _ _ _ hn ho _ _ _ _ _ _ _ ho
  rw[List.mem_singleton] at this
  rw[←this]
 have lone:∀m p j,m<LH→m≠n→h.get m=some p→p.live→Γ m=some j→j.b=i.b→False:=by
  intro m p j hm ne hp hl hj eb
  have :=R.inj m n p _ j i hm hn hp ho hl rfl ne hj hi eb
  cases p with
  |
   cells cs e2 frz dd root rel al=>
   have hdd:dd=false:=hl
   subst hdd
   obtain⟨hr,_⟩:=this
   subst hr
   have :=R.fam m _ _ _ _ _ _ hm hp _ _ _ _ _ _ _ ho
   rw[List.mem_singleton] at this
   rw[←this] at hx
   exact ne hx
  |_=>exact this
 have same:∀m p j,m<LH→m≠n→h.get m=some p→p.live→Γ m=some j→w'.heap[j.b]?=w.heap[j.b]?:=fun m p j hm ne hp hl hj=>
  blk _ (R.dom m j hj).2.2 fun eb=>lone m p j hm ne hp hl hj eb
 constructor
 ·exact A0j _ DH h n R.deep
 ·refine R.below.trans ⟨os,tape,output,size,fun k hk hx=>blk k (Nat.lt_of_lt_of_le hk R.room) (I0F (R.dom n i hi).2.1 hk hx),O0A hb hb' (hsz.trans hcsz.symm) fun k hk=>blk k (Nat.lt_of_lt_of_le hk R.room)⟩
 ·exact Nat.le_trans R.room size
 ·intro m j hj
  obtain⟨a,b,c⟩:=R.dom m j hj
  exact⟨a,b,Nat.lt_of_lt_of_le c size⟩
 ·intro m p hm hp
  rw[gs m hm] at hp
  by_cases c:m=n
  ·subst c
   rw[if_pos rfl] at hp;cases hp
   refine⟨i,hi,hasz,hroot,C',fz',hb',hsz,hfit,fun _ k a ha=>?_,fun _ _ k hk=>hfz k (by omega)⟩
   cases k with
   |zero=>simp at ha;subst ha;exact⟨u,by rw[h0];exact hc0,hu⟩
   |succ k=>simp at ha
  ·rw[if_neg c] at hp
   have hO:=R.obj m p hm hp
   by_cases lv:p.live
   ·exact hO.keep (Ext.refl _) fun j hj=>same m p j hm c hp lv hj
   ·cases p with
    |done=>trivial
    |
     cells cs e2 frz dd root rel al=>
     obtain⟨j,g1,g2,g3,D,fz1,g4,g5,g6,g7,g8⟩:=hO
     have hdd:dd=true:=by
      cases dd with
      |true=>rfl
      |false=>exact absurd rfl lv
     subst hdd
     by_cases eb:j.b=i.b
     ·rw[eb,hb] at g4;cases g4
      exact⟨j,g1,g2,g3,C',fz',by rw[eb];exact hb',by omega,g6,fun q=>(by cases q),fun q=>(by cases q)⟩
     ·exact⟨j,g1,g2,g3,D,fz1,by rw[blk _ (R.dom m j g1).2.2 eb];exact g4,g5,g6,g7,g8⟩
    |map _ _ _=>exact absurd trivial lv
    |miter _ _ _=>exact absurd trivial lv
    |siter _ _ _=>exact absurd trivial lv
    |arr _ _=>exact absurd trivial lv
    |rcd _=>exact absurd trivial lv
    |dat _=>exact absurd trivial lv
    |mps _ _ _ _ _=>exact absurd trivial lv
 ·intro m q p1 p2 j k hm hq h1 h2 l1 l2 ne e1 e2 eb
  rw[gs m hm] at h1
  rw[gs q hq] at h2
  by_cases c:m=n
  ·subst c
   rw[if_neg (fun z=>ne z.symm)] at h2
   rw[hi] at e1;cases e1
   exact(lone q p2 k hq (fun z=>ne z.symm) h2 l2 e2 eb.symm).elim
  ·rw[if_neg c] at h1
   by_cases c':q=n
   ·subst c'
    rw[hi] at e2;cases e2
    exact(lone m p1 j hm c h1 l1 e1 eb).elim
   ·rw[if_neg c'] at h2
    exact R.inj m q p1 p2 j k hm hq h1 h2 l1 l2 ne e1 e2 eb
 ·intro m cs1 e1 frz1 root1 rel1 al1 hm h1 cs' e' frz' d' root' rel' al' h2
  have key:∀y,y<LH→∀cs2 e2 f2 d2 r2 l2 a2,(h.set n (.cells [v'] e false false n 0 [x])).get y=some (.cells cs2 e2 f2 d2 r2 l2 a2)→
    ∃cs3 e3 f3,h.get y=some (.cells cs3 e3 f3 d2 r2 l2 a2)∧cs3.length=cs2.length:=by
   intro y hy cs2 e2 f2 d2 r2 l2 a2 hg
   rw[gs y hy] at hg
   by_cases c:y=n
   ·subst c;rw[if_pos rfl] at hg;cases hg;exact⟨[v],e,false,ho,rfl⟩
   ·rw[if_neg c] at hg;exact⟨cs2,e2,f2,hg,rfl⟩
  obtain⟨cs3,e3,f3,h3,l3⟩:=key m hm _ _ _ _ _ _ _ h1
  obtain⟨_,_,_,⟨⟨r,hr⟩,_⟩,_⟩:=R.obj m _ hm h3
  obtain⟨cs4,e4,f4,h4,_⟩:=key root1 (R.dom root1 r hr).1 _ _ _ _ _ _ _ h2
  have :=R.fam m cs3 e3 f3 root1 rel1 al1 hm h3 cs4 e4 f4 d' root' rel' al' h4
  rwa[l3] at this
 ·intro m q since seen kt es clock j k ents b borns stepped hm hq h1 h2 e1 e2 b1 b2
  rw[gs m hm] at h1
  rw[gs q hq] at h2
  have cm:m≠n:=fun z=>by subst z;rw[if_pos rfl] at h1;cases h1
  have cq:q≠n:=fun z=>by subst z;rw[if_pos rfl] at h2;cases h2
  rw[if_neg cm] at h1
  rw[if_neg cq] at h2
  rw[same m _ j hm cm h1 trivial e1] at b1
  rw[same q _ k hq cq h2 trivial e2] at b2
  exact R.iter m q since seen kt es clock j k ents b borns stepped hm hq h1 h2 e1 e2 b1 b2
 ·intro m j cs1 e1 frz1 rel1 al1 hm h1 ej
  rw[gs m hm] at h1
  by_cases c:m=n
  ·subst c
   rw[hi] at ej;cases ej;exact h0
  ·rw[if_neg c] at h1
   exact R.own m j _ _ _ _ _ hm h1 ej
 ·intro b ob hb1
  rw[blk b (R.stay_lt hb1) fun q=>?_]
  ·exact R.stay b ob hb1
  ·have :=R.sep n i _ hn ho rfl hi
   rw[q,this] at hb1;cases hb1
 ·intro m j o1 hm h1 l1 e1
  rw[gs m hm] at h1
  by_cases c:m=n
  ·subst c
   rw[hi] at e1;cases e1
   exact R.sep m i _ hm ho rfl hi
  ·rw[if_neg c] at h1
   exact R.sep m j o1 hm h1 l1 e1
 ·exact Nat.le_trans R.lo size
 ·first|exact R.solo|(rw[hx.lo];exact R.solo)|(rw[hlo];exact R.solo)
 ·exact R.hid_set hi ho rfl (by intros;simp) (by intros;simp) blk
end
structure WSpec where
 ps:List Pt
 qs:List Pt
 cell:Pt
 et:TypeId
 pre:Pts ps→cell.ty→Pts qs→Prop
 res:Pts ps→cell.ty→Pts qs→Dt (AVal×AVal)
noncomputable def Dt.ctw(n:Nat):Dt (AVal×AVal)→CT AVal
 |.leaf a=>sel (AVal.low 0 a.1&&a.2.flat&&O0t a.2) (.wr n 0 a.2 (.ret a.1)) .fail
 |.ite c l r=>.ite c (l.ctw n) (r.ctw n)
 |.fail=>.fail
noncomputable def WSpec.in2(S:WSpec)(n off:Nat)(a1 a2:List AVal):CT AVal:=sel (Nat.beq off 0&&AVal.lows 0 a1&&AVal.lows 0 a2)
 (Pts.get S.ps a1 fun x=>Pts.get S.qs a2 fun z=>.one n S.et fun v=>okOr (sel v.flat (S.cell.ext v.sym) none) fun y=>.need (dec (S.pre x y z)) ((S.res x y z).ctw n)) .fail
noncomputable def WSpec.ct(S:WSpec)(as:List AVal):CT AVal:=match drp as (len S.ps) with
 |[]=>.fail
 |
  a::l=>match a with
  |.ptr n off=>S.in2 n off (tak as (len S.ps)) l
  |_=>.fail
def b0Q(P:Program)(f:FuncId)(et:TypeId)(a1:List AVal)(x:AVal)(a2:List AVal)(r x':AVal):Prop:=
 ∀(Γ:Gam)(w:World)(b:Nat)(C:Array Value)(fz:Nat×Nat)(v:Value)(v1 v2:List Value),(∀b ob,Γ.fz b=some ob→w.heap[b]?=some ob)→(∀n,Γ n=none)→Γ.lo=w.heap.size→
 Γ.fz b=none→w.heap[b]?=some (.cells C et fz)→C[0]?=some v→VRel Γ x v→(∀k,k<C.size→fz.1≤k→k<fz.2→False)→VRels Γ a1 v1→VRels Γ a2 v2→
 (callFunc f (v1++.pointer (some ⟨b,0,none⟩)::v2).toArray).run P w=.ok (.enter f (v1++.pointer (some ⟨b,0,none⟩)::v2).toArray) w∧
 ∀
  m,CallsIn (FW none) m P f (v1++.pointer (some ⟨b,0,none⟩)::v2).toArray w fun e w'=>∃u v' C' fz' Γ',e=.returned u∧VRel Γ' r u∧(∀n,Γ' n=none)∧Ext Γ Γ'∧(∀k ob,Γ'.fz k=some ob→w'.heap[k]?=some ob)∧w'.os=w.os∧w'.tape=w.tape∧w'.output=w.output∧w.heap.size≤w'.heap.size∧
  (∀k,k<w.heap.size→k≠b→w'.heap[k]?=w.heap[k]?)∧w'.heap[b]?=some (.cells C' et fz')∧C'.size=C.size∧C'[0]?=some v'∧VRel Γ x' v'∧∀k,k<C'.size→fz'.1≤k→k<fz'.2→False
noncomputable def WSpec.inS(S:WSpec)(y:S.cell.ty):St:=⟨D0e [(0,.cells [S.cell.val y] S.et false false 0 0 [(0,0,1)])],1,0,[],[]⟩
noncomputable def Q0r(et:TypeId)(s:St):Option AVal:=match s.h.get 0 with
 |none=>none
 |
  some o=>match o with
  |
   .cells cs e frz dead root rel al=>(match cs with
   |[]=>none
   |
    c::l=>(match l with
    |[]=>sel (Nat.beq e et&&not frz&&not dead&&c.flat&&Nat.beq root 0&&Z0s al) (some c.sym) none
    |_=>none))
  |_=>none
noncomputable def WSpec.run(S:WSpec)(E:Env)(c:Code)(nt:Nat)(rs:List ResultVar)(fuel:Nat)(x:Pts S.ps)(y:S.cell.ty)(z:Pts S.qs):Dt (Bool×Option (AVal×AVal)):=
 (H0S (.code c nt rs) E (A0v fuel E false) (Pts.vals S.ps x++.ptr 0 0::Pts.vals S.qs z) (S.inS y)).view fun a s=>(AVal.low 0 (a.out 1 s.h)&&Nat.ble s.nx LH,match Q0r S.et s with |some c=>some ((a.out 1 s.h).sym,c)|none=>none)
def WSpec.Kept(P:Program)(f:FuncId)(S:WSpec):Prop:=∀x y z,S.pre x y z→∀r,(S.res x y z).val=some r→b0Q P f S.et (Pts.vals S.ps x) (S.cell.val y) (Pts.vals S.qs z) r.1 r.2
mutual
theorem P0w:∀a:AVal,AVal.flat a=true→AVal.flat a.sym=true
 |.bool _,_=>by unfold AVal.sym AVal.flat;rfl
 |.int _ _,_=>by unfold AVal.sym AVal.flat;rfl
 |.str _,_=>by unfold AVal.sym AVal.flat;rfl
 |.sb _,_=>rfl
 |.si _ _,_=>rfl
 |.ss _,_=>rfl
 |.nilp,_=>rfl
 |.nils,_=>rfl
 |.nilm,_=>rfl
 |.nilf,_=>rfl
 |.nili,_=>rfl
 |.agg l,h=>by unfold AVal.flat at h;unfold AVal.sym AVal.flat;exact N0b l h
 |.tup l,h=>by unfold AVal.flat at h;unfold AVal.sym AVal.flat;exact N0b l h
 |.ptr _ _,h=>by cases h
 |.slice _ _ _ _ _,h=>by cases h
 |.map _,h=>by cases h
 |.fn _ _ _,h=>by cases h
 |.iface _ _,h=>by cases h
 |.raw _,h=>by cases h
 |.any,h=>by cases h
 |.yld _,h=>by cases h
 |.dsl _ _,h=>by cases h
 |.dptr _ _ _ _,h=>by cases h
 |.asl _ _ _ _,h=>by cases h
 |.aptr _ _ _ _,h=>by cases h
 |.dmp _ _ _ _,h=>by cases h
theorem N0b:∀l:List AVal,AVal.flats l=true→AVal.flats (AVal.syms l)=true
 |[],_=>rfl
 |
  a::l,h=>by
  unfold AVal.flats at h;rw[Bool.and_eq_true] at h
  unfold AVal.syms AVal.flats;rw[Bool.and_eq_true]
  exact⟨P0w a h.1,N0b l h.2⟩
end
theorem T0D{et:TypeId}{s:St}{c:AVal}(h:Q0r et s=some c):∃c0 rel x,s.h.get 0=some (.cells [c0] et false false 0 rel [x])∧c0.flat=true∧c=c0.sym:=by
 unfold Q0r at h
 split at h
 ·cases h
 rename_i o ho
 split at h
 ·rename_i cs e frz dead root rel al
  split at h
  ·cases h
  rename_i c0 l
  split at h
  ·cases hq:(Nat.beq e et&&!frz&&!dead&&c0.flat&&Nat.beq root 0&&Z0s al) with
   |false=>rw[hq] at h;cases h
   |
    true=>
    rw[hq] at h
    cases h
    simp only[Bool.and_eq_true,Bool.not_eq_true'] at hq
    obtain⟨⟨⟨⟨⟨h1,h2⟩,h3⟩,h4⟩,h5⟩,h6⟩:=hq
    have hal:∃x,al=[x]:=by
     match al,h6 with
     |[x],_=>exact⟨x,rfl⟩
    obtain⟨x,rfl⟩:=hal
    rw[A0E h1,h2,h3,A0E h5] at ho
    exact⟨c0,rel,x,ho,h4,rfl⟩
  ·cases h
 ·cases h
section
variable{P:Program}
theorem W0R{n:Nat}{s:St}{e0:TypeId}{k:AVal→M AVal}(g:((I0d n e0 k) s).Good):∃v x s',s.h.get n=some (.cells [v] e0 false false n 0 [x])∧Same s s'∧(I0d n e0 k) s=k v s':=by
 unfold I0d at g⊢
 obtain⟨cs,e,frz,dead,root,rel,al,s1,h1,h2,h3⟩:=C0j (A0a g)
 rw[A0d h2] at g⊢
 obtain⟨cs2,e2,frz2,dead2,root2,rel2,al2,s2,h4,h5,h6⟩:=D0R (A0a g)
 rw[A0d h5] at g⊢
 rw[h3.h,h1] at h4
 cases h4
 obtain⟨hq,hr⟩:=A0i g
 rw[hr] at g⊢
 simp only[Bool.and_eq_true,Bool.not_eq_true'] at hq
 obtain⟨⟨⟨⟨⟨⟨q1,q2⟩,q3⟩,q4⟩,q5⟩,q6⟩,q7⟩:=hq
 obtain⟨cs3,e3,frz3,root3,rel3,al3,v,s3,r1,r2,r3,r4⟩:=I0p (A0a g)
 rw[A0d r3]
 rw[h6.h,h3.h,h1] at r1
 cases r1
 have hl:cs.length=1:=A0E q5
 obtain⟨v0,rfl⟩:=List.length_eq_one_iff.1 hl
 simp at r2
 subst r2
 have hal:∃x,al=[x]:=by
  match al,q6 with
  |[x],_=>exact⟨x,rfl⟩
 obtain⟨x,rfl⟩:=hal
 have q1':root=n:=A0E q1
 have q2':rel=0:=A0E q2
 have q3':frz=false:=q3
 have q7':e=e0:=A0E q7
 subst q1' q2' q3' q7'
 exact⟨v0,x,s3,h1,h3.trans (h6.trans r4),rfl⟩
theorem T0w{n:Nat}{v c:AVal}{e:TypeId}{x:Nat×Nat×Nat}{s:St}(hn:n<LH)(ho:s.h.get n=some (.cells [v] e false false n 0 [x]))(g:(storeAt n 0 [c] s).Good):
  ∃s',storeAt n 0 [c] s=.ok () s'∧s'.h=s.h.set n (.cells [c] e false false n 0 [x])∧s'.nx=s.nx:=by
 change(M.bind (rdHead n) (fun h=>M.bind (rdAlive h.root) fun l=>E0Q n 0 [c] h l) s).Good at g
 show∃s',M.bind (rdHead n) (fun h=>M.bind (rdAlive h.root) fun l=>E0Q n 0 [c] h l) s=.ok () s'∧_
 obtain⟨cs,e1,frz,dead,root,rel,al,s1,h1,h2,h3⟩:=C0j (A0a g)
 rw[A0d h2] at g⊢
 rw[ho] at h1
 cases h1
 obtain⟨cs2,e2,frz2,dead2,root2,rel2,al2,s2,h4,h5,h6⟩:=D0R (A0a g)
 rw[A0d h5] at g⊢
 simp only[] at h4
 rw[h3.h,ho] at h4
 cases h4
 have g:(wrCells n 0 [c] s2).Good:=g
 show∃s',wrCells n 0 [c] s2=.ok () s'∧_
 obtain⟨cs3,e3,root3,rel3,al3,s3,r1,r2,r3,r4,r5⟩:=F0d g
 rw[h6.h,h3.h,ho] at r1
 cases r1
 refine⟨s3,r4,?_,by rw[r5.nx,h6.nx,h3.nx]⟩
 rw[r5.h,h6.h,h3.h]
 rfl
theorem O0Q{n:Nat}:∀{t:Dt (AVal×AVal)}{s:St},((t.ctw n).run s).Good→∃r,t.val=some r∧AVal.low 0 r.1=true∧r.2.flat=true∧(storeAt n 0 [r.2] s).Good∧∀s',storeAt n 0 [r.2] s=.ok () s'→((t.ctw n).run s).Has r.1 s'
 |
  .leaf a,s,g=>by
  unfold Dt.ctw at g⊢
  cases hb:(AVal.low 0 a.1&&a.2.flat&&O0t a.2) with
  |false=>rw[hb] at g;exact g.elim
  |
   true=>
   rw[hb,A0e] at g
   simp only[Bool.and_eq_true] at hb
   have g:(M.bind (storeAt n 0 [a.2]) (fun _=>M.pure a.1) s).Good:=g
   refine⟨a,rfl,hb.1.1,hb.1.2,A0a g,fun s' e=>?_⟩
   show(M.bind (storeAt n 0 [a.2]) (fun _=>M.pure a.1) s).Has _ _
   rw[A0d e];exact⟨rfl,rfl⟩
 |.ite true l _,_,g=>O0Q (t:=l) g
 |.ite false _ r,_,g=>O0Q (t:=r) g
 |.fail,_,g=>g.elim
theorem WSpec.calls(hX:C0U P)(hm:P.follows .mixedOrders=true){E:Env}(hE:EnvR E P)(hl:E.loops=[])(hso:E.solo=false)(S:WSpec){f:FuncId}{c:Code}{nt:Nat}{rs:List ResultVar}(hmk:mkFn P f=some (.code c nt rs))
  (c':Code) (hc':A0M c'=true) (hu:A0u E.lps c'=c) (fuel:Nat) (x:Pts S.ps) (y:S.cell.ty) (z:Pts S.qs) {r:AVal×AVal}
  (hh:(S.run E c' nt rs fuel x y z).holds fun q=>q.1=true∧q.2=some r):b0Q P f S.et (Pts.vals S.ps x) (S.cell.val y) (Pts.vals S.qs z) r.1 r.2:=by
 intro Γ w b C fz v v1 v2 hst hno hlo hnb hb hc0 hv hfz hv1 hv2
 obtain⟨a,t,hdet,hq⟩:=C0D hh
 simp only[Bool.and_eq_true] at hq
 obtain⟨⟨hq1,hq2⟩,hq3⟩:=hq
 have hq2:=Nat.le_of_ble_eq_true hq2
 obtain⟨c1,hc1,hr⟩:∃c1,Q0r S.et t=some c1∧r=((a.out 1 t.h).sym,c1):=by
  cases hc:Q0r S.et t with
  |none=>rw[hc] at hq3;cases hq3
  |some c1=>rw[hc] at hq3;cases hq3;exact⟨c1,rfl,rfl⟩
 subst hr
 obtain⟨c0,rel,ax,hget,hfl,rfl⟩:=T0D hc1
 have hbs:b<w.heap.size:=(Array.getElem?_eq_some_iff.1 hb).1
 have hCs:0<C.size:=(Array.getElem?_eq_some_iff.1 hc0).1
 let Γ0:Gam:=⟨fun n=>if n=0 then some ⟨b,0,1,C.size,default⟩ else none,Γ.fz,w.heap.size⟩
 have e0:Γ0 0=some ⟨b,0,1,C.size,default⟩:=rfl
 have en:∀n i,Γ0 n=some i→n=0∧i=⟨b,0,1,C.size,default⟩:=by
  intro n i e
  have e:(if n=0 then some (⟨b,0,1,C.size,default⟩:Info) else none)=some i:=e
  by_cases hn:n=0
  ·rw[if_pos hn] at e;cases e;exact⟨hn,rfl⟩
  ·rw[if_neg hn] at e;cases e
 have nmm:∀n i,Γ n=some i→Γ0 n=some i:=fun n i e=>by rw[hno] at e;cases e
 have gs:∀m,m<LH→(S.inS y).h.get m=if m=0 then some (.cells [S.cell.val y] S.et false false 0 0 [(0,0,1)]) else none:=by
  intro m hm
  have :=A0y (AObj.cells [S.cell.val y] S.et false false 0 0 [(0,0,1)]) DH (Tr.full DH) 0 m (A0Z DH) (by decide) hm
  rw[A0q] at this
  unfold WSpec.inS D0e
  simp only[List.foldl_cons,List.foldl_nil]
  exact this
 have one:∀m o,m<LH→(S.inS y).h.get m=some o→m=0∧o=.cells [S.cell.val y] S.et false false 0 0 [(0,0,1)]:=by
  intro m o hm ho
  rw[gs m hm] at ho
  by_cases h0:m=0
  ·rw[if_pos h0] at ho;cases ho;exact⟨h0,rfl⟩
  ·rw[if_neg h0] at ho;cases ho
 have R0:Rel E ⟨w.heap.size,fun k=>k=b⟩ w Γ0 (S.inS y).h w:=
  {deep:=F0Y _
   below:=Bel.refl _ _
   room:=Nat.le_refl _
   dom:=fun n i h=>by obtain⟨rfl,rfl⟩:=en n i h;exact⟨by decide,.inr rfl,hbs⟩
   obj:=fun n o hn h=>by
    obtain⟨rfl,rfl⟩:=one n o hn h
    refine⟨_,e0,rfl,⟨⟨_,e0⟩,fun x hx=>by rw[List.mem_singleton] at hx;subst hx;decide⟩,C,fz,hb,rfl,by simp only[];omega,fun _ k a ha=>?_,fun _ _ k hk=>hfz k hk⟩
    cases k with
    |zero=>simp at ha;subst ha;exact⟨v,by simpa using hc0,hv.names nmm (fun _ _ e=>e)⟩
    |succ k=>simp at ha
   inj:=fun n m o p i j hn hm h1 h2 _ _ ne=>by
    obtain⟨rfl,_⟩:=one n o hn h1
    obtain⟨rfl,_⟩:=one m p hm h2
    exact absurd rfl ne
   fam:=fun n cs e frz root rel al hn h1 cs' e' frz' d' root' rel' al' h2=>by
    obtain⟨rfl,q⟩:=one n _ hn h1
    cases q
    rw[gs 0 (by decide),if_pos rfl] at h2
    cases h2
    exact List.mem_singleton.2 rfl
   iter:=fun n m since seen kt es clock i j ents b borns stepped hn _ h=>by obtain⟨_,q⟩:=one n _ hn h;cases q
   own:=fun n i cs e frz rel al hn h hi=>by obtain⟨rfl,rfl⟩:=en n i hi;rfl
   stay:=hst
   lo:=Nat.le_refl _
   sep:=fun n i o hn h _ hi=>by obtain⟨rfl,rfl⟩:=en n i hi;exact hnb
   solo:=fun h=>by rw[hso] at h;cases h
   hid:=Hid.none fun k c m q l h=>by obtain⟨_,q⟩:=one 0 _ (by decide) h;cases q}
 have hargs:VRels Γ0 (Pts.vals S.ps x++.ptr 0 0::Pts.vals S.qs z) (v1++.pointer (some ⟨b,0,none⟩)::v2).toArray.toList:=by
  rw[List.toList_toArray]
  refine(hv1.names nmm (fun _ _ e=>e)).append (.cons ?_ (hv2.names nmm (fun _ _ e=>e)))
  unfold VRel
  exact⟨_,e0,rfl⟩
 obtain⟨_,_,_,_,_,_,hrun⟩:=C0X hmk
 refine⟨hrun _ _,fun m=>?_⟩
 refine CallsIn.mono (D0d (N:=LH) (B0Y (base:=⟨w.heap.size,fun k=>k=b⟩) (w0:=w) hX hm fuel) hE hmk hc' hu R0 (by rw[hl];intro d hd;cases hd) hargs (D0y hdet).1 (fun b u k=>by obtain⟨rfl,rfl⟩:=C0t hdet k;exact hq2)
  (fun n h1 _=>if_neg (by have h1:1≤n:=h1;omega)) (Nat.le_refl _) m) ?_
 rintro e w'⟨u,bb,uu,Γ',rfl,hh',hrel,hG⟩
 obtain⟨rfl,rfl⟩:=C0t hdet hh'
 obtain⟨i',hi',hasz,_,C',fz',hb',hcsz,hfit,hvals,hfrz⟩:=hG.rel.obj 0 _ (by decide) hget
 have h00:=hG.ext.nm 0 _ e0
 rw[h00] at hi'
 cases hi'
 obtain⟨v',hv1',hv2'⟩:=hvals rfl 0 c0 rfl
 have hlo':Γ'.lo=w.heap.size:=hG.ext.lo
 have hx0:ax.1=0:=by
  have :=hG.rel.fam 0 _ _ _ _ _ _ (by decide) hget _ _ _ _ _ _ _ hget
  rw[List.mem_singleton] at this
  rw[←this]
 have notb:∀n i o,(0:Nat)≠n→uu.h.get n=some o→o.live→Γ' n=some i→(∀cs e frz root rel al,o≠.cells cs e frz false root rel al)∨(∃cs e frz root rel al,o=.cells cs e frz false root rel al)→Γ'.lo≤i.b:=by
  intro n i o hn0 ho hlv hi hor
  have hdm:=hG.rel.dom n i hi
  rcases hdm.2.1 with q|q
  ·rw[hlo'];exact q
  ·have q:b=i.b:=(show i.b=b from q).symm
   have hk:=hG.rel.inj 0 n _ _ _ _ (by decide) hdm.1 hget ho rfl hlv hn0 h00 hi q
   rcases hor with hor|⟨cs,e,frz,root,rel,al,rfl⟩
   ·cases o with
    |
     cells cs e frz dead root rel al=>
     have hdd:dead=false:=hlv
     subst hdd
     exact absurd rfl (hor _ _ _ _ _ _)
    |_=>exact hk.elim
   ·obtain⟨hr,_⟩:=hk
    subst hr
    have :=hG.rel.fam n _ _ _ _ _ _ hdm.1 ho _ _ _ _ _ _ _ hget
    rw[List.mem_singleton] at this
    rw[←this] at hx0
    exact absurd hx0.symm hn0
 have hmine:Mine 1 Γ' uu.h:=⟨fun n i c l ho hi=>notb n i _ (fun e=>by subst e;rw[hget] at ho;cases ho) ho trivial hi (.inl fun _ _ _ _ _ _ e=>by cases e),
  fun n i cs e frz root rel al hk ho hi=>notb n i _ (fun e=>by omega) ho rfl hi (.inr ⟨_,_,_,_,_,_,rfl⟩)⟩
 have hout:=X0y hG.rel hmine hrel
 have hfzm:∀b o,Γ'.fz b=some o→(Γ'.left w').fz b=some o:=by
  intro b o e
  show(if b<Γ'.lo then Γ'.fz b else w'.heap[b]?)=some o
  by_cases hb:b<Γ'.lo
  ·rw[if_pos hb];exact e
  ·rw[if_neg hb];exact hG.rel.stay b o e
 refine⟨u,v',C',fz',⟨fun _=>none,(Γ'.left w').fz,Γ'.lo⟩,rfl,(hout.agree (G0h (Γ1:=Γ'.left w') (Γ2:=⟨fun _=>none,(Γ'.left w').fz,Γ'.lo⟩) rfl) hq1).sym,fun _=>rfl,
  ⟨fun n i e=>(by rw[hno] at e;cases e),fun b o e=>hfzm b o (hG.ext.fz b o e),hlo'.trans hlo.symm,fun k hk=>?_⟩,fun k ob e=>?_,hG.rel.below.os,hG.rel.below.tape,hG.rel.below.output,hG.rel.below.size,
  fun k hk hkb=>hG.rel.below.block k hk (fun e=>hkb e),hb',hcsz,by simpa using hv1',(hv2'.sym).flat (P0w _ hfl),fun k hk=>hfrz rfl rfl k (by rw[←hcsz];exact hk)⟩
 ·show(if k<Γ'.lo then Γ'.fz k else w'.heap[k]?)=Γ.fz k
  rw[if_pos (by rw[hlo',←hlo];exact hk)]
  exact hG.ext.same k (by show k<w.heap.size;rw[←hlo];exact hk)
 ·have e:(if k<Γ'.lo then Γ'.fz k else w'.heap[k]?)=some ob:=e
  by_cases hk:k<Γ'.lo
  ·rw[if_pos hk] at e;exact hG.rel.stay k ob e
  ·rw[if_neg hk] at e;exact e
theorem Rel.cell2{E:Env}{base:Bs}{w0:World}{Γ Γ2:Gam}{h:Tr AObj}{w w':World}(R:Rel E base w0 Γ h w){n:Nat}{i:Info}(hi:Γ n=some i){v:AVal}{e:TypeId}{x:Nat×Nat×Nat}(ho:h.get n=some (.cells [v] e false false n 0 [x]))
  (os:w'.os=w.os) (tape:w'.tape=w.tape) (output:w'.output=w.output) (size:w.heap.size≤w'.heap.size) (blk:∀k,k<w.heap.size→k≠i.b→w'.heap[k]?=w.heap[k]?) {C C':Array Value} {fz fz':Nat×Nat}
  (hb:w.heap[i.b]?=some (.cells C e fz)) (hb':w'.heap[i.b]?=some (.cells C' e fz')) (hsz:C'.size=i.csz) {v':AVal} {u:Value} (hc0:C'[0]?=some u) (hu:VRel Γ2 v' u) (hfz:∀k,k<C'.size→fz'.1≤k→k<fz'.2→False)
  (hnm:Γ2.nm=Γ.nm) (hx:Ext Γ Γ2) (hst:∀b ob,Γ2.fz b=some ob→w'.heap[b]?=some ob) (hsame:∀b,b<w.heap.size→Γ2.fz b=Γ.fz b):Rel E base w0 Γ2 (h.set n (.cells [v'] e false false n 0 [x])) w':=by
 have hib:i.b<w.heap.size:=(R.dom n i hi).2.2
 have hn:=(R.dom n i hi).1
 have hsep:Γ2.fz i.b=none:=(hsame _ hib).trans (R.sep n i _ hn ho rfl hi)
 obtain⟨h1,h2⟩:=MapKept.heap_set (w:=w') (o':=.cells C e fz) hb'
 let w1:World:={w' with heap:=w'.heap.setIfInBounds i.b (.cells C e fz)}
 have hs1:w1.heap.size=w'.heap.size:=by simp[w1]
 have hB:Below w.heap.size w w1:=⟨os,tape,output,by rw[hs1];exact size,fun k hk=>by
  by_cases c:k=i.b
  ·subst c;rw[hb];exact h1
  ·exact(h2 k c).trans (blk k hk c)⟩
 have R1:Rel E base w0 Γ2 h w1:=R.over hB hnm hx (fun b ob q=>by
  have :b≠i.b:=fun c=>by rw[c,hsep] at q;cases q
  exact(h2 b this).trans (hst b ob q)) hsame
 exact R1.cell1 (w':=w') (by rw[hnm];exact hi) ho rfl rfl rfl (by rw[hs1];exact Nat.le_refl _) (fun k _ c=>(h2 k c).symm) hb' hsz hc0 hu hfz
theorem WSpec.ct_sound{f:FuncId}(S:WSpec)(h:S.Kept P f):CtrSound P f S.ct:=by
 intro E base w0 Γ s w as vs N hty R hv g hN hF hLH
 unfold WSpec.ct at g hN⊢
 rw[G0s,F0g,A0O] at g hN⊢
 have hv1:=hv.take S.ps.length
 have hv2:=hv.drop S.ps.length
 have hsplit:=List.take_append_drop S.ps.length vs.toList
 cases hd:as.drop S.ps.length with
 |nil=>rw[hd] at g;exact g.elim
 |cons a l=>
 rw[hd] at g hN hv2
 simp only[] at g hN⊢
 cases a<;>simp only[] at g hN⊢<;>first
  |exact g.elim
  |skip
 rename_i n off
 obtain⟨pv,v2,hvd,hp,hv3⟩:=hv2.cons_inv
 rw[hvd] at hsplit
 generalize vs.toList.take S.ps.length=v1 at hv1 hsplit
 generalize as.take S.ps.length=a1 at g hN hv1⊢
 have hvs:vs=(v1++pv::v2).toArray:=by rw[hsplit]
 unfold WSpec.in2 at g hN⊢
 cases hq:(Nat.beq off 0&&AVal.lows 0 a1&&AVal.lows 0 l) with
 |false=>rw[hq] at g;exact g.elim
 |true=>
 rw[hq,A0e] at g hN
 rw[A0e]
 simp only[Bool.and_eq_true] at hq
 obtain⟨⟨q0,q1⟩,q2⟩:=hq
 have :off=0:=A0E q0
 subst this
 unfold VRel at hp
 obtain⟨i,hi,rfl⟩:=hp
 obtain⟨x,s1,x1,x2,x3⟩:=Pts.get_good R (Γt:=Γ.bare w) (G0h rfl) S.ps (.inl q1) rfl hv1 g
 rw[x3] at g hN⊢
 obtain⟨z,s2,z1,z2,z3⟩:=Pts.get_good R (Γt:=Γ.bare w) (G0h rfl) S.qs (.inl q2) x2.h hv3 g
 rw[z3] at g hN⊢
 have g:(I0d n S.et (fun v=>(okOr (sel v.flat (S.cell.ext v.sym) none) fun y=>CT.need (dec (S.pre x y z)) ((S.res x y z).ctw n)).run) s2).Good:=g
 have hN:∀a s',(I0d n S.et (fun v=>(okOr (sel v.flat (S.cell.ext v.sym) none) fun y=>CT.need (dec (S.pre x y z)) ((S.res x y z).ctw n)).run) s2).Has a s'→s'.nx≤N:=hN
 show Inv P E base w0 Γ s N (I0d n S.et (fun v=>(okOr (sel v.flat (S.cell.ext v.sym) none) fun y=>CT.need (dec (S.pre x y z)) ((S.res x y z).ctw n)).run) s2) _
 obtain⟨v,ax,s3,ho,o1,o2⟩:=W0R g
 rw[o2] at g hN⊢
 have hs3:s3.h=s.h:=o1.h.trans (z2.h.trans x2.h)
 have hn3:s3.nx=s.nx:=o1.nx.trans (z2.nx.trans x2.nx)
 have ho:s.h.get n=some (.cells [v] S.et false false n 0 [ax]):=by rw[←x2.h,←z2.h];exact ho
 obtain⟨y,y1,y2⟩:=B0t g
 rw[y2] at g hN⊢
 obtain⟨hfl,hy⟩:v.flat=true∧S.cell.ext v.sym=some y:=by
  cases hf:v.flat with
  |false=>rw[hf] at y1;cases y1
  |true=>rw[hf] at y1;exact⟨rfl,y1⟩
 have hyv:=Pt.ext_eq _ hy
 obtain⟨hpre,g2,hlift⟩:=A0W (m:=((S.res x y z).ctw n).run) g
 have hpre:S.pre x y z:=dec_eq.1 hpre
 obtain⟨r,hr,r1,r2,g3,hhas⟩:=O0Q g2
 have hcall:=h x y z hpre r hr
 have hn:=(R.dom n i hi).1
 obtain⟨i',hi',hasz,hroot,C,fz,hb,hcsz,hfit,hvals,hfrz⟩:=R.obj n _ hn ho
 rw[hi] at hi';cases hi'
 have h0:i.o=0:=R.own n i _ _ _ _ _ hn ho hi
 obtain⟨v0,w1,w2⟩:=hvals rfl 0 v rfl
 rw[h0] at w1
 obtain⟨hrun,hcalls⟩:=hcall (Γ.bare w) w i.b C fz v0 v1 v2 R.stay (fun _=>rfl) rfl (R.sep n i _ hn ho rfl hi) hb w1 (by rw[←hyv];exact(w2.sym).flat (P0w _ hfl)) (fun k hk=>hfrz rfl rfl k (by omega)) x1 z1
 rw[hvs,h0]
 rw[hrun]
 refine Inv.enter fun m=>CallsIn.mono (hcalls m) ?_
 rintro e w'⟨u,v',C',fz',Γ',rfl,hur,hno',hx',hst',os,tape,output,size,blk,hb',hsz,hc0',hu',hfz'⟩
 obtain⟨s4,t1,t2,t3⟩:=T0w (c:=r.2) hn (by rw[hs3];exact ho) g3
 have hext2:Ext Γ ⟨Γ.nm,Γ'.fz,Γ.lo⟩:=⟨fun _ _ e=>e,hx'.fz,rfl,fun b hb=>hx'.same b (Nat.lt_of_lt_of_le hb R.lo)⟩
 refine⟨u,r.1,s4,⟨Γ.nm,Γ'.fz,Γ.lo⟩,rfl,hlift _ _ (hhas s4 t1),hur.agree (G0h (Γ1:=Γ') (Γ2:=⟨Γ.nm,Γ'.fz,Γ.lo⟩) rfl) r1,?_⟩
 have RR:=R.cell2 (Γ2:=⟨Γ.nm,Γ'.fz,Γ.lo⟩) hi ho os tape output size blk hb hb' (by omega) hc0' (hu'.flat r2) hfz' rfl hext2 hst' hx'.same
 refine⟨hext2,fun _ _=>rfl,by omega,by rw[t3,hn3];exact hF,by rw[t2,hs3];exact RR⟩
theorem X0V{fz fz':Nat→Option Obj}{c:Cell Univ.C Univ.S}{v:Value}(h:CRel fz c v)(hs:c.scal=true):CRel fz' c v:=by
 cases h with
 |b x=>exact .b x
 |i k x=>exact .i k x
 |s x=>exact .s x
 |f n=>exact .f n
 |nil=>cases hs
 |sl=>cases hs
theorem Z0P{fz fz':Nat→Option Obj}{c:Univ.C}{l:List (Univ.S c)}{C:Array Value}(hf:Univ.flat c=true)(h:ARel fz c l C):ARel fz' c l C:=by
 intro j x hj k cl hk
 obtain⟨v,h1,h2⟩:=h j x hj k cl hk
 exact⟨v,h1,X0V h2 (Univ.flat_ok c x hf cl (List.mem_of_getElem? hk))⟩
theorem Rel.adopt{E:Env}{base:Bs}{w0:World}{Γ:Gam}{w w':World}{h:Tr AObj}(R:Rel E base w0 Γ h w)(hb:Below w.heap.size w w'){n:Nat}(hn:n<LH)(hf:Γ n=none)(i:Info)(h1:w.heap.size≤i.b)(h2:i.b<w'.heap.size)
  {c:Univ.C} {l:List (Univ.S c)} (hO:ORel E (Γ.add n i) w' n (.arr c l)):Rel E base w0 (Γ.add n i) (h.set n (.arr c l)) w':=by
 have hx:Ext Γ (Γ.add n i):=Gam.ext_add hf
 have gs:=R.gs n (.arr c l) hn
 have blk:∀m j,Γ m=some j→w'.heap[j.b]?=w.heap[j.b]?:=fun m j e=>hb.block _ (R.dom m j e).2.2
 have notyet:∀o',h.get n=some o'→¬o'.live:=fun o' e hl=>by
  obtain⟨j,hj⟩:=(R.obj n o' hn e).name hl
  rw[hf] at hj;cases hj
 constructor
 ·exact A0j _ DH h n R.deep
 ·exact R.below.trans (L0F R.room hb)
 ·exact Nat.le_trans R.room hb.size
 ·intro m j e
  by_cases d:m=n
  ·subst d;rw[Gam.add_at] at e;cases e
   exact⟨hn,.inl (Nat.le_trans R.room h1),h2⟩
  ·rw[Gam.add_ne d] at e
   obtain⟨a,b,e2⟩:=R.dom m j e
   exact⟨a,b,Nat.lt_of_lt_of_le e2 hb.size⟩
 ·intro m p hm hp
  rw[gs m hm] at hp
  by_cases d:m=n
  ·subst d;rw[if_pos rfl] at hp;cases hp;exact hO
  ·rw[if_neg d] at hp
   exact(R.obj m p hm hp).keep hx fun j hj=>blk m j hj
 ·intro m q p1 p2 j k hm hq g1 g2 l1 l2 ne e1 e2 eb
  rw[gs m hm] at g1
  rw[gs q hq] at g2
  by_cases d:m=n
  ·subst d
   rw[Gam.add_at] at e1;cases e1
   have dq:q≠m:=fun x=>ne x.symm
   rw[Gam.add_ne dq] at e2
   have :=(R.dom q k e2).2.2
   omega
  ·rw[Gam.add_ne d] at e1
   by_cases d':q=n
   ·subst d'
    rw[Gam.add_at] at e2;cases e2
    have :=(R.dom m j e1).2.2
    omega
   ·rw[Gam.add_ne d'] at e2
    rw[if_neg d] at g1
    rw[if_neg d'] at g2
    exact R.inj m q p1 p2 j k hm hq g1 g2 l1 l2 ne e1 e2 eb
 ·intro m cs e frz root rel al hm g1 cs' e' frz' d' root' rel' al' g2
  rw[gs m hm] at g1
  by_cases d:m=n
  ·rw[if_pos d] at g1;cases g1
  ·rw[if_neg d] at g1
   obtain⟨_,_,_,⟨⟨r,hr⟩,_⟩,_⟩:=R.obj m _ hm g1
   rw[gs root (R.dom root r hr).1] at g2
   by_cases d2:root=n
   ·rw[if_pos d2] at g2;cases g2
   ·rw[if_neg d2] at g2
    exact R.fam m cs e frz root rel al hm g1 _ _ _ _ _ _ _ g2
 ·intro m q since seen kt es clock j k ents b borns stepped hm hq g1 g2 e1 e2 b1 b2
  rw[gs m hm] at g1
  rw[gs q hq] at g2
  by_cases d:m=n
  ·rw[if_pos d] at g1;cases g1
  ·by_cases d':q=n
   ·rw[if_pos d'] at g2;cases g2
   ·rw[if_neg d] at g1
    rw[if_neg d'] at g2
    rw[Gam.add_ne d] at e1
    rw[Gam.add_ne d'] at e2
    rw[blk m j e1] at b1
    rw[blk q k e2] at b2
    obtain⟨z1,z2⟩:=R.iter m q since seen kt es clock j k ents b borns stepped hm hq g1 g2 e1 e2 b1 b2
    exact⟨z1,fun z=>(z2 z).ext hx⟩
 ·intro m j cs e frz rel al hm g1 e1
  rw[gs m hm] at g1
  by_cases d:m=n
  ·rw[if_pos d] at g1;cases g1
  ·rw[if_neg d] at g1
   rw[Gam.add_ne d] at e1
   exact R.own m j cs e frz rel al hm g1 e1
 ·intro b ob e
  have e:Γ.fz b=some ob:=e
  rw[hb.block b (R.stay_lt e)]
  exact R.stay b ob e
 ·intro m j o1 hm g1 l1 e1
  show Γ.fz j.b=none
  rw[gs m hm] at g1
  by_cases d:m=n
  ·subst d
   rw[Gam.add_at] at e1;cases e1
   cases hq:Γ.fz i.b with
   |none=>rfl
   |some ob2=>have :=R.stay_lt hq;omega
  ·rw[if_neg d] at g1
   rw[Gam.add_ne d] at e1
   exact R.sep m j o1 hm g1 l1 e1
 ·exact Nat.le_trans R.lo hb.size
 ·first|exact R.solo|(rw[hx.lo];exact R.solo)|(rw[hlo];exact R.solo)
 ·refine R.hid.keep ⟨fun k c m q l e=>?_,fun m p j hm hp hl e=>?_,fun b _ _ _ hb' hB=>⟨hb.block b (Array.getElem?_eq_some_iff.1 hb').1,hB.1⟩,fun _ _ e=>e⟩
  ·rw[gs 0 (by decide)] at e
   by_cases d:0=n
   ·rw[if_pos d] at e;cases e
   ·rw[if_neg d] at e
    refine⟨e,fun j hj=>?_⟩
    rw[Gam.add_ne d] at hj
    exact⟨hj,blk _ _ hj⟩
  ·rw[gs m hm] at hp
   by_cases d:m=n
   ·subst d;rw[Gam.add_at] at e;cases e;exact .inl h1
   ·rw[if_neg d] at hp
    rw[Gam.add_ne d] at e
    exact .inr ⟨m,p,j,hm,hp,hl,e,rfl⟩
structure OSpec where
 ps:List Pt
 c:Univ.C
 pre:Pts ps→Prop
 res:Pts ps→Dt (List (Univ.S c)×Nat)
noncomputable def Dt.ctn(c:Univ.C):Dt (List (Univ.S c)×Nat)→CT AVal
 |.leaf a=>.newA c a.1 fun n=>.ret (.asl c n 0 a.2)
 |.ite b l r=>.ite b (l.ctn c) (r.ctn c)
 |.fail=>.fail
noncomputable def OSpec.ct(S:OSpec)(as:List AVal):CT AVal:=Pts.get S.ps as fun x=>.need (dec (S.pre x)) ((S.res x).ctn S.c)
def b0T(P:Program)(f:FuncId)(as:List AVal)(c:Univ.C)(l:List (Univ.S c))(k:Nat):Prop:=∀(Γ:Gam)(w:World)(vs:Array Value),(∀b ob,Γ.fz b=some ob→w.heap[b]?=some ob)→(∀n,Γ n=none)→Γ.lo=w.heap.size→VRels Γ as vs.toList→
 (callFunc f vs).run P w=.ok (.enter f vs) w∧∀m,CallsIn (FW none) m P f vs w fun e w'=>∃v i,e=.returned v∧w.heap.size≤i.b∧i.b<w'.heap.size∧Below w.heap.size w w'∧
  ∀(Γ2:Gam)(n:Nat)(E:Env),Γ2 n=some i→VRel Γ2 (.asl c n 0 k) v∧ORel E Γ2 w' n (.arr c l)
noncomputable def c0z(c:Univ.C)(s:St)(a:AVal):Option (List (Univ.S c)×Nat):=match a with
 |
  .asl c' n off k=>sel (F0r c' c&&Nat.beq off 0) (match s.h.get n with
  |none=>none
  |
   some o=>match o with
   |
    .arr c2 l=>(match D0V c2 c l with
    |some l=>some (l,k)
    |none=>none)
   |_=>none) none
 |_=>none
noncomputable def OSpec.run(S:OSpec)(E:Env)(c:Code)(nt:Nat)(rs:List ResultVar)(fuel:Nat)(x:Pts S.ps):Dt (Bool×Option (List (Univ.S S.c)×Nat)):=
 (H0S (.code c nt rs) E (A0v fuel E false) (Pts.vals S.ps x) St.new).view fun a s=>(Univ.flat S.c&&Nat.ble s.nx LH,c0z S.c s a)
def OSpec.Kept(P:Program)(f:FuncId)(S:OSpec):Prop:=Univ.flat S.c=true∧∀x,S.pre x→∀r,(S.res x).val=some r→b0T P f (Pts.vals S.ps x) S.c r.1 r.2
theorem V0t{c:Univ.C}{s:St}{a:AVal}{l:List (Univ.S c)}{k:Nat}(h:c0z c s a=some (l,k)):∃n,a=.asl c n 0 k∧s.h.get n=some (.arr c l):=by
 unfold c0z at h
 split at h
 ·rename_i c' n off k'
  cases hq:(F0r c' c&&Nat.beq off 0) with
  |false=>rw[hq] at h;cases h
  |
   true=>
   rw[hq,A0e] at h
   simp only[Bool.and_eq_true] at hq
   have :=G0n hq.1
   subst this
   have :=A0E hq.2
   subst this
   split at h
   ·cases h
   rename_i o ho
   split at h
   ·split at h
    ·rename_i m hm
     have :=D0U hm
     cases this
     cases h
     exact⟨n,rfl,ho⟩
    ·cases h
   ·cases h
 ·cases h
theorem P0A{c:Univ.C}:∀{t:Dt (List (Univ.S c)×Nat)}{s:St},((t.ctn c).run s).Good→∃r,t.val=some r∧s.nx<LH∧∃s',s'.h=s.h.set s.nx (.arr c r.1)∧s'.nx=s.nx+1∧((t.ctn c).run s).Has (.asl c s.nx 0 r.2) s'
 |
  .leaf a,s,g=>by
  have g:(M.bind (alloc fun _=>.arr c a.1) (fun n=>M.pure (AVal.asl c n 0 a.2)) s).Good:=g
  obtain⟨s',h1,h2,h3,h4⟩:=C0Q (A0a g)
  refine⟨a,rfl,h1,s',h3,h4,?_⟩
  show(M.bind (alloc fun _=>.arr c a.1) (fun n=>M.pure (AVal.asl c n 0 a.2)) s).Has _ _
  rw[A0d h2];exact⟨rfl,rfl⟩
 |.ite true l _,_,g=>P0A (t:=l) g
 |.ite false _ r,_,g=>P0A (t:=r) g
 |.fail,_,g=>g.elim
theorem OSpec.calls(hX:C0U P)(hm:P.follows .mixedOrders=true){E:Env}(hE:EnvR E P)(hl:E.loops=[])(S:OSpec){f:FuncId}{c:Code}{nt:Nat}{rs:List ResultVar}(hmk:mkFn P f=some (.code c nt rs))
  (c':Code) (hc':A0M c'=true) (hu:A0u E.lps c'=c) (fuel:Nat) (x:Pts S.ps) {r:List (Univ.S S.c)×Nat}
  (hh:(S.run E c' nt rs fuel x).holds fun q=>q.1=true∧q.2=some r):b0T P f (Pts.vals S.ps x) S.c r.1 r.2:=by
 intro Γ w vs hst hno hlo hv
 obtain⟨a,t,hdet,hq⟩:=C0D hh
 simp only[Bool.and_eq_true] at hq
 obtain⟨⟨hq1,hq2⟩,hq3⟩:=hq
 have hq2:=Nat.le_of_ble_eq_true hq2
 obtain⟨l,k⟩:=r
 obtain⟨n,rfl,hget⟩:=V0t hq3
 obtain⟨_,_,_,_,_,_,hrun⟩:=C0X hmk
 refine⟨hrun _ _,fun m=>?_⟩
 have R0:Rel E w.heap.size w Γ St.new.h w:=
  {deep:=A0Z DH
   below:=Bel.refl _ _
   room:=Nat.le_refl _
   dom:=fun n i h=>by rw[hno] at h;cases h
   obj:=fun n o _ h=>by rw[show St.new.h.get n=none from A0q DH n] at h;cases h
   inj:=fun n m o p i j _ _ h=>by rw[show St.new.h.get n=none from A0q DH n] at h;cases h
   fam:=fun n cs e frz root rel al _ h=>by rw[show St.new.h.get n=none from A0q DH n] at h;cases h
   iter:=fun n m since seen kt es clock i j ents b borns stepped _ _ h=>by rw[show St.new.h.get n=none from A0q DH n] at h;cases h
   own:=fun n i cs e frz rel al _ h=>by rw[show St.new.h.get n=none from A0q DH n] at h;cases h
   stay:=hst
   lo:=by rw[hlo];exact Nat.le_refl _
   sep:=fun n i o _ h=>by rw[show St.new.h.get n=none from A0q DH n] at h;cases h
   solo:=fun _=>⟨fun _ h=>h,by first|exact Nat.le_refl _|(rw[hlo];exact Nat.le_refl _)⟩
   hid:=Hid.none fun k c m q l h=>by rw[show St.new.h.get 0=none from A0q DH 0] at h;cases h}
 refine CallsIn.mono (D0d (N:=LH) (B0Y (base:=w.heap.size) (w0:=w) hX hm fuel) hE hmk hc' hu R0 (by rw[hl];intro d hd;cases hd) hv (D0y hdet).1 (fun b u k=>by obtain⟨rfl,rfl⟩:=C0t hdet k;exact hq2) (fun n _ _=>hno n) (Nat.le_refl _) m) ?_
 rintro e w'⟨v,b,u,Γ',rfl,hh',hrel,hG⟩
 obtain⟨rfl,rfl⟩:=C0t hdet hh'
 unfold VRel at hrel
 obtain⟨i,hi,hbd,o,cap,rfl,hcap,hoo⟩:=hrel
 obtain⟨i',hi',hasz,C,e,fz,hb,hcs,hA,hsz,hfr⟩:=hG.rel.obj n _ (hG.rel.dom n i hi).1 hget
 rw[hi] at hi';cases hi'
 have hd:=hG.rel.dom n i hi
 have hd1:w.heap.size≤i.b:=by
  rcases hd.2.1 with q|q
  ·exact q
  ·cases q
 refine⟨_,i,rfl,hd1,hd.2.2,hG.rel.below.down,fun Γ2 n2 E2 h2=>⟨?_,?_⟩⟩
 ·unfold VRel
  exact⟨i,h2,hbd,o,cap,rfl,hcap,hoo⟩
 ·exact⟨i,h2,hasz,C,e,fz,hb,hcs,Z0P hq1 hA,hsz,hfr⟩
theorem OSpec.ct_sound{f:FuncId}(S:OSpec)(h:S.Kept P f):CtrSound P f S.ct:=by
 intro E base w0 Γ s w as vs N hty R hv g hN hF hLH
 unfold OSpec.ct at g hN⊢
 have main:∀Γt:Gam,(∀b ob,Γt.fz b=some ob→w.heap[b]?=some ob)→(∀n,Γt n=none)→Γt.lo=w.heap.size→C0w 0 Γ Γt→(AVal.lows 0 as=true∨∀b ob,w.heap[b]?=some ob→Γt.fz b=some ob)→
   Inv P E base w0 Γ s N ((Pts.get S.ps as fun x=>.need (dec (S.pre x)) ((S.res x).ctn S.c)).run s) ((callFunc f vs).run P w):=by
  intro Γt hst hno hlo hag hor
  obtain⟨x,s1,h1,h2,h3⟩:=Pts.get_good R (Γt:=Γt) hag S.ps hor rfl hv g
  rw[h3] at g hN⊢
  obtain⟨hp,g2,hlift⟩:=A0W (m:=((S.res x).ctn S.c).run) g
  have hp:S.pre x:=dec_eq.1 hp
  obtain⟨r,hr,hlt,s2,t1,t2,t3⟩:=P0A g2
  have hhas:=hlift _ _ t3
  obtain⟨hrun,hcalls⟩:=h.2 x hp r hr Γt w vs hst hno hlo h1
  rw[hrun]
  refine Inv.enter fun m=>CallsIn.mono (hcalls m) ?_
  rintro e w'⟨v,i,rfl,hi1,hi2,hb,hk⟩
  have hn1:s1.nx=s.nx:=h2.nx
  have hN':=hN _ _ hhas
  have hnone:Γ s1.nx=none:=hF s1.nx (by omega) (by omega)
  obtain⟨k1,k2⟩:=hk (Γ.add s1.nx i) s1.nx E Gam.add_at
  refine⟨v,_,s2,Γ.add s1.nx i,rfl,hhas,k1,Gam.ext_add hnone,fun n hn=>Gam.add_ne (by omega),by omega,fun n a b=>?_,?_⟩
  ·rw[Gam.add_ne (by omega)];exact hF n (by omega) b
  ·rw[t1,h2.h]
   exact R.adopt hb hlt hnone i hi1 hi2 k2
 cases hl:AVal.lows 0 as with
 |true=>exact main (Γ.bare w) R.stay (fun _=>rfl) rfl (G0h rfl) (.inl hl)
 |false=>exact main (Gam.all w) (fun _ _ e=>e) (fun _=>rfl) rfl ⟨fun _ _ h=>absurd h (Nat.not_lt_zero _),fun b o e=>R.stay b o e⟩ (.inr fun _ _ e=>e)
inductive XSpec where
 |w (S:WSpec)
 |o (S:OSpec)
 |m (S:MSpec)
 |t (S:TSpec)
noncomputable def XSpec.ct(X:XSpec):List AVal→CT AVal:=match X with
 |.w S=>S.ct
 |.o S=>S.ct
 |.m S=>S.ct
 |.t S=>S.ct
def XSpec.Kept(P:Program)(f:FuncId)(X:XSpec):Prop:=match X with
 |.w S=>S.Kept P f
 |.o S=>S.Kept P f
 |.m S=>S.Kept P f
 |.t S=>S.Kept P f
theorem XSpec.ct_sound{f:FuncId}(X:XSpec)(h:X.Kept P f):CtrSound P f X.ct:=by
 cases X with
 |w S=>exact S.ct_sound h
 |o S=>exact S.ct_sound h
 |m S=>exact S.ct_sound h
 |t S=>exact S.ct_sound h
noncomputable def envW(P:Program)(ws:List (FuncId×XSpec))(cs:List (FuncId×List FSpec))(ls:List (Nat×B0s)):Env:=⟨(G0x P).ty,(G0x P).fn,[],ws.map (fun p=>(p.1,p.2.ct))++cs.map (fun p=>(p.1,Q0Y p.2)),ls,[],false⟩
theorem M0h(ws:List (FuncId×XSpec))(cs:List (FuncId×List FSpec))(ls:List (Nat×B0s))(hw:∀p∈ws,p.2.Kept P p.1)(hc:∀p∈cs,∀S∈p.2,S.Kept P p.1)(hl:∀p∈ls,A0h P p.2):EnvR (envW P ws cs ls) P:=
 {ty0:=rfl
  fn:=(E0b P).fn
  ctr:=fun f g h=>by
   have :=C0i h
   rcases List.mem_append.1 this with q|q
   ·obtain⟨p,hp,e⟩:=List.mem_map.1 q
    cases e
    exact(p.2.ct_sound (hw p hp)).to _
   ·obtain⟨p,hp,e⟩:=List.mem_map.1 q
    cases e
    exact(G0f (hc p hp)).to _
  lps:=fun n p h=>hl _ (C0i h)}
theorem FSpec.keptW(hX:C0U P)(hm:P.follows .mixedOrders=true)(ws:List (FuncId×XSpec))(cs:List (FuncId×List FSpec))(ls:List (Nat×B0s))(hw:∀p∈ws,p.2.Kept P p.1)(hc:∀p∈cs,∀S∈p.2,S.Kept P p.1)(hl:∀p∈ls,A0h P p.2)
  (S:FSpec) {f:FuncId} (fuel:Nat) (c:Code) {nt:Nat} {rs:List ResultVar} (hmk:mkFn P f=some (.code (A0u ls c) nt rs)) (hc':A0M c=true)
  (h:∀x,S.pre x→(S.run (envW P ws cs ls) c nt rs fuel x).holds fun q=>q.1=true∧(S.res x).val=some q.2):S.Kept P f:=by
 intro x hx r hr
 have hh:=h x hx
 refine F0j hX hm (M0h ws cs ls hw hc hl) rfl hmk c hc' rfl fuel (r:=r) ?_ ?_
 ·exact B0X (fun a s k=>k.1) hh
 ·exact J0t (fun a s k=>by have :=k.2;rw[hr] at this;exact(Option.some.inj this).symm) hh
theorem PSpec.keptW(hX:C0U P)(hm:P.follows .mixedOrders=true)(ws:List (FuncId×XSpec))(cs:List (FuncId×List FSpec))(ls:List (Nat×B0s))(hw:∀p∈ws,p.2.Kept P p.1)(hc:∀p∈cs,∀S∈p.2,S.Kept P p.1)(hl:∀p∈ls,A0h P p.2)
  (S:PSpec) (fuel:Nat) (μ:Pts (S.keep.map (·.2))→Pos (S.objs.map (·.2))→Nat) (hmk:A0M S.body=true)
  (h:∀x y,S.inv x y→(S.round (envW P ws cs ls) fuel x y).holds fun q=>q.1=true∧match q.2.1 with
   |.normal=>∃x' y',Pts.vals _ x'=q.2.2.1∧Pos.obs _ y'=q.2.2.2∧S.inv x' y'∧μ x' y'<μ x y∧(S.res x' y').val=(S.res x y).val
   |e=>(S.res x y).val=some (e,q.2.2)):A0h P (S.loop ls):=
 PSpec.sound hX hm (M0h ws cs ls hw hc hl) rfl S fuel μ hmk h rfl
theorem WSpec.kept(hX:C0U P)(hm:P.follows .mixedOrders=true)(ws:List (FuncId×XSpec))(cs:List (FuncId×List FSpec))(ls:List (Nat×B0s))(hw:∀p∈ws,p.2.Kept P p.1)(hc:∀p∈cs,∀S∈p.2,S.Kept P p.1)(hl:∀p∈ls,A0h P p.2)
  (S:WSpec) {f:FuncId} (fuel:Nat) (c:Code) {nt:Nat} {rs:List ResultVar} (hmk:mkFn P f=some (.code (A0u ls c) nt rs)) (hc':A0M c=true)
  (h:∀x y z,S.pre x y z→(S.run (envW P ws cs ls) c nt rs fuel x y z).holds fun q=>q.1=true∧(S.res x y z).val=q.2∧q.2≠none):S.Kept P f:=by
 intro x y z hx r hr
 refine WSpec.calls hX hm (M0h ws cs ls hw hc hl) rfl rfl S hmk c hc' rfl fuel x y z ?_
 exact B0X (fun a s k=>⟨k.1,by rw[←k.2.1,hr]⟩) (h x y z hx)
theorem OSpec.kept(hX:C0U P)(hm:P.follows .mixedOrders=true)(ws:List (FuncId×XSpec))(cs:List (FuncId×List FSpec))(ls:List (Nat×B0s))(hw:∀p∈ws,p.2.Kept P p.1)(hc:∀p∈cs,∀S∈p.2,S.Kept P p.1)(hl:∀p∈ls,A0h P p.2)
  (S:OSpec) {f:FuncId} (fuel:Nat) (c:Code) {nt:Nat} {rs:List ResultVar} (hmk:mkFn P f=some (.code (A0u ls c) nt rs)) (hc':A0M c=true) (hfl:Univ.flat S.c=true)
  (h:∀x,S.pre x→(S.run (envW P ws cs ls) c nt rs fuel x).holds fun q=>q.1=true∧(S.res x).val=q.2∧q.2≠none):S.Kept P f:=by
 refine⟨hfl,fun x hx r hr=>?_⟩
 refine OSpec.calls hX hm (M0h ws cs ls hw hc hl) rfl S hmk c hc' rfl fuel x ?_
 exact B0X (fun a s k=>⟨k.1,by rw[←k.2.1,hr]⟩) (h x hx)
end
end Go.Ev

namespace Go.Ev
open Go Go.RowKit
variable[Univ]
inductive GPos where
 |slot (k:Nat)
 |cell (o i:Nat)
noncomputable def GPos.at(p:GPos)(T:Tm)(s:St):AVal:=match p with
 |.slot k=>getT T.t k
 |
  .cell o i=>(match s.h.get o with
  |
   some (.cells cs _ _ _ _ _ _)=>(match nth cs i with
   |some a=>a
   |none=>.any)
  |_=>.any)
def c0o(a:AVal):Option Nat:=match a with
 |.asl _ r _ _=>some r
 |_=>none
noncomputable def G0c(T:Tm)(s:St):List (GPos×Nat)→List (Nat×Nat)
 |[]=>[]
 |
  p::l=>match c0o (p.1.at T s) with
  |some r=>(r,p.2)::G0c T s l
  |none=>G0c T s l
noncomputable def renN(r:Nat):List (Nat×Nat)→Option Nat
 |[]=>none
 |p::l=>sel (Nat.beq p.1 r) (some p.2) (renN r l)
noncomputable def srcN(n:Nat):List (Nat×Nat)→Option Nat
 |[]=>none
 |p::l=>sel (Nat.beq p.2 n) (some p.1) (srcN n l)
noncomputable def renA(ρ:List (Nat×Nat))(a:AVal):AVal:=match a with
 |
  .asl c r off k=>(match renN r ρ with
  |some n=>.asl c n off k
  |none=>.asl c r off k)
 |a=>a.sym
noncomputable def O0V(ρ:List (Nat×Nat)):List AVal→List AVal
 |[]=>[]
 |a::l=>renA ρ a::O0V ρ l
noncomputable def renO(ρ:List (Nat×Nat))(o:AObj):AObj:=match o with
 |.cells cs e frz dead root rel al=>.cells (O0V ρ cs) e frz dead root rel al
 |o=>o.sym
noncomputable def okA(nx:Nat)(ρ:List (Nat×Nat))(a:AVal):Bool:=match a with
 |
  .asl _ r _ _=>(match renN r ρ with
  |some _=>true
  |none=>Nat.blt r nx)
 |a=>AVal.low nx a
noncomputable def okAs(nx:Nat)(ρ:List (Nat×Nat)):List AVal→Bool
 |[]=>true
 |a::l=>okA nx ρ a&&okAs nx ρ l
noncomputable def okO(nx:Nat)(ρ:List (Nat×Nat))(o:AObj):Bool:=match o with
 |.cells cs _ _ _ root _ _=>okAs nx ρ cs&&Nat.blt root nx
 |o=>o.low nx
noncomputable def U0g(ρ:List (Nat×Nat)):Bool:=match ρ with
 |[]=>true
 |p::l=>l.all (fun q=>not (Nat.beq q.1 p.1)&&not (Nat.beq q.2 p.2))&&U0g l
theorem M0w:∀{ρ:List (Nat×Nat)},U0g ρ=true→ρ.Pairwise fun p q=>p.1≠q.1∧p.2≠q.2
 |[],_=>.nil
 |
  p::l,h=>by
  unfold U0g at h
  rw[Bool.and_eq_true,List.all_eq_true] at h
  refine List.pairwise_cons.2 ⟨fun q hq=>?_,M0w h.2⟩
  have :=h.1 q hq
  simp only[Bool.and_eq_true,Bool.not_eq_true'] at this
  exact⟨fun e=>by rw[e,beqN] at this;simp at this,fun e=>by rw[e,beqN,beqN] at this;simp at this⟩
theorem U0L:∀{ρ:List (Nat×Nat)}{r n:Nat},renN r ρ=some n→(r,n)∈ρ
 |[],_,_,h=>by cases h
 |
  p::l,r,n,h=>by
  unfold renN at h
  cases hb:Nat.beq p.1 r with
  |
   true=>
   rw[hb,A0e] at h
   cases h
   have :=A0E hb
   subst this
   exact List.mem_cons_self ..
  |false=>rw[hb,A0f] at h;exact List.mem_cons_of_mem _ (U0L h)
theorem J0r:∀{ρ:List (Nat×Nat)}{r n:Nat},srcN n ρ=some r→(r,n)∈ρ
 |[],_,_,h=>by cases h
 |
  p::l,r,n,h=>by
  unfold srcN at h
  cases hb:Nat.beq p.2 n with
  |
   true=>
   rw[hb,A0e] at h
   cases h
   have :=A0E hb
   subst this
   exact List.mem_cons_self ..
  |false=>rw[hb,A0f] at h;exact List.mem_cons_of_mem _ (J0r h)
theorem L0m:∀{ρ:List (Nat×Nat)}{r n:Nat},(ρ.Pairwise fun p q=>p.1≠q.1∧p.2≠q.2)→(r,n)∈ρ→srcN n ρ=some r
 |[],_,_,_,h=>by cases h
 |
  p::l,r,n,hp,h=>by
  obtain⟨h1,h2⟩:=List.pairwise_cons.1 hp
  unfold srcN
  rcases List.mem_cons.1 h with e|e
  ·subst e
   rw[beqN,show decide (n=n)=true by simp,A0e]
  ·have :=(h1 _ e).2
   rw[beqN,show decide (p.2=n)=false by simpa using this,A0f]
   exact L0m h2 e
theorem Q0V{ρ:List (Nat×Nat)}{n:Nat}(h:∀p∈ρ,p.2≠n):srcN n ρ=none:=by
 cases hs:srcN n ρ with
 |none=>rfl
 |some r=>exact absurd rfl (h _ (J0r hs))
noncomputable def Gam.canon(Γ Γ2:Gam)(ρ:List (Nat×Nat)):Gam:=⟨fun n=>match srcN n ρ with
 |some r=>Γ2 r
 |none=>Γ n,Γ2.fz,Γ2.lo⟩
theorem L0p{Γ Γ2:Gam}{ρ:List (Nat×Nat)}{r n:Nat}(h:srcN n ρ=some r):Γ.canon Γ2 ρ n=Γ2 r:=by
 show(match srcN n ρ with |some r=>Γ2 r|none=>Γ n)=_
 rw[h]
theorem F0W{Γ Γ2:Gam}{ρ:List (Nat×Nat)}{n:Nat}(h:srcN n ρ=none):Γ.canon Γ2 ρ n=Γ n:=by
 show(match srcN n ρ with |some r=>Γ2 r|none=>Γ n)=_
 rw[h]
theorem U0E{Γ Γ2:Gam}{nx:Nat}{ρ:List (Nat×Nat)}(hp:ρ.Pairwise fun p q=>p.1≠q.1∧p.2≠q.2)(hag:C0w nx Γ2 (Γ.canon Γ2 ρ)){a:AVal}{v:Value}(ho:okA nx ρ a=true)(hv:VRel Γ2 a v):
  VRel (Γ.canon Γ2 ρ) (renA ρ a) v:=by
 unfold renA
 unfold okA at ho
 split
 ·rename_i c r off k
  simp only[] at ho
  cases hr:renN r ρ with
  |
   none=>
   rw[hr] at ho
   simp only[]
   exact hv.agree hag (by unfold AVal.low;exact ho)
  |
   some n=>
   simp only[]
   unfold VRel at hv⊢
   obtain⟨i,hi,h⟩:=hv
   exact⟨i,by rw[L0p (L0m hp (U0L hr))];exact hi,h⟩
 ·rename_i h1
  split at ho
  ·exact(h1 _ _ _ _ rfl).elim
  ·exact(hv.agree hag ho).sym
theorem M0a(ρ:List (Nat×Nat)):∀l:List AVal,(O0V ρ l).length=l.length
 |[]=>rfl
 |_::l=>by unfold O0V;simp[M0a ρ l]
theorem S0e{ρ:List (Nat×Nat)}:∀{l:List AVal}{k:Nat}{a:AVal},(O0V ρ l)[k]?=some a→∃b,l[k]?=some b∧a=renA ρ b
 |[],k,a,h=>by unfold O0V at h;simp at h
 |b::l,0,a,h=>by unfold O0V at h;simp at h;exact⟨b,rfl,h.symm⟩
 |b::l,k+1,a,h=>by unfold O0V at h;simp at h;simpa using S0e h
theorem V0i{nx:Nat}{ρ:List (Nat×Nat)}:∀{l:List AVal},okAs nx ρ l=true→∀a∈l,okA nx ρ a=true
 |[],_,a,h=>by cases h
 |
  b::l,hl,a,h=>by
  unfold okAs at hl;rw[Bool.and_eq_true] at hl
  rcases List.mem_cons.1 h with q|q
  ·rw[q];exact hl.1
  ·exact V0i hl.2 a q
section
variable{P:Program}{E:Env}{base:Bs}{w0:World}{Γ Γ2:Gam}{w:World}{s t:St}
def S0C(h:Tr AObj)(nx:Nat)(ρ:List (Nat×Nat))(n:Nat)(o2:AObj)(r:Nat)(o:AObj):Prop:=
 (h.get r=some o∧r<LH)∧((r=n∧n<nx∧(∀p∈ρ,p.1≠n)∧o2=renO ρ o∧okO nx ρ o=true)∨((r,n)∈ρ∧o2=o∧∃c l,o=.arr c l))
theorem Rel.canon{h h2:Tr AObj}(R:Rel E base w0 Γ2 h w){nx:Nat}{ρ:List (Nat×Nat)}(hp:ρ.Pairwise fun p q=>p.1≠q.1∧p.2≠q.2)(hρ:∀p∈ρ,nx≤p.2∧p.2<LH)(hd:h2.deep DH)
  (hk:∀n o2,n<LH→h2.get n=some o2→o2=.done∨∃r o,S0C h nx ρ n o2 r o) (hag:C0w nx Γ2 (Γ.canon Γ2 ρ)) (hsub:∀n i,srcN n ρ=none→Γ n=some i→Γ2 n=some i):
  Rel E base w0 (Γ.canon Γ2 ρ) h2 w:=by
 have none_lt:∀n,n<nx→srcN n ρ=none:=fun n hn=>Q0V fun p hpp=>by have :=(hρ p hpp).1;omega
 have liv:∀n o2 r o,S0C h nx ρ n o2 r o→o2.live→o.live:=by
  rintro n o2 r o⟨_,⟨_,_,_,rfl,_⟩|⟨_,rfl,_⟩⟩hl
  ·cases o<;>exact hl
  ·exact hl
 have nam:∀n o2 r o,S0C h nx ρ n o2 r o→∀i,Γ.canon Γ2 ρ n=some i→Γ2 r=some i:=by
  rintro n o2 r o⟨_,⟨rfl,hn,_⟩|⟨hm,_⟩⟩i hi
  ·have :=none_lt r hn
   rw[F0W this] at hi
   exact hsub _ _ this hi
  ·rw[L0p (L0m hp hm)] at hi;exact hi
 have inj:∀n m o2 p2 r q o p,S0C h nx ρ n o2 r o→S0C h nx ρ m p2 q p→r=q→n=m:=by
  rintro n m o2 p2 r q o p⟨_,⟨rfl,hn,a1,_⟩|⟨hm,_⟩⟩⟨_,⟨rfl,hn',a2,_⟩|⟨hm',_⟩⟩e
  ·exact e
  ·exact absurd e.symm (a1 _ hm')
  ·exact absurd e (a2 _ hm)
  ·subst e
   have :∀{l:List (Nat×Nat)},(l.Pairwise fun p q=>p.1≠q.1∧p.2≠q.2)→(r,n)∈l→(r,m)∈l→n=m:=by
    intro l
    induction l with
    |nil=>intro _ h;cases h
    |
     cons x l ih=>
     intro hl h1 h2
     obtain⟨g1,g2⟩:=List.pairwise_cons.1 hl
     rcases List.mem_cons.1 h1 with e1|e1<;>rcases List.mem_cons.1 h2 with e2|e2
     ·rw[←e2] at e1;cases e1;rfl
     ·subst e1;exact absurd rfl (g1 _ e2).1
     ·subst e2;exact absurd rfl (g1 _ e1).1
     ·exact ih g2 e1 e2
   exact this hp hm hm'
 have cell:∀n cs2 e frz d root rel al,n<LH→h2.get n=some (.cells cs2 e frz d root rel al)→∃cs,h.get n=some (.cells cs e frz d root rel al)∧cs2=O0V ρ cs∧cs.length=cs2.length∧n<nx∧okAs nx ρ cs=true∧root<nx:=by
  intro n cs2 e frz d root rel al hn h1
  rcases hk n _ hn h1 with q|⟨r,o,⟨ho,hr⟩,⟨rfl,hnx,_,e1,hl⟩|⟨_,rfl,c,l,q⟩⟩
  ·cases q
  ·cases o<;>simp only[renO,AObj.sym,AObj.cells.injEq,reduceCtorEq] at e1
   obtain⟨rfl,rfl,rfl,rfl,rfl,rfl,rfl⟩:=e1
   unfold okO at hl
   simp only[Bool.and_eq_true,Nat.blt_eq] at hl
   exact⟨_,ho,rfl,(M0a _ _).symm,hnx,hl.1,hl.2⟩
  ·cases q
 constructor
 ·exact hd
 ·exact R.below
 ·exact R.room
 ·intro n i e
  cases hs:srcN n ρ with
  |
   none=>
   rw[F0W hs] at e
   exact R.dom n i (hsub n i hs e)
  |
   some r=>
   rw[L0p hs] at e
   exact⟨(hρ _ (J0r hs)).2,(R.dom r i e).2⟩
 ·intro n o2 hn ho2
  rcases hk n o2 hn ho2 with rfl|⟨r,o,⟨ho,hr⟩,⟨rfl,hnx,_,rfl,hl⟩|⟨hm,rfl,c,l,rfl⟩⟩
  ·trivial
  ·have hO:=R.obj r o hn ho
   cases o with
   |
    cells cs e frz dead root rel al=>
    unfold okO at hl
    simp only[Bool.and_eq_true,Nat.blt_eq] at hl
    obtain⟨i,h1,h2,⟨⟨q,h3⟩,h3'⟩,C,fz,h4,h5,h6,h7,h8⟩:=hO
    refine⟨i,hag.nm _ _ hnx h1,by rw[M0a];exact h2,⟨⟨q,hag.nm _ _ hl.2 h3⟩,h3'⟩,C,fz,h4,h5,h6,fun hd k a hka=>?_,h8⟩
    obtain⟨a0,hc,rfl⟩:=S0e hka
    obtain⟨v,e1,e2⟩:=h7 hd k a0 hc
    exact⟨v,e1,U0E hp hag (V0i hl.1 a0 (List.mem_of_getElem? hc)) e2⟩
   |
    map kt es c=>
    have hl:(AObj.map kt es c).low nx=true:=hl
    unfold AObj.low at hl
    rw[List.all_eq_true] at hl
    obtain⟨i,h1,ents,h2,h3⟩:=hO
    obtain⟨l,p,z1,z2⟩:=h3.zip
    refine⟨i,hag.nm _ _ hnx h1,ents,h2,⟨⟨l,p,z1,fun k e x a b=>?_⟩,h3.keys,h3.fits,h3.borns,h3.old⟩⟩
    obtain⟨q1,q2⟩:=z2 k e x a b
    have :=hl e (p.mem_iff.1 (List.mem_of_getElem? a))
    rw[Bool.and_eq_true] at this
    exact⟨q1.agree hag this.1,q2.agree hag this.2⟩
   |miter m since seen=>cases hl
   |siter l p=>obtain⟨i,h1,h2⟩:=hO;exact⟨i,hag.nm _ _ hnx h1,h2⟩
   |arr c l=>obtain⟨i,h1,h2,C,e,fz,h3,h6,h4,h5⟩:=hO;exact⟨i,hag.nm _ _ hnx h1,h2,C,e,fz,h3,h6,h4.mono hag.fz,h5⟩
   |rcd k=>obtain⟨i,h1,ob,h2,h3⟩:=hO;exact⟨i,hag.nm _ _ hnx h1,ob,h2,h3⟩
   |dat d=>obtain⟨i,h1,hl0,ob,h2,h3⟩:=hO;exact⟨i,hag.nm _ _ hnx h1,hl0,ob,h2,h3.mono hag.fz⟩
   |mps k c m q l=>obtain⟨h0,i,h1,ents,clock,h2⟩:=hO;exact⟨h0,i,hag.nm _ _ hnx h1,ents,clock,h2⟩
   |done=>trivial
  ·obtain⟨i,h1,h2,C,e,fz,h3,h6,h4,h5⟩:=R.obj r _ hr ho
   exact⟨i,by rw[L0p (L0m hp hm)];exact h1,h2,C,e,fz,h3,h6,h4.mono hag.fz,h5⟩
 ·intro n m o2 p2 i j hn hm h1 h2 l1 l2 ne e1 e2 eb
  rcases hk n o2 hn h1 with rfl|⟨r,o,hs⟩
  ·exact l1.elim
  rcases hk m p2 hm h2 with rfl|⟨q,p,hs'⟩
  ·exact l2.elim
  have :=R.inj r q o p i j hs.1.2 hs'.1.2 hs.1.1 hs'.1.1 (liv _ _ _ _ hs l1) (liv _ _ _ _ hs' l2) (fun e=>ne (inj _ _ _ _ _ _ _ _ hs hs' e)) (nam _ _ _ _ hs i e1) (nam _ _ _ _ hs' j e2) eb
  rcases hs with⟨_,⟨_,_,_,rfl,_⟩|⟨_,rfl,c,l,rfl⟩⟩
  ·rcases hs' with⟨_,⟨_,_,_,rfl,_⟩|⟨_,rfl,c,l,rfl⟩⟩
   ·cases o<;>cases p<;>exact this
   ·cases o<;>exact this.elim
  ·exact this.elim
 ·intro n cs e frz root rel al hn h1 cs' e' frz' d' root' rel' al' h2'
  obtain⟨cs0,h0,_,hl0,_,_,hroot⟩:=cell n _ _ _ _ _ _ _ hn h1
  obtain⟨_,_,_,⟨⟨r,hr⟩,_⟩,_⟩:=R.obj n _ hn h0
  obtain⟨cs1,h1',_,_⟩:=cell root _ _ _ _ _ _ _ (R.dom root r hr).1 h2'
  have :=R.fam n _ _ _ _ _ _ hn h0 _ _ _ _ _ _ _ h1'
  rwa[hl0] at this
 ·intro n m since seen kt es clock i j ents b borns stepped hn hm h1
  rcases hk n _ hn h1 with q|⟨r,o,⟨ho,hr⟩,⟨rfl,hnx,_,e1,hl⟩|⟨_,rfl,c,l,q⟩⟩
  ·cases q
  ·cases o<;>simp only[renO,AObj.sym,reduceCtorEq] at e1
   cases hl
  ·cases q
 ·intro n i cs e frz rel al hn h1 e1
  obtain⟨cs0,h0,_,_,hnx,_⟩:=cell n _ _ _ _ _ _ _ hn h1
  have :=none_lt n hnx
  rw[F0W this] at e1
  exact R.own n i _ _ _ _ _ hn h0 (hsub _ _ this e1)
 ·exact R.stay
 ·intro n i o2 hn ho2 hl e
  rcases hk n o2 hn ho2 with rfl|⟨r,o,hs⟩
  ·exact hl.elim
  exact R.sep r i o hs.1.2 hs.1.1 (liv _ _ _ _ hs hl) (nam _ _ _ _ hs i e)
 ·exact R.lo
 ·first|exact R.solo|(rw[hx.lo];exact R.solo)|(rw[hlo];exact R.solo)
 ·refine R.hid.keep ⟨fun k c m q l e=>?_,fun m o2 j h1 h2 h3 h4=>?_,fun b C e z hb hB=>⟨rfl,hB.1⟩,fun b o e=>e⟩
  ·rcases hk 0 _ (by decide) e with q|⟨r,o,hs⟩
   ·cases q
   have hs2:=hs
   obtain⟨⟨ho,hr⟩,⟨rfl,hnx,_,e1,hl⟩|⟨_,rfl,c,l,q⟩⟩:=hs
   ·cases o<;>simp only[renO,AObj.sym,AObj.mps.injEq,reduceCtorEq] at e1
    obtain⟨rfl,rfl,e3,rfl,e5⟩:=e1
    cases e3;cases e5
    exact⟨ho,fun i hi=>⟨nam _ _ _ _ hs2 i hi,rfl⟩⟩
   ·cases q
  ·rcases hk m o2 h1 h2 with rfl|⟨r,o,hs⟩
   ·exact h3.elim
   exact .inr ⟨r,o,j,hs.1.2,hs.1.1,liv _ _ _ _ hs h3,nam _ _ _ _ hs j h4,rfl⟩
end
noncomputable def K0T(ρ:List (Nat×Nat))(T:Tm)(l:List Nat):List AVal:=l.map fun k=>renA ρ (getT T.t k)
noncomputable def objG(nx:Nat)(ρ:List (Nat×Nat))(s:St)(k:Nat):AObj:=sel (Nat.blt k nx)
 (match s.h.get k with
  |some o=>renO ρ o
  |none=>.done)
 (match srcN k ρ with
  |
   some r=>(match s.h.get r with
   |some o=>o
   |none=>.done)
  |none=>.done)
noncomputable def P0k(nx:Nat)(ρ:List (Nat×Nat))(s:St)(l:List Nat):List AObj:=l.map (objG nx ρ s)
noncomputable def b0I(nx:Nat)(ρ:List (Nat×Nat))(s:St)(k:Nat):Bool:=sel (Nat.blt k nx)
 ((
  match s.h.get k with
  |some o=>okO nx ρ o
  |none=>false)&&ρ.all fun p=>not (Nat.beq p.1 k))
 (match srcN k ρ with
  |
   some r=>(match s.h.get r with
   |some (.arr _ _)=>true
   |_=>false)
  |none=>true)
noncomputable def R0m(nt nx nxi:Nat)(keep objs:List Nat)(T:Tm)(s:St)(ρ:List (Nat×Nat)):Bool:=
 Nat.beq T.n nt&&G0V T.mks&&(match T.rnd with |none=>true|some _=>false)&&U0g ρ&&
 ρ.all (fun p=>Nat.blt p.1 LH&&Nat.ble nx p.2&&Nat.blt p.2 nxi&&Nat.blt p.2 LH)&&
 keep.all (fun k=>Nat.blt k LT&&okA nx ρ (getT T.t k))&&objs.all fun k=>Nat.blt k LH&&b0I nx ρ s k
structure g0d(nt nx nxi:Nat)(keep objs:List Nat)(T:Tm)(s:St)(ρ:List (Nat×Nat)):Prop where
 n:T.n=nt
 mks:T.mks=[]
 rnd:T.rnd=none
 pair:ρ.Pairwise fun p q=>p.1≠q.1∧p.2≠q.2
 names:∀p∈ρ,p.1<LH∧nx≤p.2∧p.2<nxi∧p.2<LH
 keep:∀k∈keep,k<LT∧okA nx ρ (getT T.t k)=true
 objs:∀k∈objs,k<LH∧b0I nx ρ s k=true
theorem V0X{nt nx nxi:Nat}{keep objs:List Nat}{T:Tm}{s:St}{ρ:List (Nat×Nat)}(h:R0m nt nx nxi keep objs T s ρ=true):g0d nt nx nxi keep objs T s ρ:=by
 unfold R0m at h
 simp only[Bool.and_eq_true,List.all_eq_true,Nat.blt_eq] at h
 obtain⟨⟨⟨⟨⟨⟨h1,h2⟩,h3⟩,h4⟩,h5⟩,h6⟩,h7⟩:=h
 refine⟨A0E h1,L0M h2,?_,M0w h4,fun p hp=>?_,h6,h7⟩
 ·cases hr:T.rnd with
  |none=>rfl
  |some x=>rw[hr] at h3;cases h3
 ·obtain⟨⟨⟨a,b⟩,c⟩,d⟩:=h5 p hp
  exact⟨a,Nat.le_of_ble_eq_true b,c,d⟩
theorem Z0O{nx:Nat}{ρ:List (Nat×Nat)}{s:St}{k:Nat}(hk:k<LH)(hn:∀p∈ρ,p.1<LH)(h:b0I nx ρ s k=true):objG nx ρ s k=.done∨∃r o,S0C s.h nx ρ k (objG nx ρ s k) r o:=by
 unfold b0I at h
 unfold objG
 cases hb:Nat.blt k nx with
 |
  true=>
  rw[hb,A0e] at h
  rw[A0e]
  rw[Bool.and_eq_true,List.all_eq_true] at h
  cases ho:s.h.get k with
  |none=>rw[ho] at h;cases h.1
  |
   some o=>
   rw[ho] at h
   refine .inr ⟨k,o,⟨ho,hk⟩,.inl ⟨rfl,by simpa [Nat.blt_eq] using hb,fun p hp e=>?_,rfl,h.1⟩⟩
   have :=h.2 p hp
   rw[e,beqN] at this
   simp at this
 |
  false=>
  rw[hb,A0f] at h
  rw[A0f]
  cases hs:srcN k ρ with
  |none=>exact .inl rfl
  |
   some r=>
   rw[hs] at h
   simp only[] at h⊢
   cases ho:s.h.get r with
   |none=>exact .inl rfl
   |
    some o=>
    rw[ho] at h
    cases o<;>simp only[Bool.false_eq_true] at h
    rename_i c l
    exact .inr ⟨r,_,⟨ho,hn _ (J0r hs)⟩,.inr ⟨J0r hs,rfl,c,l,rfl⟩⟩
section
variable{P:Program}{E:Env}{base:Bs}{w0:World}{Γ Γ2:Gam}{w:World}{s t:St}
theorem Got.canon{N:Nat}(G:Got E base w0 Γ s N Γ2 t w){nt nx nxi:Nat}(hs:s.nx=nx)(hN:nxi≤N)(hF:C0q Γ s.nx N){ro:Option Nat}{T:Tm}{a:Act}(hT:TRel Γ2 ro T a){ρ:List (Nat×Nat)}{keep objs:List Nat}
  (hg:R0m nt nx nxi keep objs T t ρ=true) {vs:List AVal} {os:List AObj} (hv:vs=K0T ρ T keep) (ho:os=P0k nx ρ t objs) {nx3:Nat} (h3:nxi≤nx3) (h4:nx≤nx3):
  Got E base w0 Γ s N (Γ.canon Γ2 ρ) ⟨D0e (objs.zip os),nx3,0,[],[]⟩ w∧TRel (Γ.canon Γ2 ρ) ro ⟨D0q (keep.zip vs),nt,[],none⟩ a:=by
 have D:=V0X hg
 subst hs
 have none_of:∀n,n<s.nx∨nxi≤n→srcN n ρ=none:=fun n hn=>Q0V fun p hp=>by have :=D.names p hp;omega
 have hag:C0w s.nx Γ2 (Γ.canon Γ2 ρ):=⟨fun n i hn e=>by rw[F0W (none_of n (.inl hn))];rw[G.off n (.inl hn)] at e;exact e,fun _ _ e=>e⟩
 --the objects
 have hlen:os.length=objs.length:=by rw[ho];unfold P0k;simp
 have hmem:∀p∈objs.zip os,p.1∈objs∧p.2=objG s.nx ρ t p.1:=by
  intro p hp
  rw[ho] at hp
  unfold P0k at hp
  rw[List.zip_map_right] at hp
  obtain⟨q,hq,rfl⟩:=List.mem_map.1 hp
  have h9:∀{l:List Nat}{q:Nat×Nat},q∈l.zip l→q.1∈l∧q.2=q.1:=by
   intro l
   induction l with
   |nil=>intro q h;cases h
   |
    cons x l ih=>
    intro q h
    rcases List.mem_cons.1 h with e|e
    ·subst e;exact⟨List.mem_cons_self ..,rfl⟩
    ·exact⟨List.mem_cons_of_mem _ (ih e).1,(ih e).2⟩
  obtain⟨a1,a2⟩:=h9 hq
  exact⟨a1,by show objG s.nx ρ t q.2=_;rw[a2];rfl⟩
 obtain⟨hd,hget⟩:=J0J (objs.zip os) (Tr.full DH) (A0Z DH) (fun p hp=>(D.objs p.1 (hmem p hp).1).1)
 have hk:∀n o2,n<LH→(D0e (objs.zip os)).get n=some o2→o2=.done∨∃r o,S0C t.h s.nx ρ n o2 r o:=by
  intro n o2 hn h
  rcases hget n hn with q|⟨p,hp,e1,e2⟩
  ·have :(D0e (objs.zip os)).get n=none:=q.trans (A0q DH n)
   rw[this] at h;cases h
  ·have :(D0e (objs.zip os)).get n=some p.2:=e2
   rw[this] at h;cases h
   obtain⟨m1,m2⟩:=hmem p hp
   rw[m2,←e1]
   exact Z0O (D.objs _ m1).1 (fun q hq=>(D.names q hq).1) (D.objs _ m1).2
 have RC:=G.rel.canon D.pair (fun p hp=>⟨(D.names p hp).2.1,(D.names p hp).2.2.2⟩) hd hk hag (fun n i _ e=>G.ext.nm n i e)
 refine⟨⟨⟨fun n i e=>?_,G.ext.fz,G.ext.lo,G.ext.same⟩,fun n hn=>F0W (none_of n (by omega)),h4,fun n a b=>?_,RC⟩,?_⟩
 ·have :n<s.nx∨nxi≤n:=by
   rcases Nat.lt_or_ge n s.nx with q|q
   ·exact .inl q
   ·rcases Nat.lt_or_ge n N with q'|q'
    ·rw[hF n q q'] at e;cases e
    ·exact .inr (by omega)
  rw[F0W (none_of n this)];exact e
 ·rw[F0W (none_of n (.inr (by have :nx3≤n:=a;omega)))]
  exact hF n (Nat.le_trans h4 a) b
 --the slots
 have hmemT:∀p∈keep.zip vs,p.1∈keep∧p.2=renA ρ (getT T.t p.1):=by
  intro p hp
  rw[hv] at hp
  unfold K0T at hp
  rw[List.zip_map_right] at hp
  obtain⟨q,hq,rfl⟩:=List.mem_map.1 hp
  have h9:∀{l:List Nat}{q:Nat×Nat},q∈l.zip l→q.1∈l∧q.2=q.1:=by
   intro l
   induction l with
   |nil=>intro q h;cases h
   |
    cons x l ih=>
    intro q h
    rcases List.mem_cons.1 h with e|e
    ·subst e;exact⟨List.mem_cons_self ..,rfl⟩
    ·exact⟨List.mem_cons_of_mem _ (ih e).1,(ih e).2⟩
  obtain⟨a1,a2⟩:=h9 hq
  exact⟨a1,by show renA ρ (getT T.t q.2)=_;rw[a2];rfl⟩
 obtain⟨h1,h2⟩:=I0c (Γ:=Γ.canon Γ2 ρ) (a:=a) (keep.zip vs) (Tr.build DT fun _=>some .any) (F0O DT _) (fun i hi=>⟨.any,by rw[C0o DT _ i hi],by unfold VRel;trivial⟩)
  (fun p hp=>⟨(D.keep _ (hmemT p hp).1).1,by
   obtain⟨m1,m2⟩:=hmemT p hp
   rw[m2]
   exact U0E D.pair hag (D.keep _ m1).2 (hT.get p.1)⟩)
 refine⟨h1,?_,?_,hT.size.trans D.n,by rw[←D.n];exact hT.le,fun i=>?_⟩
 ·have :=hT.marks
  rw[D.mks] at this
  exact this
 ·have :=hT.rnd
  rw[D.rnd] at this
  exact this
 ·show VRel (Γ.canon Γ2 ρ) (getT (D0q (keep.zip vs)) i) _
  by_cases hi:i<LT
  ·obtain⟨v,e1,e2⟩:=h2 i hi
   rw[Q0c hi,show(D0q (keep.zip vs)).get i=some v from e1];exact e2
  ·rw[K0X hi]
   have :a.tmps.getD i undef=undef:=by
    have hs:=hT.size
    have hl:=hT.le
    rw[Array.getD_eq_getD_getElem?,Array.getElem?_eq_none (by omega)];rfl
   rw[this];exact D0B _
end
inductive Da(α:Type) where
 |leaf (a:α)
 |ite (b:Bool) (l r:Da α)
 |each (c:Univ.C) (p:Univ.S c→Bool) (f:Univ.S c→Da α)
 |fail
def Da.holds{α:Type}(p:α→Prop):Da α→Prop
 |.leaf a=>p a
 |.ite b l r=>(b=true→l.holds p)∧(b=false→r.holds p)
 |.each _ q f=>(∃x,q x=true)∧∀x,q x=true→(f x).holds p
 |.fail=>False
def Res.viewA{α β:Type}(f:α→St→β):Res α→Da β
 |.ok a s=>.leaf (f a s)
 |.br _ _=>.fail
 |.ite b l r=>.ite b (l.viewA f) (r.viewA f)
 |.fail _=>.fail
 |.each c p g=>.each c p fun x=>(g x).viewA f
theorem F0T{α β:Type}{f:α→St→β}{p:β→Prop}:∀{r:Res α},(r.viewA f).holds p→r.Good
 |.ok _ _,_=>trivial
 |.br _ _,h=>h.elim
 |.ite true l _,h=>F0T (r:=l) (h.1 rfl)
 |.ite false _ r,h=>F0T (r:=r) (h.2 rfl)
 |.fail _,h=>h.elim
 |.each _ _ g,h=>⟨h.1,fun x hx=>F0T (r:=g x) (h.2 x hx)⟩
theorem E0t{α β:Type}{f:α→St→β}{p:β→Prop}{a:α}{s:St}:∀{r:Res α},(r.viewA f).holds p→r.Has a s→p (f a s)
 |.ok _ _,h,k=>by obtain⟨rfl,rfl⟩:=k;exact h
 |.br _ _,h,_=>h.elim
 |.ite true l _,h,k=>E0t (r:=l) (h.1 rfl) k
 |.ite false _ r,h,k=>E0t (r:=r) (h.2 rfl) k
 |.fail _,h,_=>h.elim
 |.each _ _ g,h,⟨x,hx,k⟩=>E0t (r:=g x) (h.2 x hx) k
theorem E0R{α β δ:Type}{f:α→St→β}{g:α→St→δ}{p:β→Prop}{q:δ→Prop}(hpq:∀a s,p (f a s)→q (g a s)):∀{r:Res α},(r.viewA f).holds p→(r.viewA g).holds q
 |.ok a s,h=>hpq a s h
 |.br _ _,h=>h.elim
 |.ite _ l r,h=>⟨fun e=>E0R hpq (r:=l) (h.1 e),fun e=>E0R hpq (r:=r) (h.2 e)⟩
 |.fail _,h=>h.elim
 |.each _ _ g,h=>⟨h.1,fun x hx=>E0R hpq (r:=g x) (h.2 x hx)⟩
structure GSpec(γ δ:Type) where
 body:Code
 nt:Nat
 nx:Nat
 nxi:Nat
 room:Nat
 gro:List (GPos×Nat)
 keep:List Nat
 objs:List Nat
 ext:List AVal→List AObj→Option γ
 vals:γ→List AVal
 obs:γ→List AObj
 keepX:AExit→List Nat
 objsX:AExit→List Nat
 valsX:AExit→δ→List AVal
 obsX:AExit→δ→List AObj
 inv:γ→Prop
 res:γ→Dt (AExit×δ)
section
variable{γ δ:Type}
noncomputable def GSpec.inT(L:GSpec γ δ)(x:γ):Tm:=⟨D0q (L.keep.zip (L.vals x)),L.nt,[],none⟩
noncomputable def GSpec.inS(L:GSpec γ δ)(x:γ):St:=⟨D0e (L.objs.zip (L.obs x)),L.nxi,0,[],[]⟩
noncomputable def GSpec.outT(L:GSpec γ δ)(q:AExit×δ):AExit×Tm:=(q.1,⟨D0q ((L.keepX q.1).zip (L.valsX q.1 q.2)),L.nt,[],none⟩)
noncomputable def GSpec.outS(L:GSpec γ δ)(q:AExit×δ):St:=⟨D0e ((L.objsX q.1).zip (L.obsX q.1 q.2)),L.nx+L.room,0,[],[]⟩
noncomputable def GSpec.keepOf(L:GSpec γ δ)(e:AExit):List Nat:=match e with |.normal=>L.keep|e=>L.keepX e
noncomputable def GSpec.objsOf(L:GSpec γ δ)(e:AExit):List Nat:=match e with |.normal=>L.objs|e=>L.objsX e
noncomputable def GSpec.run(L:GSpec γ δ)(T:Tm)(s:St):Res (AExit×Tm):=
 sel (Nat.beq s.nx L.nx&&Nat.ble L.nx L.nxi&&Nat.ble L.nxi (L.nx+L.room)&&R0m L.nt L.nx L.nxi L.keep L.objs T s (G0c T s L.gro))
 (match L.ext (K0T (G0c T s L.gro) T L.keep) (P0k L.nx (G0c T s L.gro) s L.objs) with
  |some x=>.ite (dec (L.inv x)) ((L.res x).toRes L.outT L.outS) (.fail [])
  |none=>.fail []) (.fail [])
theorem GSpec.run_up(L:GSpec γ δ)(T:Tm)(s:St)(q:AExit×Tm)(t:St)(h:(L.run T s).Has q t):s.nx≤t.nx∧(s.h.deep DH→t.h.deep DH):=by
 unfold GSpec.run at h
 cases hg:(Nat.beq s.nx L.nx&&Nat.ble L.nx L.nxi&&Nat.ble L.nxi (L.nx+L.room)&&R0m L.nt L.nx L.nxi L.keep L.objs T s (G0c T s L.gro)) with
 |false=>rw[hg] at h;exact h.elim
 |
  true=>
  rw[hg,A0e] at h
  simp only[Bool.and_eq_true] at hg
  have hn:s.nx=L.nx:=A0E hg.1.1.1
  cases he:L.ext (K0T (G0c T s L.gro) T L.keep) (P0k L.nx (G0c T s L.gro) s L.objs) with
  |none=>rw[he] at h;exact h.elim
  |
   some x=>
   rw[he] at h
   have h:(Res.ite (dec (L.inv x)) ((L.res x).toRes L.outT L.outS) (.fail [])).Has q t:=h
   cases hb:dec (L.inv x) with
   |false=>rw[hb] at h;exact h.elim
   |
    true=>
    rw[hb] at h
    obtain⟨a,_,_,rfl⟩:=F0A h
    exact⟨by rw[hn];exact Nat.le_add_right _ _,fun _=>F0Y _⟩
noncomputable def GSpec.next(L:GSpec γ δ)(q:AExit×Tm)(t:St):Bool:=R0m L.nt L.nx L.nxi (L.keepOf q.1) (L.objsOf q.1) q.2 t (G0c q.2 t L.gro)&&Nat.ble t.nx (L.nx+L.room)
end
section
variable{P:Program}{γ δ:Type}
set_option maxHeartbeats 1000000 in
theorem d0M(hX:C0U P)(hm:P.follows .mixedOrders=true){E:Env}(hE:EnvR E P)(hl:E.loops=[])(L:GSpec γ δ)(fuel:Nat)(μ:γ→Nat)(hmk:A0M L.body=true)
  (hext:∀vs os x,L.ext vs os=some x→vs=L.vals x∧os=L.obs x)
  (hgood:∀x,L.inv x→((A0v fuel E false L.body (L.inT x) (L.inS x)).viewA fun q t=>L.next q t).holds fun b=>b=true)
  (hstep:∀x,L.inv x→((A0v fuel E false L.body (L.inT x) (L.inS x)).viewA fun q t=>(q.1,K0T (G0c q.2 t L.gro) q.2 (L.keepOf q.1),P0k L.nx (G0c q.2 t L.gro) t (L.objsOf q.1))).holds fun q=>
   match q.1 with
   |.normal=>∃y,L.vals y=q.2.1∧L.obs y=q.2.2∧L.inv y∧μ y<μ x∧(L.res y).val=(L.res x).val
   |e=>∃d,L.valsX e d=q.2.1∧L.obsX e d=q.2.2∧(L.res x).val=some (e,d)) (hso:E.solo=false):
  A0h P ⟨A0u E.lps L.body,L.run,L.run_up⟩:=by
 intro E1 base w0 Γ s w T ro a N m hty R1 hT g hN hF hLH
 have hty':E1.ty=E.ty:=hty.trans hE.ty0.symm
 have R:Rel E base w0 Γ s.h w:=R1.less hty' hso
 have post:∀{x a' w'},E0i E base w0 Γ ro s N (L.run T s) x a' w'→E0i E1 base w0 Γ ro s N (L.run T s) x a' w':=by
  rintro x a' w'⟨q,T',s',Γ',h1,h2,h3,h4⟩
  exact⟨q,T',s',Γ',h1,h2,h3,h4.more hty'.symm R1⟩
 refine wpIn_mono (Q:=E0i E base w0 Γ ro s N (L.run T s)) ?_ fun _ _ _ h=>post h
 show(Code.loop (A0u E.lps L.body)).wpIn (FW ro) m P (E0i E base w0 Γ ro s N (L.run T s)) a w
 have g:(L.run T s).Good:=g
 have hN:∀q s',(L.run T s).Has q s'→s'.nx≤N:=hN
 unfold GSpec.run at g hN⊢
 cases hg:(Nat.beq s.nx L.nx&&Nat.ble L.nx L.nxi&&Nat.ble L.nxi (L.nx+L.room)&&R0m L.nt L.nx L.nxi L.keep L.objs T s (G0c T s L.gro)) with
 |false=>rw[hg] at g;exact g.elim
 |true=>
 rw[hg,A0e] at g hN
 rw[A0e]
 simp only[Bool.and_eq_true] at hg
 obtain⟨⟨⟨g1,gi1⟩,gi2⟩,g2⟩:=hg
 have g1:s.nx=L.nx:=A0E g1
 have gi1:=Nat.le_of_ble_eq_true gi1
 have gi2:=Nat.le_of_ble_eq_true gi2
 cases he:L.ext (K0T (G0c T s L.gro) T L.keep) (P0k L.nx (G0c T s L.gro) s L.objs) with
 |none=>rw[he] at g;exact g.elim
 |some x0=>
 rw[he] at g hN
 simp only[] at g hN⊢
 by_cases hinv:L.inv x0
 case neg=>
  have hd:dec (L.inv x0)=false:=R0j hinv
  rw[hd] at g;exact g.elim
 have hd:dec (L.inv x0)=true:=A0g hinv
 rw[hd] at g hN
 simp only[hd]
 have g:((L.res x0).toRes L.outT L.outS).Good:=g
 have hN:∀q s',((L.res x0).toRes L.outT L.outS).Has q s'→s'.nx≤N:=hN
 obtain⟨hv,ho⟩:=hext _ _ _ he
 obtain⟨q0,t0,hh0⟩:=E0M g
 have hroom:L.nx+L.room≤N:=by
  obtain⟨b,_,_,rfl⟩:=F0A hh0
  exact hN _ _ hh0
 --the start
 have R0:=(Got.same (N:=N) (s':=s) hF rfl R)
 obtain⟨G0,T0⟩:=R0.canon g1 (by omega) hF hT g2 hv.symm ho.symm (nx3:=L.nxi) (Nat.le_refl _) gi1
 let At :γ→Act→World→Prop:=fun x a' w'=>L.inv x∧(L.res x).val=(L.res x0).val∧∃Γ',TRel Γ' ro (L.inT x) a'∧Got E base w0 Γ s N Γ' (L.inS x) w'
 have νex:∃ν:Act→World→Nat,∀a' w',(∃k x,μ x=k∧At x a' w')→(∃x,μ x=ν a' w'∧At x a' w')∧∀x,At x a' w'→ν a' w'≤μ x:=by
  classical
  refine⟨fun a' w'=>if h:∃k,∃x,μ x=k∧At x a' w' then Classical.choose (V0M _ h) else 0,fun a' w' h=>?_⟩
  simp only[dif_pos h]
  obtain⟨h1,h2⟩:=Classical.choose_spec (V0M _ h)
  exact⟨h1,fun x hx=>h2 _ ⟨x,rfl,hx⟩⟩
 obtain⟨ν,hν⟩:=νex
 refine wpIn_loop (fun a' w'=>∃x,At x a' w') ν ⟨x0,hinv,rfl,_,T0,G0⟩ ?_
 rintro a' w'⟨y,hy⟩
 obtain⟨⟨x,hxμ,hxi,hxr,Γ1,hT1,hG1⟩,hmin⟩:=hν a' w' ⟨_,y,rfl,hy⟩
 have hgd:=hgood x hxi
 have hst:=hstep x hxi
 have hgr:=F0T hgd
 have n2:∀q t,(A0v fuel E false L.body (L.inT x) (L.inS x)).Has q t→t.nx≤L.nx+L.room:=by
  intro q t h
  have :=E0t hgd h
  unfold GSpec.next at this
  rw[Bool.and_eq_true] at this
  exact Nat.le_of_ble_eq_true this.2
 refine wpIn_mono (B0Y (base:=base) (w0:=w0) hX hm fuel E hE false L.body (L.inT x) (L.inS x) Γ1 w' ro a' N m hmk hG1.rel hT1 (by rw[hl];intro d hd;cases hd) hgr (fun q1 t1 h=>by have :=n2 q1 t1 h;omega) hG1.fresh hLH) ?_
 rintro e a2 w2⟨e2,T2,s2,Γ2,hh,rfl,hT2,hG2⟩
 have hnew:=E0t hst hh
 have n1:=E0t hgd hh
 unfold GSpec.next at n1
 rw[Bool.and_eq_true] at n1
 have n1:=n1.1
 have hG:=hG1.trans hG2
 simp only[] at hnew n1
 have fin:∀e3:AExit,e2=e3→e3≠.normal→(∃d,L.valsX e3 d=K0T (G0c T2 s2 L.gro) T2 (L.keepX e3)∧L.obsX e3 d=P0k L.nx (G0c T2 s2 L.gro) s2 (L.objsX e3)∧(L.res x).val=some (e3,d))→
   R0m L.nt L.nx L.nxi (L.keepX e3) (L.objsX e3) T2 s2 (G0c T2 s2 L.gro)=true→E0i E base w0 Γ ro s N ((L.res x0).toRes L.outT L.outS) e3.ex a2 w2:=by
  rintro e3 rfl hne⟨d,d1,d2,d3⟩k1
  have hout:=J0c (f:=L.outT) (g:=L.outS) (hxr.symm.trans d3)
  obtain⟨GC,TC⟩:=hG.canon g1 (by omega) hF hT2 k1 d1 d2 (nx3:=L.nx+L.room) gi2 (Nat.le_add_right _ _)
  exact⟨e2,_,_,_,hout,rfl,TC,GC⟩
 cases e2 with
 |
  normal=>
  obtain⟨y2,v1,v2,v3,v4,v5⟩:=hnew
  have hat:At y2 a2 w2:=by
   obtain⟨GC,TC⟩:=hG.canon g1 (by omega) hF hT2 n1 v1 v2 (nx3:=L.nxi) (Nat.le_refl _) gi1
   exact⟨v3,v5.trans hxr,_,TC,GC⟩
  refine C0F (x:=.normal) (fun _=>⟨⟨y2,hat⟩,?_⟩) (fun q=>absurd rfl q)
  have :=(hν a2 w2 ⟨_,y2,rfl,hat⟩).2 y2 hat
  omega
 |exit id=>exact C0F (x:=.exit id) (fun q=>by cases q) (fun _=>fin (.exit id) rfl (by simp) hnew n1)
 |ret=>exact C0F (x:=.ret) (fun q=>by cases q) (fun _=>fin .ret rfl (by simp) hnew n1)
end
structure GK where
 ps:List Pt
 os:List Po
def GK.ty(k:GK):Type:=Pts k.ps×Pos k.os
def GKs:List GK→Type
 |[]=>Empty
 |k::l=>k.ty ⊕ GKs l
def GKs.vals:(l:List GK)→GKs l→List AVal
 |[],x=>x.elim
 |
  k::l,x=>match x with
  |.inl y=>Pts.vals k.ps y.1
  |.inr y=>GKs.vals l y
def GKs.obs:(l:List GK)→GKs l→List AObj
 |[],x=>x.elim
 |
  k::l,x=>match x with
  |.inl y=>Pos.obs k.os y.2
  |.inr y=>GKs.obs l y
noncomputable def GKs.ext:(l:List GK)→List AVal→List AObj→Option (GKs l)
 |[],_,_=>none
 |
  k::l,vs,os=>match Pts.ext k.ps vs with
  |
   some x=>(match Pos.ext k.os os with
   |some y=>some (.inl (x,y))
   |
    none=>(match GKs.ext l vs os with
    |some z=>some (.inr z)
    |none=>none))
  |
   none=>(match GKs.ext l vs os with
   |some z=>some (.inr z)
   |none=>none)
theorem GKs.ext_eq:∀(l:List GK){vs:List AVal}{os:List AObj}{x:GKs l},GKs.ext l vs os=some x→vs=GKs.vals l x∧os=GKs.obs l x
 |[],_,_,x,_=>x.elim
 |
  k::l,vs,os,x,h=>by
  have rest:∀{o:Option (GKs l)},o=GKs.ext l vs os→(match o with |some z=>some (Sum.inr z)|none=>none:Option (GKs (k::l)))=some x→vs=GKs.vals (k::l) x∧os=GKs.obs (k::l) x:=by
   intro o ho e
   cases o with
   |none=>cases e
   |some z=>cases e;exact GKs.ext_eq l ho.symm
  unfold GKs.ext at h
  cases h1:Pts.ext k.ps vs with
  |none=>rw[h1] at h;exact rest rfl h
  |
   some y=>
   rw[h1] at h
   simp only[] at h
   cases h2:Pos.ext k.os os with
   |none=>rw[h2] at h;exact rest rfl h
   |
    some z=>
    rw[h2] at h
    cases h
    exact⟨Pts.ext_eq _ h1,Pos.ext_eq _ h2⟩
structure GL where
 body:Code
 nt:Nat
 nx:Nat
 nxi:Nat
 room:Nat
 gro:List (GPos×Nat)
 keep:List Nat
 objs:List Nat
 ks:List GK
 keepX:AExit→List Nat
 objsX:AExit→List Nat
 inv:GKs ks→Prop
 res:GKs ks→Dt (AExit×List AVal×List AObj)
noncomputable def GL.spec(S:GL):GSpec (GKs S.ks) (List AVal×List AObj):=
 {body:=S.body,nt:=S.nt,nx:=S.nx,nxi:=S.nxi,room:=S.room,gro:=S.gro,keep:=S.keep,objs:=S.objs,ext:=GKs.ext S.ks,vals:=GKs.vals S.ks,obs:=GKs.obs S.ks
  keepX:=S.keepX,objsX:=S.objsX,valsX:=fun _ d=>d.1,obsX:=fun _ d=>d.2,inv:=S.inv,res:=S.res}
noncomputable def GL.loop(S:GL)(l:List (Nat×B0s)):B0s:=⟨A0u l S.body,S.spec.run,S.spec.run_up⟩
noncomputable def GL.round(S:GL)(E:Env)(fuel:Nat)(x:GKs S.ks):Da (Bool×AExit×List AVal×List AObj):=
 (A0v fuel E false S.body (S.spec.inT x) (S.spec.inS x)).viewA fun q t=>(S.spec.next q t,q.1,K0T (G0c q.2 t S.gro) q.2 (S.spec.keepOf q.1),P0k S.nx (G0c q.2 t S.gro) t (S.spec.objsOf q.1))
theorem GL.sound{P:Program}(hX:C0U P)(hm:P.follows .mixedOrders=true){E:Env}(hE:EnvR E P)(hl:E.loops=[])(S:GL)(fuel:Nat)(μ:GKs S.ks→Nat)(hmk:A0M S.body=true)
  (h:∀x,S.inv x→(S.round E fuel x).holds fun q=>q.1=true∧match q.2.1 with
   |.normal=>∃y,GKs.vals S.ks y=q.2.2.1∧GKs.obs S.ks y=q.2.2.2∧S.inv y∧μ y<μ x∧(S.res y).val=(S.res x).val
   |e=>(S.res x).val=some (e,q.2.2)) (hso:E.solo=false):A0h P (S.loop E.lps):=by
 refine d0M hX hm hE hl S.spec fuel μ hmk (fun vs os x hx=>GKs.ext_eq S.ks hx) (fun x hx=>?_) (fun x hx=>?_) hso
 ·exact E0R (fun q t k=>k.1) (h x hx)
 ·refine E0R (fun q t k=>?_) (h x hx)
  obtain⟨_,k⟩:=k
  cases hq:q.1 with
  |
   normal=>
   rw[hq] at k
   obtain⟨y,k1,k2,k3,k4,k5⟩:=k
   exact⟨y,k1,k2,k3,k4,k5⟩
  |exit id=>rw[hq] at k;exact⟨_,rfl,rfl,k⟩
  |ret=>rw[hq] at k;exact⟨_,rfl,rfl,k⟩
theorem A0Q{α:Type}{b:Bool}{l r:Da α}{p:α→Prop}(hl:b=true→l.holds p)(hr:b=false→r.holds p):(Da.ite b l r).holds p:=⟨hl,hr⟩
theorem A0t{α:Type}{b:Bool}{l:Da α}{p:α→Prop}(hb:b=true)(hl:l.holds p):(Da.ite b l .fail).holds p:=⟨fun _=>hl,fun h=>by rw[hb] at h;cases h⟩
theorem T0A{α:Type}{c:Univ.C}{q:Univ.S c→Bool}{f:Univ.S c→Da α}{p:α→Prop}(h1:∃x,q x=true)(h2:∀x,q x=true→(f x).holds p):(Da.each c q f).holds p:=⟨h1,h2⟩
mutual
noncomputable def Pt.nz:Pt→AVal→AVal
 |
  .d c,a=>(match a with
  |.nils=>.dsl c []
  |a=>a)
 |
  .agg l,a=>(match a with
  |.agg cs=>.agg (Pts.nz l cs)
  |.tup cs=>.tup (Pts.nz l cs)
  |a=>a)
 |.i _,a=>a
 |.b,a=>a
 |.s,a=>a
 |.any,a=>a
 |.fn _ _,a=>a
 |.box _,a=>a
 |.p _ _,a=>a
 |.nf,a=>a
 |.nl,a=>a
 |.al _ _,a=>a
 |.dm _ _,a=>a
 |.mp _,a=>a
noncomputable def Pts.nz:List Pt→List AVal→List AVal
 |[],l=>l
 |
  p::ps,l=>(match l with
  |[]=>[]
  |a::l=>p.nz a::Pts.nz ps l)
end
mutual
theorem Pt.nz_ok{Γ:Gam}:∀(p:Pt){a:AVal}{v:Value},VRel Γ a v→VRel Γ (p.nz a) v
 |
  .d c,a,v,h=>by
  unfold Pt.nz
  split
  ·unfold VRel at h⊢;subst h;exact .nil c none 0
  ·exact h
 |
  .agg l,a,v,h=>by
  unfold Pt.nz
  split
  ·unfold VRel at h⊢;obtain⟨vs,e,h⟩:=h;exact⟨vs,e,Pts.nz_ok l h⟩
  ·unfold VRel at h⊢;obtain⟨vs,e,h⟩:=h;exact⟨vs,e,Pts.nz_ok l h⟩
  ·exact h
 |.i _,a,v,h=>by unfold Pt.nz;exact h
 |.b,a,v,h=>by unfold Pt.nz;exact h
 |.s,a,v,h=>by unfold Pt.nz;exact h
 |.any,a,v,h=>by unfold Pt.nz;exact h
 |.fn _ _,a,v,h=>by unfold Pt.nz;exact h
 |.box _,a,v,h=>by unfold Pt.nz;exact h
 |.p _ _,a,v,h=>by unfold Pt.nz;exact h
 |.nf,a,v,h=>by unfold Pt.nz;exact h
 |.nl,a,v,h=>by unfold Pt.nz;exact h
 |.al _ _,a,v,h=>by unfold Pt.nz;exact h
 |.dm _ _,a,v,h=>by unfold Pt.nz;exact h
 |.mp _,a,v,h=>by unfold Pt.nz;exact h
theorem Pts.nz_ok{Γ:Gam}:∀(ps:List Pt){l:List AVal}{vs:List Value},VRels Γ l vs→VRels Γ (Pts.nz ps l) vs
 |[],l,vs,h=>by unfold Pts.nz;exact h
 |p::ps,[],vs,h=>by unfold Pts.nz;exact h
 |
  p::ps,a::l,vs,h=>by
  obtain⟨v,ws,rfl,h1,h2⟩:=h.cons_inv
  unfold Pts.nz
  exact .cons (Pt.nz_ok p h1) (Pts.nz_ok ps h2)
end
mutual
theorem Pt.nz_low{nx:Nat}:∀(p:Pt){a:AVal},AVal.low nx a=true→AVal.low nx (p.nz a)=true
 |
  .d c,a,h=>by
  unfold Pt.nz
  split
  ·rfl
  ·exact h
 |
  .agg l,a,h=>by
  unfold Pt.nz
  split
  ·unfold AVal.low at h⊢;exact Pts.nz_low l h
  ·unfold AVal.low at h⊢;exact Pts.nz_low l h
  ·exact h
 |.i _,a,h=>by unfold Pt.nz;exact h
 |.b,a,h=>by unfold Pt.nz;exact h
 |.s,a,h=>by unfold Pt.nz;exact h
 |.any,a,h=>by unfold Pt.nz;exact h
 |.fn _ _,a,h=>by unfold Pt.nz;exact h
 |.box _,a,h=>by unfold Pt.nz;exact h
 |.p _ _,a,h=>by unfold Pt.nz;exact h
 |.nf,a,h=>by unfold Pt.nz;exact h
 |.nl,a,h=>by unfold Pt.nz;exact h
 |.al _ _,a,h=>by unfold Pt.nz;exact h
 |.dm _ _,a,h=>by unfold Pt.nz;exact h
 |.mp _,a,h=>by unfold Pt.nz;exact h
theorem Pts.nz_low{nx:Nat}:∀(ps:List Pt){l:List AVal},AVal.lows nx l=true→AVal.lows nx (Pts.nz ps l)=true
 |[],l,h=>by unfold Pts.nz;exact h
 |p::ps,[],h=>by unfold Pts.nz;rfl
 |
  p::ps,a::l,h=>by
  unfold AVal.lows at h
  rw[Bool.and_eq_true] at h
  unfold Pts.nz AVal.lows
  rw[Bool.and_eq_true]
  exact⟨Pt.nz_low p h.1,Pts.nz_low ps h.2⟩
end
section
variable{P:Program}
abbrev Mps:=List (TypeId×Univ.C×Univ.C)
noncomputable def envX(P:Program)(mp:Mps)(ws:List (FuncId×XSpec))(cs:List (FuncId×List FSpec))(ls:List (Nat×B0s)):Env:=⟨(G0x P).ty,(G0x P).fn,[],ws.map (fun p=>(p.1,p.2.ct))++cs.map (fun p=>(p.1,Q0Y p.2)),ls,mp,false⟩
theorem M0d(mp:Mps)(ws:List (FuncId×XSpec))(cs:List (FuncId×List FSpec))(ls:List (Nat×B0s))(hw:∀p∈ws,p.2.Kept P p.1)(hc:∀p∈cs,∀S∈p.2,S.Kept P p.1)(hl:∀p∈ls,A0h P p.2):EnvR (envX P mp ws cs ls) P:=
 {ty0:=rfl,fn:=(E0b P).fn,ctr:=(M0h ws cs ls hw hc hl).ctr,lps:=fun n p h=>hl _ (C0i h)}
theorem FSpec.keptX(hX:C0U P)(hm:P.follows .mixedOrders=true)(mp:Mps)(ws:List (FuncId×XSpec))(cs:List (FuncId×List FSpec))(ls:List (Nat×B0s))(hw:∀p∈ws,p.2.Kept P p.1)(hc:∀p∈cs,∀S∈p.2,S.Kept P p.1)(hl:∀p∈ls,A0h P p.2)
  (S:FSpec) {f:FuncId} (fuel:Nat) (c:Code) {nt:Nat} {rs:List ResultVar} (hmk:mkFn P f=some (.code (A0u ls c) nt rs)) (hc':A0M c=true) (k:Pt)
  (h:∀x,S.pre x→(S.run (envX P mp ws cs ls) c nt rs fuel x).holds fun q=>q.1=true∧(S.res x).val=some (k.nz q.2)):S.Kept P f:=by
 intro x hx r hr
 have hh:=h x hx
 obtain⟨a,s,hdet,h1,h2⟩:=C0D hh
 have h1:(AVal.low 0 (a.out 0 s.h)&&Nat.ble s.nx LH)=true:=h1
 have h2:(S.res x).val=some (k.nz (a.out 0 s.h).sym):=h2
 rw[hr] at h2
 cases h2
 obtain⟨p1,p2⟩:=F0j hX hm (M0d mp ws cs ls hw hc hl) rfl hmk c hc' rfl fuel (as:=Pts.vals S.ps x) (r:=(a.out 0 s.h).sym) (B0X (fun a s k=>k.1) hh) (J0a hdet)
 refine⟨k.nz_low p1,fun Γ w vs hst hno hlo hv=>?_⟩
 obtain⟨q1,q2⟩:=p2 Γ w vs hst hno hlo hv
 refine⟨q1,fun m=>CallsIn.mono (q2 m) ?_⟩
 rintro e w'⟨v,Γ',rfl,hrel,rest⟩
 exact⟨v,Γ',rfl,k.nz_ok hrel,rest⟩
theorem F0e{α:Type}{p:α→Prop}:∀{t:Dt α},t.holds p→∃a,t.val=some a∧p a
 |.leaf a,h=>⟨a,rfl,h⟩
 |.ite true l _,h=>F0e (t:=l) (h.1 rfl)
 |.ite false _ r,h=>F0e (t:=r) (h.2 rfl)
 |.fail,h=>h.elim
theorem F0k{α:Type}{p:α→Prop}{a:α}(ha:p a):∀{t:Dt α},t.val=some a→t.holds p
 |.leaf _,h=>by cases h;exact ha
 |.ite true l _,h=>⟨fun _=>F0k ha (t:=l) h,fun e=>by cases e⟩
 |.ite false _ r,h=>⟨fun e=>(by cases e),fun _=>F0k ha (t:=r) h⟩
 |.fail,h=>by cases h
theorem WSpec.keptX(hX:C0U P)(hm:P.follows .mixedOrders=true)(mp:Mps)(ws:List (FuncId×XSpec))(cs:List (FuncId×List FSpec))(ls:List (Nat×B0s))(hw:∀p∈ws,p.2.Kept P p.1)(hc:∀p∈cs,∀S∈p.2,S.Kept P p.1)(hl:∀p∈ls,A0h P p.2)
  (S:WSpec) {f:FuncId} (fuel:Nat) (c:Code) {nt:Nat} {rs:List ResultVar} (hmk:mkFn P f=some (.code (A0u ls c) nt rs)) (hc':A0M c=true) (k:Pt)
  (h:∀x y z,S.pre x y z→(S.run (envX P mp ws cs ls) c nt rs fuel x y z).holds fun q=>q.1=true∧∃r,q.2=some r∧(S.res x y z).val=some (k.nz r.1,r.2)):S.Kept P f:=by
 intro x y z hx r hr
 obtain⟨q,hq,h1,r0,h2,h3⟩:=F0e (h x y z hx)
 rw[hr] at h3
 cases h3
 have hc:=WSpec.calls hX hm (M0d mp ws cs ls hw hc hl) rfl rfl S hmk c hc' rfl fuel x y z (r:=r0) (F0k (a:=q) ⟨h1,h2⟩ hq)
 intro Γ w b C fz v v1 v2 g1 g2 g3 g4 g5 g6 g7 g8 g9 g10
 obtain⟨c1,c2⟩:=hc Γ w b C fz v v1 v2 g1 g2 g3 g4 g5 g6 g7 g8 g9 g10
 refine⟨c1,fun m=>CallsIn.mono (c2 m) ?_⟩
 rintro e w'⟨u,v',C',fz',Γ',rfl,hrel,rest⟩
 exact⟨u,v',C',fz',Γ',rfl,k.nz_ok hrel,rest⟩
theorem MSpec.keptX(hX:C0U P)(hm:P.follows .mixedOrders=true)(mp:Mps)(ws:List (FuncId×XSpec))(cs:List (FuncId×List FSpec))(ls:List (Nat×B0s))(hw:∀p∈ws,p.2.Kept P p.1)(hc:∀p∈cs,∀S∈p.2,S.Kept P p.1)(hl:∀p∈ls,A0h P p.2)
  (S:MSpec) {f:FuncId} (fuel:Nat) (c:Code) {nt:Nat} {rs:List ResultVar} (hmk:mkFn P f=some (.code (A0u ls c) nt rs)) (hc':A0M c=true)
  (h:∀x y,S.pre x y→(S.run (envX P mp ws cs ls) c nt rs fuel x y).holds fun q=>q.1=true∧∃r,q.2=some r∧(S.res x y).val=some r):S.Kept P f:=by
 intro x y hx r hr
 obtain⟨q,hq,h1,r0,h2,h3⟩:=F0e (h x y hx)
 rw[hr] at h3
 cases h3
 exact MSpec.calls hX hm (M0d mp ws cs ls hw hc hl) rfl rfl S hmk c hc' rfl fuel x y (F0k (a:=q) ⟨h1,h2⟩ hq)
theorem PSpec.keptX(hX:C0U P)(hm:P.follows .mixedOrders=true)(mp:Mps)(ws:List (FuncId×XSpec))(cs:List (FuncId×List FSpec))(ls:List (Nat×B0s))(hw:∀p∈ws,p.2.Kept P p.1)(hc:∀p∈cs,∀S∈p.2,S.Kept P p.1)(hl:∀p∈ls,A0h P p.2)
  (S:PSpec) (fuel:Nat) (μ:Pts (S.keep.map (·.2))→Pos (S.objs.map (·.2))→Nat) (hmk:A0M S.body=true)
  (h:∀x y,S.inv x y→(S.round (envX P mp ws cs ls) fuel x y).holds fun q=>q.1=true∧match q.2.1 with
   |.normal=>∃x' y',Pts.vals _ x'=q.2.2.1∧Pos.obs _ y'=q.2.2.2∧S.inv x' y'∧μ x' y'<μ x y∧(S.res x' y').val=(S.res x y).val
   |e=>(S.res x y).val=some (e,q.2.2)):A0h P (S.loop ls):=
 PSpec.sound hX hm (M0d mp ws cs ls hw hc hl) rfl S fuel μ hmk h rfl
theorem GL.keptX(hX:C0U P)(hm:P.follows .mixedOrders=true)(mp:Mps)(ws:List (FuncId×XSpec))(cs:List (FuncId×List FSpec))(ls:List (Nat×B0s))(hw:∀p∈ws,p.2.Kept P p.1)(hc:∀p∈cs,∀S∈p.2,S.Kept P p.1)(hl:∀p∈ls,A0h P p.2)
  (S:GL) (fuel:Nat) (μ:GKs S.ks→Nat) (hmk:A0M S.body=true)
  (h:∀x,S.inv x→(S.round (envX P mp ws cs ls) fuel x).holds fun q=>q.1=true∧match q.2.1 with
   |.normal=>∃y,GKs.vals S.ks y=q.2.2.1∧GKs.obs S.ks y=q.2.2.2∧S.inv y∧μ y<μ x∧(S.res y).val=(S.res x).val
   |e=>(S.res x).val=some (e,q.2.2)):A0h P (S.loop ls):=
 GL.sound hX hm (M0d mp ws cs ls hw hc hl) rfl S fuel μ hmk h rfl
end
noncomputable def b0c{β:Type}(a:AVal)(k:AVal→CT β):CT β:=match a with
 |.asl c n off len=>.rda n fun A=>okOr (D0V A.c c A.l) fun l=>.gone n (k (.dsl c (subL l off len)))
 |a=>k a
noncomputable def R0H{β:Type}:List AVal→(List AVal→CT β)→CT β
 |[],k=>k []
 |a::l,k=>b0c a fun x=>R0H l fun xs=>k (x::xs)
section
variable{P:Program}{E:Env}{base:Bs}{w0:World}{Γ:Gam}{w:World}{s:St}
theorem Rel.gives{h:Tr AObj}(R:Rel E base w0 Γ h w)(hso:E.solo=true){n:Nat}{i:Info}(hi:Γ n=some i){c:Univ.C}{l:List (Univ.S c)}(ho:h.get n=some (.arr c l)){ob:Obj}(hb:w.heap[i.b]?=some ob):
  Ext Γ (Γ.stays i.b ob)∧Rel E base w0 (Γ.stays i.b ob) (h.set n .done) w:=by
 have hn:=(R.dom n i hi).1
 have gs:=R.gs n .done hn
 have hfz:Γ.fz i.b=none:=R.sep n i _ hn ho trivial hi
 have hlo:Γ.lo≤i.b:=by
  obtain⟨h1,h2⟩:=R.solo hso
  rcases(R.dom n i hi).2.1 with q|q
  ·omega
  ·exact absurd q (h1 _)
 have lone:∀m p j,m<LH→m≠n→h.get m=some p→p.live→Γ m=some j→j.b≠i.b:=fun m p j hm ne hp hl hj e=>
  J0v (o:=.arr c l) trivial (R.inj n m _ p i j hn hm ho hp trivial hl (fun q=>ne q.symm) hi hj e.symm)
 have old:∀m p,m<LH→(h.set n .done).get m=some p→p≠.done→m≠n∧h.get m=some p:=fun m p hm hp hd=>by
  rw[gs m hm] at hp
  by_cases c0:m=n
  ·rw[if_pos c0] at hp;cases hp;exact absurd rfl hd
  ·rw[if_neg c0] at hp;exact⟨c0,hp⟩
 have live:∀{p:AObj},p.live→p≠.done:=fun h e=>by subst e;exact h
 have hx:Ext Γ (Γ.stays i.b ob):=by
  refine⟨fun _ _ e=>e,fun k o e=>?_,rfl,fun k hk=>?_⟩
  ·show(if k=i.b then some ob else Γ.fz k)=some o
   by_cases c:k=i.b
   ·rw[c,hfz] at e;cases e
   ·rw[if_neg c];exact e
  ·show(if k=i.b then some ob else Γ.fz k)=Γ.fz k
   rw[if_neg (by omega)]
 refine⟨hx,?_⟩
 constructor
 ·exact A0j _ DH h n R.deep
 ·exact R.below
 ·exact R.room
 ·exact R.dom
 ·intro m p hm hp
  by_cases d:p=.done
  ·subst d;trivial
  ·exact(R.obj m p hm (old m p hm hp d).2).keep hx fun _ _=>rfl
 ·intro m q p1 p2 j k hm hq h1 h2 l1 l2
  exact R.inj m q p1 p2 j k hm hq (old m p1 hm h1 (live l1)).2 (old q p2 hq h2 (live l2)).2 l1 l2
 ·intro m cs e frz root rel al hm h1 cs' e' frz' d' root' rel' al' h2
  have h1:=(old m _ hm h1 (by intro e;cases e)).2
  obtain⟨_,_,_,⟨⟨r,hr⟩,_⟩,_⟩:=R.obj m _ hm h1
  exact R.fam m _ _ _ _ _ _ hm h1 _ _ _ _ _ _ _ (old root _ (R.dom root r hr).1 h2 (by intro e;cases e)).2
 ·intro m q since seen kt es clock j k ents b1 borns stepped hm hq h1 h2 e1 e2 b2 b3
  obtain⟨z1,z2⟩:=R.iter m q since seen kt es clock j k ents b1 borns stepped hm hq (old m _ hm h1 (by intro e;cases e)).2 (old q _ hq h2 (by intro e;cases e)).2 e1 e2 b2 b3
  exact⟨z1,fun z=>(z2 z).ext hx⟩
 ·intro m j cs e frz rel al hm h1 e1
  exact R.own m j cs e frz rel al hm (old m _ hm h1 (by intro e;cases e)).2 e1
 ·intro k o e
  have e:(if k=i.b then some ob else Γ.fz k)=some o:=e
  by_cases c:k=i.b
  ·rw[if_pos c] at e;cases e;rw[c];exact hb
  ·rw[if_neg c] at e;exact R.stay k o e
 ·intro m j o hm h1 l1 e1
  obtain⟨ne,h1⟩:=old m o hm h1 (live l1)
  show(if j.b=i.b then some ob else Γ.fz j.b)=none
  rw[if_neg (lone m o j hm ne h1 l1 e1)]
  exact R.sep m j o hm h1 l1 e1
 ·exact R.lo
 ·exact R.solo
 ·refine R.hid.keep ⟨fun k c m q l e=>?_,fun m o j hm h1 l1 e1=>.inr ⟨m,o,j,hm,(old m o hm h1 (live l1)).2,l1,e1,rfl⟩,fun k C e z hk hB=>⟨rfl,?_⟩,hx.fz⟩
  ·exact⟨(old 0 _ (by decide) e (by intro e;cases e)).2,fun _ e=>⟨e,rfl⟩⟩
  ·show(if k=i.b then some ob else Γ.fz k)=none
   rw[if_neg fun q=>hB.2 n _ i hn ho trivial hi q.symm];exact hB.1
theorem X0d{β:Type}(R:Rel E base w0 Γ s.h w)(hso:E.solo=true){a:AVal}{v:Value}{k:AVal→CT β}(hv:VRel Γ a v)(g:((b0c a k).run s).Good):
  ∃x s' Γ',Γ'.nm=Γ.nm∧Ext Γ Γ'∧VRel Γ' x v∧Rel E base w0 Γ' s'.h w∧s'.nx=s.nx∧(b0c a k).run s=(k x).run s':=by
 unfold b0c at g⊢
 split at g
 ·rename_i c n off len
  have g:(M.bind (rdArr n) (fun A=>(okOr (D0V A.c c A.l) fun l=>CT.gone n (k (.dsl c (subL l off len)))).run) s).Good:=g
  show∃x s' Γ',_∧_∧_∧_∧_∧M.bind (rdArr n) (fun A=>(okOr (D0V A.c c A.l) fun l=>CT.gone n (k (.dsl c (subL l off len)))).run) s=_
  obtain⟨c',l',s1,ho,h2,h3⟩:=H0r (A0a g)
  rw[A0d h2] at g⊢
  simp only[] at g⊢
  obtain⟨m,h4,h5⟩:=B0t g
  rw[h5] at g⊢
  have :=D0U h4
  cases this
  have g:(M.bind (wrGone n) (fun _=>(k (.dsl c (subL m off len))).run) s1).Good:=g
  show∃x s' Γ',_∧_∧_∧_∧_∧M.bind (wrGone n) (fun _=>(k (.dsl c (subL m off len))).run) s1=_
  obtain⟨_,_,s2,_,h6,h7⟩:=I0f (A0a g)
  rw[A0d h6]
  have hv':=hv
  unfold VRel at hv'
  obtain⟨i,hi,_⟩:=hv'
  obtain⟨i',hi',_,C,e,fz,hb,_⟩:=R.obj n _ (R.dom n i hi).1 ho
  rw[hi] at hi';cases hi'
  obtain⟨hx,R'⟩:=R.gives hso hi ho hb
  refine⟨_,s2,Γ.stays i.b _,rfl,hx,?_,by rw[h7.h,h3.h];exact R',by rw[h7.nx,h3.nx],rfl⟩
  unfold VRel
  refine L0b R ho hv (fun j hj ob' hb'=>?_) hx.fz
  rw[hi] at hj;cases hj
  rw[hb] at hb';cases hb'
  show(if i.b=i.b then _ else _)=_
  rw[if_pos rfl]
 ·exact⟨a,s,Γ,rfl,.refl Γ,hv,R,rfl,rfl⟩
theorem M0F{β:Type}(hso:E.solo=true):∀{as:List AVal}{vs:List Value}{k:List AVal→CT β}{s:St}{Γ:Gam},Rel E base w0 Γ s.h w→VRels Γ as vs→((R0H as k).run s).Good→
  ∃xs s' Γ',Γ'.nm=Γ.nm∧Ext Γ Γ'∧VRels Γ' xs vs∧Rel E base w0 Γ' s'.h w∧s'.nx=s.nx∧(R0H as k).run s=(k xs).run s'
 |[],vs,k,s,Γ,R,hv,g=>⟨[],s,Γ,rfl,.refl Γ,hv,R,rfl,rfl⟩
 |
  a::as,vs,k,s,Γ,R,hv,g=>by
  unfold R0H at g⊢
  obtain⟨v,ws,rfl,h1,h2⟩:=hv.cons_inv
  obtain⟨x,s1,Γ1,n1,x1,v1,R1,q1,e1⟩:=X0d R hso h1 g
  rw[e1] at g⊢
  obtain⟨xs,s2,Γ2,n2,x2,v2,R2,q2,e2⟩:=M0F hso R1 (VRels.ext x1 h2) g
  rw[e2]
  exact⟨x::xs,s2,Γ2,n2.trans n1,x1.trans x2,.cons (VRel.ext x2 v1) v2,R2,q2.trans q1,rfl⟩
noncomputable def FSpec.ctG(S:FSpec)(as:List AVal):CT AVal:=R0H as S.ct
theorem FSpec.ctG_sound{f:FuncId}(S:FSpec)(h:S.Kept P f):M0i true P f S.ctG:=by
 intro E base w0 Γ s w as vs N hty hso R hv g hN hF hLH
 unfold FSpec.ctG at g hN⊢
 obtain⟨xs,s1,Γ1,hnm,hx,hv1,R1,hnx,e⟩:=M0F hso R hv g
 rw[e] at g hN⊢
 have hF1:C0q Γ1 s1.nx N:=fun n h1 h2=>(congrFun hnm n).trans (hF n (by omega) h2)
 have G1:Got E base w0 Γ s N Γ1 s1 w:=⟨hx,fun n _=>congrFun hnm n,by omega,hF1,R1⟩
 have key:∀{r:Res AVal}{e w'},CallPost E base w0 Γ1 s1 N r e w'→CallPost E base w0 Γ s N r e w':=by
  rintro r e w'⟨v,a,s',Γ',h1,h2,h3,h4⟩
  exact⟨v,a,s',Γ',h1,h2,h3,G1.trans h4⟩
 have I:=S.ct_sound h E base w0 Γ1 s1 w xs vs N hty R1 hv1 g hN hF1 hLH
 generalize (callFunc f vs).run P w=run at I
 cases I with
 |val h=>exact .val (key h)
 |enter h=>exact .enter fun m=>CallsIn.mono (h m) fun e w' q=>key q
 |round h=>exact .round fun m=>RoundIn.mono (h m) fun e w' q=>key q
noncomputable def envS(P:Program)(mp:Mps)(ks:List (FuncId×FSpec))(ws:List (FuncId×XSpec))(cs:List (FuncId×List FSpec))(ls:List (Nat×B0s)):Env:=
 ⟨(G0x P).ty,(G0x P).fn,[],ks.map (fun p=>(p.1,p.2.ctG))++(ws.map (fun p=>(p.1,p.2.ct))++cs.map (fun p=>(p.1,Q0Y p.2))),ls,mp,true⟩
theorem d0g(mp:Mps)(ks:List (FuncId×FSpec))(ws:List (FuncId×XSpec))(cs:List (FuncId×List FSpec))(ls:List (Nat×B0s))(hk:∀p∈ks,p.2.Kept P p.1)(hw:∀p∈ws,p.2.Kept P p.1)(hc:∀p∈cs,∀S∈p.2,S.Kept P p.1)(hl:∀p∈ls,A0h P p.2):EnvR (envS P mp ks ws cs ls) P:=
 {ty0:=rfl,fn:=(E0b P).fn
  ctr:=fun f g h=>by
   have :=C0i h
   rcases List.mem_append.1 this with q|q
   ·obtain⟨p,hp,e⟩:=List.mem_map.1 q
    cases e
    exact p.2.ctG_sound (hk p hp)
   ·rcases List.mem_append.1 q with q|q
    ·obtain⟨p,hp,e⟩:=List.mem_map.1 q
     cases e
     exact(p.2.ct_sound (hw p hp)).to _
    ·obtain⟨p,hp,e⟩:=List.mem_map.1 q
     cases e
     exact(G0f (hc p hp)).to _
  lps:=fun n p h=>hl _ (C0i h)}
theorem FSpec.keptS(hX:C0U P)(hm:P.follows .mixedOrders=true)(mp:Mps)(ks:List (FuncId×FSpec))(ws:List (FuncId×XSpec))(cs:List (FuncId×List FSpec))(ls:List (Nat×B0s))(hk:∀p∈ks,p.2.Kept P p.1)(hw:∀p∈ws,p.2.Kept P p.1)(hc:∀p∈cs,∀S∈p.2,S.Kept P p.1)(hl:∀p∈ls,A0h P p.2)
  (S:FSpec) {f:FuncId} (fuel:Nat) (c:Code) {nt:Nat} {rs:List ResultVar} (hmk:mkFn P f=some (.code (A0u ls c) nt rs)) (hc':A0M c=true) (k:Pt)
  (h:∀x,S.pre x→(S.run (envS P mp ks ws cs ls) c nt rs fuel x).holds fun q=>q.1=true∧(S.res x).val=some (k.nz q.2)):S.Kept P f:=by
 intro x hx r hr
 have hh:=h x hx
 obtain⟨a,s,hdet,h1,h2⟩:=C0D hh
 have h1:(AVal.low 0 (a.out 0 s.h)&&Nat.ble s.nx LH)=true:=h1
 have h2:(S.res x).val=some (k.nz (a.out 0 s.h).sym):=h2
 rw[hr] at h2
 cases h2
 obtain⟨p1,p2⟩:=F0j hX hm (d0g mp ks ws cs ls hk hw hc hl) rfl hmk c hc' rfl fuel (as:=Pts.vals S.ps x) (r:=(a.out 0 s.h).sym) (B0X (fun a s k=>k.1) hh) (J0a hdet)
 refine⟨k.nz_low p1,fun Γ w vs hst hno hlo hv=>?_⟩
 obtain⟨q1,q2⟩:=p2 Γ w vs hst hno hlo hv
 refine⟨q1,fun m=>CallsIn.mono (q2 m) ?_⟩
 rintro e w'⟨v,Γ',rfl,hrel,rest⟩
 exact⟨v,Γ',rfl,k.nz_ok hrel,rest⟩
end
end Go.Ev
