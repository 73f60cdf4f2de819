/- A part of the proof that the card of SortsFits holds (Rows.SortsFitsCardSaid); no conditions. -/
import Derived.Test.YtghaalknpdlobaaGreatDoorPartC
import Derived.Lib.Bytealg
namespace Go.Ev
set_option linter.unusedSectionVars false
set_option linter.unusedVariables false
set_option linter.unusedSimpArgs false
open Go Go.RowKit
variable [Univ]

/-! A closed call in pieces: at each seam what is still needed, written out. -/

/-- The first statements of a row of them; the others. -/
def splitC : Nat → Code → Code × Option Code
  | n + 1, .seq a b => match n with
    | 0 => (a, some b)
    | n + 1 => (.seq a (splitC (n + 1) b).1, (splitC (n + 1) b).2)
  | _, c => (c, none)

def restWp (r : Option Code) (F : Fence) (m : Nat) (P : Program) (Q : Exit → Act → World → Prop) (a : Act) (w : World) : Prop := match r with
  | none => Q .normal a w
  | some c => c.wpIn F m P Q a w

section
variable {P : Program} {E : Env} {base : Nat} {w0 : World}

theorem chain_sound (hX : ExtOk P) (hm : P.follows .mixedOrders = true) (hE : EnvR E P) {det : Bool} {ro : Option Nat} {N m : Nat} (hLH : N ≤ LH) {Q : Exit → Act → World → Prop} :
    ∀ (n fuel : Nat) (c : Code) {T : Tm} {s : St} {Γ : Gam} {w : World} {a : Act}, codeOk c = true → Rel E base w0 Γ s.h w → TRel Γ ro T a → LoopsOk Γ E.loops → (evCode fuel E det (splitC n c).1 T s).Good →
      (∀ q t, (evCode fuel E det (splitC n c).1 T s).Has q t → t.nx ≤ N) → Fresh Γ s.nx N →
      (∀ x T' s' Γ' a' w', (evCode fuel E det (splitC n c).1 T s).Has (x, T') s' → TRel Γ' ro T' a' → Got E base w0 Γ s N Γ' s' w' → (x = .normal → restWp (splitC n c).2 (FW ro) m P Q a' w') ∧ (x ≠ .normal → Q x.ex a' w')) →
      c.wpIn (FW ro) m P Q a w := by
  have plain : ∀ (fuel : Nat) (c : Code) {T : Tm} {s : St} {Γ : Gam} {w : World} {a : Act}, codeOk c = true → Rel E base w0 Γ s.h w → TRel Γ ro T a → LoopsOk Γ E.loops → (evCode fuel E det c T s).Good →
      (∀ q t, (evCode fuel E det c T s).Has q t → t.nx ≤ N) → Fresh Γ s.nx N →
      (∀ x T' s' Γ' a' w', (evCode fuel E det c T s).Has (x, T') s' → TRel Γ' ro T' a' → Got E base w0 Γ s N Γ' s' w' → (x = .normal → Q .normal a' w') ∧ (x ≠ .normal → Q x.ex a' w')) →
      c.wpIn (FW ro) m P Q a w := by
    intro fuel c T s Γ w a hc R hT hL g hN hF hQ
    refine wpIn_mono ((code_sound (base := base) (w0 := w0) hX hm fuel).plain hE hc R hT hL g hN hF hLH) ?_
    rintro e a' w' ⟨x, T', s', Γ', hh, rfl, hT', hG⟩
    obtain ⟨h1, h2⟩ := hQ x T' s' Γ' a' w' hh hT' hG
    cases x with
    | normal => exact h1 rfl
    | exit id => exact h2 (by simp)
    | ret => exact h2 (by simp)
  intro n
  induction n with
  | zero =>
    intro fuel c T s Γ w a hc R hT hL g hN hF hQ
    have e : splitC 0 c = (c, none) := by cases c <;> rfl
    rw [e] at g hN hQ
    exact plain fuel c hc R hT hL g hN hF hQ
  | succ n ih =>
    intro fuel c T s Γ w a hc R hT hL g hN hF hQ
    by_cases hseq : ∃ x y, c = .seq x y
    · obtain ⟨x, y, rfl⟩ := hseq
      have hc : (codeOk x && codeOk y) = true := hc
      rw [Bool.and_eq_true] at hc
      cases n with
      | zero =>
        refine wpIn_seq (wpIn_mono ((code_sound (base := base) (w0 := w0) hX hm fuel).plain hE hc.1 R hT hL g hN hF hLH) ?_)
        rintro e a' w' ⟨z, T', s', Γ', hh, rfl, hT', hG⟩
        obtain ⟨h1, h2⟩ := hQ z T' s' Γ' a' w' hh hT' hG
        exact then_exit h1 h2
      | succ n =>
        cases fuel with
        | zero => exact g.elim
        | succ fuel =>
          have e : evCode (fuel + 1) E det (splitC (n + 1 + 1) (.seq x y)).1 T = M.bind (evCode fuel E det x T) (fun r => match r.1 with
            | .normal => evCode fuel E det (splitC (n + 1) y).1 r.2
            | z => M.pure (z, r.2)) := rfl
          rw [e] at g hN hQ
          have upf : ∀ r : AExit × Tm, Up (match r.1 with
            | .normal => evCode fuel E det (splitC (n + 1) y).1 r.2
            | z => M.pure (z, r.2)) := by
            intro r
            split
            · exact up_code fuel E det _ _
            · exact upCl.pure _
          refine wpIn_seq (wpIn_mono ((code_sound (base := base) (w0 := w0) hX hm fuel).plain hE hc.1 R hT hL (good_step g) (fun q t hh => bind_bound g upf hN hh) hF hLH) ?_)
          rintro ex a1 w1 ⟨z, T1, s1, Γ1, hh, rfl, hT1, hG1⟩
          have g1 := good_bind_leaf g hh
          refine then_exit (fun hx => ?_) (fun hx => ?_)
          · subst hx
            exact ih fuel y hc.2 hG1.rel hT1 (hL.ext hG1.ext) g1 (fun q t h2 => hN q t (has_bind hh h2)) hG1.fresh
              fun x T' s' Γ' a' w' h2 hT' hG' => hQ x T' s' Γ' a' w' (has_bind hh h2) hT' (hG1.trans hG')
          · refine (hQ z T1 s1 Γ1 a1 w1 (has_bind hh ?_) hT1 hG1).2 hx
            cases z with
            | normal => exact absurd rfl hx
            | exit id => exact ⟨rfl, rfl⟩
            | ret => exact ⟨rfl, rfl⟩
    · have e : splitC (n + 1) c = (c, none) := by cases c <;> first | rfl | exact absurd ⟨_, _, rfl⟩ hseq
      rw [e] at g hN hQ
      exact plain fuel c hc R hT hL g hN hF hQ

end

/-! What is written out at a seam. -/

noncomputable def slotsOf (l : List (Nat × AVal)) : Tr AVal := l.foldl (fun t p => t.set p.1 p.2) (Tr.build DT fun _ => some .any)
noncomputable def heapOf (l : List (Nat × AObj)) : Tr AObj := l.foldl (fun t p => t.set p.1 p.2) (Tr.full DH)

structure Seam where
  slots : List (Nat × AVal)
  heap : List (Nat × AObj)
  nt : Nat
  nx : Nat

noncomputable def Seam.T (S : Seam) : Tm := ⟨slotsOf S.slots, S.nt, [], none⟩
noncomputable def Seam.s (S : Seam) : St := ⟨heapOf S.heap, S.nx, 0, [], []⟩

noncomputable def slotsOk (T : Tm) : List (Nat × AVal) → Bool
  | [] => true
  | p :: l => sel (Nat.blt p.1 LT && AVal.same (getT T.t p.1) p.2) (slotsOk T l) false

noncomputable def heapOk (s : St) : List (Nat × AObj) → Bool
  | [] => true
  | p :: l => sel (Nat.blt p.1 LH && (match s.h.get p.1 with | some o => AObj.same o p.2 | none => false)) (heapOk s l) false

def noMarks (l : List Nat) : Bool := match l with
  | [] => true
  | _ => false
def noRound (r : Option Nat) : Bool := match r with
  | none => true
  | _ => false

/-- A way's end has all that is written at a seam. -/
noncomputable def Seam.covers (S : Seam) (q : AExit × Tm) (s : St) : Bool :=
  goesOn q.1 && Nat.ble s.nx S.nx && Nat.ble S.nx LH && Nat.beq q.2.n S.nt && noMarks q.2.mks && noRound q.2.rnd && slotsOk q.2 S.slots && heapOk s S.heap

section
variable {P : Program} {E : Env} {base : Nat} {w0 : World}

/-- Where the call stands. -/
def StandsAt (T : Tm) (s : St) (E : Env) (base : Nat) (w0 : World) (a : Act) (w : World) : Prop := ∃ Γ, Rel E base w0 Γ s.h w ∧ TRel Γ none T a ∧ Fresh Γ s.nx LH
def Seam.At (S : Seam) (E : Env) (base : Nat) (w0 : World) (a : Act) (w : World) : Prop := StandsAt S.T S.s E base w0 a w

theorem build_deep {α : Type} : ∀ (d : Nat) (f : Nat → Option α), (Tr.build d f).deep d
  | 0, f => by unfold Tr.build; split <;> trivial
  | d + 1, f => ⟨build_deep d _, build_deep d _⟩

theorem slots_sound {Γ : Gam} {T : Tm} {a : Act} (h : ∀ i, VRel Γ (getT T.t i) (a.tmps.getD i undef)) : ∀ (l : List (Nat × AVal)) (t : Tr AVal), slotsOk T l = true → t.deep DT → (∀ i, i < LT → ∃ v, t.get i = some v ∧ VRel Γ v (a.tmps.getD i undef)) →
    (l.foldl (fun t p => t.set p.1 p.2) t).deep DT ∧ ∀ i, i < LT → ∃ v, (l.foldl (fun t p => t.set p.1 p.2) t).get i = some v ∧ VRel Γ v (a.tmps.getD i undef)
  | [], t, _, hd, ht => ⟨hd, ht⟩
  | p :: l, t, hs, hd, ht => by
    unfold slotsOk at hs
    rw [sel_eq] at hs
    by_cases c : (Nat.blt p.1 LT && AVal.same (getT T.t p.1) p.2) = true
    · rw [if_pos c] at hs
      rw [Bool.and_eq_true, Nat.blt_eq] at c
      have e := same_eq c.2
      refine slots_sound h l (t.set p.1 p.2) hs (tr_deep_set _ DT _ _ hd) fun i hi => ?_
      rw [tr_get_set p.2 DT t p.1 i hd c.1 hi]
      by_cases ci : i = p.1
      · rw [if_pos ci]; exact ⟨_, rfl, by rw [← e, ci]; exact h p.1⟩
      · rw [if_neg ci]; exact ht i hi
    · rw [if_neg c] at hs; cases hs

theorem heap_sound {s : St} : ∀ (l : List (Nat × AObj)) (t : Tr AObj), heapOk s l = true → t.deep DH → (∀ n, n < LH → t.get n = none ∨ t.get n = s.h.get n) →
    (l.foldl (fun t p => t.set p.1 p.2) t).deep DH ∧ ∀ n, n < LH → (l.foldl (fun t p => t.set p.1 p.2) t).get n = none ∨ (l.foldl (fun t p => t.set p.1 p.2) t).get n = s.h.get n
  | [], t, _, hd, ht => ⟨hd, ht⟩
  | p :: l, t, hs, hd, ht => by
    unfold heapOk at hs
    rw [sel_eq] at hs
    by_cases c : (Nat.blt p.1 LH && (match s.h.get p.1 with | some o => AObj.same o p.2 | none => false)) = true
    · rw [if_pos c] at hs
      rw [Bool.and_eq_true, Nat.blt_eq] at c
      refine heap_sound l (t.set p.1 p.2) hs (tr_deep_set _ DH _ _ hd) fun i hi => ?_
      rw [tr_get_set p.2 DH t p.1 i hd c.1 hi]
      by_cases ci : i = p.1
      · rw [if_pos ci, ci]
        right
        have c2 := c.2
        split at c2
        · rename_i o ho
          rw [ho, objSame_eq c2]
        · cases c2
      · rw [if_neg ci]; exact ht i hi
    · rw [if_neg c] at hs; cases hs

theorem covers_at {S : Seam} {q : AExit × Tm} {s : St} (h : S.covers q s = true) {Γ : Gam} {w : World} {a : Act} (R : Rel E base w0 Γ s.h w) (hT : TRel Γ none q.2 a) (hF : Fresh Γ s.nx LH) : q.1 = .normal ∧ S.At E base w0 a w := by
  unfold Seam.covers at h
  simp only [Bool.and_eq_true] at h
  obtain ⟨⟨⟨⟨⟨⟨⟨h1, h2⟩, h3⟩, h4⟩, h5⟩, h6⟩, h7⟩, h8⟩ := h
  refine ⟨?_, Γ, ?_, ?_, fun n hn1 hn2 => hF n (Nat.le_trans (Nat.le_of_ble_eq_true h2) hn1) hn2⟩
  · cases hx : q.1 <;> rw [hx] at h1 <;> first | rfl | cases h1
  · obtain ⟨d1, d2⟩ := heap_sound S.heap (Tr.full DH) h8 (tr_deep_full DH) (fun n _ => .inl (tr_get_full DH n))
    refine R.fewer d1 fun n hn => ?_
    rcases d2 n hn with q | q
    · exact .inl (.inl q)
    · exact .inr q
  · obtain ⟨d1, d2⟩ := slots_sound hT.get S.slots (Tr.build DT fun _ => some .any) h7 (build_deep DT _) (fun i hi => ⟨.any, by rw [tr_get_build DT _ i hi], by unfold VRel; trivial⟩)
    have hn : q.2.n = S.nt := beq_of h4
    refine ⟨d1, ?_, rfl, by rw [hT.size, hn]; rfl, by show S.nt ≤ LT; rw [← hn]; exact hT.le, fun i => ?_⟩
    · have hm := hT.marks
      have : q.2.mks = [] := by
        unfold noMarks at h5
        split at h5
        · assumption
        · cases h5
      rw [this] at hm
      exact hm
    · show VRel Γ (getT (slotsOf S.slots) i) _
      by_cases hi : i < LT
      · obtain ⟨v, e1, e2⟩ := d2 i hi
        rw [getT_in hi]
        rw [show (slotsOf S.slots).get i = some v from e1]; exact e2
      · rw [getT_out hi]
        have : a.tmps.getD i undef = undef := by
          have hs := hT.size
          have hl := hT.le
          rw [Array.getD_eq_getD_getElem?, Array.getElem?_eq_none (by omega)]; rfl
        rw [this]; exact vrel_undef Γ

/-- One piece, from seam to seam. -/
theorem piece_sound (hX : ExtOk P) (hm : P.follows .mixedOrders = true) (hE : EnvR E P) (hl : E.loops = []) {T : Tm} {s : St} {S' : Seam} {n fuel m : Nat} {c d : Code} (hc : codeOk c = true) (hh : (splitC n c).2 = some d)
    (h : (evCode fuel E false (splitC n c).1 T s).all S'.covers = true) {Q : Exit → Act → World → Prop} {a : Act} {w : World} (hA : StandsAt T s E base w0 a w)
    (hQ : ∀ a' w', S'.At E base w0 a' w' → d.wpIn (FW none) m P Q a' w') : c.wpIn (FW none) m P Q a w := by
  obtain ⟨Γ, R, hT, hF⟩ := hA
  obtain ⟨g, hlf⟩ := all_good h
  have hb : ∀ q t, (evCode fuel E false (splitC n c).1 T s).Has q t → t.nx ≤ LH := by
    intro q t k
    have := hlf q t k
    unfold Seam.covers at this
    simp only [Bool.and_eq_true] at this
    exact Nat.le_trans (Nat.le_of_ble_eq_true this.1.1.1.1.1.1.2) (Nat.le_of_ble_eq_true this.1.1.1.1.1.2)
  refine chain_sound hX hm hE (Nat.le_refl LH) n fuel c hc R hT (by rw [hl]; intro d hd; cases hd) g hb hF ?_
  intro x T' s' Γ' a' w' k hT' hG
  obtain ⟨e, hS⟩ := covers_at (hlf _ _ k) hG.rel hT' hG.fresh
  have e : x = .normal := e
  refine ⟨fun _ => ?_, fun q => absurd e q⟩
  rw [hh]
  exact hQ a' w' hS

noncomputable def endsTrue (t : Nat) (q : AExit × Tm) (s : St) : Bool :=
  (match q.1 with | .exit _ => false | _ => true) && Nat.ble s.nx LH && noMarks q.2.mks && (match getT q.2.t t with | .bool b => b | _ => false)

/-- The last piece. -/
theorem last_sound (hX : ExtOk P) (hm : P.follows .mixedOrders = true) (hE : EnvR E P) (hl : E.loops = []) {T : Tm} {s : St} {fuel m t : Nat} {c : Code} {fn : Func} (hc : codeOk c = true) (hr : fn.results = #[.tmp t])
    (h : (evCode fuel E false c T s).all (endsTrue t) = true) {a : Act} {w : World} (hA : StandsAt T s E base w0 a w) :
    c.wpIn (FW none) m P (bodyPostM (FW none) m P fn (fun e w' => e = .returned (.bool true) ∧ Below base w0 w')) a w := by
  obtain ⟨Γ, R, hT, hF⟩ := hA
  obtain ⟨g, hlf⟩ := all_good h
  have hb : ∀ q t', (evCode fuel E false c T s).Has q t' → t'.nx ≤ LH := by
    intro q t' k
    have := hlf q t' k
    unfold endsTrue at this
    simp only [Bool.and_eq_true] at this
    exact Nat.le_of_ble_eq_true this.1.1.2
  refine wpIn_mono ((code_sound (base := base) (w0 := w0) hX hm fuel).plain hE hc R hT (by rw [hl]; intro d hd; cases hd) g hb hF (Nat.le_refl _)) ?_
  rintro e a' w' ⟨x, T', s', Γ', hh, rfl, hT', hG⟩
  have k := hlf _ _ hh
  unfold endsTrue at k
  simp only [Bool.and_eq_true] at k
  obtain ⟨⟨⟨k1, k2⟩, k3⟩, k4⟩ := k
  have hd : a'.defers = [] := by
    have hm := hT'.marks
    have : T'.mks = [] := by
      unfold noMarks at k3
      split at k3
      · assumption
      · cases k3
    rw [this] at hm
    exact hm
  have hv : a'.tmps.getD t undef = .bool true := by
    have := hT'.get t
    split at k4
    · rename_i b hb
      rw [hb] at this
      unfold VRel at this
      rw [this, k4]
    · cases k4
  have fin : LeavesInM (FW none) m P fn a'.tmps (fun e w' => e = .returned (.bool true) ∧ Below base w0 w') a'.defers .returning w' := by
    rw [hd]
    refine ⟨.bool true, ?_, rfl, hG.rel.below⟩
    rw [results_tmp hr, hv]
  cases x with
  | normal => exact fin
  | ret => exact fin
  | exit id => cases k1

/-- A call begins. -/
theorem enters (W : World) (nt : Nat) (h : nt ≤ LT) : StandsAt ⟨Tr.full DT, nt, [], none⟩ St.new E W.heap.size W { tmps := #[] ++ Array.replicate (nt - (#[] : Array Value).size) undef, defers := [] } W :=
  ⟨Gam.start W, rel_new W, enter_rel (as := []) (vs := #[]) .nil h (Nat.zero_le _), fun _ _ _ => rfl⟩

end
end Go.Ev

namespace Go.Ev
set_option linter.unusedSectionVars false
set_option linter.unusedVariables false
set_option linter.unusedSimpArgs false
open Go Go.RowKit
variable [Univ]

/-! What is asked of a program, in closed equations. -/

theorem cmpS_eq : ∀ a b : List UInt8, cmpS a b = Lib.compareBytes a b
  | [], [] => rfl
  | [], _ :: _ => rfl
  | _ :: _, [] => rfl
  | x :: a, y :: b => by
    have ih := cmpS_eq a b
    unfold cmpS at ih ⊢
    unfold Lib.compareBytes
    have lt1 : (x < y) ↔ x.toNat < y.toNat := UInt8.lt_iff_toNat_lt
    have lt2 : (y < x) ↔ y.toNat < x.toNat := UInt8.lt_iff_toNat_lt
    simp only [ltS, sel_eq, beqN, bltN, decide_eq_true_eq] at ih ⊢
    by_cases e : x.toNat = y.toNat
    · have n1 : ¬ x < y := by rw [lt1]; omega
      have n2 : ¬ y < x := by rw [lt2]; omega
      simp only [if_pos e, if_pos e.symm, if_neg n1, if_neg n2]
      exact ih
    · have e' : ¬ y.toNat = x.toNat := fun q => e q.symm
      simp only [if_neg e, if_neg e', decide_eq_true_eq]
      by_cases h : x.toNat < y.toNat
      · rw [if_pos h, if_pos (lt1.2 h)]
      · rw [if_neg h, if_neg (fun q => h (lt1.1 q)), if_pos (by omega), if_pos (lt2.2 (by omega))]

def isCmpFn (o : Option AFn) : Bool := match o with
  | some .cmpstr => true
  | _ => false
def isSameFn (o : Option AFn) : Bool := match o with
  | some .same => true
  | _ => false

/-- Functions without text, by their numbers. -/
noncomputable def onlyAt (p : Option AFn → Bool) (P : Program) (k : Nat) : Nat → Bool
  | 0 => true
  | n + 1 => sel (p (mkFn P n)) (Nat.beq n k) true && onlyAt p P k n

theorem onlyAt_spec {p : Option AFn → Bool} {P : Program} {k : Nat} : ∀ {n : Nat}, onlyAt p P k n = true → ∀ f, f < n → p (mkFn P f) = true → f = k
  | 0, _, f, hf, _ => by omega
  | n + 1, h, f, hf, hp => by
    unfold onlyAt at h
    rw [Bool.and_eq_true] at h
    rcases Nat.lt_or_ge f n with q | q
    · exact onlyAt_spec h.2 f q hp
    · have : f = n := by omega
      subst this
      have h1 := h.1
      rw [hp, sel_true] at h1
      exact beq_of h1

theorem mkFn_lt {P : Program} {f : FuncId} {x : AFn} (h : mkFn P f = some x) : f < P.funcs.size := by
  unfold mkFn at h
  cases hf : P.funcs[f]? with
  | none => rw [hf] at h; cases h
  | some fn => exact (Array.getElem?_eq_some_iff.1 hf).1

theorem extOk_of {P : Program} {n kc ks : Nat} (hn : P.funcs.size = n) (h1 : onlyAt isCmpFn P kc n = true) (h2 : onlyAt isSameFn P ks n = true)
    {fc fs : Func} (c1 : P.funcs[kc]? = some fc) (c2 : (fc.name == "runtime.NumGoroutine") = false) (c3 : fc.body.isNone = true) (c4 : Extern.findNext fc = none) (c5 : Extern.find fc = some Extern.BytealgCompare.compare)
    (s1 : P.funcs[ks]? = some fs) (s2 : (fs.name == "runtime.NumGoroutine") = false) (s3 : fs.body.isNone = true) (s4 : Extern.findNext fs = none) (s5 : Extern.find fs = some Extern.AbiNoEscape.same) : ExtOk P where
  cmp f hf a b w := by
    have e := onlyAt_spec h1 f (by rw [← hn]; exact mkFn_lt hf) (by rw [hf]; rfl)
    subst e
    rw [run_callFunc_extern c1 c2 c3 c4 c5, Lib.run_compareString]
    simp only [Result.andThen]
    rw [cmpS_eq]
  same f hf v w := by
    have e := onlyAt_spec h2 f (by rw [← hn]; exact mkFn_lt hf) (by rw [hf]; rfl)
    subst e
    rw [run_callFunc_extern s1 s2 s3 s4 s5]
    rfl

end Go.Ev

namespace Go.Ev
set_option linter.unusedSectionVars false
set_option linter.unusedVariables false
set_option linter.unusedSimpArgs false
open Go Go.RowKit
variable [Univ]

/-! Names that are no longer wanted are dropped. -/

mutual
/-- All names are below a number. -/
def AVal.low (nx : Nat) : AVal → Bool
  | .ptr n _ => Nat.blt n nx
  | .slice n _ _ _ _ => Nat.blt n nx
  | .map n => Nat.blt n nx
  | .fn _ l m => AVal.lows nx l && AVal.lows nx m
  | .iface _ v => AVal.low nx v
  | .agg l => AVal.lows nx l
  | .tup l => AVal.lows nx l
  | .yld n => Nat.blt n nx
  | .asl _ n _ _ => Nat.blt n nx
  | .aptr _ n _ _ => Nat.blt n nx
  | _ => true
def AVal.lows (nx : Nat) : List AVal → Bool
  | [] => true
  | a :: l => AVal.low nx a && AVal.lows nx l
end

def AObj.low (nx : Nat) (o : AObj) : Bool := match o with
  | .cells cs _ _ _ root _ _ => AVal.lows nx cs && Nat.blt root nx
  | .map _ es _ => es.all fun e => AVal.low nx e.1 && AVal.low nx e.2
  | .siter _ _ _ => true
  | .arr _ _ => true
  | .rcd _ => true
  | _ => false

/-- Names that mean the same. -/
structure Agrees (nx : Nat) (Γ Γ' : Gam) : Prop where
  nm : ∀ n i, n < nx → Γ n = some i → Γ' n = some i
  fz : ∀ b o, Γ.fz b = some o → Γ'.fz b = some o

mutual
theorem VRel.agree {Γ Γ' : Gam} {nx : Nat} (h : Agrees nx Γ Γ') : ∀ {a : AVal} {v : Value}, AVal.low nx a = true → VRel Γ a v → VRel Γ' a v
  | .bool _, _, _, k => k
  | .int _ _, _, _, k => k
  | .str _, _, _, k => k
  | .ptr n _, _, l, k => by unfold AVal.low at l; unfold VRel at k ⊢; obtain ⟨i, e, k⟩ := k; exact ⟨i, h.nm _ _ (by simpa [Nat.blt_eq] using l) e, k⟩
  | .nilp, _, _, k => k
  | .slice n _ _ _ _, _, l, k => by unfold AVal.low at l; unfold VRel at k ⊢; obtain ⟨i, e, k⟩ := k; exact ⟨i, h.nm _ _ (by simpa [Nat.blt_eq] using l) e, k⟩
  | .nils, _, _, k => k
  | .map n, _, l, k => by unfold AVal.low at l; unfold VRel at k ⊢; obtain ⟨i, e, k⟩ := k; exact ⟨i, h.nm _ _ (by simpa [Nat.blt_eq] using l) e, k⟩
  | .nilm, _, _, k => k
  | .fn _ _ _, _, l, k => by
    unfold AVal.low at l; rw [Bool.and_eq_true] at l
    unfold VRel at k ⊢; obtain ⟨vs, ws, e, k1, k2⟩ := k; exact ⟨vs, ws, e, VRels.agree h l.1 k1, VRels.agree h l.2 k2⟩
  | .nilf, _, _, k => k
  | .iface _ _, _, l, k => by unfold AVal.low at l; unfold VRel at k ⊢; obtain ⟨u, e, k⟩ := k; exact ⟨u, e, VRel.agree h l k⟩
  | .nili, _, _, k => k
  | .agg _, _, l, k => by unfold AVal.low at l; unfold VRel at k ⊢; obtain ⟨vs, e, k⟩ := k; exact ⟨vs, e, VRels.agree h l k⟩
  | .tup _, _, l, k => by unfold AVal.low at l; unfold VRel at k ⊢; obtain ⟨vs, e, k⟩ := k; exact ⟨vs, e, VRels.agree h l k⟩
  | .raw _, _, _, k => k
  | .any, _, _, _ => by unfold VRel; trivial
  | .yld n, _, l, k => by unfold AVal.low at l; unfold VRel at k ⊢; obtain ⟨i, e, k⟩ := k; exact ⟨i, h.nm _ _ (by simpa [Nat.blt_eq] using l) e, k⟩
  | .sb _, _, _, k => k
  | .si _ _, _, _, k => k
  | .ss _, _, _, k => k
  | .dsl _ _, _, _, k => by unfold VRel at k ⊢; exact k.mono h.fz
  | .dptr _ _ _ _, _, _, k => by unfold VRel at k ⊢; obtain ⟨h1, b, z, cap, h2, h3⟩ := k; exact ⟨h1, b, z, cap, h2.mono h.fz, h3⟩
  | .asl _ n _ _, _, l, k => by unfold AVal.low at l; unfold VRel at k ⊢; obtain ⟨i, e, k⟩ := k; exact ⟨i, h.nm _ _ (by simpa [Nat.blt_eq] using l) e, k⟩
  | .aptr _ n _ _, _, l, k => by unfold AVal.low at l; unfold VRel at k ⊢; obtain ⟨i, e, k⟩ := k; exact ⟨i, h.nm _ _ (by simpa [Nat.blt_eq] using l) e, k⟩
theorem VRels.agree {Γ Γ' : Gam} {nx : Nat} (h : Agrees nx Γ Γ') : ∀ {l : List AVal} {vs : List Value}, AVal.lows nx l = true → VRels Γ l vs → VRels Γ' l vs
  | [], _, _, k => k
  | _ :: _, _, l, k => by
    unfold AVal.lows at l; rw [Bool.and_eq_true] at l
    unfold VRels at k ⊢; obtain ⟨v, ws, e, k1, k2⟩ := k; exact ⟨v, ws, e, VRel.agree h l.1 k1, VRels.agree h l.2 k2⟩
end

theorem lows_mem {nx : Nat} : ∀ {l : List AVal}, AVal.lows nx l = true → ∀ a ∈ l, AVal.low nx a = true
  | [], _, a, h => by cases h
  | b :: l, hl, a, h => by
    unfold AVal.lows at hl; rw [Bool.and_eq_true] at hl
    rcases List.mem_cons.1 h with q | q
    · rw [q]; exact hl.1
    · exact lows_mem hl.2 a q

mutual
/-- The same, not told. -/
def AVal.sym : AVal → AVal
  | .bool b => .sb b
  | .int k n => .si k n
  | .str s => .ss ⟨s.toArray⟩
  | .fn f l m => .fn f (AVal.syms l) (AVal.syms m)
  | .agg l => .agg (AVal.syms l)
  | .tup l => .tup (AVal.syms l)
  | v => v
def AVal.syms : List AVal → List AVal
  | [] => []
  | a :: l => a.sym :: AVal.syms l
end

mutual
theorem VRel.sym {Γ : Gam} : ∀ {a : AVal} {v : Value}, VRel Γ a v → VRel Γ a.sym v
  | .bool _, _, k => by unfold VRel at k; unfold AVal.sym VRel; exact k
  | .int _ _, _, k => by unfold VRel at k; unfold AVal.sym VRel; exact k
  | .str _, _, k => by unfold VRel at k; unfold AVal.sym VRel; exact k
  | .ptr _ _, _, k => k
  | .nilp, _, k => k
  | .slice _ _ _ _ _, _, k => k
  | .nils, _, k => k
  | .map _, _, k => k
  | .nilm, _, k => k
  | .fn _ _ _, _, k => by
    unfold VRel at k; unfold AVal.sym VRel
    obtain ⟨vs, ws, e, k1, k2⟩ := k; exact ⟨vs, ws, e, VRels.sym k1, VRels.sym k2⟩
  | .nilf, _, k => k
  | .iface _ _, _, k => k
  | .nili, _, k => k
  | .agg _, _, k => by unfold VRel at k; unfold AVal.sym VRel; obtain ⟨vs, e, k⟩ := k; exact ⟨vs, e, VRels.sym k⟩
  | .tup _, _, k => by unfold VRel at k; unfold AVal.sym VRel; obtain ⟨vs, e, k⟩ := k; exact ⟨vs, e, VRels.sym k⟩
  | .raw _, _, k => k
  | .any, _, _ => by unfold AVal.sym VRel; trivial
  | .yld _, _, k => k
  | .sb _, _, k => k
  | .si _ _, _, k => k
  | .ss _, _, k => k
  | .dsl _ _, _, k => k
  | .dptr _ _ _ _, _, k => k
  | .asl _ _ _ _, _, k => k
  | .aptr _ _ _ _, _, k => k
theorem VRels.sym {Γ : Gam} : ∀ {l : List AVal} {vs : List Value}, VRels Γ l vs → VRels Γ (AVal.syms l) vs
  | [], _, k => k
  | _ :: _, _, k => by
    unfold VRels at k; unfold AVal.syms VRels
    obtain ⟨v, ws, e, k1, k2⟩ := k; exact ⟨v, ws, e, VRel.sym k1, VRels.sym k2⟩
end

theorem syms_map : ∀ l : List AVal, AVal.syms l = l.map AVal.sym
  | [] => by unfold AVal.syms; rfl
  | a :: l => by unfold AVal.syms; rw [syms_map l]; rfl

mutual
theorem low_sym (nx : Nat) : ∀ a : AVal, AVal.low nx a.sym = AVal.low nx a
  | .fn _ l m => by unfold AVal.sym AVal.low; rw [lows_sym nx l, lows_sym nx m]
  | .agg l => by unfold AVal.sym AVal.low; exact lows_sym nx l
  | .tup l => by unfold AVal.sym AVal.low; exact lows_sym nx l
  | .bool _ => by unfold AVal.sym AVal.low; rfl
  | .int _ _ => by unfold AVal.sym AVal.low; rfl
  | .str _ => by unfold AVal.sym AVal.low; rfl
  | .ptr _ _ => rfl
  | .nilp => rfl
  | .slice _ _ _ _ _ => rfl
  | .nils => rfl
  | .map _ => rfl
  | .nilm => rfl
  | .nilf => rfl
  | .iface _ _ => rfl
  | .nili => rfl
  | .raw _ => rfl
  | .any => rfl
  | .yld _ => rfl
  | .sb _ => rfl
  | .si _ _ => rfl
  | .ss _ => rfl
  | .dsl _ _ => rfl
  | .dptr _ _ _ _ => rfl
  | .asl _ _ _ _ => rfl
  | .aptr _ _ _ _ => rfl
theorem lows_sym (nx : Nat) : ∀ l : List AVal, AVal.lows nx (AVal.syms l) = AVal.lows nx l
  | [] => rfl
  | a :: l => by unfold AVal.syms AVal.lows; rw [low_sym nx a, lows_sym nx l]
end

def AObj.sym (o : AObj) : AObj := match o with
  | .cells cs e frz dead root rel al => .cells (AVal.syms cs) e frz dead root rel al
  | o => o

section
variable {P : Program} {E : Env} {base : Nat} {w0 : World} {Γ Γ2 : Gam} {w : World} {s : St}

/-- Fewer objects, fewer names; the same blocks that stay. -/
theorem Rel.kept {h h2 : Tr AObj} (R : Rel E base w0 Γ h w) {nx : Nat} (hd : h2.deep DH) (hk : ∀ n o2, n < LH → h2.get n = some o2 → n < nx ∧ ∃ o, h.get n = some o ∧ o2 = o.sym ∧ o.low nx = true) (ha : Agrees nx Γ Γ2)
    (hsub : ∀ n i, Γ2 n = some i → Γ n = some i) (hfz : Γ2.fz = Γ.fz) (hlo : Γ2.lo = Γ.lo) : Rel E base w0 Γ2 h2 w := by
  have liv : ∀ o : AObj, o.sym.live → o.live := fun o h => by cases o <;> exact h
  have cell : ∀ n cs2 e frz d root rel al, n < LH → h2.get n = some (.cells cs2 e frz d root rel al) → ∃ cs, h.get n = some (.cells cs e frz d root rel al) ∧ cs2 = AVal.syms cs ∧ cs.length = cs2.length := by
    intro n cs2 e frz d root rel al hn h1
    obtain ⟨_, o, ho, e1, _⟩ := hk n _ hn h1
    cases o <;> simp only [AObj.sym, AObj.cells.injEq, reduceCtorEq] at e1
    obtain ⟨rfl, rfl, rfl, rfl, rfl, rfl, rfl⟩ := e1
    exact ⟨_, ho, rfl, by rw [syms_map, List.length_map]⟩
  constructor
  · exact hd
  · exact R.below
  · exact R.room
  · exact fun n i e => R.dom n i (hsub n i e)
  · intro n o2 hn ho2
    obtain ⟨hnx, o, ho, rfl, hl⟩ := hk n o2 hn ho2
    have hO := R.obj n o hn ho
    cases o with
    | cells cs e frz dead root rel al =>
      unfold AObj.low at hl
      simp only [Bool.and_eq_true, Nat.blt_eq] at hl
      obtain ⟨i, h1, h2, ⟨⟨r, h3⟩, h3'⟩, C, fz, h4, h5, h6, h7, h8⟩ := hO
      refine ⟨i, ha.nm _ _ hnx h1, by rw [syms_map, List.length_map]; exact h2, ⟨⟨r, ha.nm _ _ hl.2 h3⟩, h3'⟩, C, fz, h4, h5, h6, fun hd k a hka => ?_, h8⟩
      rw [syms_map, List.getElem?_map] at hka
      cases hc : cs[k]? with
      | none => rw [hc] at hka; cases hka
      | some a0 =>
        rw [hc] at hka
        cases hka
        obtain ⟨v, e1, e2⟩ := h7 hd k a0 hc
        exact ⟨v, e1, (e2.agree ha (lows_mem hl.1 a0 (List.mem_of_getElem? hc))).sym⟩
    | map kt es c =>
      unfold AObj.low at hl
      rw [List.all_eq_true] at hl
      obtain ⟨i, h1, ents, h2, h3⟩ := hO
      obtain ⟨l, p, z1, z2⟩ := h3.zip
      refine ⟨i, ha.nm _ _ hnx h1, ents, h2, ⟨⟨l, p, z1, fun k e x a b => ?_⟩, h3.keys, h3.fits, h3.borns, h3.old⟩⟩
      obtain ⟨q1, q2⟩ := z2 k e x a b
      have := hl e (p.mem_iff.1 (List.mem_of_getElem? a))
      rw [Bool.and_eq_true] at this
      exact ⟨q1.agree ha this.1, q2.agree ha this.2⟩
    | miter m since seen => cases hl
    | siter l p => obtain ⟨i, h1, h2⟩ := hO; exact ⟨i, ha.nm _ _ hnx h1, h2⟩
    | arr c l => obtain ⟨i, h1, h2, C, e, fz, h3, h4, h5⟩ := hO; exact ⟨i, ha.nm _ _ hnx h1, h2, C, e, fz, h3, h4.mono ha.fz, h5⟩
    | rcd k => obtain ⟨i, h1, ob, h2, h3⟩ := hO; exact ⟨i, ha.nm _ _ hnx h1, ob, h2, h3⟩
    | done => trivial
  · intro n m o2 p2 i j hn hm h1 h2 l1 l2 ne e1 e2 eb
    obtain ⟨_, o, ho, rfl, _⟩ := hk n o2 hn h1
    obtain ⟨_, p, hp, rfl, _⟩ := hk m p2 hm h2
    have := R.inj n m o p i j hn hm ho hp (liv o l1) (liv p l2) ne (hsub _ _ e1) (hsub _ _ e2) eb
    cases o <;> cases p <;> exact this
  · intro n cs e frz root rel al hn h1 cs' e' frz' d' root' rel' al' h2'
    obtain ⟨cs0, h0, _, hl0⟩ := cell n _ _ _ _ _ _ _ hn h1
    obtain ⟨_, _, _, ⟨⟨r, hr⟩, _⟩, _⟩ := R.obj n _ hn h0
    obtain ⟨cs1, h1', _, _⟩ := cell root _ _ _ _ _ _ _ (R.dom root r hr).1 h2'
    have := R.fam n _ _ _ _ _ _ hn h0 _ _ _ _ _ _ _ h1'
    rwa [hl0] at this
  · intro n m since seen kt es clock i j ents b borns stepped hn hm h1
    obtain ⟨_, o, ho, e1, hl⟩ := hk n _ hn h1
    cases o <;> simp only [AObj.sym, reduceCtorEq] at e1
    cases hl
  · intro n i cs e frz rel al hn h1 e1
    obtain ⟨cs0, h0, _, _⟩ := cell n _ _ _ _ _ _ _ hn h1
    exact R.own n i _ _ _ _ _ hn h0 (hsub _ _ e1)
  · rw [hfz]; exact R.stay
  · intro n i o2 hn ho2 hl e
    obtain ⟨_, o, ho, rfl, _⟩ := hk n o2 hn ho2
    rw [hfz]; exact R.sep n i o hn ho (liv o hl) (hsub _ _ e)
  · rw [hlo]; exact R.lo

end

/-- A heap of which only some objects are kept. -/
def keepH (h : Tr AObj) (nx : Nat) (l : List (Nat × AObj)) : Prop := ∀ p ∈ l, p.1 < nx ∧ p.1 < LH ∧ ∃ o, h.get p.1 = some o ∧ p.2 = o.sym ∧ o.low nx = true

theorem heapOf_get : ∀ (l : List (Nat × AObj)) (t : Tr AObj), t.deep DH → (∀ p ∈ l, p.1 < LH) →
    (l.foldl (fun t p => t.set p.1 p.2) t).deep DH ∧ ∀ n, n < LH → (l.foldl (fun t p => t.set p.1 p.2) t).get n = t.get n ∨ ∃ p ∈ l, p.1 = n ∧ (l.foldl (fun t p => t.set p.1 p.2) t).get n = some p.2
  | [], t, hd, _ => ⟨hd, fun _ _ => .inl rfl⟩
  | p :: l, t, hd, hl => by
    have hp : p.1 < LH := hl p (by simp)
    obtain ⟨h1, h2⟩ := heapOf_get l (t.set p.1 p.2) (tr_deep_set _ DH _ _ hd) (fun q hq => hl q (by simp [hq]))
    refine ⟨h1, fun n hn => ?_⟩
    rcases h2 n hn with q | ⟨q, hq, e1, e2⟩
    · have : ((t.set p.1 p.2).get n) = if n = p.1 then some p.2 else t.get n := tr_get_set p.2 DH t p.1 n hd hp hn
      by_cases c : n = p.1
      · rw [if_pos c] at this
        exact .inr ⟨p, by simp, c.symm, q.trans this⟩
      · rw [if_neg c] at this
        exact .inl (q.trans this)
    · exact .inr ⟨q, by simp [hq], e1, e2⟩

theorem heapOf_keep {h : Tr AObj} {nx : Nat} {l : List (Nat × AObj)} (hk : keepH h nx l) : (heapOf l).deep DH ∧ ∀ n o, n < LH → (heapOf l).get n = some o → n < nx ∧ ∃ p, h.get n = some p ∧ o = p.sym ∧ p.low nx = true := by
  obtain ⟨h1, h2⟩ := heapOf_get l (Tr.full DH) (tr_deep_full DH) (fun p hp => (hk p hp).2.1)
  refine ⟨h1, fun n o hn ho => ?_⟩
  rcases h2 n hn with q | ⟨p, hp, e1, e2⟩
  · have : (heapOf l).get n = none := q.trans (tr_get_full DH n)
    rw [this] at ho; cases ho
  · have : (heapOf l).get n = some p.2 := e2
    rw [this] at ho; cases ho
    obtain ⟨a, _, b⟩ := hk p hp
    subst e1
    exact ⟨a, b⟩

theorem slotsOf_rel {Γ : Gam} {a : Act} : ∀ (l : List (Nat × AVal)) (t : Tr AVal), t.deep DT → (∀ i, i < LT → ∃ v, t.get i = some v ∧ VRel Γ v (a.tmps.getD i undef)) → (∀ p ∈ l, p.1 < LT ∧ VRel Γ p.2 (a.tmps.getD p.1 undef)) →
    (l.foldl (fun t p => t.set p.1 p.2) t).deep DT ∧ ∀ i, i < LT → ∃ v, (l.foldl (fun t p => t.set p.1 p.2) t).get i = some v ∧ VRel Γ v (a.tmps.getD i undef)
  | [], t, hd, ht, _ => ⟨hd, ht⟩
  | p :: l, t, hd, ht, hl => by
    obtain ⟨hp, hv⟩ := hl p (by simp)
    refine slotsOf_rel l (t.set p.1 p.2) (tr_deep_set _ DT _ _ hd) (fun i hi => ?_) (fun q hq => hl q (by simp [hq]))
    rw [tr_get_set p.2 DT t p.1 i hd hp hi]
    by_cases c : i = p.1
    · rw [if_pos c]; exact ⟨_, rfl, by rw [c]; exact hv⟩
    · rw [if_neg c]; exact ht i hi

/-- What is kept of a frame. -/
def keepT (T : Tm) (nx : Nat) (l : List (Nat × AVal)) : Prop := ∀ p ∈ l, p.1 < LT ∧ p.2 = (getT T.t p.1).sym ∧ AVal.low nx p.2 = true

theorem slotsOf_TRel {Γ Γ2 : Gam} {ro : Option Nat} {T : Tm} {a : Act} (h : TRel Γ ro T a) (hm : T.mks = []) (hr : T.rnd = none) {nx : Nat} (ha : Agrees nx Γ Γ2) {l : List (Nat × AVal)} (hk : keepT T nx l) :
    TRel Γ2 ro ⟨slotsOf l, T.n, [], none⟩ a := by
  obtain ⟨h1, h2⟩ := slotsOf_rel (Γ := Γ2) (a := a) l (Tr.build DT fun _ => some .any) (build_deep DT _) (fun i hi => ⟨.any, by rw [tr_get_build DT _ i hi], by unfold VRel; trivial⟩)
    (fun p hp => ⟨(hk p hp).1, by
      obtain ⟨_, e, q⟩ := hk p hp
      have := (h.get p.1).sym
      rw [← e] at this
      exact this.agree ha q⟩)
  refine ⟨h1, ?_, ?_, h.size, h.le, fun i => ?_⟩
  · have := h.marks
    rw [hm] at this
    exact this
  · have := h.rnd
    rw [hr] at this
    exact this
  · show VRel Γ2 (getT (slotsOf l) i) _
    by_cases hi : i < LT
    · obtain ⟨v, e1, e2⟩ := h2 i hi
      rw [getT_in hi, show (slotsOf l).get i = some v from e1]; exact e2
    · rw [getT_out hi]
      have : a.tmps.getD i undef = undef := by
        have hs := h.size
        have hl := h.le
        rw [Array.getD_eq_getD_getElem?, Array.getElem?_eq_none (by omega)]; rfl
      rw [this]; exact vrel_undef Γ2

section
variable {P : Program} {E : Env} {base : Nat} {w0 : World} {Γ Γ' : Gam} {w : World} {s t : St}

/-- Only the names that were told ahead. -/
def Gam.back (Γ Γ' : Gam) : Gam := ⟨Γ.nm, Γ'.fz, Γ'.lo⟩

theorem Got.agrees {N : Nat} (G : Got E base w0 Γ s N Γ' t w) : Agrees s.nx Γ' (Γ.back Γ') :=
  ⟨fun n i hn e => by rw [G.off n (.inl hn)] at e; exact e, fun _ _ e => e⟩

/-- Back to the names that were told ahead. -/
theorem Got.trim {N : Nat} (G : Got E base w0 Γ s N Γ' t w) {l : List (Nat × AObj)} (hk : keepH t.h s.nx l) {t2 : St} (h2 : t2.h = heapOf l) (hnx : s.nx ≤ t2.nx) (hF : Fresh Γ s.nx N) :
    Got E base w0 Γ s N (Γ.back Γ') t2 w := by
  obtain ⟨hd, hg⟩ := heapOf_keep hk
  refine ⟨⟨fun n i e => e, G.ext.fz, G.ext.lo, G.ext.same⟩, fun _ _ => rfl, hnx, fun n a b => hF n (Nat.le_trans hnx a) b, ?_⟩
  rw [h2]
  exact G.rel.kept (nx := s.nx) hd hg G.agrees (fun n i e => G.ext.nm n i e) rfl rfl

end
end Go.Ev

namespace Go.Ev
set_option linter.unusedSectionVars false
set_option linter.unusedVariables false
set_option linter.unusedSimpArgs false
open Go Go.RowKit
variable [Univ]

/-! What evaluation comes to, as a tree of decisions; contracts of loops. -/

/-- Whether a thing holds. -/
noncomputable def dec (p : Prop) : Bool := @decide p (Classical.propDecidable p)
theorem dec_eq {p : Prop} : dec p = true ↔ p := by unfold dec; exact @decide_eq_true_iff p (Classical.propDecidable p)
theorem dec_true {p : Prop} (h : p) : dec p = true := dec_eq.2 h
theorem dec_false {p : Prop} (h : ¬ p) : dec p = false := by
  cases hb : dec p with
  | false => rfl
  | true => exact absurd (dec_eq.1 hb) h

inductive Dt (α : Type) where
  | leaf (a : α)
  | ite (b : Bool) (l r : Dt α)
  | fail

def Dt.holds {α : Type} (p : α → Prop) : Dt α → Prop
  | .leaf a => p a
  | .ite b l r => (b = true → l.holds p) ∧ (b = false → r.holds p)
  | .fail => False

def Dt.val {α : Type} : Dt α → Option α
  | .leaf a => some a
  | .ite b l r => match b with
    | true => l.val
    | false => r.val
  | .fail => none

def Res.view {α β : Type} (f : α → St → β) : Res α → Dt β
  | .ok a s => .leaf (f a s)
  | .br _ _ => .fail
  | .ite b l r => .ite b (l.view f) (r.view f)
  | .fail _ => .fail

theorem holds_det {α β : Type} {f : α → St → β} {p : β → Prop} : ∀ {r : Res α}, (r.view f).holds p → ∃ a s, r.det = some (a, s) ∧ p (f a s)
  | .ok a s, h => ⟨a, s, rfl, h⟩
  | .br _ _, h => h.elim
  | .ite true l _, h => holds_det (r := l) (h.1 rfl)
  | .ite false _ r, h => holds_det (r := r) (h.2 rfl)
  | .fail _, h => h.elim

theorem view_det {α β : Type} {f : α → St → β} {a : α} {s : St} : ∀ {r : Res α}, r.det = some (a, s) → (r.view f).val = some (f a s)
  | .ok _ _, h => by cases h; rfl
  | .br _ _, h => by cases h
  | .ite true l _, h => view_det (r := l) h
  | .ite false _ r, h => view_det (r := r) h
  | .fail _, h => by cases h

/-- The tree of a result, made evaluation again. -/
def Dt.toRes {α β : Type} (f : α → β) (g : α → St) : Dt α → Res β
  | .leaf a => .ok (f a) (g a)
  | .ite b l r => .ite b (l.toRes f g) (r.toRes f g)
  | .fail => .fail []

theorem toRes_has {α β : Type} {f : α → β} {g : α → St} : ∀ {t : Dt α} {b : β} {s : St}, (t.toRes f g).Has b s → ∃ a, t.val = some a ∧ b = f a ∧ s = g a
  | .leaf a, b, s, h => ⟨a, rfl, h.1.symm, h.2.symm⟩
  | .ite true l _, b, s, h => toRes_has (t := l) h
  | .ite false _ r, b, s, h => toRes_has (t := r) h
  | .fail, _, _, h => h.elim
theorem toRes_val {α β : Type} {f : α → β} {g : α → St} : ∀ {t : Dt α} {a : α}, t.val = some a → (t.toRes f g).Has (f a) (g a)
  | .leaf _, _, h => by cases h; exact ⟨rfl, rfl⟩
  | .ite true l _, _, h => toRes_val (t := l) h
  | .ite false _ r, _, h => toRes_val (t := r) h
  | .fail, _, h => by cases h

/-- A loop, as it is told: which slots and objects it is about; what they are at its head; what comes of it. -/
structure LoopSpec (γ δ : Type) where
  body : Code
  nt : Nat
  nx : Nat
  room : Nat
  keep : List Nat
  objs : List Nat
  ext : List AVal → List AObj → Option γ
  vals : γ → List AVal
  obs : γ → List AObj
  keepX : AExit → List Nat
  objsX : AExit → List Nat
  valsX : AExit → δ → List AVal
  obsX : AExit → δ → List AObj
  inv : γ → Prop
  res : γ → Dt (AExit × δ)

section
variable {γ δ : Type}

noncomputable def LoopSpec.inT (L : LoopSpec γ δ) (x : γ) : Tm := ⟨slotsOf (L.keep.zip (L.vals x)), L.nt, [], none⟩
noncomputable def LoopSpec.inS (L : LoopSpec γ δ) (x : γ) : St := ⟨heapOf (L.objs.zip (L.obs x)), L.nx, 0, [], []⟩
noncomputable def LoopSpec.outT (L : LoopSpec γ δ) (q : AExit × δ) : AExit × Tm := (q.1, ⟨slotsOf ((L.keepX q.1).zip (L.valsX q.1 q.2)), L.nt, [], none⟩)
noncomputable def LoopSpec.outS (L : LoopSpec γ δ) (q : AExit × δ) : St := ⟨heapOf ((L.objsX q.1).zip (L.obsX q.1 q.2)), L.nx + L.room, 0, [], []⟩

/-- Slots, and objects, as they are in a state. -/
noncomputable def slotsAt (T : Tm) (l : List Nat) : List AVal := l.map fun k => (getT T.t k).sym
noncomputable def objAt (s : St) (k : Nat) : AObj := match s.h.get k with
  | some o => o.sym
  | none => .done
noncomputable def objsAt (s : St) (l : List Nat) : List AObj := l.map (objAt s)

/-- What is looked at by the kernel. -/
noncomputable def goodAt (nt nx : Nat) (keep objs : List Nat) (T : Tm) (s : St) : Bool :=
  Nat.beq T.n nt && Nat.beq s.nx nx && noMarks T.mks && (match T.rnd with | none => true | some _ => false) &&
  keep.all (fun k => Nat.blt k LT && AVal.low nx (getT T.t k)) && objs.all fun k => Nat.blt k nx && Nat.blt k LH && (match s.h.get k with | some o => o.low nx | none => false)

noncomputable def LoopSpec.run (L : LoopSpec γ δ) (T : Tm) (s : St) : Res (AExit × Tm) := sel (goodAt L.nt L.nx L.keep L.objs T s)
  (match L.ext (slotsAt T L.keep) (objsAt s L.objs) with
    | some x => .ite (dec (L.inv x)) ((L.res x).toRes L.outT L.outS) (.fail [])
    | none => .fail []) (.fail [])

theorem heapOf_deep (l : List (Nat × AObj)) : (heapOf l).deep DH := by
  have : ∀ (l : List (Nat × AObj)) (t : Tr AObj), t.deep DH → (l.foldl (fun t p => t.set p.1 p.2) t).deep DH := by
    intro l
    induction l with
    | nil => intro t h; exact h
    | cons p l ih => intro t h; exact ih _ (tr_deep_set _ DH _ _ h)
  exact this l _ (tr_deep_full DH)

theorem LoopSpec.run_up (L : LoopSpec γ δ) (T : Tm) (s : St) (q : AExit × Tm) (t : St) (h : (L.run T s).Has q t) : s.nx ≤ t.nx ∧ (s.h.deep DH → t.h.deep DH) := by
  unfold LoopSpec.run at h
  cases hg : goodAt L.nt L.nx L.keep L.objs T s with
  | false => rw [hg] at h; exact h.elim
  | true =>
    rw [hg, sel_true] at h
    unfold goodAt at hg
    simp only [Bool.and_eq_true] at hg
    have hn : s.nx = L.nx := beq_of hg.1.1.1.1.2
    cases he : L.ext (slotsAt T L.keep) (objsAt s L.objs) with
    | none => rw [he] at h; exact h.elim
    | some x =>
      rw [he] at h
      have h : (Res.ite (dec (L.inv x)) ((L.res x).toRes L.outT L.outS) (.fail [])).Has q t := h
      cases hb : dec (L.inv x) with
      | false => rw [hb] at h; exact h.elim
      | true =>
        rw [hb] at h
        obtain ⟨a, _, _, rfl⟩ := toRes_has h
        exact ⟨by rw [hn]; exact Nat.le_add_right _ _, fun _ => heapOf_deep _⟩

/-- What a leaf must be. -/
noncomputable def LoopSpec.next (L : LoopSpec γ δ) (q : AExit × Tm) (t : St) : Bool := goodAt L.nt t.nx (match q.1 with | .normal => L.keep | e => L.keepX e) [] q.2 t && Nat.ble t.nx (L.nx + L.room) &&
  (match q.1 with | .normal => L.keep | e => L.keepX e).all (fun k => AVal.low L.nx (getT q.2.t k)) &&
  (match q.1 with | .normal => L.objs | e => L.objsX e).all fun k => Nat.blt k L.nx && Nat.blt k LH && (match t.h.get k with | some o => o.low L.nx | none => false)

end

theorem zip_keepT {T : Tm} {nx : Nat} : ∀ {l : List Nat} {vs : List AVal}, vs = slotsAt T l → (∀ k ∈ l, k < LT ∧ AVal.low nx (getT T.t k) = true) → keepT T nx (l.zip vs)
  | [], vs, h, _ => by intro p hp; simp at hp
  | k :: l, vs, h, hl => by
    subst h
    intro p hp
    have hp : p ∈ (k, (getT T.t k).sym) :: l.zip (slotsAt T l) := hp
    rcases List.mem_cons.1 hp with q | q
    · subst q
      exact ⟨(hl k (by simp)).1, rfl, by rw [low_sym]; exact (hl k (by simp)).2⟩
    · exact zip_keepT rfl (fun k hk => hl k (by simp [hk])) p q

theorem zip_keepH {s : St} {nx : Nat} : ∀ {l : List Nat} {os : List AObj}, os = objsAt s l → (∀ k ∈ l, k < nx ∧ k < LH ∧ ∃ o, s.h.get k = some o ∧ o.low nx = true) → keepH s.h nx (l.zip os)
  | [], os, h, _ => by intro p hp; simp at hp
  | k :: l, os, h, hl => by
    subst h
    intro p hp
    have hp : p ∈ (k, objAt s k) :: l.zip (objsAt s l) := hp
    rcases List.mem_cons.1 hp with q | q
    · subst q
      obtain ⟨h1, h2, o, h3, h4⟩ := hl k (by simp)
      exact ⟨h1, h2, o, h3, by unfold objAt; rw [h3], h4⟩
    · exact zip_keepH rfl (fun k hk => hl k (by simp [hk])) p q

theorem noMarks_nil {l : List Nat} (h : noMarks l = true) : l = [] := by
  unfold noMarks at h
  split at h
  · rfl
  · cases h

theorem goodAt_spec {nt nx : Nat} {keep objs : List Nat} {T : Tm} {s : St} (h : goodAt nt nx keep objs T s = true) : T.n = nt ∧ s.nx = nx ∧ T.mks = [] ∧ T.rnd = none ∧ (∀ k ∈ keep, k < LT ∧ AVal.low nx (getT T.t k) = true) ∧
    ∀ k ∈ objs, k < nx ∧ k < LH ∧ ∃ o, s.h.get k = some o ∧ o.low nx = true := by
  unfold goodAt at h
  simp only [Bool.and_eq_true, List.all_eq_true, Nat.blt_eq] at h
  obtain ⟨⟨⟨⟨⟨h1, h2⟩, h3⟩, h4⟩, h5⟩, h6⟩ := h
  refine ⟨beq_of h1, beq_of h2, noMarks_nil h3, ?_, h5, fun k hk => ?_⟩
  · cases hr : T.rnd with
    | none => rfl
    | some x => rw [hr] at h4; cases h4
  · obtain ⟨⟨a, b⟩, c⟩ := h6 k hk
    refine ⟨a, b, ?_⟩
    cases ho : s.h.get k with
    | none => rw [ho] at c; cases c
    | some o => rw [ho] at c; exact ⟨o, rfl, c⟩

section
variable {P : Program} {γ δ : Type}

set_option maxHeartbeats 1000000 in
/-- A loop's contract, by one round of evaluation. -/
theorem lp_rule (hX : ExtOk P) (hm : P.follows .mixedOrders = true) {E : Env} (hE : EnvR E P) (hl : E.loops = []) (L : LoopSpec γ δ) (fuel : Nat) (μ : γ → Nat) (hmk : markOk L.body = true)
    (hext : ∀ vs os x, L.ext vs os = some x → vs = L.vals x ∧ os = L.obs x)
    (hgood : ∀ x, L.inv x → ((evCode fuel E false L.body (L.inT x) (L.inS x)).view fun q t => L.next q t).holds fun b => b = true)
    (hstep : ∀ x, L.inv x → ((evCode fuel E false L.body (L.inT x) (L.inS x)).view fun q t => (q.1, slotsAt q.2 (match q.1 with | .normal => L.keep | e => L.keepX e), objsAt t (match q.1 with | .normal => L.objs | e => L.objsX e))).holds fun q =>
      match q.1 with
      | .normal => ∃ y, L.vals y = q.2.1 ∧ L.obs y = q.2.2 ∧ L.inv y ∧ μ y < μ x ∧ (L.res y).val = (L.res x).val
      | e => ∃ d, L.valsX e d = q.2.1 ∧ L.obsX e d = q.2.2 ∧ (L.res x).val = some (e, d)) :
    LpSound P ⟨unmark E.lps L.body, L.run, L.run_up⟩ := by
  intro E1 base w0 Γ s w T ro a N m hty R1 hT g hN hF hLH
  have hty' : E1.ty = E.ty := hty.trans hE.ty0.symm
  have R : Rel E base w0 Γ s.h w := R1.env hty'
  have post : ∀ {x a' w'}, CPost E base w0 Γ ro s N (L.run T s) x a' w' → CPost E1 base w0 Γ ro s N (L.run T s) x a' w' := by
    rintro x a' w' ⟨q, T', s', Γ', h1, h2, h3, h4⟩
    exact ⟨q, T', s', Γ', h1, h2, h3, h4.env hty'.symm⟩
  refine wpIn_mono (Q := CPost E base w0 Γ ro s N (L.run T s)) ?_ fun _ _ _ h => post h
  show (Code.loop (unmark E.lps L.body)).wpIn (FW ro) m P (CPost E base w0 Γ ro s N (L.run T s)) a w
  have g : (L.run T s).Good := g
  have hN : ∀ q s', (L.run T s).Has q s' → s'.nx ≤ N := hN
  unfold LoopSpec.run at g hN ⊢
  cases hg : goodAt L.nt L.nx L.keep L.objs T s with
  | false => rw [hg] at g; exact g.elim
  | true =>
  rw [hg, sel_true] at g hN
  rw [sel_true]
  obtain ⟨g1, g2, g3, g4, g5, g6⟩ := goodAt_spec hg
  cases he : L.ext (slotsAt T L.keep) (objsAt s L.objs) with
  | none => rw [he] at g; exact g.elim
  | some x0 =>
  rw [he] at g hN
  simp only [] at g hN ⊢
  by_cases hinv : L.inv x0
  case neg =>
    have hd : dec (L.inv x0) = false := dec_false hinv
    rw [hd] at g; exact g.elim
  have hd : dec (L.inv x0) = true := dec_true hinv
  rw [hd] at g hN
  simp only [hd]
  have g : ((L.res x0).toRes L.outT L.outS).Good := g
  have hN : ∀ q s', ((L.res x0).toRes L.outT L.outS).Has q s' → s'.nx ≤ N := hN
  obtain ⟨hv, ho⟩ := hext _ _ _ he
  -- there is a result
  obtain ⟨q0, t0, hh0⟩ := good_leaf g
  have hroom : L.nx + L.room ≤ N := by
    obtain ⟨b, _, _, rfl⟩ := toRes_has hh0
    exact hN _ _ hh0
  -- the start
  have R0 := (Got.same (N := N) (s' := s) hF rfl R)
  have T0 : TRel (Γ.back Γ) ro (L.inT x0) a := by
    have := slotsOf_TRel (Γ2 := Γ.back Γ) hT g3 g4 (nx := L.nx) ⟨fun _ _ _ e => e, fun _ _ e => e⟩ (zip_keepT hv.symm g5)
    rw [g1] at this
    exact this
  have G0 : Got E base w0 Γ s N (Γ.back Γ) (L.inS x0) w := R0.trim (t2 := L.inS x0) (by rw [g2]; exact zip_keepH ho.symm g6) rfl (by rw [g2]; exact Nat.le_refl _) hF
  let At : γ → Act → World → Prop := fun x a' w' => L.inv x ∧ (L.res x).val = (L.res x0).val ∧ ∃ Γ', TRel (Γ.back Γ') ro (L.inT x) a' ∧ Got E base w0 Γ s N (Γ.back Γ') (L.inS x) w'
  have νex : ∃ ν : Act → World → Nat, ∀ a' w', (∃ k x, μ x = k ∧ At x a' w') → (∃ x, μ x = ν a' w' ∧ At x a' w') ∧ ∀ x, At x a' w' → ν a' w' ≤ μ x := by
    classical
    refine ⟨fun a' w' => if h : ∃ k, ∃ x, μ x = k ∧ At x a' w' then Classical.choose (least _ h) else 0, fun a' w' h => ?_⟩
    simp only [dif_pos h]
    obtain ⟨h1, h2⟩ := Classical.choose_spec (least _ h)
    exact ⟨h1, fun x hx => h2 _ ⟨x, rfl, hx⟩⟩
  obtain ⟨ν, hν⟩ := νex
  refine wpIn_loop (fun a' w' => ∃ x, At x a' w') ν ⟨x0, hinv, rfl, Γ, T0, G0⟩ ?_
  rintro a' w' ⟨y, hy⟩
  obtain ⟨⟨x, hxμ, hxi, hxr, Γ1, hT1, hG1⟩, hmin⟩ := hν a' w' ⟨_, y, rfl, hy⟩
  have hgd := hgood x hxi
  have hst := hstep x hxi
  obtain ⟨q, t, hdet, hnext⟩ := holds_det hgd
  obtain ⟨q', t', hdet', hnew⟩ := holds_det hst
  rw [hdet] at hdet'
  cases hdet'
  obtain ⟨hgr, hhas⟩ := det_has hdet
  have honly : ∀ q1 t1, (evCode fuel E false L.body (L.inT x) (L.inS x)).Has q1 t1 → q1 = q ∧ t1 = t := fun q1 t1 h => det_only hdet h
  unfold LoopSpec.next at hnext
  simp only [Bool.and_eq_true, List.all_eq_true, Nat.blt_eq] at hnext
  obtain ⟨⟨⟨n1, n2⟩, n3⟩, n4⟩ := hnext
  have n2 := Nat.le_of_ble_eq_true n2
  obtain ⟨m1, _, m3, m4, m5, _⟩ := goodAt_spec n1
  have hF1 : Fresh (Γ.back Γ1) L.nx N := fun n h1 h2 => hF n (by rw [g2]; exact h1) h2
  refine wpIn_mono (code_sound (base := base) (w0 := w0) hX hm fuel E hE false L.body (L.inT x) (L.inS x) (Γ.back Γ1) w' ro a' N m hmk hG1.rel hT1 (by rw [hl]; intro d hd; cases hd) hgr (fun q1 t1 h => by obtain ⟨rfl, rfl⟩ := honly q1 t1 h; omega) hF1 hLH) ?_
  rintro e a2 w2 ⟨e2, T2, s2, Γ2, hh, rfl, hT2, hG2⟩
  obtain ⟨hq, ht⟩ := honly _ _ hh
  subst hq; subst ht
  have hG := hG1.trans hG2
  simp only [] at hnew m1 m3 m4 m5 n3 n4
  have agr : Agrees L.nx Γ2 (Γ.back Γ2) := by rw [← g2]; exact hG.agrees
  have low4 : ∀ l : List Nat, (∀ k ∈ l, (k < L.nx ∧ k < LH) ∧ (match s2.h.get k with | some o => o.low L.nx | none => false) = true) → ∀ k ∈ l, k < L.nx ∧ k < LH ∧ ∃ o, s2.h.get k = some o ∧ o.low L.nx = true := by
    intro l h k hk
    obtain ⟨⟨a, b⟩, c⟩ := h k hk
    refine ⟨a, b, ?_⟩
    cases ho : s2.h.get k with
    | none => rw [ho] at c; cases c
    | some o => rw [ho] at c; exact ⟨o, rfl, c⟩
  have fin : ∀ e3 : AExit, e2 = e3 → e3 ≠ .normal → (∃ d, L.valsX e3 d = slotsAt T2 (L.keepX e3) ∧ L.obsX e3 d = objsAt s2 (L.objsX e3) ∧ (L.res x).val = some (e3, d)) → (∀ k ∈ L.keepX e3, k < LT) → (∀ k ∈ L.keepX e3, AVal.low L.nx (getT T2.t k) = true) →
      (∀ k ∈ L.objsX e3, (k < L.nx ∧ k < LH) ∧ (match s2.h.get k with | some o => o.low L.nx | none => false) = true) → CPost E base w0 Γ ro s N ((L.res x0).toRes L.outT L.outS) e3.ex a2 w2 := by
    rintro e3 rfl hne ⟨d, d1, d2, d3⟩ k1 k2 k3
    have hout := toRes_val (f := L.outT) (g := L.outS) (hxr.symm.trans d3)
    refine ⟨e2, _, _, Γ.back Γ2, hout, rfl, ?_, ?_⟩
    · have := slotsOf_TRel (Γ2 := Γ.back Γ2) hT2 m3 m4 (nx := L.nx) agr (zip_keepT d1 (fun k hk => ⟨k1 k hk, k2 k hk⟩))
      rw [m1] at this
      exact this
    · exact hG.trim (t2 := L.outS (e2, d)) (by rw [g2]; exact zip_keepH d2 (low4 _ k3)) rfl (by rw [g2]; exact Nat.le_add_right _ _) hF
  cases e2 with
  | normal =>
    obtain ⟨y2, v1, v2, v3, v4, v5⟩ := hnew
    have hat : At y2 a2 w2 := by
      refine ⟨v3, v5.trans hxr, Γ2, ?_, ?_⟩
      · have := slotsOf_TRel (Γ2 := Γ.back Γ2) hT2 m3 m4 (nx := L.nx) agr (zip_keepT v1 (fun k hk => ⟨(m5 k hk).1, n3 k hk⟩))
        rw [m1] at this
        exact this
      · exact hG.trim (t2 := L.inS y2) (by rw [g2]; exact zip_keepH v2 (low4 _ n4)) rfl (by rw [g2]; exact Nat.le_refl _) hF
    refine then_exit (x := .normal) (fun _ => ⟨⟨y2, hat⟩, ?_⟩) (fun q => absurd rfl q)
    have := (hν a2 w2 ⟨_, y2, rfl, hat⟩).2 y2 hat
    omega
  | exit id => exact then_exit (x := .exit id) (fun q => by cases q) (fun _ => fin (.exit id) rfl (by simp) hnew (fun k hk => (m5 k hk).1) n3 n4)
  | ret => exact then_exit (x := .ret) (fun q => by cases q) (fun _ => fin .ret rfl (by simp) hnew (fun k hk => (m5 k hk).1) n3 n4)

end
end Go.Ev

namespace Go.Ev
set_option linter.unusedSectionVars false
set_option linter.unusedVariables false
set_option linter.unusedSimpArgs false
open Go Go.RowKit
variable [Univ]

/-! Contracts of functions whose arguments are data that stays, by evaluation. -/

def Dt.toCT {α : Type} : Dt α → CT α
  | .leaf a => .ret a
  | .ite b l r => .ite b l.toCT r.toCT
  | .fail => .fail

theorem toCT_good {α : Type} : ∀ {t : Dt α} {s : St}, (t.toCT.run s).Good → ∃ a, t.val = some a
  | .leaf a, _, _ => ⟨a, rfl⟩
  | .ite true l _, _, h => toCT_good (t := l) h
  | .ite false _ r, _, h => toCT_good (t := r) h
  | .fail, _, h => h.elim
theorem toCT_has {α : Type} : ∀ {t : Dt α} {a : α} {s : St}, t.val = some a → (t.toCT.run s).Has a s
  | .leaf _, _, _, h => by cases h; exact ⟨rfl, rfl⟩
  | .ite true l _, _, _, h => toCT_has (t := l) h
  | .ite false _ r, _, _, h => toCT_has (t := r) h
  | .fail, _, _, h => by cases h

structure FnSpec (γ : Type) where
  ext : List AVal → Option γ
  args : γ → List AVal
  pre : γ → Prop
  res : γ → Dt AVal

noncomputable def FnSpec.ct {γ : Type} (F : FnSpec γ) (as : List AVal) : CT AVal := sel (AVal.lows 0 as) (match F.ext (AVal.syms as) with
  | some x => .need (dec (F.pre x)) (F.res x).toCT
  | none => .fail) .fail

section
variable {P : Program} {E : Env} {base : Nat} {w0 : World} {Γ : Gam} {w w' : World} {s : St}

theorem below_lower {b c : Nat} (hc : c ≤ b) (h : Below b w w') : Below c w w' := ⟨h.os, h.tape, h.output, h.size, fun k hk => h.block k (by omega)⟩

/-- What is told stays told where all that was there stays. -/
theorem Rel.over {h : Tr AObj} (R : Rel E base w0 Γ h w) (hb : Below w.heap.size w w') {Γ2 : Gam} (hnm : Γ2.nm = Γ.nm) (hx : Ext Γ Γ2) (hst : ∀ b ob, Γ2.fz b = some ob → w'.heap[b]? = some ob)
    (hsame : ∀ b, b < w.heap.size → Γ2.fz b = Γ.fz b) : Rel E base w0 Γ2 h w' := by
  have hn : ∀ n, Γ2 n = Γ n := fun n => congrFun hnm n
  have blk : ∀ n i, Γ n = some i → w'.heap[i.b]? = w.heap[i.b]? := fun n i e => hb.block _ (R.dom n i e).2.2
  constructor
  · exact R.deep
  · exact R.below.trans (below_lower R.room hb)
  · exact Nat.le_trans R.room hb.size
  · intro n i e
    rw [hn] at e
    obtain ⟨a, b, c⟩ := R.dom n i e
    exact ⟨a, b, Nat.lt_of_lt_of_le c hb.size⟩
  · exact fun n o hl ho => (R.obj n o hl ho).keep hx fun i e => blk n i e
  · intro n m o p i j h1 h2 h3 h4 h5 h6 h7 h8 h9
    rw [hn] at h8 h9
    exact R.inj n m o p i j h1 h2 h3 h4 h5 h6 h7 h8 h9
  · exact R.fam
  · intro n m since seen kt es clock i j ents b borns stepped h1 h2 h3 h4 e1 e2 b1 b2
    rw [hn] at e1 e2
    rw [blk n i e1] at b1
    rw [blk m j e2] at b2
    obtain ⟨z1, z2⟩ := R.iter n m since seen kt es clock i j ents b borns stepped h1 h2 h3 h4 e1 e2 b1 b2
    exact ⟨z1, fun z => (z2 z).ext hx⟩
  · intro n i cs e frz rel al h1 h2 h3
    rw [hn] at h3
    exact R.own n i cs e frz rel al h1 h2 h3
  · exact hst
  · intro n i o h1 h2 h3 h4
    rw [hn] at h4
    rw [hsame _ (R.dom n i h4).2.2]
    exact R.sep n i o h1 h2 h3 h4
  · rw [hx.lo]; exact Nat.le_trans R.lo hb.size

theorem agrees0 {Γ1 Γ2 : Gam} (h : Γ2.fz = Γ1.fz) : Agrees 0 Γ1 Γ2 := ⟨fun _ _ h => absurd h (Nat.not_lt_zero _), fun _ _ e => by rw [h]; exact e⟩

/-- No names; the blocks that stay. -/
def Gam.bare (Γ : Gam) (w : World) : Gam := ⟨fun _ => none, Γ.fz, w.heap.size⟩

theorem rel_bare {h : Tr AObj} (R : Rel E base w0 Γ h w) {E2 : Env} : Rel E2 w.heap.size w (Γ.bare w) St.new.h w :=
  { deep := tr_deep_full DH
    below := Below.refl _ _
    room := Nat.le_refl _
    dom := fun n i h => by cases h
    obj := fun n o _ h => by rw [show St.new.h.get n = none from tr_get_full DH n] at h; cases h
    inj := fun n m o p i j _ _ h => by rw [show St.new.h.get n = none from tr_get_full DH n] at h; cases h
    fam := fun n cs e frz root rel al _ h => by rw [show St.new.h.get n = none from tr_get_full DH n] at h; cases h
    iter := fun n m since seen kt es clock i j ents b borns stepped _ _ h => by rw [show St.new.h.get n = none from tr_get_full DH n] at h; cases h
    own := fun n i cs e frz rel al _ h => by rw [show St.new.h.get n = none from tr_get_full DH n] at h; cases h
    stay := R.stay
    lo := Nat.le_refl _
    sep := fun n i o _ h => by rw [show St.new.h.get n = none from tr_get_full DH n] at h; cases h }

end

mutual
theorem VRel.names {Γ Γ' : Gam} (hn : ∀ n i, Γ n = some i → Γ' n = some i) (hf : ∀ b o, Γ.fz b = some o → Γ'.fz b = some o) : ∀ {a : AVal} {v : Value}, VRel Γ a v → VRel Γ' a v
  | .bool _, _, k => k
  | .int _ _, _, k => k
  | .str _, _, k => k
  | .ptr _ _, _, k => by unfold VRel at k ⊢; obtain ⟨i, e, k⟩ := k; exact ⟨i, hn _ _ e, k⟩
  | .nilp, _, k => k
  | .slice _ _ _ _ _, _, k => by unfold VRel at k ⊢; obtain ⟨i, e, k⟩ := k; exact ⟨i, hn _ _ e, k⟩
  | .nils, _, k => k
  | .map _, _, k => by unfold VRel at k ⊢; obtain ⟨i, e, k⟩ := k; exact ⟨i, hn _ _ e, k⟩
  | .nilm, _, k => k
  | .fn _ _ _, _, k => by unfold VRel at k ⊢; obtain ⟨vs, ws, e, k1, k2⟩ := k; exact ⟨vs, ws, e, VRels.names hn hf k1, VRels.names hn hf k2⟩
  | .nilf, _, k => k
  | .iface _ _, _, k => by unfold VRel at k ⊢; obtain ⟨u, e, k⟩ := k; exact ⟨u, e, VRel.names hn hf k⟩
  | .nili, _, k => k
  | .agg _, _, k => by unfold VRel at k ⊢; obtain ⟨vs, e, k⟩ := k; exact ⟨vs, e, VRels.names hn hf k⟩
  | .tup _, _, k => by unfold VRel at k ⊢; obtain ⟨vs, e, k⟩ := k; exact ⟨vs, e, VRels.names hn hf k⟩
  | .raw _, _, k => k
  | .any, _, _ => by unfold VRel; trivial
  | .yld _, _, k => by unfold VRel at k ⊢; obtain ⟨i, e, k⟩ := k; exact ⟨i, hn _ _ e, k⟩
  | .sb _, _, k => k
  | .si _ _, _, k => k
  | .ss _, _, k => k
  | .dsl _ _, _, k => by unfold VRel at k ⊢; exact k.mono hf
  | .dptr _ _ _ _, _, k => by unfold VRel at k ⊢; obtain ⟨h1, b, z, cap, h2, h3⟩ := k; exact ⟨h1, b, z, cap, h2.mono hf, h3⟩
  | .asl _ _ _ _, _, k => by unfold VRel at k ⊢; obtain ⟨i, e, k⟩ := k; exact ⟨i, hn _ _ e, k⟩
  | .aptr _ _ _ _, _, k => by unfold VRel at k ⊢; obtain ⟨i, e, k⟩ := k; exact ⟨i, hn _ _ e, k⟩
theorem VRels.names {Γ Γ' : Gam} (hn : ∀ n i, Γ n = some i → Γ' n = some i) (hf : ∀ b o, Γ.fz b = some o → Γ'.fz b = some o) : ∀ {l : List AVal} {vs : List Value}, VRels Γ l vs → VRels Γ' l vs
  | [], _, k => k
  | _ :: _, _, k => by unfold VRels at k ⊢; obtain ⟨v, ws, e, k1, k2⟩ := k; exact ⟨v, ws, e, VRel.names hn hf k1, VRels.names hn hf k2⟩
end

/-- When a function is left, what it has made and hands on is data. -/
noncomputable def AVal.out1 (h : Tr AObj) (a : AVal) : AVal := match a with
  | .asl c n off k => (match h.get n with
    | some o => (match o with
      | .arr c' l => (match castD c' c l with
        | some l => .dsl c (subL l off k)
        | none => .asl c n off k)
      | _ => .asl c n off k)
    | none => .asl c n off k)
  | a => a
noncomputable def AVal.out (h : Tr AObj) (a : AVal) : AVal := match a with
  | .tup l => .tup (map1 (AVal.out1 h) l)
  | a => a.out1 h

/-- All blocks that have been made stay. -/
noncomputable def Gam.left (Γ : Gam) (w : World) : Gam := ⟨Γ.nm, fun b => if b < Γ.lo then Γ.fz b else w.heap[b]?, Γ.lo⟩

section
variable {E : Env} {base : Nat} {w0 : World} {Γ Γt : Gam} {w : World} {s : St}

/-- An array is data, as long as its block stays. -/
theorem arr_data {h : Tr AObj} (R : Rel E base w0 Γ h w) {c : Univ.C} {n off k : Nat} {l : List (Univ.S c)} {v : Value} (ho : h.get n = some (.arr c l)) (hv : VRel Γ (.asl c n off k) v)
    (ht : ∀ i, Γ n = some i → ∀ ob, w.heap[i.b]? = some ob → Γt.fz i.b = some ob) (hag : ∀ b o, Γ.fz b = some o → Γt.fz b = some o) : CRel Γt.fz (.sl c (subL l off k)) v := by
  unfold VRel at hv
  obtain ⟨i, hi, hbd, o, cap, rfl, hcap, hoo⟩ := hv
  obtain ⟨i', hi', hasz, C, e, fz, hb, hA, hsz, _⟩ := R.obj n _ (R.dom n i hi).1 ho
  rw [hi] at hi'; cases hi'
  have hlen : (subL l off k).length = k := by unfold subL; simp; omega
  by_cases k0 : k = 0
  · subst k0
    have : subL l off 0 = [] := by unfold subL; simp
    rw [this]; exact .nil c _ cap
  · obtain rfl := hoo (by omega)
    have each : ∀ (j : Nat) (x : Univ.S c), (subL l off k)[j]? = some x → ∀ (q : Nat) (cl : Cell Univ.C Univ.S), (Univ.cells c x)[q]? = some cl → ∃ v, C[off * Univ.esz c + j * Univ.esz c + q]? = some v ∧ CRel Γt.fz cl v := by
      intro j x hj q cl hq
      have hjk : j < k := by rw [← hlen]; exact (List.getElem?_eq_some_iff.1 hj).1
      unfold subL at hj
      rw [List.getElem?_take, if_pos hjk, List.getElem?_drop] at hj
      obtain ⟨v, v1, v2⟩ := hA _ x hj q cl hq
      rw [Nat.add_mul] at v1
      exact ⟨v, v1, v2.mono hag⟩
    have := CRel.sl (fz := Γt.fz) c (subL l off k) i.b (off * Univ.esz c) cap C e fz (fun j q => (C[off * Univ.esz c + j * Univ.esz c + q]?).getD (.bool false)) (ht i hi _ hb) (by omega)
      (fun j x hj q hq => by
        have : q < (Univ.cells c x).length := by rw [Univ.len]; exact hq
        obtain ⟨v, v1, _⟩ := each j x hj q _ (List.getElem?_eq_getElem this)
        rw [v1]; rfl)
      (fun j x hj q cl hq => by
        obtain ⟨v, v1, v2⟩ := each j x hj q cl hq
        show CRel _ cl ((C[off * Univ.esz c + j * Univ.esz c + q]?).getD (.bool false))
        rw [v1]; exact v2)
    rw [hlen] at this
    exact this

theorem out1q_rel {h : Tr AObj} (R : Rel E base w0 Γ h w) (hlo : Γ.lo ≤ base) {a : AVal} {v : Value} (hv : VRel Γ a v) : VRel (Γ.left w) (a.out1 h) v := by
  have fzm : ∀ b o, Γ.fz b = some o → (Γ.left w).fz b = some o := by
    intro b o e
    show (if b < Γ.lo then Γ.fz b else w.heap[b]?) = some o
    by_cases hb : b < Γ.lo
    · rw [if_pos hb]; exact e
    · rw [if_neg hb]; exact R.stay b o e
  have hx : VRel (Γ.left w) a v := by
    exact VRel.names (Γ := Γ) (Γ' := Γ.left w) (fun n i e => e) fzm hv
  unfold AVal.out1
  split
  · rename_i c n off k
    split
    · rename_i o ho
      split
      · rename_i c' l
        split
        · rename_i m hm
          have := castD_eq' hm
          cases this
          unfold VRel
          refine arr_data R ho hv (fun i hi ob hb => ?_) fzm
          show (if i.b < Γ.lo then Γ.fz i.b else w.heap[i.b]?) = some ob
          have := (R.dom n i hi).2.1
          rw [if_neg (by omega)]; exact hb
        · exact hx
      · exact hx
    · exact hx
  · exact hx

theorem out_rel {h : Tr AObj} (R : Rel E base w0 Γ h w) (hlo : Γ.lo ≤ base) {a : AVal} {v : Value} (hv : VRel Γ a v) : VRel (Γ.left w) (a.out h) v := by
  unfold AVal.out
  split
  · rename_i l
    unfold VRel at hv ⊢
    obtain ⟨vs, rfl, hl⟩ := hv
    refine ⟨vs, rfl, ?_⟩
    rw [map1q_eq]
    refine VRels.of_get (by have := hl.length; simpa using this) fun i a ha => ?_
    rw [List.getElem?_map] at ha
    cases hi : l[i]? with
    | none => rw [hi] at ha; cases ha
    | some b =>
      rw [hi] at ha
      cases ha
      obtain ⟨v, v1, v2⟩ := hl.get hi
      exact ⟨v, v1, out1q_rel R hlo v2⟩
  · exact out1q_rel R hlo hv

end

/-- What a function comes to that is given data that stays: a value of data that stays, and all is as it was. -/
def PureCalls (P : Program) (f : FuncId) (as : List AVal) (r : AVal) : Prop := ∀ (Γ : Gam) (w : World) (vs : Array Value), (∀ b ob, Γ.fz b = some ob → w.heap[b]? = some ob) → (∀ n, Γ n = none) → Γ.lo = w.heap.size → VRels Γ as vs.toList →
  (callFunc f vs).run P w = .ok (.enter f vs) w ∧ ∀ m, CallsIn (FW none) m P f vs w fun e w' => ∃ v Γ', e = .returned v ∧ VRel Γ' r v ∧ (∀ n, Γ' n = none) ∧ Ext Γ Γ' ∧ (∀ b ob, Γ'.fz b = some ob → w'.heap[b]? = some ob) ∧ Below w.heap.size w w'

section
variable {P : Program} {γ : Type}

theorem ctr_of_pure (F : FnSpec γ) {f : FuncId} (hext : ∀ as x, F.ext as = some x → as = F.args x) (h : ∀ x, F.pre x → ∀ r, (F.res x).val = some r → AVal.low 0 r = true ∧ PureCalls P f (F.args x) r) : CtrSound P f F.ct := by
  intro E base w0 Γ s w as vs N hty R hv g hN hF hLH
  unfold FnSpec.ct at g hN ⊢
  cases hl : AVal.lows 0 as with
  | false => rw [hl] at g; exact g.elim
  | true =>
  rw [hl, sel_true] at g hN
  rw [sel_true]
  cases he : F.ext (AVal.syms as) with
  | none => rw [he] at g; exact g.elim
  | some x =>
  rw [he] at g hN
  simp only [] at g hN ⊢
  obtain ⟨hp, g2, hh⟩ := need_good (m := (F.res x).toCT.run) g
  have hp : F.pre x := dec_eq.1 hp
  obtain ⟨r, hr⟩ := toCT_good g2
  obtain ⟨hrl, hpure⟩ := h x hp r hr
  have hx := hext _ _ he
  have R0 : Rel E w.heap.size w (Γ.bare w) St.new.h w := rel_bare R
  have hv2 : VRels (Γ.bare w) (F.args x) vs.toList := by
    rw [← hx]
    exact (hv.agree (agrees0 (Γ1 := Γ) (Γ2 := Γ.bare w) rfl) hl).sym
  obtain ⟨hrun, hcalls⟩ := hpure (Γ.bare w) w vs R.stay (fun _ => rfl) rfl hv2
  rw [hrun]
  refine Inv.enter fun m => CallsIn.mono (hcalls m) ?_
  rintro e w' ⟨v, Γ', rfl, hrel, hno, hx', hst, hb⟩
  refine ⟨v, r, s, ⟨Γ.nm, Γ'.fz, Γ.lo⟩, rfl, hh _ _ (toCT_has hr), hrel.agree (agrees0 (Γ1 := Γ') (Γ2 := ⟨Γ.nm, Γ'.fz, Γ.lo⟩) rfl) hrl, ?_⟩
  have hext2 : Ext Γ ⟨Γ.nm, Γ'.fz, Γ.lo⟩ := ⟨fun _ _ e => e, hx'.fz, rfl, fun b hb => hx'.same b (Nat.lt_of_lt_of_le hb R.lo)⟩
  exact ⟨hext2, fun _ _ => rfl, Nat.le_refl _, hF, R.over hb rfl hext2 hst hx'.same⟩

/-- By evaluation. -/
theorem pure_of_eval (hX : ExtOk P) (hm : P.follows .mixedOrders = true) {E : Env} (hE : EnvR E P) (hl : E.loops = []) {f : FuncId} {c : Code} {nt : Nat} {rs : List ResultVar} (hmk : mkFn P f = some (.code c nt rs))
    (c' : Code) (hc' : markOk c' = true) (hu : unmark E.lps c' = c) (fuel : Nat) {as : List AVal} {r : AVal}
    (h1 : ((evAFn (.code c' nt rs) E (evCode fuel E false) as St.new).view fun a s => AVal.low 0 (a.out s.h) && Nat.ble s.nx LH).holds fun b => b = true)
    (h2 : ((evAFn (.code c' nt rs) E (evCode fuel E false) as St.new).view fun a s => (a.out s.h).sym).val = some r) : AVal.low 0 r = true ∧ PureCalls P f as r := by
  obtain ⟨a, t, hdet, hq⟩ := holds_det h1
  rw [view_det hdet] at h2
  cases h2
  rw [Bool.and_eq_true] at hq
  have hq2 := Nat.le_of_ble_eq_true hq.2
  refine ⟨by rw [low_sym]; exact hq.1, fun Γ w vs hst hno hlo hv => ?_⟩
  obtain ⟨_, _, _, _, _, _, hrun⟩ := mkFn_code hmk
  refine ⟨hrun _ _, fun m => ?_⟩
  have R0 : Rel E w.heap.size w Γ St.new.h w :=
    { deep := tr_deep_full DH
      below := Below.refl _ _
      room := Nat.le_refl _
      dom := fun n i h => by rw [hno] at h; cases h
      obj := fun n o _ h => by rw [show St.new.h.get n = none from tr_get_full DH n] at h; cases h
      inj := fun n m o p i j _ _ h => by rw [show St.new.h.get n = none from tr_get_full DH n] at h; cases h
      fam := fun n cs e frz root rel al _ h => by rw [show St.new.h.get n = none from tr_get_full DH n] at h; cases h
      iter := fun n m since seen kt es clock i j ents b borns stepped _ _ h => by rw [show St.new.h.get n = none from tr_get_full DH n] at h; cases h
      own := fun n i cs e frz rel al _ h => by rw [show St.new.h.get n = none from tr_get_full DH n] at h; cases h
      stay := hst
      lo := by rw [hlo]; exact Nat.le_refl _
      sep := fun n i o _ h => by rw [show St.new.h.get n = none from tr_get_full DH n] at h; cases h }
  refine CallsIn.mono (fn_sound_code (N := LH) (code_sound (base := w.heap.size) (w0 := w) hX hm fuel) hE hmk hc' hu R0 (by rw [hl]; intro d hd; cases hd) hv (det_has hdet).1 (fun b u k => by obtain ⟨rfl, rfl⟩ := det_only hdet k; exact hq2) (fun n _ _ => hno n) (Nat.le_refl _) m) ?_
  rintro e w' ⟨v, b, u, Γ', rfl, hh, hrel, hG⟩
  obtain ⟨rfl, rfl⟩ := det_only hdet hh
  have hlo' : Γ'.lo = w.heap.size := hG.ext.lo.trans hlo
  have hout := out_rel hG.rel (by rw [hlo']; exact Nat.le_refl _) hrel
  have hfzm : ∀ b o, Γ'.fz b = some o → (Γ'.left w').fz b = some o := by
    intro b o e
    show (if b < Γ'.lo then Γ'.fz b else w'.heap[b]?) = some o
    by_cases hb : b < Γ'.lo
    · rw [if_pos hb]; exact e
    · rw [if_neg hb]; exact hG.rel.stay b o e
  refine ⟨v, ⟨fun _ => none, (Γ'.left w').fz, Γ'.lo⟩, rfl, (hout.agree (agrees0 (Γ1 := Γ'.left w') (Γ2 := ⟨fun _ => none, (Γ'.left w').fz, Γ'.lo⟩) rfl) hq.1).sym, fun _ => rfl,
    ⟨fun n i e => (by rw [hno] at e; cases e), fun b o e => hfzm b o (hG.ext.fz b o e), hG.ext.lo, fun b hb => ?_⟩, fun b ob e => ?_, hG.rel.below⟩
  · show (if b < Γ'.lo then Γ'.fz b else w'.heap[b]?) = Γ.fz b
    rw [if_pos (by rw [hlo', ← hlo]; exact hb)]
    exact hG.ext.same b hb
  · have e : (if b < Γ'.lo then Γ'.fz b else w'.heap[b]?) = some ob := e
    by_cases hb : b < Γ'.lo
    · rw [if_pos hb] at e; exact hG.rel.stay b ob e
    · rw [if_neg hb] at e; exact e

end
end Go.Ev

namespace Go.Ev
set_option linter.unusedSectionVars false
set_option linter.unusedVariables false
set_option linter.unusedSimpArgs false
open Go Go.RowKit
variable [Univ]

/-! What is read of the store for a contract. -/

/-- Cells, one after the other. -/
noncomputable def rdN {β : Type} (n : Nat) : Nat → Nat → (List AVal → CT β) → CT β
  | 0, _, k => k []
  | m + 1, off, k => .rd n off fun v => rdN n m (off + 1) fun vs => k (v :: vs)

/-- The world, all of it held. -/
def Gam.all (w : World) : Gam := ⟨fun _ => none, fun b => w.heap[b]?, w.heap.size⟩

noncomputable def okOr {α β : Type} (o : Option α) (k : α → CT β) : CT β := match o with
  | some x => k x
  | none => .fail
theorem okOr_good {α β : Type} {o : Option α} {k : α → CT β} {s : St} (g : ((okOr o k).run s).Good) : ∃ x, o = some x ∧ okOr o k = k x := by
  cases o with
  | none => exact g.elim
  | some x => exact ⟨x, rfl, rfl⟩

/-- Arrays, read. -/
noncomputable def resA {β : Type} (a : AVal) (k : AVal → CT β) : CT β := match a with
  | .asl c n off len => .rda n fun A => okOr (castD A.c c A.l) fun l => k (.dsl c (subL l off len))
  | a => k a
noncomputable def resAs {β : Type} : List AVal → (List AVal → CT β) → CT β
  | [], k => k []
  | a :: l, k => resA a fun x => resAs l fun xs => k (x :: xs)

section
variable {P : Program} {E : Env} {base : Nat} {w0 : World} {Γ Γt : Gam} {w : World}

theorem resA_good {β : Type} {s0 : St} (R : Rel E base w0 Γ s0.h w) (hag : Agrees 0 Γ Γt) (ht : ∀ b ob, w.heap[b]? = some ob → Γt.fz b = some ob) {a : AVal} {k : AVal → CT β} {s : St} (hs : s.h = s0.h) (g : ((resA a k).run s).Good) :
    ∃ x s', Same s s' ∧ (resA a k).run s = (k x).run s' ∧ ∀ cl, cellOf x = some cl → ∀ u, VRel Γ a u → CRel Γt.fz cl u := by
  unfold resA at g ⊢
  split at g
  · rename_i c n off len
    have g : (M.bind (rdArr n) (fun A => (okOr (castD A.c c A.l) fun l => k (.dsl c (subL l off len))).run) s).Good := g
    obtain ⟨c', l', s1, ho, h2, h3⟩ := rdArr_good (good_step g)
    rw [bind_ok h2] at g
    obtain ⟨m, h4, h5⟩ := okOr_good g
    have := castD_eq' h4
    cases this
    refine ⟨.dsl c' (subL l' off len), s1, h3, ?_, fun cl e u hu => ?_⟩
    · show M.bind (rdArr n) (fun A => (okOr (castD A.c c' A.l) fun l => k (.dsl c' (subL l off len))).run) s = _
      rw [bind_ok h2]
      show (okOr (castD c' c' l') fun l => k (.dsl c' (subL l off len))).run s1 = _
      rw [h5]
    · cases e
      rw [hs] at ho
      exact arr_data R ho hu (fun i _ ob hb => ht _ _ hb) hag.fz
  · exact ⟨a, s, .refl s, rfl, fun cl e u hu => (cellOf_rel e hu).mono hag.fz⟩

theorem resAs_good {β : Type} {s0 : St} (R : Rel E base w0 Γ s0.h w) (hag : Agrees 0 Γ Γt) (ht : ∀ b ob, w.heap[b]? = some ob → Γt.fz b = some ob) : ∀ {l : List AVal} {k : List AVal → CT β} {s : St}, s.h = s0.h → ((resAs l k).run s).Good →
    ∃ xs s', Same s s' ∧ (resAs l k).run s = (k xs).run s' ∧ ∀ (j : Nat) x, xs[j]? = some x → ∃ a, l[j]? = some a ∧ ∀ cl, cellOf x = some cl → ∀ u, VRel Γ a u → CRel Γt.fz cl u
  | [], k, s, hs, g => ⟨[], s, .refl s, rfl, fun j x e => by simp at e⟩
  | a :: l, k, s, hs, g => by
    unfold resAs at g ⊢
    obtain ⟨x, s1, h1, h2, h3⟩ := resA_good R hag ht hs g
    rw [h2] at g ⊢
    obtain ⟨xs, s2, h4, h5, h6⟩ := resAs_good R hag ht (h1.h.trans hs) g
    refine ⟨x :: xs, s2, h1.trans h4, h5, fun j y e => ?_⟩
    cases j with
    | zero => simp at e; subst e; exact ⟨a, rfl, h3⟩
    | succ j => obtain ⟨b, b1, b2⟩ := h6 j y (by simpa using e); exact ⟨b, by simpa using b1, b2⟩

theorem rdN_good {β : Type} {n : Nat} : ∀ (m off : Nat) {k : List AVal → CT β} {s : St}, ((rdN n m off k).run s).Good → ∃ vs s', vs.length = m ∧ Same s s' ∧ (rdN n m off k).run s = (k vs).run s' ∧
    ∀ j v, vs[j]? = some v → ∃ cs e frz root rel al, s.h.get n = some (.cells cs e frz false root rel al) ∧ cs[off + j]? = some v
  | 0, off, k, s, g => ⟨[], s, rfl, .refl s, rfl, fun j v e => by simp at e⟩
  | m + 1, off, k, s, g => by
    have g : (M.bind (rdCell n off) (fun v => (rdN n m (off + 1) fun vs => k (v :: vs)).run) s).Good := g
    obtain ⟨cs, e, frz, root, rel, al, v, s1, h1, h2, h3, h4⟩ := rdCell_good (good_step g)
    rw [bind_ok h3] at g
    obtain ⟨vs, s2, q1, q2, q3, q4⟩ := rdN_good m (off + 1) g
    refine ⟨v :: vs, s2, by simp [q1], h4.trans q2, ?_, fun j x hx => ?_⟩
    · show M.bind (rdCell n off) (fun v => (rdN n m (off + 1) fun vs => k (v :: vs)).run) s = _
      rw [bind_ok h3]; exact q3
    · cases j with
      | zero => simp at hx; subst hx; exact ⟨cs, e, frz, root, rel, al, h1, h2⟩
      | succ j =>
        obtain ⟨cs', e', frz', root', rel', al', y1, y2⟩ := q4 j x (by simpa using hx)
        rw [h4.h] at y1
        exact ⟨cs', e', frz', root', rel', al', y1, by rw [show off + (j + 1) = off + 1 + j by omega]; exact y2⟩

/-- What lies in cells of the store is data, as long as all is held. -/
theorem box_data {h : Tr AObj} (R : Rel E base w0 Γ h w) {n off : Nat} {i : Info} (hi : Γ n = some i) (c : Univ.C) {cs : List (Cell Univ.C Univ.S)} {x : Univ.S c}
    (hv : ∀ j cl, cs[j]? = some cl → ∃ v, (∃ cs e frz root rel al, h.get n = some (.cells cs e frz false root rel al) ∧ cs[off + j]? = some v) ∧ ∀ u, VRel Γ v u → CRel Γt.fz cl u)
    (hx : Univ.unc c cs = some x) (ht : ∀ b ob, w.heap[b]? = some ob → Γt.fz b = some ob) :
    CRel Γt.fz (.sl c [x]) (.slice (some ⟨i.b, i.o + off, none⟩) 1 1) := by
  have hcx := Univ.unc_ok c cs x hx
  have hp := Univ.pos c
  have hcl : cs.length = Univ.esz c := by rw [← hcx, Univ.len]
  obtain ⟨v0, ⟨cells, e, frz, root, rel, al, hget, _⟩, _⟩ := hv 0 _ (List.getElem?_eq_getElem (by omega))
  have hn := (R.dom n i hi).1
  obtain ⟨i', hi', hasz, _, C, fz, hb, hsz, hbd, hval, _⟩ := R.obj n _ hn hget
  rw [hi] at hi'; cases hi'
  have each : ∀ j cl, (Univ.cells c x)[j]? = some cl → ∃ v, C[i.o + off + j]? = some v ∧ CRel Γt.fz cl v := by
    intro j cl e
    rw [hcx] at e
    obtain ⟨a, ⟨cells', e', frz', root', rel', al', hg', hk'⟩, ha2⟩ := hv j cl e
    rw [hget] at hg'; cases hg'
    obtain ⟨v, z1, z2⟩ := hval rfl _ _ hk'
    exact ⟨v, by rw [show i.o + off + j = i.o + (off + j) by omega]; exact z1, ha2 v z2⟩
  let g : Nat → Nat → Value := fun _ k => (C[i.o + off + k]?).getD (.bool false)
  refine .sl c [x] i.b (i.o + off) 1 C e fz g (ht _ _ hb) (Nat.le_refl _) (fun j y hj k hk => ?_) (fun j y hj k cl hcl => ?_)
  · cases j with
    | succ j => simp at hj
    | zero =>
      have : k < (Univ.cells c x).length := by rw [Univ.len]; exact hk
      obtain ⟨v, z1, _⟩ := each k _ (List.getElem?_eq_getElem this)
      rw [show i.o + off + 0 * Univ.esz c + k = i.o + off + k by omega]
      show _ = some ((C[i.o + off + k]?).getD (.bool false))
      rw [z1]; rfl
  · cases j with
    | succ j => simp at hj
    | zero =>
      simp at hj; subst hj
      obtain ⟨v, z1, z2⟩ := each k cl hcl
      show CRel _ cl ((C[i.o + off + k]?).getD (.bool false))
      rw [z1]; exact z2

/-- Cells of a slice are data, as long as all is held. -/
theorem slice_data {h : Tr AObj} (R : Rel E base w0 Γ h w) {n off k : Nat} {cap : Option Nat} {v : Value} (c : Univ.C) {cs : List (Cell Univ.C Univ.S)} {l : List (Univ.S c)} (hvr : VRel Γ (.slice n off k cap (Univ.esz c)) v)
    (hv : ∀ j cl, cs[j]? = some cl → ∃ v, (∃ cs e frz root rel al, h.get n = some (.cells cs e frz false root rel al) ∧ cs[off + j]? = some v) ∧ ∀ u, VRel Γ v u → CRel Γt.fz cl u)
    (hcl : cs.length = k * Univ.esz c) (hx : unchunk c k cs = some l) (ht : ∀ b ob, w.heap[b]? = some ob → Γt.fz b = some ob) : CRel Γt.fz (.sl c l) v := by
  have hp := Univ.pos c
  obtain ⟨hlen, hget⟩ := unchunk_get k hx hcl
  obtain ⟨_, i, hi, o, C0, rfl, hoo⟩ := slice_addr hvr
  by_cases k0 : k = 0
  · subst k0
    have : l = [] := List.length_eq_zero_iff.1 hlen
    subst this
    exact .nil c _ C0
  · obtain rfl := hoo (by omega)
    have hcl0 : 0 < cs.length := by rw [hcl]; exact Nat.mul_pos (by omega) hp
    obtain ⟨v0, ⟨cells, e, frz, root, rel, al, hgt, _⟩, _⟩ := hv 0 _ (List.getElem?_eq_getElem hcl0)
    have hn := (R.dom n i hi).1
    obtain ⟨i', hi', hasz, _, C, fz, hb, hsz, hbd, hval, _⟩ := R.obj n _ hn hgt
    rw [hi] at hi'; cases hi'
    have each : ∀ (j : Nat) (x : Univ.S c), l[j]? = some x → ∀ (q : Nat) (cl : Cell Univ.C Univ.S), (Univ.cells c x)[q]? = some cl → ∃ v, C[i.o + off + j * Univ.esz c + q]? = some v ∧ CRel Γt.fz cl v := by
      intro j x hj q cl hq
      obtain ⟨a, ⟨cells', e', frz', root', rel', al', hg', hk'⟩, ha2⟩ := hv _ cl (hget j x hj q cl hq)
      rw [hgt] at hg'; cases hg'
      obtain ⟨v, z1, z2⟩ := hval rfl _ _ hk'
      exact ⟨v, by rw [show i.o + off + j * Univ.esz c + q = i.o + (off + (j * Univ.esz c + q)) by omega]; exact z1, ha2 v z2⟩
    unfold VRel SlRel at hvr
    have hcap : k ≤ C0 := by
      obtain ⟨i2, hi2, _, hvr⟩ := hvr
      rw [hi] at hi2; cases hi2
      cases cap with
      | some c0 => obtain ⟨e1, e2, _⟩ := hvr; cases e1; exact e2
      | none =>
        rcases hvr.2 with ⟨C1, e1, e2, _⟩ | ⟨z, _⟩
        · cases e1; exact e2
        · omega
    have := CRel.sl (fz := Γt.fz) c l i.b (i.o + off) C0 C e fz (fun j q => (C[i.o + off + j * Univ.esz c + q]?).getD (.bool false)) (ht _ _ hb) (by omega)
      (fun j x hj q hq => by
        have : q < (Univ.cells c x).length := by rw [Univ.len]; exact hq
        obtain ⟨v, v1, _⟩ := each j x hj q _ (List.getElem?_eq_getElem this)
        rw [v1]; rfl)
      (fun j x hj q cl hq => by
        obtain ⟨v, v1, v2⟩ := each j x hj q cl hq
        show CRel _ cl ((C[i.o + off + j * Univ.esz c + q]?).getD (.bool false))
        rw [v1]; exact v2)
    rw [hlen] at this
    exact this

end

mutual
/-- Nothing but what is told, or data: no addresses. -/
def AVal.flat : AVal → Bool
  | .bool _ => true
  | .int _ _ => true
  | .str _ => true
  | .sb _ => true
  | .si _ _ => true
  | .ss _ => true
  | .nilp => true
  | .nils => true
  | .nilm => true
  | .nilf => true
  | .nili => true
  | .agg l => AVal.flats l
  | .tup l => AVal.flats l
  | _ => false
def AVal.flats : List AVal → Bool
  | [] => true
  | a :: l => AVal.flat a && AVal.flats l
end

mutual
theorem VRel.flat {Γ Γ' : Gam} : ∀ {a : AVal} {v : Value}, AVal.flat a = true → VRel Γ a v → VRel Γ' a v
  | .bool _, _, _, k => k
  | .int _ _, _, _, k => k
  | .str _, _, _, k => k
  | .sb _, _, _, k => k
  | .si _ _, _, _, k => k
  | .ss _, _, _, k => k
  | .nilp, _, _, k => k
  | .nils, _, _, k => k
  | .nilm, _, _, k => k
  | .nilf, _, _, k => k
  | .nili, _, _, k => k
  | .agg _, _, l, k => by unfold AVal.flat at l; unfold VRel at k ⊢; obtain ⟨vs, e, k⟩ := k; exact ⟨vs, e, VRels.flat l k⟩
  | .tup _, _, l, k => by unfold AVal.flat at l; unfold VRel at k ⊢; obtain ⟨vs, e, k⟩ := k; exact ⟨vs, e, VRels.flat l k⟩
  | .ptr _ _, _, l, _ => by cases l
  | .slice _ _ _ _ _, _, l, _ => by cases l
  | .map _, _, l, _ => by cases l
  | .fn _ _ _, _, l, _ => by cases l
  | .iface _ _, _, l, _ => by cases l
  | .raw _, _, l, _ => by cases l
  | .any, _, l, _ => by cases l
  | .yld _, _, l, _ => by cases l
  | .dsl _ _, _, l, _ => by cases l
  | .dptr _ _ _ _, _, l, _ => by cases l
  | .asl _ _ _ _, _, l, _ => by cases l
  | .aptr _ _ _ _, _, l, _ => by cases l
theorem VRels.flat {Γ Γ' : Gam} : ∀ {l : List AVal} {vs : List Value}, AVal.flats l = true → VRels Γ l vs → VRels Γ' l vs
  | [], _, _, k => k
  | _ :: _, _, l, k => by
    unfold AVal.flats at l; rw [Bool.and_eq_true] at l
    unfold VRels at k ⊢; obtain ⟨v, ws, e, k1, k2⟩ := k; exact ⟨v, ws, e, VRel.flat l.1 k1, VRels.flat l.2 k2⟩
end

/-- A tree whose leaves are flat, unless all may stand. -/
noncomputable def Dt.ctf (b : Bool) : Dt AVal → CT AVal
  | .leaf a => sel (b || a.flat) (.ret a) .fail
  | .ite c l r => .ite c (l.ctf b) (r.ctf b)
  | .fail => .fail

theorem ctf_good {b : Bool} : ∀ {t : Dt AVal} {s : St}, ((t.ctf b).run s).Good → ∃ a, t.val = some a ∧ (b || a.flat) = true ∧ ((t.ctf b).run s).Has a s
  | .leaf a, s, h => by
    unfold Dt.ctf at h ⊢
    cases hb : (b || a.flat) with
    | false => rw [hb] at h; exact h.elim
    | true => exact ⟨a, rfl, hb, by exact ⟨rfl, rfl⟩⟩
  | .ite true l _, _, h => ctf_good (t := l) h
  | .ite false _ r, _, h => ctf_good (t := r) h
  | .fail, _, h => h.elim

end Go.Ev

namespace Go.Ev
set_option linter.unusedSectionVars false
set_option linter.unusedVariables false
set_option linter.unusedSimpArgs false
open Go Go.RowKit
variable [Univ]

/-! Values by kinds. -/

/-- `box`: where one value of data that stays is. -/
inductive Pt where
  | i (k : IntKind)
  | b
  | s
  | d (c : Univ.C)
  | any
  | agg (l : List Pt)
  | fn (f : Nat) (l : List Pt)
  | box (c : Univ.C)
  | p (n off : Nat)
  | nf
  | nl
  | al (c : Univ.C) (n : Nat)

mutual
def Pt.ty : Pt → Type
  | .i _ => Int
  | .b => Bool
  | .s => ByteArray
  | .d c => List (Univ.S c)
  | .any => AVal
  | .agg l => Pts l
  | .fn _ l => Pts l
  | .box c => Univ.S c
  | .p _ _ => Unit
  | .nf => Unit
  | .nl => Unit
  | .al _ _ => Nat
def Pts : List Pt → Type
  | [] => Unit
  | p :: ps => p.ty × Pts ps
end

mutual
def Pt.val : (p : Pt) → p.ty → AVal
  | .i k, x => .si k x
  | .b, x => .sb x
  | .s, x => .ss x
  | .d c, x => .dsl c x
  | .any, x => x
  | .agg l, x => .agg (Pts.vals l x)
  | .fn f l, x => .fn f [] (Pts.vals l x)
  | .box c, x => .dptr c [x] 0 0
  | .p n o, _ => .ptr n o
  | .nf, _ => .nilf
  | .nl, _ => .nils
  | .al c n, x => .asl c n 0 x
def Pts.vals : (ps : List Pt) → Pts ps → List AVal
  | [], _ => []
  | p :: ps, x => p.val x.1 :: Pts.vals ps x.2
end

/-- The kinds of numbers that are told. -/
def sameKind (j k : IntKind) : Bool := match j, k with
  | .i64, .i64 => true
  | .u8, .u8 => true
  | .i32, .i32 => true
  | .u64, .u64 => true
  | _, _ => false
theorem sameKind_eq {j k : IntKind} (h : sameKind j k = true) : j = k := by cases j <;> cases k <;> first | rfl | cases h

theorem castD_eq {c' c : Univ.C} {l : List (Univ.S c')} {m : List (Univ.S c)} (h : castD c' c l = some m) : AVal.dsl c' l = AVal.dsl c m ∧ ∀ i o, AVal.dptr c' l i o = AVal.dptr c m i o := by
  unfold castD at h
  split at h
  · rename_i hc _
    subst hc
    cases h; exact ⟨rfl, fun _ _ => rfl⟩
  · cases h

def oneOfL {α : Type} (l : Option (List α)) : Option α := match l with
  | some l => (match l with
    | [x] => some x
    | _ => none)
  | none => none

mutual
noncomputable def Pt.ext : (p : Pt) → AVal → Option p.ty
  | .i k, a => (match a with
    | .si j x => sel (sameKind j k) (some x) none
    | _ => none)
  | .b, a => (match a with
    | .sb x => some x
    | _ => none)
  | .s, a => (match a with
    | .ss x => some x
    | _ => none)
  | .d c, a => (match a with
    | .dsl c' l => castD c' c l
    | _ => none)
  | .any, a => some a
  | .agg l, a => (match a with
    | .agg cs => Pts.ext l cs
    | _ => none)
  | .fn f l, a => (match a with
    | .fn g fs cs => (match fs with
      | [] => sel (Nat.beq g f) (Pts.ext l cs) none
      | _ => none)
    | _ => none)
  | .box c, a => (match a with
    | .dptr c' l i o => sel (Nat.beq i 0 && Nat.beq o 0) (oneOfL (castD c' c l)) none
    | _ => none)
  | .p n o, a => (match a with
    | .ptr m q => sel (Nat.beq m n && Nat.beq q o) (some ()) none
    | _ => none)
  | .nf, a => (match a with
    | .nilf => some ()
    | _ => none)
  | .nl, a => (match a with
    | .nils => some ()
    | _ => none)
  | .al c n, a => (match a with
    | .asl c' m off k => sel (sameC c' c && Nat.beq m n && Nat.beq off 0) (some k) none
    | _ => none)
noncomputable def Pts.ext : (ps : List Pt) → List AVal → Option (Pts ps)
  | [], l => (match l with
    | [] => some ()
    | _ => none)
  | p :: ps, l => (match l with
    | [] => none
    | a :: l => (match p.ext a with
      | none => none
      | some x => (match Pts.ext ps l with
        | none => none
        | some y => some (x, y))))
end

mutual
theorem Pt.ext_eq : ∀ (p : Pt) {a : AVal} {x : p.ty}, p.ext a = some x → a = p.val x
  | .i k, a, x, h => by
    unfold Pt.ext at h
    cases a <;> simp only [reduceCtorEq] at h
    rename_i j y
    cases hk : sameKind j k with
    | false => rw [hk] at h; cases h
    | true =>
      rw [hk] at h
      cases h
      rw [sameKind_eq hk]
      unfold Pt.val; rfl
  | .b, a, x, h => by
    unfold Pt.ext at h
    cases a <;> simp only [reduceCtorEq] at h
    cases h; unfold Pt.val; rfl
  | .s, a, x, h => by
    unfold Pt.ext at h
    cases a <;> simp only [reduceCtorEq] at h
    cases h; unfold Pt.val; rfl
  | .d c, a, x, h => by
    unfold Pt.ext at h
    cases a <;> simp only [reduceCtorEq] at h
    unfold Pt.val; exact (castD_eq h).1
  | .any, a, x, h => by
    unfold Pt.ext at h
    cases h; first | rfl | simp only [Pt.val]
  | .agg l, a, x, h => by
    unfold Pt.ext at h
    cases a <;> simp only [reduceCtorEq] at h
    unfold Pt.val
    rw [Pts.ext_eq l h]
  | .fn f l, a, x, h => by
    unfold Pt.ext at h
    cases a <;> simp only [reduceCtorEq] at h
    rename_i g fs cs
    cases fs with
    | cons _ _ => cases h
    | nil =>
      simp only [] at h
      cases hk : Nat.beq g f with
      | false => rw [hk] at h; cases h
      | true =>
        rw [hk] at h
        have e : g = f := beq_of hk
        unfold Pt.val
        rw [e, Pts.ext_eq l h]
  | .box c, a, x, h => by
    unfold Pt.ext at h
    cases a <;> simp only [reduceCtorEq] at h
    rename_i c' l i o
    cases hk : (Nat.beq i 0 && Nat.beq o 0) with
    | false => rw [hk] at h; cases h
    | true =>
      rw [hk, sel_true] at h
      rw [Bool.and_eq_true] at hk
      rw [beq_of hk.1, beq_of hk.2]
      cases hc : castD c' c l with
      | none => rw [hc] at h; cases h
      | some m =>
        rw [hc] at h
        rw [(castD_eq hc).2]
        cases m with
        | nil => cases h
        | cons y m =>
          cases m with
          | nil => cases h; unfold Pt.val; rfl
          | cons _ _ => cases h
  | .p n o, a, x, h => by
    unfold Pt.ext at h
    cases a <;> simp only [reduceCtorEq] at h
    rename_i m q
    cases hk : (Nat.beq m n && Nat.beq q o) with
    | false => rw [hk] at h; cases h
    | true =>
      rw [Bool.and_eq_true] at hk
      unfold Pt.val
      rw [beq_of hk.1, beq_of hk.2]
  | .nf, a, x, h => by
    unfold Pt.ext at h
    cases a <;> simp only [reduceCtorEq] at h
    unfold Pt.val; rfl
  | .nl, a, x, h => by
    unfold Pt.ext at h
    cases a <;> simp only [reduceCtorEq] at h
    unfold Pt.val; rfl
  | .al c n, a, x, h => by
    unfold Pt.ext at h
    cases a <;> simp only [reduceCtorEq] at h
    rename_i c' m off k
    cases hk : (sameC c' c && Nat.beq m n && Nat.beq off 0) with
    | false => rw [hk] at h; cases h
    | true =>
      rw [hk] at h
      cases h
      simp only [Bool.and_eq_true] at hk
      unfold Pt.val
      rw [sameC_eq hk.1.1, beq_of hk.1.2, beq_of hk.2]
theorem Pts.ext_eq : ∀ (ps : List Pt) {l : List AVal} {x : Pts ps}, Pts.ext ps l = some x → l = Pts.vals ps x
  | [], l, x, h => by
    unfold Pts.ext at h
    cases l with
    | nil => unfold Pts.vals; rfl
    | cons a l => cases h
  | p :: ps, l, x, h => by
    unfold Pts.ext at h
    cases l with
    | nil => cases h
    | cons a l =>
      simp only [] at h
      cases h1 : p.ext a with
      | none => rw [h1] at h; cases h
      | some y =>
        rw [h1] at h
        simp only [] at h
        cases h2 : Pts.ext ps l with
        | none => rw [h2] at h; cases h
        | some z =>
          rw [h2] at h
          cases h
          first
            | (show a :: l = p.val y :: Pts.vals ps z; rw [Pt.ext_eq p h1, Pts.ext_eq ps h2])
            | (simp only [Pts.vals]; rw [Pt.ext_eq p h1, Pts.ext_eq ps h2])
end

/-! Arguments, read. -/

/-- As it stands; no names. -/
noncomputable def plainGet {α β : Type} (e : AVal → Option α) (a : AVal) (k : α → CT β) : CT β := sel (AVal.low 0 a) (okOr (e a.sym) k) .fail

mutual
noncomputable def Pt.get {β : Type} : (p : Pt) → AVal → (p.ty → CT β) → CT β
  | .fn f l, a, k => (match a with
    | .fn g fs cs => (match fs with
      | [] => sel (Nat.beq g f) (Pts.get l cs k) .fail
      | _ => .fail)
    | _ => .fail)
  | .box c, a, k => (match a with
    | .ptr n off => rdN n (Univ.esz c) off fun vs => resAs vs fun vs => okOr (cellsOf vs) fun cs => okOr (Univ.unc c cs) k
    | a => plainGet (Pt.ext (.box c)) a k)
  | .d c, a, k => (match a with
    | .nils => k []
    | .asl c' n off len => .rda n fun A => okOr (castD A.c c' A.l) fun l => okOr (castD c' c (subL l off len)) k
    | .slice n off len _ esz => sel (Nat.beq esz (Univ.esz c)) (rdN n (len * esz) off fun vs => resAs vs fun vs => okOr (cellsOf vs) fun cs => sel (Nat.beq (Go.Ev.len cs) (len * esz)) (okOr (unchunk c len cs) k) .fail) .fail
    | a => plainGet (Pt.ext (.d c)) a k)
  | .i j, a, k => plainGet (Pt.ext (.i j)) a k
  | .b, a, k => plainGet (Pt.ext .b) a k
  | .s, a, k => plainGet (Pt.ext .s) a k
  | .any, a, k => plainGet (Pt.ext .any) a k
  | .agg l, a, k => (match a with
    | .agg cs => Pts.get l cs k
    | _ => .fail)
  | .p n o, a, k => plainGet (Pt.ext (.p n o)) a k
  | .nf, a, k => plainGet (Pt.ext .nf) a k
  | .nl, a, k => plainGet (Pt.ext .nl) a k
  | .al c n, a, k => plainGet (Pt.ext (.al c n)) a k
noncomputable def Pts.get {β : Type} : (ps : List Pt) → List AVal → (Pts ps → CT β) → CT β
  | [], l, k => (match l with
    | [] => k ()
    | _ => .fail)
  | p :: ps, l, k => (match l with
    | [] => .fail
    | a :: l => Pt.get p a fun x => Pts.get ps l fun y => k (x, y))
end

section
variable {P : Program} {E : Env} {base : Nat} {w0 : World} {Γ Γt : Gam} {w : World}

theorem plainGet_good {β : Type} (p : Pt) (hag : Agrees 0 Γ Γt) {a : AVal} {v : Value} {k : p.ty → CT β} {s : St} (hv : VRel Γ a v) (g : ((plainGet p.ext a k).run s).Good) :
    ∃ x s', VRel Γt (p.val x) v ∧ Same s s' ∧ (plainGet p.ext a k).run s = (k x).run s' := by
  unfold plainGet at g ⊢
  cases hl : AVal.low 0 a with
  | false => rw [hl] at g; exact g.elim
  | true =>
    rw [hl, sel_true] at g
    rw [sel_true]
    obtain ⟨x, h1, h2⟩ := okOr_good g
    refine ⟨x, s, ?_, .refl s, by rw [h2]⟩
    rw [← Pt.ext_eq p h1]
    exact (hv.agree hag hl).sym

theorem box_get {β : Type} {s0 : St} (c : Univ.C) (R : Rel E base w0 Γ s0.h w) (hag : Agrees 0 Γ Γt) {n off : Nat} {v : Value} {k : Univ.S c → CT β} {s : St}
    (ht : AVal.low 0 (.ptr n off) = true ∨ ∀ b ob, w.heap[b]? = some ob → Γt.fz b = some ob) (hs : s.h = s0.h) (hv : VRel Γ (.ptr n off) v)
    (g : ((rdN n (Univ.esz c) off fun vs => resAs vs fun vs => okOr (cellsOf vs) fun cs => okOr (Univ.unc c cs) k).run s).Good) :
    ∃ x s', VRel Γt (.dptr c [x] 0 0) v ∧ Same s s' ∧ (rdN n (Univ.esz c) off fun vs => resAs vs fun vs => okOr (cellsOf vs) fun cs => okOr (Univ.unc c cs) k).run s = (k x).run s' := by
  rcases ht with ht | ht
  · simp [AVal.low] at ht
  obtain ⟨vs, s', q1, q2, q3, q4⟩ := rdN_good (Univ.esz c) off g
  rw [q3] at g ⊢
  obtain ⟨xs, s2, r1, r2, r3⟩ := resAs_good R hag ht (q2.h.trans hs) g
  rw [r2] at g ⊢
  obtain ⟨cs, h1, h2⟩ := okOr_good g
  rw [h2] at g ⊢
  obtain ⟨x, h3, h4⟩ := okOr_good g
  rw [h4]
  refine ⟨x, s2, ?_, q2.trans r1, rfl⟩
  unfold VRel at hv
  obtain ⟨i, hi, rfl⟩ := hv
  unfold VRel
  rw [hs] at q4
  obtain ⟨_, hcs⟩ := cellsOf_rel h1
  refine ⟨by simp, i.b, i.o + off, 1, box_data R hi c (fun j cl e => ?_) h3 ht, by simp⟩
  obtain ⟨a, a1, a2⟩ := hcs j cl e
  obtain ⟨b, b1, b2⟩ := r3 j a a1
  exact ⟨b, q4 j b b1, b2 cl a2⟩

mutual
theorem Pt.get_good {β : Type} {s0 : St} (R : Rel E base w0 Γ s0.h w) (hag : Agrees 0 Γ Γt) : ∀ (p : Pt) {a : AVal} {v : Value} {k : p.ty → CT β} {s : St},
    (AVal.low 0 a = true ∨ ∀ b ob, w.heap[b]? = some ob → Γt.fz b = some ob) → s.h = s0.h → VRel Γ a v → ((p.get a k).run s).Good → ∃ x s', VRel Γt (p.val x) v ∧ Same s s' ∧ (p.get a k).run s = (k x).run s'
  | .fn f l, a, v, k, s, ht, hs, hv, g => by
    unfold Pt.get at g ⊢
    cases a <;> simp only [] at g ⊢ <;> first
      | exact g.elim
      | skip
    rename_i h fs cs
    cases fs with
    | cons _ _ => exact g.elim
    | nil =>
      simp only [] at g ⊢
      cases hk : Nat.beq h f with
      | false => rw [hk] at g; exact g.elim
      | true =>
        rw [hk, sel_true] at g
        rw [sel_true]
        have e : h = f := beq_of hk
        unfold VRel at hv
        obtain ⟨vs, ws, rfl, q1, q2⟩ := hv
        obtain ⟨x, s', z1, z2, z3⟩ := Pts.get_good R hag l (ht.imp (fun h => by unfold AVal.low at h; rw [Bool.and_eq_true] at h; exact h.2) id) hs q2 g
        refine ⟨x, s', ?_, z2, z3⟩
        show VRel Γt (.fn f [] (Pts.vals l x)) _
        unfold VRel
        rw [e]
        refine ⟨vs, ws, rfl, ?_, z1⟩
        rw [q1.nil_inv]; exact VRels.nil
  | .box c, a, v, k, s, ht, hs, hv, g => by
    unfold Pt.get at g ⊢
    split at g
    case h_2 => exact plainGet_good (.box c) hag hv g
    case h_1 n off => exact box_get c R hag ht hs hv g
  | .d c, a, v, k, s, ht, hs, hv, g => by
    unfold Pt.get at g ⊢
    split at g
    case h_4 => exact plainGet_good (.d c) hag hv g
    case h_3 n off len cap esz =>
      rcases ht with ht | ht
      · simp [AVal.low] at ht
      cases hes : Nat.beq esz (Univ.esz c) with
      | false => rw [hes] at g; exact g.elim
      | true =>
      rw [hes, sel_true] at g
      have hes := Nat.eq_of_beq_eq_true hes
      subst hes
      rw [sel_true]
      obtain ⟨vs, s1, q1, q2, q3, q4⟩ := rdN_good (len * Univ.esz c) off g
      rw [q3] at g ⊢
      obtain ⟨xs, s2, r1, r2, r3⟩ := resAs_good R hag ht (q2.h.trans hs) g
      rw [r2] at g ⊢
      obtain ⟨cs, h1, h2⟩ := okOr_good g
      rw [h2] at g ⊢
      cases hcl : Nat.beq (Go.Ev.len cs) (len * Univ.esz c) with
      | false => rw [hcl] at g; exact g.elim
      | true =>
      rw [hcl, sel_true] at g
      rw [sel_true]
      have hcl := Nat.eq_of_beq_eq_true hcl
      rw [len_eq] at hcl
      obtain ⟨x, h3, h4⟩ := okOr_good g
      rw [h4]
      refine ⟨x, s2, ?_, q2.trans r1, rfl⟩
      rw [hs] at q4
      obtain ⟨_, hcs⟩ := cellsOf_rel h1
      show VRel Γt (.dsl c x) v
      unfold VRel
      refine slice_data R c hv (fun j cl e => ?_) hcl h3 ht
      obtain ⟨a, a1, a2⟩ := hcs j cl e
      obtain ⟨b, b1, b2⟩ := r3 j a a1
      exact ⟨b, q4 j b b1, b2 cl a2⟩
    case h_1 =>
      refine ⟨[], s, ?_, .refl s, rfl⟩
      unfold VRel at hv
      subst hv
      show VRel Γt (.dsl c []) _
      unfold VRel
      exact .nil c none 0
    case h_2 c' n off len =>
      rcases ht with ht | ht
      · simp [AVal.low] at ht
      have g : (M.bind (rdArr n) (fun A => (okOr (castD A.c c' A.l) fun l => okOr (castD c' c (subL l off len)) k).run) s).Good := g
      show ∃ x s', VRel Γt ((Pt.d c).val x) v ∧ Same s s' ∧ M.bind (rdArr n) (fun A => (okOr (castD A.c c' A.l) fun l => okOr (castD c' c (subL l off len)) k).run) s = (k x).run s'
      obtain ⟨c2, l2, s1, ho, h2, h3⟩ := rdArr_good (good_step g)
      rw [bind_ok h2] at g ⊢
      simp only [] at g ⊢
      obtain ⟨m, h4, h5⟩ := okOr_good g
      rw [h5] at g ⊢
      have := castD_eq' h4
      cases this
      obtain ⟨m2, h6, h7⟩ := okOr_good g
      rw [h7]
      have e := (castD_eq h6).1
      refine ⟨m2, s1, ?_, h3, rfl⟩
      rw [hs] at ho
      have := arr_data R ho hv (fun i _ ob hb => ht _ _ hb) hag.fz
      show VRel Γt (.dsl c m2) v
      rw [← e]
      unfold VRel
      exact this
  | .i j, a, v, k, s, ht, hs, hv, g => by unfold Pt.get at g ⊢; exact plainGet_good (.i j) hag hv g
  | .b, a, v, k, s, ht, hs, hv, g => by unfold Pt.get at g ⊢; exact plainGet_good .b hag hv g
  | .s, a, v, k, s, ht, hs, hv, g => by unfold Pt.get at g ⊢; exact plainGet_good .s hag hv g
  | .any, a, v, k, s, ht, hs, hv, g => by unfold Pt.get at g ⊢; exact plainGet_good .any hag hv g
  | .agg l, a, v, k, s, ht, hs, hv, g => by
    unfold Pt.get at g ⊢
    cases a <;> simp only [] at g ⊢ <;> first
      | exact g.elim
      | skip
    rename_i cs
    unfold VRel at hv
    obtain ⟨vs, rfl, q1⟩ := hv
    obtain ⟨x, s', z1, z2, z3⟩ := Pts.get_good R hag l (ht.imp (fun h => by unfold AVal.low at h; exact h) id) hs q1 g
    refine ⟨x, s', ?_, z2, z3⟩
    show VRel Γt (.agg (Pts.vals l x)) _
    unfold VRel
    exact ⟨vs, rfl, z1⟩
  | .p n o, a, v, k, s, ht, hs, hv, g => by unfold Pt.get at g ⊢; exact plainGet_good (.p n o) hag hv g
  | .nf, a, v, k, s, ht, hs, hv, g => by unfold Pt.get at g ⊢; exact plainGet_good .nf hag hv g
  | .nl, a, v, k, s, ht, hs, hv, g => by unfold Pt.get at g ⊢; exact plainGet_good .nl hag hv g
  | .al c n, a, v, k, s, ht, hs, hv, g => by unfold Pt.get at g ⊢; exact plainGet_good (.al c n) hag hv g
theorem Pts.get_good {β : Type} {s0 : St} (R : Rel E base w0 Γ s0.h w) (hag : Agrees 0 Γ Γt) : ∀ (ps : List Pt) {as : List AVal} {vs : List Value} {k : Pts ps → CT β} {s : St},
    (AVal.lows 0 as = true ∨ ∀ b ob, w.heap[b]? = some ob → Γt.fz b = some ob) → s.h = s0.h → VRels Γ as vs → ((Pts.get ps as k).run s).Good → ∃ x s', VRels Γt (Pts.vals ps x) vs ∧ Same s s' ∧ (Pts.get ps as k).run s = (k x).run s'
  | [], as, vs, k, s, ht, hs, hv, g => by
    unfold Pts.get at g ⊢
    cases as with
    | cons _ _ => exact g.elim
    | nil => exact ⟨(), s, by show VRels Γt [] vs; rw [hv.nil_inv]; exact VRels.nil, .refl s, rfl⟩
  | p :: ps, as, vs, k, s, ht, hs, hv, g => by
    unfold Pts.get at g ⊢
    cases as with
    | nil => exact g.elim
    | cons a as =>
      simp only [] at g ⊢
      obtain ⟨v, ws, rfl, h1, h2⟩ := hv.cons_inv
      obtain ⟨x, s1, q1, q2, q3⟩ := Pt.get_good R hag p (ht.imp (fun h => by unfold AVal.lows at h; rw [Bool.and_eq_true] at h; exact h.1) id) hs h1 g
      rw [q3] at g ⊢
      obtain ⟨y, s2, z1, z2, z3⟩ := Pts.get_good R hag ps (ht.imp (fun h => by unfold AVal.lows at h; rw [Bool.and_eq_true] at h; exact h.2) id) (q2.h.trans hs) h2 g
      refine ⟨(x, y), s2, ?_, q2.trans z2, z3⟩
      show VRels Γt (p.val x :: Pts.vals ps y) _
      exact VRels.cons q1 z1
end

end

/-- Whether an argument can be of a kind. -/
noncomputable def fitsD (c' c : Univ.C) : Bool := match Univ.dec c' c with
  | .isTrue _ => true
  | .isFalse _ => false
mutual
noncomputable def Pt.fits : Pt → AVal → Bool
  | .i k, a => (match a with
    | .int j _ => sameKind j k
    | .si j _ => sameKind j k
    | _ => false)
  | .b, a => (match a with
    | .bool _ => true
    | .sb _ => true
    | _ => false)
  | .s, a => (match a with
    | .str _ => true
    | .ss _ => true
    | _ => false)
  | .d c, a => (match a with
    | .nils => true
    | .dsl c' _ => fitsD c' c
    | .asl c' _ _ _ => fitsD c' c
    | .slice _ _ _ _ esz => Nat.beq esz (Univ.esz c)
    | _ => false)
  | .any, _ => true
  | .agg l, a => (match a with
    | .agg cs => Pts.fits l cs
    | _ => false)
  | .fn f l, a => (match a with
    | .fn g _ cs => sel (Nat.beq g f) (Pts.fits l cs) false
    | _ => false)
  | .box c, a => (match a with
    | .ptr _ _ => true
    | .dptr c' _ _ _ => fitsD c' c
    | _ => false)
  | .p _ _, _ => false
  | .al _ _, _ => false
  | .nf, a => (match a with
    | .nilf => true
    | _ => false)
  | .nl, a => (match a with
    | .nils => true
    | _ => false)
noncomputable def Pts.fits : List Pt → List AVal → Bool
  | [], l => (match l with
    | [] => true
    | _ => false)
  | p :: ps, l => (match l with
    | [] => false
    | a :: l => sel (p.fits a) (Pts.fits ps l) false)
end

/-- An object: cells, or a string under way. -/
inductive Po where
  | cells (ps : List Pt) (e : TypeId) (root : Nat) (rel : Nat) (al : List (Nat × Nat × Nat))
  | sit
  | arr (c : Univ.C)

def Po.ty (o : Po) : Type := match o with
  | .cells ps _ _ _ _ => Pts ps
  | .sit => List UInt8 × Nat
  | .arr c => List (Univ.S c)

def Po.obj (o : Po) : o.ty → AObj := match o with
  | .cells ps e root rel al => fun x => .cells (Pts.vals ps x) e false false root rel al
  | .sit => fun x => .siter true x.1 x.2
  | .arr c => fun l => .arr c l

noncomputable def Po.ext (o : Po) (a : AObj) : Option o.ty := match o with
  | .cells ps e0 root0 rel0 al0 => (match a with
    | .cells cs e frz dead root rel al => sel (Nat.beq e e0 && not frz && not dead && Nat.beq root root0 && Nat.beq rel rel0 && same3 al al0) (Pts.ext ps cs) none
    | _ => none)
  | .sit => (match a with
    | .siter y l p => sel y (some (l, p)) none
    | _ => none)
  | .arr c => (match a with
    | .arr c' l => castD c' c l
    | _ => none)

theorem Po.ext_eq (o : Po) {a : AObj} {x : o.ty} (h : o.ext a = some x) : a = o.obj x := by
  cases o with
  | cells ps e0 root0 rel0 al0 =>
    unfold Po.ext at h
    cases a <;> simp only [reduceCtorEq] at h
    rename_i cs e frz dead root rel al
    cases hb : (Nat.beq e e0 && not frz && not dead && Nat.beq root root0 && Nat.beq rel rel0 && same3 al al0) with
    | false => rw [hb] at h; cases h
    | true =>
      rw [hb] at h
      have h : Pts.ext ps cs = some x := h
      simp only [Bool.and_eq_true, Bool.not_eq_true'] at hb
      obtain ⟨⟨⟨⟨⟨h1, h2⟩, h3⟩, h4⟩, h5⟩, h6⟩ := hb
      show _ = AObj.cells (Pts.vals ps x) e0 false false root0 rel0 al0
      rw [← Pts.ext_eq _ h, beq_of h1, h2, h3, beq_of h4, beq_of h5, same3q_eq h6]
  | sit =>
    unfold Po.ext at h
    cases a <;> simp only [reduceCtorEq] at h
    rename_i y l p
    cases y with
    | false => cases h
    | true => cases h; rfl
  | arr c =>
    unfold Po.ext at h
    cases a <;> simp only [reduceCtorEq] at h
    have := castD_eq' h
    cases this
    rfl

def Pos : List Po → Type
  | [] => Unit
  | o :: os => o.ty × Pos os

def Pos.obs : (os : List Po) → Pos os → List AObj
  | [], _ => []
  | o :: os, x => o.obj x.1 :: Pos.obs os x.2

noncomputable def Pos.ext : (os : List Po) → List AObj → Option (Pos os)
  | [], l => match l with
    | [] => some ()
    | _ => none
  | o :: os, l => match l with
    | [] => none
    | a :: l => match o.ext a with
      | none => none
      | some x => match Pos.ext os l with
        | none => none
        | some y => some (x, y)

theorem Pos.ext_eq : ∀ (os : List Po) {l : List AObj} {x : Pos os}, Pos.ext os l = some x → l = Pos.obs os x
  | [], l, x, h => by
    unfold Pos.ext at h
    cases l with
    | nil => rfl
    | cons a l => cases h
  | o :: os, l, x, h => by
    unfold Pos.ext at h
    cases l with
    | nil => cases h
    | cons a l =>
      simp only [] at h
      cases h1 : o.ext a with
      | none => rw [h1] at h; cases h
      | some y =>
        rw [h1] at h
        simp only [] at h
        cases h2 : Pos.ext os l with
        | none => rw [h2] at h; cases h
        | some z =>
          rw [h2] at h
          cases h
          show a :: l = o.obj y :: Pos.obs os z
          rw [Po.ext_eq o h1, Pos.ext_eq os h2]

/-- Loops under blocks stand as marks. -/
noncomputable def markB (ids : List Nat) (c : Code) : Code := match c with
  | .seq a b => .seq (markB ids a) (markB ids b)
  | .cond x a b => .cond x (markB ids a) (markB ids b)
  | .block id a => (match a with
    | .loop b => sel (memN id ids) (.block id (.goto id)) (.block id (.loop (markB ids b)))
    | a => .block id (markB ids a))
  | .loop a => .loop (markB ids a)
  | c => c

def firstSome {α : Type} (x y : Option α) : Option α := match x with
  | some a => some a
  | none => y
/-- The loop under a block. -/
noncomputable def loopAt (id : Nat) (c : Code) : Option Code := match c with
  | .seq a b => firstSome (loopAt id a) (loopAt id b)
  | .cond _ a b => firstSome (loopAt id a) (loopAt id b)
  | .block j a => (match a with
    | .loop b => sel (Nat.beq j id) (some b) (loopAt id b)
    | a => loopAt id a)
  | .loop a => loopAt id a
  | _ => none

def codeOf (f : Func) : Code := match f.body with
  | some c => c
  | none => .skip
noncomputable def loopIn (f : Func) (id : Nat) : Code := match loopAt id (codeOf f) with
  | some c => c
  | none => .skip

/-- A loop, by kinds. -/
structure PSpec where
  body : Code
  nt : Nat
  nx : Nat
  room : Nat
  keep : List (Nat × Pt)
  objs : List (Nat × Po)
  keepX : AExit → List Nat
  objsX : AExit → List Nat
  inv : Pts (keep.map (·.2)) → Pos (objs.map (·.2)) → Prop
  res : Pts (keep.map (·.2)) → Pos (objs.map (·.2)) → Dt (AExit × List AVal × List AObj)

noncomputable def PSpec.ext (S : PSpec) (vs : List AVal) (os : List AObj) : Option (Pts (S.keep.map (·.2)) × Pos (S.objs.map (·.2))) := match Pts.ext (S.keep.map (·.2)) vs with
  | none => none
  | some x => match Pos.ext (S.objs.map (·.2)) os with
    | none => none
    | some y => some (x, y)

noncomputable def PSpec.spec (S : PSpec) : LoopSpec (Pts (S.keep.map (·.2)) × Pos (S.objs.map (·.2))) (List AVal × List AObj) :=
  { body := S.body, nt := S.nt, nx := S.nx, room := S.room, keep := S.keep.map (·.1), objs := S.objs.map (·.1)
    ext := S.ext
    vals := fun x => Pts.vals _ x.1, obs := fun x => Pos.obs _ x.2, keepX := S.keepX, objsX := S.objsX, valsX := fun _ d => d.1, obsX := fun _ d => d.2
    inv := fun x => S.inv x.1 x.2, res := fun x => S.res x.1 x.2 }

theorem PSpec.ext_eq (S : PSpec) {vs : List AVal} {os : List AObj} {x : Pts (S.keep.map (·.2)) × Pos (S.objs.map (·.2))} (h : S.ext vs os = some x) : vs = Pts.vals _ x.1 ∧ os = Pos.obs _ x.2 := by
  unfold PSpec.ext at h
  cases h1 : Pts.ext (S.keep.map (·.2)) vs with
  | none => rw [h1] at h; cases h
  | some y =>
    rw [h1] at h
    simp only [] at h
    cases h2 : Pos.ext (S.objs.map (·.2)) os with
    | none => rw [h2] at h; cases h
    | some z =>
      rw [h2] at h
      cases h
      exact ⟨Pts.ext_eq _ h1, Pos.ext_eq _ h2⟩

noncomputable def PSpec.loop (S : PSpec) (l : List (Nat × LoopC)) : LoopC := ⟨unmark l S.body, S.spec.run, S.spec.run_up⟩

/-- What one round comes to. -/
noncomputable def PSpec.round (S : PSpec) (E : Env) (fuel : Nat) (x : Pts (S.keep.map (·.2))) (y : Pos (S.objs.map (·.2))) : Dt (Bool × AExit × List AVal × List AObj) :=
  (evCode fuel E false S.body (S.spec.inT (x, y)) (S.spec.inS (x, y))).view fun q t => (S.spec.next q t, q.1, slotsAt q.2 (match q.1 with | .normal => S.keep.map (·.1) | e => S.keepX e), objsAt t (match q.1 with | .normal => S.objs.map (·.1) | e => S.objsX e))

theorem holds_ite {α : Type} {b : Bool} {l r : Dt α} {p : α → Prop} (hl : b = true → l.holds p) (hr : b = false → r.holds p) : (Dt.ite b l r).holds p := ⟨hl, hr⟩
theorem holds_need {α : Type} {b : Bool} {l : Dt α} {p : α → Prop} (hb : b = true) (hl : l.holds p) : (Dt.ite b l .fail).holds p := ⟨fun _ => hl, fun h => by rw [hb] at h; cases h⟩
theorem holds_leaf {α : Type} {a : α} {p : α → Prop} (h : p a) : (Dt.leaf a).holds p := h

theorem holds_eq {α : Type} {r t : Dt α} {p : α → Prop} (e : r = t) (h : t.holds p) : r.holds p := by rw [e]; exact h

theorem view_holds {α β δ : Type} {f : α → St → β} {g : α → St → δ} {p : β → Prop} {q : δ → Prop} (hpq : ∀ a s, p (f a s) → q (g a s)) : ∀ {r : Res α}, (r.view f).holds p → (r.view g).holds q
  | .ok a s, h => hpq a s h
  | .br _ _, h => h.elim
  | .ite _ l r, h => ⟨fun e => view_holds hpq (r := l) (h.1 e), fun e => view_holds hpq (r := r) (h.2 e)⟩
  | .fail _, h => h.elim

theorem PSpec.sound {P : Program} (hX : ExtOk P) (hm : P.follows .mixedOrders = true) {E : Env} (hE : EnvR E P) (hl : E.loops = []) (S : PSpec) (fuel : Nat) (μ : Pts (S.keep.map (·.2)) → Pos (S.objs.map (·.2)) → Nat) (hmk : markOk S.body = true)
    (h : ∀ x y, S.inv x y → (S.round E fuel x y).holds fun q => q.1 = true ∧ match q.2.1 with
      | .normal => ∃ x' y', Pts.vals _ x' = q.2.2.1 ∧ Pos.obs _ y' = q.2.2.2 ∧ S.inv x' y' ∧ μ x' y' < μ x y ∧ (S.res x' y').val = (S.res x y).val
      | e => (S.res x y).val = some (e, q.2.2)) : LpSound P (S.loop E.lps) := by
  refine lp_rule hX hm hE hl S.spec fuel (fun x => μ x.1 x.2) hmk (fun vs os x hx => S.ext_eq hx) (fun x hx => ?_) (fun x hx => ?_)
  · exact view_holds (fun q t k => k.1) (h x.1 x.2 hx)
  · refine view_holds (fun q t k => ?_) (h x.1 x.2 hx)
    obtain ⟨_, k⟩ := k
    cases hq : q.1 with
    | normal =>
      rw [hq] at k
      obtain ⟨x', y', k1, k2, k3, k4, k5⟩ := k
      exact ⟨(x', y'), k1, k2, k3, k4, k5⟩
    | exit id => rw [hq] at k; exact ⟨_, rfl, rfl, k⟩
    | ret => rw [hq] at k; exact ⟨_, rfl, rfl, k⟩

end Go.Ev

namespace Go.Ev
set_option linter.unusedSectionVars false
set_option linter.unusedVariables false
set_option linter.unusedSimpArgs false
open Go Go.RowKit
variable [Univ]

/-! Contracts of functions, by kinds. -/

structure FSpec where
  ps : List Pt
  pre : Pts ps → Prop
  res : Pts ps → Dt AVal

noncomputable def FSpec.ct (S : FSpec) (as : List AVal) : CT AVal := Pts.get S.ps as fun x => .need (dec (S.pre x)) ((S.res x).ctf (AVal.lows 0 as))

/-- Several contracts of one function. -/
noncomputable def ctAny : List FSpec → List AVal → CT AVal
  | [], _ => .fail
  | S :: l, as => sel (Pts.fits S.ps as) (S.ct as) (ctAny l as)

noncomputable def FSpec.run (S : FSpec) (E : Env) (c : Code) (nt : Nat) (rs : List ResultVar) (fuel : Nat) (x : Pts S.ps) : Dt (Bool × AVal) :=
  (evAFn (.code c nt rs) E (evCode fuel E false) (Pts.vals S.ps x) St.new).view fun a s => (AVal.low 0 (a.out s.h) && Nat.ble s.nx LH, (a.out s.h).sym)

/-- A contract is kept. -/
def FSpec.Kept (P : Program) (f : FuncId) (S : FSpec) : Prop := ∀ x, S.pre x → ∀ r, (S.res x).val = some r → AVal.low 0 r = true ∧ PureCalls P f (Pts.vals S.ps x) r

theorem holds_val {α β δ : Type} {f : α → St → β} {g : α → St → δ} {p : β → Prop} {q : δ} (hpq : ∀ a s, p (f a s) → g a s = q) : ∀ {r : Res α}, (r.view f).holds p → (r.view g).val = some q
  | .ok a s, h => by show some (g a s) = some q; rw [hpq a s h]
  | .br _ _, h => h.elim
  | .ite true l _, h => holds_val hpq (r := l) (h.1 rfl)
  | .ite false _ r, h => holds_val hpq (r := r) (h.2 rfl)
  | .fail _, h => h.elim

section
variable {P : Program}

theorem FSpec.ct_sound {f : FuncId} (S : FSpec) (h : S.Kept P f) : CtrSound P f S.ct := by
  intro E base w0 Γ s w as vs N hty R hv g hN hF hLH
  unfold FSpec.ct at g hN ⊢
  cases hl : AVal.lows 0 as with
  | true =>
    rw [hl] at g hN
    obtain ⟨x, s', h1, h2, h3⟩ := Pts.get_good R (Γt := Γ.bare w) (agrees0 rfl) S.ps (.inl hl) rfl hv g
    rw [h3] at g hN ⊢
    obtain ⟨hp, g2, hh⟩ := need_good (m := ((S.res x).ctf true).run) g
    have hp : S.pre x := dec_eq.1 hp
    obtain ⟨r, hr, _, hhas⟩ := ctf_good g2
    obtain ⟨hrl, hpure⟩ := h x hp r hr
    obtain ⟨hrun, hcalls⟩ := hpure (Γ.bare w) w vs R.stay (fun _ => rfl) rfl h1
    rw [hrun]
    refine Inv.enter fun m => CallsIn.mono (hcalls m) ?_
    rintro e w' ⟨v, Γ', rfl, hrel, hno, hx', hst, hb⟩
    have hext2 : Ext Γ ⟨Γ.nm, Γ'.fz, Γ.lo⟩ := ⟨fun _ _ e => e, hx'.fz, rfl, fun b hb => hx'.same b (Nat.lt_of_lt_of_le hb R.lo)⟩
    refine ⟨v, r, s', ⟨Γ.nm, Γ'.fz, Γ.lo⟩, rfl, hh _ _ hhas, hrel.agree (agrees0 (Γ1 := Γ') (Γ2 := ⟨Γ.nm, Γ'.fz, Γ.lo⟩) rfl) hrl, ?_⟩
    exact ⟨hext2, fun _ _ => rfl, Nat.le_of_eq h2.nx.symm, by rw [h2.nx]; exact hF, by rw [h2.h]; exact R.over hb rfl hext2 hst hx'.same⟩
  | false =>
    rw [hl] at g hN
    obtain ⟨x, s', h1, h2, h3⟩ := Pts.get_good R (Γt := Gam.all w) ⟨fun _ _ h => absurd h (Nat.not_lt_zero _), fun b o e => R.stay b o e⟩ S.ps (.inr fun _ _ e => e) rfl hv g
    rw [h3] at g hN ⊢
    obtain ⟨hp, g2, hh⟩ := need_good (m := ((S.res x).ctf false).run) g
    have hp : S.pre x := dec_eq.1 hp
    obtain ⟨r, hr, hfl, hhas⟩ := ctf_good g2
    obtain ⟨hrl, hpure⟩ := h x hp r hr
    obtain ⟨hrun, hcalls⟩ := hpure (Gam.all w) w vs (fun _ _ e => e) (fun _ => rfl) rfl h1
    rw [hrun]
    refine Inv.enter fun m => CallsIn.mono (hcalls m) ?_
    rintro e w' ⟨v, Γ', rfl, hrel, hno, hx', hst, hb⟩
    refine ⟨v, r, s', Γ, rfl, hh _ _ hhas, hrel.flat hfl, ?_⟩
    have hst' : ∀ b ob, Γ.fz b = some ob → w'.heap[b]? = some ob := fun b ob e => by
      have e1 := R.stay b ob e
      have : b < w.heap.size := by
        rcases Nat.lt_or_ge b w.heap.size with q | q
        · exact q
        · rw [Array.getElem?_eq_none q] at e1; cases e1
      rw [hb.block b this]; exact e1
    exact ⟨Ext.refl Γ, fun _ _ => rfl, Nat.le_of_eq h2.nx.symm, by rw [h2.nx]; exact hF, by rw [h2.h]; exact R.over hb rfl (Ext.refl Γ) hst' (fun _ _ => rfl)⟩

theorem ctAny_sound {f : FuncId} : ∀ {l : List FSpec}, (∀ S ∈ l, S.Kept P f) → CtrSound P f (ctAny l)
  | [], _ => by
    intro E base w0 Γ s w as vs N hty R hv g
    exact g.elim
  | S :: l, h => by
    intro E base w0 Γ s w as vs N hty R hv g hN hF hLH
    have e : ctAny (S :: l) as = sel (Pts.fits S.ps as) (S.ct as) (ctAny l as) := rfl
    rw [e] at g hN ⊢
    cases hx : Pts.fits S.ps as with
    | false =>
      rw [hx] at g hN
      exact ctAny_sound (fun S hS => h S (by simp [hS])) E base w0 Γ s w as vs N hty R hv g hN hF hLH
    | true =>
      rw [hx] at g hN
      exact S.ct_sound (h S (by simp)) E base w0 Γ s w as vs N hty R hv g hN hF hLH

theorem findCtr_mem {α : Type} {f : Nat} {g : α} : ∀ {l : List (Nat × α)}, findCtr f l = some g → (f, g) ∈ l
  | [], h => by cases h
  | p :: l, h => by
    unfold findCtr at h
    rw [sel_eq, beqN] at h
    by_cases c : f = p.1
    · rw [if_pos (by simpa using c)] at h
      cases h
      rw [c]; exact List.mem_cons_self ..
    · rw [if_neg (by simpa using c)] at h
      exact List.mem_cons_of_mem _ (findCtr_mem h)

/-- An environment with contracts. -/
noncomputable def envOf (P : Program) (cs : List (FuncId × List FSpec)) (ls : List (Nat × LoopC)) : Env := ⟨(mkEnv P).ty, (mkEnv P).fn, [], cs.map (fun p => (p.1, ctAny p.2)), ls⟩

theorem envOf_ok (cs : List (FuncId × List FSpec)) (ls : List (Nat × LoopC)) (hc : ∀ p ∈ cs, ∀ S ∈ p.2, S.Kept P p.1) (hl : ∀ p ∈ ls, LpSound P p.2) : EnvR (envOf P cs ls) P :=
  { ty0 := rfl
    fn := (env_new P).fn
    ctr := fun f g h => by
      have := findCtr_mem h
      obtain ⟨p, hp, e⟩ := List.mem_map.1 this
      cases e
      exact ctAny_sound (hc p hp)
    lps := fun n p h => hl _ (findCtr_mem h) }

theorem FSpec.kept (hX : ExtOk P) (hm : P.follows .mixedOrders = true) (cs : List (FuncId × List FSpec)) (ls : List (Nat × LoopC)) (hc : ∀ p ∈ cs, ∀ S ∈ p.2, S.Kept P p.1) (hl : ∀ p ∈ ls, LpSound P p.2)
    (S : FSpec) {f : FuncId} (fuel : Nat) (c : Code) {nt : Nat} {rs : List ResultVar} (hmk : mkFn P f = some (.code (unmark ls c) nt rs)) (hc' : markOk c = true)
    (h : ∀ x, S.pre x → (S.run (envOf P cs ls) c nt rs fuel x).holds fun q => q.1 = true ∧ (S.res x).val = some q.2) : S.Kept P f := by
  intro x hx r hr
  have hh := h x hx
  refine pure_of_eval hX hm (envOf_ok cs ls hc hl) rfl hmk c hc' rfl fuel (r := r) ?_ ?_
  · exact view_holds (fun a s k => k.1) hh
  · exact holds_val (fun a s k => by have := k.2; rw [hr] at this; exact (Option.some.inj this).symm) hh

theorem PSpec.kept (hX : ExtOk P) (hm : P.follows .mixedOrders = true) (cs : List (FuncId × List FSpec)) (ls : List (Nat × LoopC)) (hc : ∀ p ∈ cs, ∀ S ∈ p.2, S.Kept P p.1) (hl : ∀ p ∈ ls, LpSound P p.2)
    (S : PSpec) (fuel : Nat) (μ : Pts (S.keep.map (·.2)) → Pos (S.objs.map (·.2)) → Nat) (hmk : markOk S.body = true)
    (h : ∀ x y, S.inv x y → (S.round (envOf P cs ls) fuel x y).holds fun q => q.1 = true ∧ match q.2.1 with
      | .normal => ∃ x' y', Pts.vals _ x' = q.2.2.1 ∧ Pos.obs _ y' = q.2.2.2 ∧ S.inv x' y' ∧ μ x' y' < μ x y ∧ (S.res x' y').val = (S.res x y).val
      | e => (S.res x y).val = some (e, q.2.2)) : LpSound P (S.loop ls) :=
  PSpec.sound hX hm (envOf_ok cs ls hc hl) rfl S fuel μ hmk h

end
end Go.Ev

namespace Go.Ev
set_option linter.unusedSectionVars false
set_option linter.unusedVariables false
set_option linter.unusedSimpArgs false
open Go Go.RowKit
variable [Univ]

/-! Contracts of functions that are given a cell of the caller's, and turn it. -/

section
variable {P : Program} {E : Env} {base : Nat} {w0 : World} {Γ Γt : Gam} {w w' : World} {s : St}

/-- One cell, alone in its block, has another value; blocks have been made. -/
theorem Rel.cell1 {h : Tr AObj} (R : Rel E base w0 Γ h w) {n : Nat} {i : Info} (hi : Γ n = some i) {v v' : AVal} {e : TypeId} {x : Nat × Nat × Nat} (ho : h.get n = some (.cells [v] e false false n 0 [x]))
    (os : w'.os = w.os) (tape : w'.tape = w.tape) (output : w'.output = w.output) (size : w.heap.size ≤ w'.heap.size) (blk : ∀ k, k < w.heap.size → k ≠ i.b → w'.heap[k]? = w.heap[k]?)
    {C' : Array Value} {fz' : Nat × Nat} (hb' : w'.heap[i.b]? = some (.cells C' e fz')) (hsz : C'.size = i.csz) {u : Value} (hc0 : C'[0]? = some u) (hu : VRel Γ v' u) (hfz : ∀ k, k < C'.size → fz'.1 ≤ k → k < fz'.2 → False) :
    Rel E base w0 Γ (h.set n (.cells [v'] e false false n 0 [x])) w' := by
  have hn := (R.dom n i hi).1
  have gs := R.gs n (.cells [v'] e false false n 0 [x]) hn
  obtain ⟨i', hi', hasz, hroot, C, fz, hb, hcsz, hfit, _, _⟩ := R.obj n _ hn ho
  rw [hi] at hi'; cases hi'
  have h0 : i.o = 0 := R.own n i _ _ _ _ _ hn ho hi
  have hx : x.1 = n := by
    have := R.fam n _ _ _ _ _ _ hn ho _ _ _ _ _ _ _ ho
    rw [List.mem_singleton] at this
    rw [← this]
  have lone : ∀ m p j, m < LH → m ≠ n → h.get m = some p → p.live → Γ m = some j → j.b = i.b → False := by
    intro m p j hm ne hp hl hj eb
    have := R.inj m n p _ j i hm hn hp ho hl rfl ne hj hi eb
    cases p with
    | cells cs e2 frz dd root rel al =>
      have hdd : dd = false := hl
      subst hdd
      obtain ⟨hr, _⟩ := this
      subst hr
      have := R.fam m _ _ _ _ _ _ hm hp _ _ _ _ _ _ _ ho
      rw [List.mem_singleton] at this
      rw [← this] at hx
      exact ne hx
    | _ => exact this
  have same : ∀ m p j, m < LH → m ≠ n → h.get m = some p → p.live → Γ m = some j → w'.heap[j.b]? = w.heap[j.b]? := fun m p j hm ne hp hl hj =>
    blk _ (R.dom m j hj).2.2 fun eb => lone m p j hm ne hp hl hj eb
  constructor
  · exact tr_deep_set _ DH h n R.deep
  · refine R.below.trans ⟨os, tape, output, size, fun k hk => blk k (Nat.lt_of_lt_of_le hk R.room) ?_⟩
    have := (R.dom n i hi).2.1; omega
  · exact Nat.le_trans R.room size
  · intro m j hj
    obtain ⟨a, b, c⟩ := R.dom m j hj
    exact ⟨a, b, Nat.lt_of_lt_of_le c size⟩
  · intro m p hm hp
    rw [gs m hm] at hp
    by_cases c : m = n
    · subst c
      rw [if_pos rfl] at hp; cases hp
      refine ⟨i, hi, hasz, hroot, C', fz', hb', hsz, hfit, fun _ k a ha => ?_, fun _ _ k hk => hfz k (by omega)⟩
      cases k with
      | zero => simp at ha; subst ha; exact ⟨u, by rw [h0]; exact hc0, hu⟩
      | succ k => simp at ha
    · rw [if_neg c] at hp
      have hO := R.obj m p hm hp
      by_cases lv : p.live
      · exact hO.keep (Ext.refl _) fun j hj => same m p j hm c hp lv hj
      · cases p with
        | done => trivial
        | cells cs e2 frz dd root rel al =>
          obtain ⟨j, g1, g2, g3, D, fz1, g4, g5, g6, g7, g8⟩ := hO
          have hdd : dd = true := by
            cases dd with
            | true => rfl
            | false => exact absurd rfl lv
          subst hdd
          by_cases eb : j.b = i.b
          · rw [eb, hb] at g4; cases g4
            exact ⟨j, g1, g2, g3, C', fz', by rw [eb]; exact hb', by omega, g6, fun q => (by cases q), fun q => (by cases q)⟩
          · exact ⟨j, g1, g2, g3, D, fz1, by rw [blk _ (R.dom m j g1).2.2 eb]; exact g4, g5, g6, g7, g8⟩
        | map _ _ _ => exact absurd trivial lv
        | miter _ _ _ => exact absurd trivial lv
        | siter _ _ _ => exact absurd trivial lv
        | arr _ _ => exact absurd trivial lv
        | rcd _ => exact absurd trivial lv
  · intro m q p1 p2 j k hm hq h1 h2 l1 l2 ne e1 e2 eb
    rw [gs m hm] at h1
    rw [gs q hq] at h2
    by_cases c : m = n
    · subst c
      rw [if_neg (fun z => ne z.symm)] at h2
      rw [hi] at e1; cases e1
      exact (lone q p2 k hq (fun z => ne z.symm) h2 l2 e2 eb.symm).elim
    · rw [if_neg c] at h1
      by_cases c' : q = n
      · subst c'
        rw [hi] at e2; cases e2
        exact (lone m p1 j hm c h1 l1 e1 eb).elim
      · rw [if_neg c'] at h2
        exact R.inj m q p1 p2 j k hm hq h1 h2 l1 l2 ne e1 e2 eb
  · intro m cs1 e1 frz1 root1 rel1 al1 hm h1 cs' e' frz' d' root' rel' al' h2
    have key : ∀ y, y < LH → ∀ cs2 e2 f2 d2 r2 l2 a2, (h.set n (.cells [v'] e false false n 0 [x])).get y = some (.cells cs2 e2 f2 d2 r2 l2 a2) →
        ∃ cs3 e3 f3, h.get y = some (.cells cs3 e3 f3 d2 r2 l2 a2) ∧ cs3.length = cs2.length := by
      intro y hy cs2 e2 f2 d2 r2 l2 a2 hg
      rw [gs y hy] at hg
      by_cases c : y = n
      · subst c; rw [if_pos rfl] at hg; cases hg; exact ⟨[v], e, false, ho, rfl⟩
      · rw [if_neg c] at hg; exact ⟨cs2, e2, f2, hg, rfl⟩
    obtain ⟨cs3, e3, f3, h3, l3⟩ := key m hm _ _ _ _ _ _ _ h1
    obtain ⟨_, _, _, ⟨⟨r, hr⟩, _⟩, _⟩ := R.obj m _ hm h3
    obtain ⟨cs4, e4, f4, h4, _⟩ := key root1 (R.dom root1 r hr).1 _ _ _ _ _ _ _ h2
    have := R.fam m cs3 e3 f3 root1 rel1 al1 hm h3 cs4 e4 f4 d' root' rel' al' h4
    rwa [l3] at this
  · intro m q since seen kt es clock j k ents b borns stepped hm hq h1 h2 e1 e2 b1 b2
    rw [gs m hm] at h1
    rw [gs q hq] at h2
    have cm : m ≠ n := fun z => by subst z; rw [if_pos rfl] at h1; cases h1
    have cq : q ≠ n := fun z => by subst z; rw [if_pos rfl] at h2; cases h2
    rw [if_neg cm] at h1
    rw [if_neg cq] at h2
    rw [same m _ j hm cm h1 trivial e1] at b1
    rw [same q _ k hq cq h2 trivial e2] at b2
    exact R.iter m q since seen kt es clock j k ents b borns stepped hm hq h1 h2 e1 e2 b1 b2
  · intro m j cs1 e1 frz1 rel1 al1 hm h1 ej
    rw [gs m hm] at h1
    by_cases c : m = n
    · subst c
      rw [hi] at ej; cases ej; exact h0
    · rw [if_neg c] at h1
      exact R.own m j _ _ _ _ _ hm h1 ej
  · intro b ob hb1
    rw [blk b (R.stay_lt hb1) fun q => ?_]
    · exact R.stay b ob hb1
    · have := R.sep n i _ hn ho rfl hi
      rw [q, this] at hb1; cases hb1
  · intro m j o1 hm h1 l1 e1
    rw [gs m hm] at h1
    by_cases c : m = n
    · subst c
      rw [hi] at e1; cases e1
      exact R.sep m i _ hm ho rfl hi
    · rw [if_neg c] at h1
      exact R.sep m j o1 hm h1 l1 e1
  · exact Nat.le_trans R.lo size

end

/-- A function with a cell: what stands ahead of the cell's address, and behind it. -/
structure WSpec where
  ps : List Pt
  qs : List Pt
  cell : Pt
  et : TypeId
  pre : Pts ps → cell.ty → Pts qs → Prop
  res : Pts ps → cell.ty → Pts qs → Dt (AVal × AVal)

/-- A result, and what the cell is told to be. -/
noncomputable def Dt.ctw (n : Nat) : Dt (AVal × AVal) → CT AVal
  | .leaf a => sel (a.1.flat && a.2.flat && isCell a.2) (.wr n 0 a.2 (.ret a.1)) .fail
  | .ite c l r => .ite c (l.ctw n) (r.ctw n)
  | .fail => .fail

noncomputable def WSpec.in2 (S : WSpec) (n off : Nat) (a1 a2 : List AVal) : CT AVal := sel (Nat.beq off 0 && AVal.lows 0 a1 && AVal.lows 0 a2)
  (Pts.get S.ps a1 fun x => Pts.get S.qs a2 fun z => .one n S.et fun v => okOr (sel v.flat (S.cell.ext v.sym) none) fun y => .need (dec (S.pre x y z)) ((S.res x y z).ctw n)) .fail

noncomputable def WSpec.ct (S : WSpec) (as : List AVal) : CT AVal := match drp as (len S.ps) with
  | [] => .fail
  | a :: l => match a with
    | .ptr n off => S.in2 n off (tak as (len S.ps)) l
    | _ => .fail

/-- What a function comes to that is given a cell. -/
def WCalls (P : Program) (f : FuncId) (et : TypeId) (a1 : List AVal) (x : AVal) (a2 : List AVal) (r x' : AVal) : Prop :=
  ∀ (Γ : Gam) (w : World) (b : Nat) (C : Array Value) (fz : Nat × Nat) (v : Value) (v1 v2 : List Value), (∀ b ob, Γ.fz b = some ob → w.heap[b]? = some ob) → (∀ n, Γ n = none) → Γ.lo = w.heap.size →
  Γ.fz b = none → w.heap[b]? = some (.cells C et fz) → C[0]? = some v → VRel Γ x v → (∀ k, k < C.size → fz.1 ≤ k → k < fz.2 → False) → VRels Γ a1 v1 → VRels Γ a2 v2 →
  (callFunc f (v1 ++ .pointer (some ⟨b, 0, none⟩) :: v2).toArray).run P w = .ok (.enter f (v1 ++ .pointer (some ⟨b, 0, none⟩) :: v2).toArray) w ∧
  ∀ m, CallsIn (FW none) m P f (v1 ++ .pointer (some ⟨b, 0, none⟩) :: v2).toArray w fun e w' => ∃ u v' C' fz', e = .returned u ∧ VRel Γ r u ∧ w'.os = w.os ∧ w'.tape = w.tape ∧ w'.output = w.output ∧ w.heap.size ≤ w'.heap.size ∧
    (∀ k, k < w.heap.size → k ≠ b → w'.heap[k]? = w.heap[k]?) ∧ w'.heap[b]? = some (.cells C' et fz') ∧ C'.size = C.size ∧ C'[0]? = some v' ∧ VRel Γ x' v' ∧ ∀ k, k < C'.size → fz'.1 ≤ k → k < fz'.2 → False

noncomputable def WSpec.inS (S : WSpec) (y : S.cell.ty) : St := ⟨heapOf [(0, .cells [S.cell.val y] S.et false false 0 0 [(0, 0, 1)])], 1, 0, [], []⟩
/-- The cell, as it is left. -/
noncomputable def cellAt (et : TypeId) (s : St) : Option AVal := match s.h.get 0 with
  | none => none
  | some o => match o with
    | .cells cs e frz dead root rel al => (match cs with
      | [] => none
      | c :: l => (match l with
        | [] => sel (Nat.beq e et && not frz && not dead && c.flat) (some c.sym) none
        | _ => none))
    | _ => none
noncomputable def WSpec.run (S : WSpec) (E : Env) (c : Code) (nt : Nat) (rs : List ResultVar) (fuel : Nat) (x : Pts S.ps) (y : S.cell.ty) (z : Pts S.qs) : Dt (Bool × Option (AVal × AVal)) :=
  (evAFn (.code c nt rs) E (evCode fuel E false) (Pts.vals S.ps x ++ .ptr 0 0 :: Pts.vals S.qs z) (S.inS y)).view fun a s => (a.flat && Nat.ble s.nx LH, match cellAt S.et s with | some c => some (a.sym, c) | none => none)

/-- A contract is kept. -/
def WSpec.Kept (P : Program) (f : FuncId) (S : WSpec) : Prop := ∀ x y z, S.pre x y z → ∀ r, (S.res x y z).val = some r → WCalls P f S.et (Pts.vals S.ps x) (S.cell.val y) (Pts.vals S.qs z) r.1 r.2

mutual
theorem flat_sym : ∀ a : AVal, AVal.flat a = true → AVal.flat a.sym = true
  | .bool _, _ => by unfold AVal.sym AVal.flat; rfl
  | .int _ _, _ => by unfold AVal.sym AVal.flat; rfl
  | .str _, _ => by unfold AVal.sym AVal.flat; rfl
  | .sb _, _ => rfl
  | .si _ _, _ => rfl
  | .ss _, _ => rfl
  | .nilp, _ => rfl
  | .nils, _ => rfl
  | .nilm, _ => rfl
  | .nilf, _ => rfl
  | .nili, _ => rfl
  | .agg l, h => by unfold AVal.flat at h; unfold AVal.sym AVal.flat; exact flats_sym l h
  | .tup l, h => by unfold AVal.flat at h; unfold AVal.sym AVal.flat; exact flats_sym l h
  | .ptr _ _, h => by cases h
  | .slice _ _ _ _ _, h => by cases h
  | .map _, h => by cases h
  | .fn _ _ _, h => by cases h
  | .iface _ _, h => by cases h
  | .raw _, h => by cases h
  | .any, h => by cases h
  | .yld _, h => by cases h
  | .dsl _ _, h => by cases h
  | .dptr _ _ _ _, h => by cases h
  | .asl _ _ _ _, h => by cases h
  | .aptr _ _ _ _, h => by cases h
theorem flats_sym : ∀ l : List AVal, AVal.flats l = true → AVal.flats (AVal.syms l) = true
  | [], _ => rfl
  | a :: l, h => by
    unfold AVal.flats at h; rw [Bool.and_eq_true] at h
    unfold AVal.syms AVal.flats; rw [Bool.and_eq_true]
    exact ⟨flat_sym a h.1, flats_sym l h.2⟩
end

theorem cellAt_some {et : TypeId} {s : St} {c : AVal} (h : cellAt et s = some c) : ∃ c0 root rel al, s.h.get 0 = some (.cells [c0] et false false root rel al) ∧ c0.flat = true ∧ c = c0.sym := by
  unfold cellAt at h
  split at h
  · cases h
  rename_i o ho
  split at h
  · rename_i cs e frz dead root rel al
    split at h
    · cases h
    rename_i c0 l
    split at h
    · cases hq : (Nat.beq e et && !frz && !dead && c0.flat) with
      | false => rw [hq] at h; cases h
      | true =>
        rw [hq] at h
        cases h
        simp only [Bool.and_eq_true, Bool.not_eq_true'] at hq
        obtain ⟨⟨⟨h1, h2⟩, h3⟩, h4⟩ := hq
        rw [beq_of h1, h2, h3] at ho
        exact ⟨c0, root, rel, al, ho, h4, rfl⟩
    · cases h
  · cases h

section
variable {P : Program}

theorem rdHead_one {n : Nat} {s : St} {e0 : TypeId} {k : AVal → M AVal} (g : ((oneCell n e0 k) s).Good) : ∃ v x s', s.h.get n = some (.cells [v] e0 false false n 0 [x]) ∧ Same s s' ∧ (oneCell n e0 k) s = k v s' := by
  unfold oneCell at g ⊢
  obtain ⟨cs, e, frz, dead, root, rel, al, s1, h1, h2, h3⟩ := rdHead_good (good_step g)
  rw [bind_ok h2] at g ⊢
  obtain ⟨cs2, e2, frz2, dead2, root2, rel2, al2, s2, h4, h5, h6⟩ := rdAlive_good (good_step g)
  rw [bind_ok h5] at g ⊢
  rw [h3.h, h1] at h4
  cases h4
  obtain ⟨hq, hr⟩ := req_good g
  rw [hr] at g ⊢
  simp only [Bool.and_eq_true, Bool.not_eq_true'] at hq
  obtain ⟨⟨⟨⟨⟨⟨q1, q2⟩, q3⟩, q4⟩, q5⟩, q6⟩, q7⟩ := hq
  obtain ⟨cs3, e3, frz3, root3, rel3, al3, v, s3, r1, r2, r3, r4⟩ := rdCell_good (good_step g)
  rw [bind_ok r3]
  rw [h6.h, h3.h, h1] at r1
  cases r1
  have hl : cs.length = 1 := beq_of q5
  obtain ⟨v0, rfl⟩ := List.length_eq_one_iff.1 hl
  simp at r2
  subst r2
  have hal : ∃ x, al = [x] := by
    match al, q6 with
    | [x], _ => exact ⟨x, rfl⟩
  obtain ⟨x, rfl⟩ := hal
  have q1' : root = n := beq_of q1
  have q2' : rel = 0 := beq_of q2
  have q3' : frz = false := q3
  have q7' : e = e0 := beq_of q7
  subst q1' q2' q3' q7'
  exact ⟨v0, x, s3, h1, h3.trans (h6.trans r4), rfl⟩

theorem storeAt_one {n : Nat} {v c : AVal} {e : TypeId} {x : Nat × Nat × Nat} {s : St} (hn : n < LH) (ho : s.h.get n = some (.cells [v] e false false n 0 [x])) (g : (storeAt n 0 [c] s).Good) :
    ∃ s', storeAt n 0 [c] s = .ok () s' ∧ s'.h = s.h.set n (.cells [c] e false false n 0 [x]) ∧ s'.nx = s.nx := by
  change (M.bind (rdHead n) (fun h => M.bind (rdAlive h.root) fun l => storeRest n 0 [c] h l) s).Good at g
  show ∃ s', M.bind (rdHead n) (fun h => M.bind (rdAlive h.root) fun l => storeRest n 0 [c] h l) s = .ok () s' ∧ _
  obtain ⟨cs, e1, frz, dead, root, rel, al, s1, h1, h2, h3⟩ := rdHead_good (good_step g)
  rw [bind_ok h2] at g ⊢
  rw [ho] at h1
  cases h1
  obtain ⟨cs2, e2, frz2, dead2, root2, rel2, al2, s2, h4, h5, h6⟩ := rdAlive_good (good_step g)
  rw [bind_ok h5] at g ⊢
  simp only [] at h4
  rw [h3.h, ho] at h4
  cases h4
  have g : (wrCells n 0 [c] s2).Good := g
  show ∃ s', wrCells n 0 [c] s2 = .ok () s' ∧ _
  obtain ⟨cs3, e3, root3, rel3, al3, s3, r1, r2, r3, r4, r5⟩ := wrCells_good g
  rw [h6.h, h3.h, ho] at r1
  cases r1
  refine ⟨s3, r4, ?_, by rw [r5.nx, h6.nx, h3.nx]⟩
  rw [r5.h, h6.h, h3.h]
  rfl

theorem ctw_good {n : Nat} : ∀ {t : Dt (AVal × AVal)} {s : St}, ((t.ctw n).run s).Good → ∃ r, t.val = some r ∧ r.1.flat = true ∧ r.2.flat = true ∧ (storeAt n 0 [r.2] s).Good ∧ ∀ s', storeAt n 0 [r.2] s = .ok () s' → ((t.ctw n).run s).Has r.1 s'
  | .leaf a, s, g => by
    unfold Dt.ctw at g ⊢
    cases hb : (a.1.flat && a.2.flat && isCell a.2) with
    | false => rw [hb] at g; exact g.elim
    | true =>
      rw [hb, sel_true] at g
      simp only [Bool.and_eq_true] at hb
      have g : (M.bind (storeAt n 0 [a.2]) (fun _ => M.pure a.1) s).Good := g
      refine ⟨a, rfl, hb.1.1, hb.1.2, good_step g, fun s' e => ?_⟩
      show (M.bind (storeAt n 0 [a.2]) (fun _ => M.pure a.1) s).Has _ _
      rw [bind_ok e]; exact ⟨rfl, rfl⟩
  | .ite true l _, _, g => ctw_good (t := l) g
  | .ite false _ r, _, g => ctw_good (t := r) g
  | .fail, _, g => g.elim

theorem WSpec.calls (hX : ExtOk P) (hm : P.follows .mixedOrders = true) {E : Env} (hE : EnvR E P) (hl : E.loops = []) (S : WSpec) {f : FuncId} {c : Code} {nt : Nat} {rs : List ResultVar} (hmk : mkFn P f = some (.code c nt rs))
    (c' : Code) (hc' : markOk c' = true) (hu : unmark E.lps c' = c) (fuel : Nat) (x : Pts S.ps) (y : S.cell.ty) (z : Pts S.qs) {r : AVal × AVal}
    (hh : (S.run E c' nt rs fuel x y z).holds fun q => q.1 = true ∧ q.2 = some r) : WCalls P f S.et (Pts.vals S.ps x) (S.cell.val y) (Pts.vals S.qs z) r.1 r.2 := by
  intro Γ w b C fz v v1 v2 hst hno hlo hnb hb hc0 hv hfz hv1 hv2
  obtain ⟨a, t, hdet, hq⟩ := holds_det hh
  simp only [Bool.and_eq_true] at hq
  obtain ⟨⟨hq1, hq2⟩, hq3⟩ := hq
  have hq2 := Nat.le_of_ble_eq_true hq2
  obtain ⟨c1, hc1, hr⟩ : ∃ c1, cellAt S.et t = some c1 ∧ r = (a.sym, c1) := by
    cases hc : cellAt S.et t with
    | none => rw [hc] at hq3; cases hq3
    | some c1 => rw [hc] at hq3; cases hq3; exact ⟨c1, rfl, rfl⟩
  subst hr
  obtain ⟨c0, root, rel, al, hget, hfl, rfl⟩ := cellAt_some hc1
  have hbs : b < w.heap.size := (Array.getElem?_eq_some_iff.1 hb).1
  have hCs : 0 < C.size := (Array.getElem?_eq_some_iff.1 hc0).1
  let Γ0 : Gam := ⟨fun n => if n = 0 then some ⟨b, 0, 1, C.size, default⟩ else none, fun k => if k = b then none else w.heap[k]?, w.heap.size⟩
  have e0 : Γ0 0 = some ⟨b, 0, 1, C.size, default⟩ := rfl
  have en : ∀ n i, Γ0 n = some i → n = 0 ∧ i = ⟨b, 0, 1, C.size, default⟩ := by
    intro n i e
    have e : (if n = 0 then some (⟨b, 0, 1, C.size, default⟩ : Info) else none) = some i := e
    by_cases hn : n = 0
    · rw [if_pos hn] at e; cases e; exact ⟨hn, rfl⟩
    · rw [if_neg hn] at e; cases e
  have fzm : ∀ k o, Γ.fz k = some o → Γ0.fz k = some o := by
    intro k o e
    show (if k = b then none else w.heap[k]?) = some o
    rw [if_neg (fun q => by rw [q, hnb] at e; cases e)]
    exact hst k o e
  have nmm : ∀ n i, Γ n = some i → Γ0 n = some i := fun n i e => by rw [hno] at e; cases e
  have gs : ∀ m, m < LH → (S.inS y).h.get m = if m = 0 then some (.cells [S.cell.val y] S.et false false 0 0 [(0, 0, 1)]) else none := by
    intro m hm
    have := tr_get_set (AObj.cells [S.cell.val y] S.et false false 0 0 [(0, 0, 1)]) DH (Tr.full DH) 0 m (tr_deep_full DH) (by decide) hm
    rw [tr_get_full] at this
    unfold WSpec.inS heapOf
    simp only [List.foldl_cons, List.foldl_nil]
    exact this
  have one : ∀ m o, m < LH → (S.inS y).h.get m = some o → m = 0 ∧ o = .cells [S.cell.val y] S.et false false 0 0 [(0, 0, 1)] := by
    intro m o hm ho
    rw [gs m hm] at ho
    by_cases h0 : m = 0
    · rw [if_pos h0] at ho; cases ho; exact ⟨h0, rfl⟩
    · rw [if_neg h0] at ho; cases ho
  have R0 : Rel E b w Γ0 (S.inS y).h w :=
    { deep := heapOf_deep _
      below := Below.refl _ _
      room := Nat.le_of_lt hbs
      dom := fun n i h => by obtain ⟨rfl, rfl⟩ := en n i h; exact ⟨by decide, Nat.le_refl _, hbs⟩
      obj := fun n o hn h => by
        obtain ⟨rfl, rfl⟩ := one n o hn h
        refine ⟨_, e0, rfl, ⟨⟨_, e0⟩, fun x hx => by rw [List.mem_singleton] at hx; subst hx; decide⟩, C, fz, hb, rfl, by simp only []; omega, fun _ k a ha => ?_, fun _ _ k hk => hfz k hk⟩
        cases k with
        | zero => simp at ha; subst ha; exact ⟨v, by simpa using hc0, hv.names nmm fzm⟩
        | succ k => simp at ha
      inj := fun n m o p i j hn hm h1 h2 _ _ ne => by
        obtain ⟨rfl, _⟩ := one n o hn h1
        obtain ⟨rfl, _⟩ := one m p hm h2
        exact absurd rfl ne
      fam := fun n cs e frz root rel al hn h1 cs' e' frz' d' root' rel' al' h2 => by
        obtain ⟨rfl, q⟩ := one n _ hn h1
        cases q
        rw [gs 0 (by decide), if_pos rfl] at h2
        cases h2
        exact List.mem_singleton.2 rfl
      iter := fun n m since seen kt es clock i j ents b borns stepped hn _ h => by obtain ⟨_, q⟩ := one n _ hn h; cases q
      own := fun n i cs e frz rel al hn h hi => by obtain ⟨rfl, rfl⟩ := en n i hi; rfl
      stay := fun k ob e => by
        have e : (if k = b then none else w.heap[k]?) = some ob := e
        by_cases hk : k = b
        · rw [if_pos hk] at e; cases e
        · rw [if_neg hk] at e; exact e
      lo := Nat.le_refl _
      sep := fun n i o hn h _ hi => by obtain ⟨rfl, rfl⟩ := en n i hi; exact if_pos rfl }
  have hargs : VRels Γ0 (Pts.vals S.ps x ++ .ptr 0 0 :: Pts.vals S.qs z) (v1 ++ .pointer (some ⟨b, 0, none⟩) :: v2).toArray.toList := by
    rw [List.toList_toArray]
    refine (hv1.names nmm fzm).append (.cons ?_ (hv2.names nmm fzm))
    unfold VRel
    exact ⟨_, e0, rfl⟩
  obtain ⟨_, _, _, _, _, _, hrun⟩ := mkFn_code hmk
  refine ⟨hrun _ _, fun m => ?_⟩
  refine CallsIn.mono (fn_sound_code (N := LH) (code_sound (base := b) (w0 := w) hX hm fuel) hE hmk hc' hu R0 (by rw [hl]; intro d hd; cases hd) hargs (det_has hdet).1 (fun b u k => by obtain ⟨rfl, rfl⟩ := det_only hdet k; exact hq2)
    (fun n h1 _ => if_neg (by have h1 : 1 ≤ n := h1; omega)) (Nat.le_refl _) m) ?_
  rintro e w' ⟨u, bb, uu, Γ', rfl, hh', hrel, hG⟩
  obtain ⟨rfl, rfl⟩ := det_only hdet hh'
  obtain ⟨i', hi', hasz, _, C', fz', hb', hcsz, hfit, hvals, hfrz⟩ := hG.rel.obj 0 _ (by decide) hget
  have := hG.ext.nm 0 _ e0
  rw [this] at hi'
  cases hi'
  obtain ⟨v', hv1', hv2'⟩ := hvals rfl 0 c0 rfl
  refine ⟨u, v', C', fz', rfl, (hrel.sym).flat (flat_sym _ hq1), hG.rel.below.os, hG.rel.below.tape, hG.rel.below.output, hG.rel.below.size, fun k hk hkb => ?_, hb', hcsz, by simpa using hv1', (hv2'.sym).flat (flat_sym _ hfl), fun k hk => hfrz rfl rfl k (by rw [← hcsz]; exact hk)⟩
  have hk2 : Γ0.fz k = w.heap[k]? := if_neg hkb
  cases hw : w.heap[k]? with
  | none => rw [Array.getElem?_eq_none_iff] at hw; omega
  | some ob =>
    rw [hw] at hk2
    exact hG.rel.stay k ob (hG.ext.fz k ob hk2)

theorem WSpec.ct_sound {f : FuncId} (S : WSpec) (h : S.Kept P f) : CtrSound P f S.ct := by
  intro E base w0 Γ s w as vs N hty R hv g hN hF hLH
  unfold WSpec.ct at g hN ⊢
  rw [drp_eq, tak_eq, len_eq] at g hN ⊢
  have hv1 := hv.take S.ps.length
  have hv2 := hv.drop S.ps.length
  have hsplit := List.take_append_drop S.ps.length vs.toList
  cases hd : as.drop S.ps.length with
  | nil => rw [hd] at g; exact g.elim
  | cons a l =>
  rw [hd] at g hN hv2
  simp only [] at g hN ⊢
  cases a <;> simp only [] at g hN ⊢ <;> first
    | exact g.elim
    | skip
  rename_i n off
  obtain ⟨pv, v2, hvd, hp, hv3⟩ := hv2.cons_inv
  rw [hvd] at hsplit
  generalize vs.toList.take S.ps.length = v1 at hv1 hsplit
  generalize as.take S.ps.length = a1 at g hN hv1 ⊢
  have hvs : vs = (v1 ++ pv :: v2).toArray := by rw [hsplit]
  unfold WSpec.in2 at g hN ⊢
  cases hq : (Nat.beq off 0 && AVal.lows 0 a1 && AVal.lows 0 l) with
  | false => rw [hq] at g; exact g.elim
  | true =>
  rw [hq, sel_true] at g hN
  rw [sel_true]
  simp only [Bool.and_eq_true] at hq
  obtain ⟨⟨q0, q1⟩, q2⟩ := hq
  have : off = 0 := beq_of q0
  subst this
  unfold VRel at hp
  obtain ⟨i, hi, rfl⟩ := hp
  obtain ⟨x, s1, x1, x2, x3⟩ := Pts.get_good R (Γt := Γ.bare w) (agrees0 rfl) S.ps (.inl q1) rfl hv1 g
  rw [x3] at g hN ⊢
  obtain ⟨z, s2, z1, z2, z3⟩ := Pts.get_good R (Γt := Γ.bare w) (agrees0 rfl) S.qs (.inl q2) x2.h hv3 g
  rw [z3] at g hN ⊢
  have g : (oneCell n S.et (fun v => (okOr (sel v.flat (S.cell.ext v.sym) none) fun y => CT.need (dec (S.pre x y z)) ((S.res x y z).ctw n)).run) s2).Good := g
  have hN : ∀ a s', (oneCell n S.et (fun v => (okOr (sel v.flat (S.cell.ext v.sym) none) fun y => CT.need (dec (S.pre x y z)) ((S.res x y z).ctw n)).run) s2).Has a s' → s'.nx ≤ N := hN
  show Inv P E base w0 Γ s N (oneCell n S.et (fun v => (okOr (sel v.flat (S.cell.ext v.sym) none) fun y => CT.need (dec (S.pre x y z)) ((S.res x y z).ctw n)).run) s2) _
  obtain ⟨v, ax, s3, ho, o1, o2⟩ := rdHead_one g
  rw [o2] at g hN ⊢
  have hs3 : s3.h = s.h := o1.h.trans (z2.h.trans x2.h)
  have hn3 : s3.nx = s.nx := o1.nx.trans (z2.nx.trans x2.nx)
  have ho : s.h.get n = some (.cells [v] S.et false false n 0 [ax]) := by rw [← x2.h, ← z2.h]; exact ho
  obtain ⟨y, y1, y2⟩ := okOr_good g
  rw [y2] at g hN ⊢
  obtain ⟨hfl, hy⟩ : v.flat = true ∧ S.cell.ext v.sym = some y := by
    cases hf : v.flat with
    | false => rw [hf] at y1; cases y1
    | true => rw [hf] at y1; exact ⟨rfl, y1⟩
  have hyv := Pt.ext_eq _ hy
  obtain ⟨hpre, g2, hlift⟩ := need_good (m := ((S.res x y z).ctw n).run) g
  have hpre : S.pre x y z := dec_eq.1 hpre
  obtain ⟨r, hr, r1, r2, g3, hhas⟩ := ctw_good g2
  have hcall := h x y z hpre r hr
  have hn := (R.dom n i hi).1
  obtain ⟨i', hi', hasz, hroot, C, fz, hb, hcsz, hfit, hvals, hfrz⟩ := R.obj n _ hn ho
  rw [hi] at hi'; cases hi'
  have h0 : i.o = 0 := R.own n i _ _ _ _ _ hn ho hi
  obtain ⟨v0, w1, w2⟩ := hvals rfl 0 v rfl
  rw [h0] at w1
  obtain ⟨hrun, hcalls⟩ := hcall (Γ.bare w) w i.b C fz v0 v1 v2 R.stay (fun _ => rfl) rfl (R.sep n i _ hn ho rfl hi) hb w1 (by rw [← hyv]; exact (w2.sym).flat (flat_sym _ hfl)) (fun k hk => hfrz rfl rfl k (by omega)) x1 z1
  rw [hvs, h0]
  rw [hrun]
  refine Inv.enter fun m => CallsIn.mono (hcalls m) ?_
  rintro e w' ⟨u, v', C', fz', rfl, hur, os, tape, output, size, blk, hb', hsz, hc0', hu', hfz'⟩
  obtain ⟨s4, t1, t2, t3⟩ := storeAt_one (c := r.2) hn (by rw [hs3]; exact ho) g3
  refine ⟨u, r.1, s4, Γ, rfl, hlift _ _ (hhas s4 t1), hur.flat r1, ?_⟩
  have RR := R.cell1 hi ho os tape output size blk hb' (by omega) hc0' (hu'.flat r2) hfz'
  refine ⟨Ext.refl Γ, fun _ _ => rfl, by omega, by rw [t3, hn3]; exact hF, by rw [t2, hs3]; exact RR⟩

/-! Functions that hand on an array of their own. -/

theorem crel_scal {fz fz' : Nat → Option Obj} {c : Cell Univ.C Univ.S} {v : Value} (h : CRel fz c v) (hs : c.scal = true) : CRel fz' c v := by
  cases h with
  | b x => exact .b x
  | i k x => exact .i k x
  | s x => exact .s x
  | f n => exact .f n
  | nil => cases hs
  | sl => cases hs
theorem arel_flat {fz fz' : Nat → Option Obj} {c : Univ.C} {l : List (Univ.S c)} {C : Array Value} (hf : Univ.flat c = true) (h : ARel fz c l C) : ARel fz' c l C := by
  intro j x hj k cl hk
  obtain ⟨v, h1, h2⟩ := h j x hj k cl hk
  exact ⟨v, h1, crel_scal h2 (Univ.flat_ok c x hf cl (List.mem_of_getElem? hk))⟩

/-- A block that has been made is an array of one's own. -/
theorem Rel.adopt {E : Env} {base : Nat} {w0 : World} {Γ : Gam} {w w' : World} {h : Tr AObj} (R : Rel E base w0 Γ h w) (hb : Below w.heap.size w w') {n : Nat} (hn : n < LH) (hf : Γ n = none) (i : Info) (h1 : w.heap.size ≤ i.b) (h2 : i.b < w'.heap.size)
    {c : Univ.C} {l : List (Univ.S c)} (hO : ORel E (Γ.add n i) w' n (.arr c l)) : Rel E base w0 (Γ.add n i) (h.set n (.arr c l)) w' := by
  have hx : Ext Γ (Γ.add n i) := Gam.ext_add hf
  have gs := R.gs n (.arr c l) hn
  have blk : ∀ m j, Γ m = some j → w'.heap[j.b]? = w.heap[j.b]? := fun m j e => hb.block _ (R.dom m j e).2.2
  have notyet : ∀ o', h.get n = some o' → ¬ o'.live := fun o' e hl => by
    obtain ⟨j, hj⟩ := (R.obj n o' hn e).name hl
    rw [hf] at hj; cases hj
  constructor
  · exact tr_deep_set _ DH h n R.deep
  · exact R.below.trans (below_lower R.room hb)
  · exact Nat.le_trans R.room hb.size
  · intro m j e
    by_cases d : m = n
    · subst d; rw [Gam.add_at] at e; cases e
      exact ⟨hn, Nat.le_trans R.room h1, h2⟩
    · rw [Gam.add_ne d] at e
      obtain ⟨a, b, e2⟩ := R.dom m j e
      exact ⟨a, b, Nat.lt_of_lt_of_le e2 hb.size⟩
  · intro m p hm hp
    rw [gs m hm] at hp
    by_cases d : m = n
    · subst d; rw [if_pos rfl] at hp; cases hp; exact hO
    · rw [if_neg d] at hp
      exact (R.obj m p hm hp).keep hx fun j hj => blk m j hj
  · intro m q p1 p2 j k hm hq g1 g2 l1 l2 ne e1 e2 eb
    rw [gs m hm] at g1
    rw [gs q hq] at g2
    by_cases d : m = n
    · subst d
      rw [Gam.add_at] at e1; cases e1
      have dq : q ≠ m := fun x => ne x.symm
      rw [Gam.add_ne dq] at e2
      have := (R.dom q k e2).2.2
      omega
    · rw [Gam.add_ne d] at e1
      by_cases d' : q = n
      · subst d'
        rw [Gam.add_at] at e2; cases e2
        have := (R.dom m j e1).2.2
        omega
      · rw [Gam.add_ne d'] at e2
        rw [if_neg d] at g1
        rw [if_neg d'] at g2
        exact R.inj m q p1 p2 j k hm hq g1 g2 l1 l2 ne e1 e2 eb
  · intro m cs e frz root rel al hm g1 cs' e' frz' d' root' rel' al' g2
    rw [gs m hm] at g1
    by_cases d : m = n
    · rw [if_pos d] at g1; cases g1
    · rw [if_neg d] at g1
      obtain ⟨_, _, _, ⟨⟨r, hr⟩, _⟩, _⟩ := R.obj m _ hm g1
      rw [gs root (R.dom root r hr).1] at g2
      by_cases d2 : root = n
      · rw [if_pos d2] at g2; cases g2
      · rw [if_neg d2] at g2
        exact R.fam m cs e frz root rel al hm g1 _ _ _ _ _ _ _ g2
  · intro m q since seen kt es clock j k ents b borns stepped hm hq g1 g2 e1 e2 b1 b2
    rw [gs m hm] at g1
    rw [gs q hq] at g2
    by_cases d : m = n
    · rw [if_pos d] at g1; cases g1
    · by_cases d' : q = n
      · rw [if_pos d'] at g2; cases g2
      · rw [if_neg d] at g1
        rw [if_neg d'] at g2
        rw [Gam.add_ne d] at e1
        rw [Gam.add_ne d'] at e2
        rw [blk m j e1] at b1
        rw [blk q k e2] at b2
        obtain ⟨z1, z2⟩ := R.iter m q since seen kt es clock j k ents b borns stepped hm hq g1 g2 e1 e2 b1 b2
        exact ⟨z1, fun z => (z2 z).ext hx⟩
  · intro m j cs e frz rel al hm g1 e1
    rw [gs m hm] at g1
    by_cases d : m = n
    · rw [if_pos d] at g1; cases g1
    · rw [if_neg d] at g1
      rw [Gam.add_ne d] at e1
      exact R.own m j cs e frz rel al hm g1 e1
  · intro b ob e
    have e : Γ.fz b = some ob := e
    rw [hb.block b (R.stay_lt e)]
    exact R.stay b ob e
  · intro m j o1 hm g1 l1 e1
    show Γ.fz j.b = none
    rw [gs m hm] at g1
    by_cases d : m = n
    · subst d
      rw [Gam.add_at] at e1; cases e1
      cases hq : Γ.fz i.b with
      | none => rfl
      | some ob2 => have := R.stay_lt hq; omega
    · rw [if_neg d] at g1
      rw [Gam.add_ne d] at e1
      exact R.sep m j o1 hm g1 l1 e1
  · exact Nat.le_trans R.lo hb.size

structure OSpec where
  ps : List Pt
  c : Univ.C
  pre : Pts ps → Prop
  res : Pts ps → Dt (List (Univ.S c) × Nat)

noncomputable def Dt.ctn (c : Univ.C) : Dt (List (Univ.S c) × Nat) → CT AVal
  | .leaf a => .newA c a.1 fun n => .ret (.asl c n 0 a.2)
  | .ite b l r => .ite b (l.ctn c) (r.ctn c)
  | .fail => .fail
noncomputable def OSpec.ct (S : OSpec) (as : List AVal) : CT AVal := Pts.get S.ps as fun x => .need (dec (S.pre x)) ((S.res x).ctn S.c)

def OCalls (P : Program) (f : FuncId) (as : List AVal) (c : Univ.C) (l : List (Univ.S c)) (k : Nat) : Prop := ∀ (Γ : Gam) (w : World) (vs : Array Value), (∀ b ob, Γ.fz b = some ob → w.heap[b]? = some ob) → (∀ n, Γ n = none) → Γ.lo = w.heap.size → VRels Γ as vs.toList →
  (callFunc f vs).run P w = .ok (.enter f vs) w ∧ ∀ m, CallsIn (FW none) m P f vs w fun e w' => ∃ v i, e = .returned v ∧ w.heap.size ≤ i.b ∧ i.b < w'.heap.size ∧ Below w.heap.size w w' ∧
    ∀ (Γ2 : Gam) (n : Nat) (E : Env), Γ2 n = some i → VRel Γ2 (.asl c n 0 k) v ∧ ORel E Γ2 w' n (.arr c l)

noncomputable def arrAt (c : Univ.C) (s : St) (a : AVal) : Option (List (Univ.S c) × Nat) := match a with
  | .asl c' n off k => sel (sameC c' c && Nat.beq off 0) (match s.h.get n with
    | none => none
    | some o => match o with
      | .arr c2 l => (match castD c2 c l with
        | some l => some (l, k)
        | none => none)
      | _ => none) none
  | _ => none
noncomputable def OSpec.run (S : OSpec) (E : Env) (c : Code) (nt : Nat) (rs : List ResultVar) (fuel : Nat) (x : Pts S.ps) : Dt (Bool × Option (List (Univ.S S.c) × Nat)) :=
  (evAFn (.code c nt rs) E (evCode fuel E false) (Pts.vals S.ps x) St.new).view fun a s => (Univ.flat S.c && Nat.ble s.nx LH, arrAt S.c s a)
def OSpec.Kept (P : Program) (f : FuncId) (S : OSpec) : Prop := Univ.flat S.c = true ∧ ∀ x, S.pre x → ∀ r, (S.res x).val = some r → OCalls P f (Pts.vals S.ps x) S.c r.1 r.2

theorem arrAt_some {c : Univ.C} {s : St} {a : AVal} {l : List (Univ.S c)} {k : Nat} (h : arrAt c s a = some (l, k)) : ∃ n, a = .asl c n 0 k ∧ s.h.get n = some (.arr c l) := by
  unfold arrAt at h
  split at h
  · rename_i c' n off k'
    cases hq : (sameC c' c && Nat.beq off 0) with
    | false => rw [hq] at h; cases h
    | true =>
      rw [hq, sel_true] at h
      simp only [Bool.and_eq_true] at hq
      have := sameC_eq hq.1
      subst this
      have := beq_of hq.2
      subst this
      split at h
      · cases h
      rename_i o ho
      split at h
      · split at h
        · rename_i m hm
          have := castD_eq' hm
          cases this
          cases h
          exact ⟨n, rfl, ho⟩
        · cases h
      · cases h
  · cases h

theorem ctn_good {c : Univ.C} : ∀ {t : Dt (List (Univ.S c) × Nat)} {s : St}, ((t.ctn c).run s).Good → ∃ r, t.val = some r ∧ s.nx < LH ∧ ∃ s', s'.h = s.h.set s.nx (.arr c r.1) ∧ s'.nx = s.nx + 1 ∧ ((t.ctn c).run s).Has (.asl c s.nx 0 r.2) s'
  | .leaf a, s, g => by
    have g : (M.bind (alloc fun _ => .arr c a.1) (fun n => M.pure (AVal.asl c n 0 a.2)) s).Good := g
    obtain ⟨s', h1, h2, h3, h4⟩ := alloc_good (good_step g)
    refine ⟨a, rfl, h1, s', h3, h4, ?_⟩
    show (M.bind (alloc fun _ => .arr c a.1) (fun n => M.pure (AVal.asl c n 0 a.2)) s).Has _ _
    rw [bind_ok h2]; exact ⟨rfl, rfl⟩
  | .ite true l _, _, g => ctn_good (t := l) g
  | .ite false _ r, _, g => ctn_good (t := r) g
  | .fail, _, g => g.elim

theorem OSpec.calls (hX : ExtOk P) (hm : P.follows .mixedOrders = true) {E : Env} (hE : EnvR E P) (hl : E.loops = []) (S : OSpec) {f : FuncId} {c : Code} {nt : Nat} {rs : List ResultVar} (hmk : mkFn P f = some (.code c nt rs))
    (c' : Code) (hc' : markOk c' = true) (hu : unmark E.lps c' = c) (fuel : Nat) (x : Pts S.ps) {r : List (Univ.S S.c) × Nat}
    (hh : (S.run E c' nt rs fuel x).holds fun q => q.1 = true ∧ q.2 = some r) : OCalls P f (Pts.vals S.ps x) S.c r.1 r.2 := by
  intro Γ w vs hst hno hlo hv
  obtain ⟨a, t, hdet, hq⟩ := holds_det hh
  simp only [Bool.and_eq_true] at hq
  obtain ⟨⟨hq1, hq2⟩, hq3⟩ := hq
  have hq2 := Nat.le_of_ble_eq_true hq2
  obtain ⟨l, k⟩ := r
  obtain ⟨n, rfl, hget⟩ := arrAt_some hq3
  obtain ⟨_, _, _, _, _, _, hrun⟩ := mkFn_code hmk
  refine ⟨hrun _ _, fun m => ?_⟩
  have R0 : Rel E w.heap.size w Γ St.new.h w :=
    { deep := tr_deep_full DH
      below := Below.refl _ _
      room := Nat.le_refl _
      dom := fun n i h => by rw [hno] at h; cases h
      obj := fun n o _ h => by rw [show St.new.h.get n = none from tr_get_full DH n] at h; cases h
      inj := fun n m o p i j _ _ h => by rw [show St.new.h.get n = none from tr_get_full DH n] at h; cases h
      fam := fun n cs e frz root rel al _ h => by rw [show St.new.h.get n = none from tr_get_full DH n] at h; cases h
      iter := fun n m since seen kt es clock i j ents b borns stepped _ _ h => by rw [show St.new.h.get n = none from tr_get_full DH n] at h; cases h
      own := fun n i cs e frz rel al _ h => by rw [show St.new.h.get n = none from tr_get_full DH n] at h; cases h
      stay := hst
      lo := by rw [hlo]; exact Nat.le_refl _
      sep := fun n i o _ h => by rw [show St.new.h.get n = none from tr_get_full DH n] at h; cases h }
  refine CallsIn.mono (fn_sound_code (N := LH) (code_sound (base := w.heap.size) (w0 := w) hX hm fuel) hE hmk hc' hu R0 (by rw [hl]; intro d hd; cases hd) hv (det_has hdet).1 (fun b u k => by obtain ⟨rfl, rfl⟩ := det_only hdet k; exact hq2) (fun n _ _ => hno n) (Nat.le_refl _) m) ?_
  rintro e w' ⟨v, b, u, Γ', rfl, hh', hrel, hG⟩
  obtain ⟨rfl, rfl⟩ := det_only hdet hh'
  unfold VRel at hrel
  obtain ⟨i, hi, hbd, o, cap, rfl, hcap, hoo⟩ := hrel
  obtain ⟨i', hi', hasz, C, e, fz, hb, hA, hsz, hfr⟩ := hG.rel.obj n _ (hG.rel.dom n i hi).1 hget
  rw [hi] at hi'; cases hi'
  have hd := hG.rel.dom n i hi
  refine ⟨_, i, rfl, hd.2.1, hd.2.2, hG.rel.below, fun Γ2 n2 E2 h2 => ⟨?_, ?_⟩⟩
  · unfold VRel
    exact ⟨i, h2, hbd, o, cap, rfl, hcap, hoo⟩
  · exact ⟨i, h2, hasz, C, e, fz, hb, arel_flat hq1 hA, hsz, hfr⟩

theorem OSpec.ct_sound {f : FuncId} (S : OSpec) (h : S.Kept P f) : CtrSound P f S.ct := by
  intro E base w0 Γ s w as vs N hty R hv g hN hF hLH
  unfold OSpec.ct at g hN ⊢
  have main : ∀ Γt : Gam, (∀ b ob, Γt.fz b = some ob → w.heap[b]? = some ob) → (∀ n, Γt n = none) → Γt.lo = w.heap.size → Agrees 0 Γ Γt → (AVal.lows 0 as = true ∨ ∀ b ob, w.heap[b]? = some ob → Γt.fz b = some ob) →
      Inv P E base w0 Γ s N ((Pts.get S.ps as fun x => .need (dec (S.pre x)) ((S.res x).ctn S.c)).run s) ((callFunc f vs).run P w) := by
    intro Γt hst hno hlo hag hor
    obtain ⟨x, s1, h1, h2, h3⟩ := Pts.get_good R (Γt := Γt) hag S.ps hor rfl hv g
    rw [h3] at g hN ⊢
    obtain ⟨hp, g2, hlift⟩ := need_good (m := ((S.res x).ctn S.c).run) g
    have hp : S.pre x := dec_eq.1 hp
    obtain ⟨r, hr, hlt, s2, t1, t2, t3⟩ := ctn_good g2
    have hhas := hlift _ _ t3
    obtain ⟨hrun, hcalls⟩ := h.2 x hp r hr Γt w vs hst hno hlo h1
    rw [hrun]
    refine Inv.enter fun m => CallsIn.mono (hcalls m) ?_
    rintro e w' ⟨v, i, rfl, hi1, hi2, hb, hk⟩
    have hn1 : s1.nx = s.nx := h2.nx
    have hN' := hN _ _ hhas
    have hnone : Γ s1.nx = none := hF s1.nx (by omega) (by omega)
    obtain ⟨k1, k2⟩ := hk (Γ.add s1.nx i) s1.nx E Gam.add_at
    refine ⟨v, _, s2, Γ.add s1.nx i, rfl, hhas, k1, Gam.ext_add hnone, fun n hn => Gam.add_ne (by omega), by omega, fun n a b => ?_, ?_⟩
    · rw [Gam.add_ne (by omega)]; exact hF n (by omega) b
    · rw [t1, h2.h]
      exact R.adopt hb hlt hnone i hi1 hi2 k2
  cases hl : AVal.lows 0 as with
  | true => exact main (Γ.bare w) R.stay (fun _ => rfl) rfl (agrees0 rfl) (.inl hl)
  | false => exact main (Gam.all w) (fun _ _ e => e) (fun _ => rfl) rfl ⟨fun _ _ h => absurd h (Nat.not_lt_zero _), fun b o e => R.stay b o e⟩ (.inr fun _ _ e => e)

/-- Contracts of functions with a cell, or that hand on an array. -/
inductive XSpec where
  | w (S : WSpec)
  | o (S : OSpec)
noncomputable def XSpec.ct (X : XSpec) : List AVal → CT AVal := match X with
  | .w S => S.ct
  | .o S => S.ct
def XSpec.Kept (P : Program) (f : FuncId) (X : XSpec) : Prop := match X with
  | .w S => S.Kept P f
  | .o S => S.Kept P f
theorem XSpec.ct_sound {f : FuncId} (X : XSpec) (h : X.Kept P f) : CtrSound P f X.ct := by
  cases X with
  | w S => exact S.ct_sound h
  | o S => exact S.ct_sound h

/-- An environment with contracts of all kinds. -/
noncomputable def envW (P : Program) (ws : List (FuncId × XSpec)) (cs : List (FuncId × List FSpec)) (ls : List (Nat × LoopC)) : Env := ⟨(mkEnv P).ty, (mkEnv P).fn, [], ws.map (fun p => (p.1, p.2.ct)) ++ cs.map (fun p => (p.1, ctAny p.2)), ls⟩

theorem envW_ok (ws : List (FuncId × XSpec)) (cs : List (FuncId × List FSpec)) (ls : List (Nat × LoopC)) (hw : ∀ p ∈ ws, p.2.Kept P p.1) (hc : ∀ p ∈ cs, ∀ S ∈ p.2, S.Kept P p.1) (hl : ∀ p ∈ ls, LpSound P p.2) : EnvR (envW P ws cs ls) P :=
  { ty0 := rfl
    fn := (env_new P).fn
    ctr := fun f g h => by
      have := findCtr_mem h
      rcases List.mem_append.1 this with q | q
      · obtain ⟨p, hp, e⟩ := List.mem_map.1 q
        cases e
        exact p.2.ct_sound (hw p hp)
      · obtain ⟨p, hp, e⟩ := List.mem_map.1 q
        cases e
        exact ctAny_sound (hc p hp)
    lps := fun n p h => hl _ (findCtr_mem h) }

theorem FSpec.keptW (hX : ExtOk P) (hm : P.follows .mixedOrders = true) (ws : List (FuncId × XSpec)) (cs : List (FuncId × List FSpec)) (ls : List (Nat × LoopC)) (hw : ∀ p ∈ ws, p.2.Kept P p.1) (hc : ∀ p ∈ cs, ∀ S ∈ p.2, S.Kept P p.1) (hl : ∀ p ∈ ls, LpSound P p.2)
    (S : FSpec) {f : FuncId} (fuel : Nat) (c : Code) {nt : Nat} {rs : List ResultVar} (hmk : mkFn P f = some (.code (unmark ls c) nt rs)) (hc' : markOk c = true)
    (h : ∀ x, S.pre x → (S.run (envW P ws cs ls) c nt rs fuel x).holds fun q => q.1 = true ∧ (S.res x).val = some q.2) : S.Kept P f := by
  intro x hx r hr
  have hh := h x hx
  refine pure_of_eval hX hm (envW_ok ws cs ls hw hc hl) rfl hmk c hc' rfl fuel (r := r) ?_ ?_
  · exact view_holds (fun a s k => k.1) hh
  · exact holds_val (fun a s k => by have := k.2; rw [hr] at this; exact (Option.some.inj this).symm) hh

theorem PSpec.keptW (hX : ExtOk P) (hm : P.follows .mixedOrders = true) (ws : List (FuncId × XSpec)) (cs : List (FuncId × List FSpec)) (ls : List (Nat × LoopC)) (hw : ∀ p ∈ ws, p.2.Kept P p.1) (hc : ∀ p ∈ cs, ∀ S ∈ p.2, S.Kept P p.1) (hl : ∀ p ∈ ls, LpSound P p.2)
    (S : PSpec) (fuel : Nat) (μ : Pts (S.keep.map (·.2)) → Pos (S.objs.map (·.2)) → Nat) (hmk : markOk S.body = true)
    (h : ∀ x y, S.inv x y → (S.round (envW P ws cs ls) fuel x y).holds fun q => q.1 = true ∧ match q.2.1 with
      | .normal => ∃ x' y', Pts.vals _ x' = q.2.2.1 ∧ Pos.obs _ y' = q.2.2.2 ∧ S.inv x' y' ∧ μ x' y' < μ x y ∧ (S.res x' y').val = (S.res x y).val
      | e => (S.res x y).val = some (e, q.2.2)) : LpSound P (S.loop ls) :=
  PSpec.sound hX hm (envW_ok ws cs ls hw hc hl) rfl S fuel μ hmk h

theorem WSpec.kept (hX : ExtOk P) (hm : P.follows .mixedOrders = true) (ws : List (FuncId × XSpec)) (cs : List (FuncId × List FSpec)) (ls : List (Nat × LoopC)) (hw : ∀ p ∈ ws, p.2.Kept P p.1) (hc : ∀ p ∈ cs, ∀ S ∈ p.2, S.Kept P p.1) (hl : ∀ p ∈ ls, LpSound P p.2)
    (S : WSpec) {f : FuncId} (fuel : Nat) (c : Code) {nt : Nat} {rs : List ResultVar} (hmk : mkFn P f = some (.code (unmark ls c) nt rs)) (hc' : markOk c = true)
    (h : ∀ x y z, S.pre x y z → (S.run (envW P ws cs ls) c nt rs fuel x y z).holds fun q => q.1 = true ∧ (S.res x y z).val = q.2 ∧ q.2 ≠ none) : S.Kept P f := by
  intro x y z hx r hr
  refine WSpec.calls hX hm (envW_ok ws cs ls hw hc hl) rfl S hmk c hc' rfl fuel x y z ?_
  exact view_holds (fun a s k => ⟨k.1, by rw [← k.2.1, hr]⟩) (h x y z hx)

theorem OSpec.kept (hX : ExtOk P) (hm : P.follows .mixedOrders = true) (ws : List (FuncId × XSpec)) (cs : List (FuncId × List FSpec)) (ls : List (Nat × LoopC)) (hw : ∀ p ∈ ws, p.2.Kept P p.1) (hc : ∀ p ∈ cs, ∀ S ∈ p.2, S.Kept P p.1) (hl : ∀ p ∈ ls, LpSound P p.2)
    (S : OSpec) {f : FuncId} (fuel : Nat) (c : Code) {nt : Nat} {rs : List ResultVar} (hmk : mkFn P f = some (.code (unmark ls c) nt rs)) (hc' : markOk c = true) (hfl : Univ.flat S.c = true)
    (h : ∀ x, S.pre x → (S.run (envW P ws cs ls) c nt rs fuel x).holds fun q => q.1 = true ∧ (S.res x).val = q.2 ∧ q.2 ≠ none) : S.Kept P f := by
  refine ⟨hfl, fun x hx r hr => ?_⟩
  refine OSpec.calls hX hm (envW_ok ws cs ls hw hc hl) rfl S hmk c hc' rfl fuel x ?_
  exact view_holds (fun a s k => ⟨k.1, by rw [← k.2.1, hr]⟩) (h x hx)

end
end Go.Ev

