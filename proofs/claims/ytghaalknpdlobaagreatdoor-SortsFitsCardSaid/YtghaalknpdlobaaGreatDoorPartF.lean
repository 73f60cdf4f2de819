/- A part of the proof that the card of SortsFits holds (Rows.SortsFitsCardSaid); no conditions. -/
import Derived.Test.YtghaalknpdlobaaGreatDoorPartE
import Derived.Test.YtghaalknpdlobaaGreatDoorTryzSaneB
import Derived.Carry
import Derived.OpenShut
namespace Go.Proofs.YtghaalknpdlobaaGreatDoor
set_option linter.unusedSectionVars false
set_option linter.unusedVariables false
set_option linter.unusedSimpArgs false
open Go Go.Ev Go.Proofs
set_option maxRecDepth 100000

/-! slices.Equal; the law's nodes. -/

def eqL (l m : List Bool) : Bool := decide (l = m)
theorem eqL_cons (a b : Bool) (l m : List Bool) : eqL (a :: l) (b :: m) = ((a == b) && eqL l m) := by
  unfold eqL
  rw [Bool.eq_iff_iff]
  simp
abbrev EqX : Type := List Bool × List Bool × Int × Int × Unit
def eqV (l m : List Bool) (n i : Int) : Prop := n = (l.length : Int) ∧ m.length = l.length ∧ l.length ≤ maxL ∧ 0 ≤ i ∧ i ≤ (l.length : Int)
noncomputable def eqDt (l m : List Bool) (i : Int) : Dt (AExit × List AVal × List AObj) := .ite (eqL (l.drop i.toNat) (m.drop i.toNat)) (.leaf (.exit 0, [], [])) (.leaf (.ret, [.sb false], []))
noncomputable def eqLp : PSpec :=
  { body := loopIn Tryz.f24 0, nt := 26, nx := 0, room := 8, keep := [(0, .d Cd.bool), (1, .d Cd.bool), (12, .i .i64), (13, .i .i64)], objs := []
    keepX := fun x => match x with | .ret => [4] | _ => [], objsX := fun _ => []
    inv := fun (x : EqX) _ => eqV x.1 x.2.1 x.2.2.1 x.2.2.2.1
    res := fun (x : EqX) _ => eqDt x.1 x.2.1 x.2.2.2.1 }
theorem eqLp_ok : LpSound Tryz.prog (eqLp.loop []) := by
  refine pkept ct0 lp0 eqLp (fun (x : EqX) _ => (((show List Bool from x.1).length : Int) - x.2.2.2.1).toNat) (by kernel_rfl) ?_
  intro xx yy hx
  obtain ⟨l, m, n, i, u⟩ : EqX := xx
  have hx : eqV l m n i := hx
  obtain ⟨rfl, hm, hl, h0, h1⟩ := hx
  have hl2 := len64 hl
  refine hd_eq (t := .ite (decide (i < (l.length : Int))) (.ite (decide (0 ≤ i) && decide (i < (l.length : Int))) (.ite (decide (0 ≤ i) && decide (i < (m.length : Int)))
      (.ite (!(l.getD i.toNat false == m.getD i.toNat false)) (.leaf (true, .ret, [.sb false], []))
        (.leaf (true, .normal, [.dsl (Cd.bool : Cd) l, .dsl (Cd.bool : Cd) m, .si .i64 (l.length : Int), .si .i64 (IntKind.i64.wrap (i + 1))], []))) .fail) .fail)
    (.leaf (true, .exit 0, [], []))) (by kernel_rfl) ?_
  refine holds_ite (fun hlt => ?_) (fun hlt => ⟨rfl, ?_⟩)
  · have hlt := of_decide_eq_true hlt
    have hd := drop_cons l i false h0 hlt
    have hd2 := drop_cons m i false h0 (by omega)
    have hw : IntKind.i64.wrap (i + 1) = i + 1 := wrap64 (by omega) (by omega)
    have hc : eqL (l.drop i.toNat) (m.drop i.toNat) = ((l.getD i.toNat false == m.getD i.toNat false) && eqL (l.drop (i + 1).toNat) (m.drop (i + 1).toNat)) := by rw [hd, hd2, eqL_cons]
    rw [hw]
    refine holds_need (by simp; exact ⟨h0, hlt⟩) (holds_need (by simp; omega) (holds_ite (fun h => ⟨rfl, ?_⟩) (fun h => ⟨rfl, (l, m, (l.length : Int), (i + 1 : Int), ()), (), rfl, rfl, ?_, ?_, ?_⟩)))
    · have h : (l.getD i.toNat false == m.getD i.toNat false) = false := by simpa using h
      show (eqDt l m i).val = _
      unfold eqDt; rw [hc, h]; rfl
    · show eqV l m (l.length : Int) (i + 1)
      exact ⟨rfl, hm, hl, by omega, by omega⟩
    · show ((l.length : Int) - (i + 1)).toNat < ((l.length : Int) - i).toNat
      omega
    · have h : (l.getD i.toNat false == m.getD i.toNat false) = true := by simpa using h
      show (eqDt l m (i + 1)).val = (eqDt l m i).val
      unfold eqDt; rw [hc, h, Bool.true_and]
  · have hlt := of_decide_eq_false hlt
    show (eqDt l m i).val = _
    unfold eqDt
    rw [drop_end l i h1 hlt, drop_end m i (by omega) (by omega)]
    rfl
noncomputable def eqlC : FSpec := ⟨[.d Cd.bool, .d Cd.bool], fun (x : List Bool × List Bool × Unit) => x.1.length ≤ maxL, fun (x : List Bool × List Bool × Unit) => .leaf (.sb (eqL x.1 x.2.1))⟩
theorem eql_kept : eqlC.Kept Tryz.prog 24 := by
  have hL : ∀ p ∈ [(0, eqLp.loop [])], LpSound Tryz.prog p.2 := lpc eqLp_ok lp0
  have hmk : mkFn Tryz.prog 24 = some (.code (unmark [(0, eqLp.loop [])] (cd Tryz.f24 [0])) Tryz.f24.ntmps Tryz.f24.results.toList) := by kernel_rfl
  refine fkept ct0 hL eqlC 24 Tryz.f24 [0] hmk (by kernel_rfl) ?_
  intro xx hx
  obtain ⟨l, m, u⟩ : List Bool × List Bool × Unit := xx
  have hx : l.length ≤ maxL := hx
  refine hd_eq (t := .ite (!decide ((l.length : Int) = (m.length : Int))) (.leaf (true, .sb false)) (.ite (dec (eqV l m (l.length : Int) 0)) (.ite (eqL l m) (.leaf (true, .sb true)) (.leaf (true, .sb false))) .fail)) (by kernel_rfl) ?_
  refine holds_ite (fun h => ⟨rfl, ?_⟩) (fun h => ?_)
  · have h : ¬ (l.length : Int) = (m.length : Int) := by simpa using h
    have : eqL l m = false := decide_eq_false (fun e => h (by rw [e]))
    show some (AVal.sb (eqL l m)) = _
    rw [this]
  · have h : (l.length : Int) = (m.length : Int) := by simpa using h
    refine holds_need (dec_true ⟨rfl, by omega, hx, Int.le_refl _, by omega⟩) (holds_ite (fun h => ⟨rfl, ?_⟩) (fun h => ⟨rfl, ?_⟩))
    · show some (AVal.sb (eqL l m)) = _
      rw [h]
    · show some (AVal.sb (eqL l m)) = _
      rw [h]

mutual
def ndV : Trm → Int → Int → Bool × Int
  | ⟨_, _, s, l⟩, left, deep => if left - 1 < 0 ∨ 650 < deep ∨ 500 < (s.size : Int) then (false, left - 1) else ndLV l (left - 1) (deep + 1)
def ndLV : List Trm → Int → Int → Bool × Int
  | [], left, _ => (true, left)
  | x :: l, left, deep => if (ndV x left deep).1 = true then ndLV l (ndV x left deep).2 deep else (false, (ndV x left deep).2)
end
mutual
theorem nd_true : ∀ (t : Trm) (left deep : Int), left ≤ 1000000000 → (ndV t left deep).1 = true → 0 ≤ (ndV t left deep).2 ∧ (ndV t left deep).2 = left - sizeT t ∧ strT t
  | ⟨k, n, s, l⟩, left, deep, hb, h => by
    unfold ndV at h ⊢
    by_cases c : left - 1 < 0 ∨ 650 < deep ∨ 500 < (s.size : Int)
    · rw [if_pos c] at h; cases h
    · rw [if_neg c] at h ⊢
      obtain ⟨h1, h2, h3⟩ := ndL_true l (left - 1) (deep + 1) (by omega) (by omega) h
      refine ⟨h1, ?_, ?_⟩
      · unfold sizeT; rw [h2]; omega
      · unfold strT
        have hs : s.size = s.data.toList.length := by cases s; simp [ByteArray.size]
        have := sizeL_len l
        exact ⟨by unfold maxL; omega, by omega, h3⟩
theorem ndL_true : ∀ (l : List Trm) (left deep : Int), left ≤ 1000000000 → 0 ≤ left → (ndLV l left deep).1 = true → 0 ≤ (ndLV l left deep).2 ∧ (ndLV l left deep).2 = left - sizeL l ∧ strL l
  | [], left, deep, _, h0, _ => by unfold ndLV sizeL strL; exact ⟨h0, by simp, trivial⟩
  | x :: l, left, deep, hb, h0, h => by
    unfold ndLV at h ⊢
    by_cases c : (ndV x left deep).1 = true
    · rw [if_pos c] at h ⊢
      obtain ⟨a1, a2, a3⟩ := nd_true x left deep hb c
      have := size_pos x
      obtain ⟨b1, b2, b3⟩ := ndL_true l _ deep (by omega) a1 h
      refine ⟨b1, ?_, ?_⟩
      · unfold sizeL; rw [b2, a2]; omega
      · unfold strL; exact ⟨a3, b3⟩
    · rw [if_neg c] at h; cases h
end

mutual
/-- No list is too long. -/
def lenT : Trm → Prop
  | ⟨_, _, _, l⟩ => l.length ≤ maxL ∧ lenL l
def lenL : List Trm → Prop
  | [] => True
  | x :: l => lenT x ∧ lenL l
end
theorem lenL_mem : ∀ {l : List Trm}, lenL l → ∀ x ∈ l, lenT x
  | [], _, x, h => by cases h
  | y :: l, hf, x, h => by
    unfold lenL at hf
    rcases List.mem_cons.1 h with e | e
    · rw [e]; exact hf.1
    · exact lenL_mem hf.2 x e
def ndP (N : Nat) (t : Trm) (left deep : Int) : Prop := (SizeOf.sizeOf t < N ∧ lenT t) ∧ 0 ≤ left ∧ left ≤ 1000000000 ∧ 0 ≤ deep ∧ deep ≤ 1000000
noncomputable def ndS (N : Nat) : WSpec := ⟨[.agg termP], [.i .i64], .i .i64, 3, fun (x : TermX × Unit) (y : Int) (z : Int × Unit) => ndP N ⟨x.1.1, x.1.2.1, x.1.2.2.1, x.1.2.2.2.1⟩ y z.1,
  fun (x : TermX × Unit) (y : Int) (z : Int × Unit) => .leaf (.sb (ndV ⟨x.1.1, x.1.2.1, x.1.2.2.1, x.1.2.2.2.1⟩ y z.1).1, .si .i64 (ndV ⟨x.1.1, x.1.2.1, x.1.2.2.1, x.1.2.2.2.1⟩ y z.1).2)⟩
abbrev NdX : Type := Unit × Int × List Trm × Int × Int × Unit
abbrev NdY : Type := (Int × Unit) × Unit
def ndLV' (N : Nat) (l : List Trm) (n i left deep : Int) : Prop := (∀ x ∈ l, SizeOf.sizeOf x < N ∧ lenT x) ∧ n = (l.length : Int) ∧ l.length ≤ maxL ∧ 0 ≤ i ∧ i ≤ (l.length : Int) ∧ 0 ≤ left ∧ left ≤ 1000000000 ∧ 0 ≤ deep ∧ deep ≤ 650
noncomputable def ndDt (l : List Trm) (i left deep : Int) : Dt (AExit × List AVal × List AObj) :=
  .ite (!(ndLV (l.drop i.toNat) left (deep + 1)).1) (.leaf (.ret, [.sb false], [.cells [.si .i64 (ndLV (l.drop i.toNat) left (deep + 1)).2] 3 false false 0 0 [(0, 0, 1)]]))
    (.leaf (.exit 0, [], [.cells [.si .i64 (ndLV (l.drop i.toNat) left (deep + 1)).2] 3 false false 0 0 [(0, 0, 1)]]))
noncomputable def ndLp (N : Nat) : PSpec :=
  { body := loopIn Tryz.f68 0, nt := 42, nx := 2, room := 8, keep := [(1, .p 0 0), (2, .i .i64), (29, .d Cd.term), (30, .i .i64), (31, .i .i64)], objs := [(0, .cells [.i .i64] 3 0 0 [(0, 0, 1)])]
    keepX := fun x => match x with | .ret => [6] | _ => [], objsX := fun _ => [0]
    inv := fun (x : NdX) (y : NdY) => ndLV' N x.2.2.1 x.2.2.2.1 x.2.2.2.2.1 y.1.1 x.2.1
    res := fun (x : NdX) (y : NdY) => ndDt x.2.2.1 x.2.2.2.2.1 y.1.1 x.2.1 }
theorem ndLp_ok (N : Nat) (hK : (ndS N).Kept Tryz.prog 68) : LpSound Tryz.prog ((ndLp N).loop []) := by
  refine pkeptW (xsc (X := .w (ndS N)) hK xs0) ct0 lp0 (ndLp N) (fun (x : NdX) _ => (((show List Trm from x.2.2.1).length : Int) - x.2.2.2.2.1).toNat) (by kernel_rfl) ?_
  intro xx yy hx
  obtain ⟨u1, deep, l, n, i, u2⟩ : NdX := xx
  obtain ⟨⟨left, u3⟩, u4⟩ : NdY := yy
  have hx : ndLV' N l n i left deep := hx
  obtain ⟨hsz, rfl, hm, h0, h1, hl0, hl1, hd0, hd1⟩ := hx
  have hm2 := len64 hm
  let z : Trm := Univ.dflt (Cd.term : Cd)
  refine hd_eq (t := .ite (decide (i < (l.length : Int))) (.ite (decide (0 ≤ i) && decide (i < (l.length : Int))) (.ite (dec (ndP N (eT (l.getD i.toNat z)) left (IntKind.i64.wrap (deep + 1))))
      (.ite (!(ndV (eT (l.getD i.toNat z)) left (IntKind.i64.wrap (deep + 1))).1) (.leaf (true, .ret, [.sb false], [.cells [.si .i64 (ndV (eT (l.getD i.toNat z)) left (IntKind.i64.wrap (deep + 1))).2] 3 false false 0 0 [(0, 0, 1)]]))
        (.leaf (true, .normal, [.ptr 0 0, .si .i64 deep, .dsl (Cd.term : Cd) l, .si .i64 (l.length : Int), .si .i64 (IntKind.i64.wrap (i + 1))], [.cells [.si .i64 (ndV (eT (l.getD i.toNat z)) left (IntKind.i64.wrap (deep + 1))).2] 3 false false 0 0 [(0, 0, 1)]]))) .fail) .fail)
    (.leaf (true, .exit 0, [], [.cells [.si .i64 left] 3 false false 0 0 [(0, 0, 1)]]))) (by kernel_rfl) ?_
  rw [eT_eq]
  refine holds_ite (fun hlt => ?_) (fun hlt => ⟨rfl, ?_⟩)
  · have hlt := of_decide_eq_true hlt
    have hd := drop_cons l i z h0 hlt
    have hw : IntKind.i64.wrap (i + 1) = i + 1 := wrap64 (by omega) (by omega)
    have hw2 : IntKind.i64.wrap (deep + 1) = deep + 1 := wrap64 (by omega) (by omega)
    have hc : ndLV (l.drop i.toNat) left (deep + 1) = if (ndV (l.getD i.toNat z) left (deep + 1)).1 = true then ndLV (l.drop (i + 1).toNat) (ndV (l.getD i.toNat z) left (deep + 1)).2 (deep + 1) else (false, (ndV (l.getD i.toNat z) left (deep + 1)).2) := by
      rw [hd]; conv => lhs; unfold ndLV
    rw [hw, hw2]
    refine holds_need (by simp; exact ⟨h0, hlt⟩) (holds_need (dec_true ⟨hsz _ (getD_mem l i z h0 hlt), hl0, hl1, by omega, by omega⟩) (holds_ite (fun h => ⟨rfl, ?_⟩) (fun h => ⟨rfl, ((), (deep : Int), l, (l.length : Int), (i + 1 : Int), ()), (((ndV (l.getD i.toNat z) left (deep + 1)).2, ()), ()), rfl, rfl, ?_, ?_, ?_⟩)))
    · have h : (ndV (l.getD i.toNat z) left (deep + 1)).1 = false := by simpa using h
      rw [if_neg (by rw [h]; simp)] at hc
      show (ndDt l i left deep).val = _
      unfold ndDt; rw [hc]; rfl
    · have h : (ndV (l.getD i.toNat z) left (deep + 1)).1 = true := by simpa using h
      obtain ⟨a1, a2, _⟩ := nd_true _ _ _ hl1 h
      have := size_pos (l.getD i.toNat z)
      show ndLV' N l (l.length : Int) (i + 1) (ndV (l.getD i.toNat z) left (deep + 1)).2 deep
      exact ⟨hsz, rfl, hm, by omega, by omega, a1, by omega, hd0, hd1⟩
    · show ((l.length : Int) - (i + 1)).toNat < ((l.length : Int) - i).toNat
      omega
    · have h : (ndV (l.getD i.toNat z) left (deep + 1)).1 = true := by simpa using h
      rw [if_pos h] at hc
      show (ndDt l (i + 1) (ndV (l.getD i.toNat z) left (deep + 1)).2 deep).val = (ndDt l i left deep).val
      unfold ndDt; rw [hc]
  · have hlt := of_decide_eq_false hlt
    show (ndDt l i left deep).val = _
    unfold ndDt
    rw [drop_end l i h1 hlt]
    unfold ndLV
    rfl
theorem law_nd_kept : ∀ N, (ndS N).Kept Tryz.prog 68
  | 0 => by
    intro x y z hx
    exact absurd hx.1.1 (Nat.not_lt_zero _)
  | N + 1 => by
    have hL : ∀ p ∈ [(0, (ndLp N).loop [])], LpSound Tryz.prog p.2 := lpc (ndLp_ok N (law_nd_kept N)) lp0
    have hmk : mkFn Tryz.prog 68 = some (.code (unmark [(0, (ndLp N).loop [])] (cd Tryz.f68 [0])) Tryz.f68.ntmps Tryz.f68.results.toList) := by kernel_rfl
    refine wkept xs0 ct0 hL (ndS (N + 1)) 68 Tryz.f68 [0] hmk (by kernel_rfl) ?_
    intro xx yy zz hx
    obtain ⟨⟨k, n, s, l, u1⟩, u2⟩ : TermX × Unit := xx
    obtain ⟨deep, u3⟩ : Int × Unit := zz
    let left : Int := yy
    have hp : ndP (N + 1) ⟨k, n, s, l⟩ left deep := hx
    obtain ⟨⟨h1, h2⟩, hl0, hl1, hd0, hd1⟩ := hp
    have h2 : l.length ≤ maxL ∧ lenL l := by unfold lenT at h2; exact h2
    refine hd_eq (t := .ite (decide (IntKind.i64.wrap (left - 1) < 0)) (.leaf (true, some (.sb false, .si .i64 (IntKind.i64.wrap (left - 1))))) (.ite (decide (650 < deep)) (.leaf (true, some (.sb false, .si .i64 (IntKind.i64.wrap (left - 1)))))
      (.ite (decide (500 < (s.size : Int))) (.leaf (true, some (.sb false, .si .i64 (IntKind.i64.wrap (left - 1))))) (.ite (dec (ndLV' N l (l.length : Int) 0 (IntKind.i64.wrap (left - 1)) deep))
        (.ite (!(ndLV l (IntKind.i64.wrap (left - 1)) (deep + 1)).1) (.leaf (true, some (.sb false, .si .i64 (ndLV l (IntKind.i64.wrap (left - 1)) (deep + 1)).2))) (.leaf (true, some (.sb true, .si .i64 (ndLV l (IntKind.i64.wrap (left - 1)) (deep + 1)).2)))) .fail)))) (by kernel_rfl) ?_
    have hw : IntKind.i64.wrap (left - 1) = left - 1 := wrap64 (by omega) (by omega)
    rw [hw]
    have e : ndV ⟨k, n, s, l⟩ left deep = if left - 1 < 0 ∨ 650 < deep ∨ 500 < (s.size : Int) then (false, left - 1) else ndLV l (left - 1) (deep + 1) := by conv => lhs; unfold ndV
    have res : ∀ b x, ndV ⟨k, n, s, l⟩ left deep = (b, x) → (Dt.leaf (true, some (AVal.sb b, AVal.si IntKind.i64 x))).holds fun q => q.1 = true ∧ some (AVal.sb (ndV ⟨k, n, s, l⟩ left deep).1, AVal.si IntKind.i64 (ndV ⟨k, n, s, l⟩ left deep).2) = q.2 ∧ q.2 ≠ none := by
      intro b x h
      exact holds_leaf ⟨rfl, by rw [h], fun h => by cases h⟩
    show Dt.holds (fun (q : Bool × Option (AVal × AVal)) => q.1 = true ∧ some (AVal.sb (ndV ⟨k, n, s, l⟩ left deep).1, AVal.si IntKind.i64 (ndV ⟨k, n, s, l⟩ left deep).2) = q.2 ∧ q.2 ≠ none) _
    refine holds_ite (fun h => res _ _ (by rw [e, if_pos (.inl (of_decide_eq_true h))])) fun c1 => holds_ite (fun h => res _ _ (by rw [e, if_pos (.inr (.inl (of_decide_eq_true h)))])) fun c2 => holds_ite (fun h => res _ _ (by rw [e, if_pos (.inr (.inr (of_decide_eq_true h)))])) fun c3 => ?_
    have c1 := of_decide_eq_false c1
    have c2 := of_decide_eq_false c2
    have c3 := of_decide_eq_false c3
    rw [if_neg (by omega)] at e
    refine holds_need (dec_true ⟨fun x hx => ⟨?_, lenL_mem h2.2 x hx⟩, rfl, h2.1, Int.le_refl _, by omega, by omega, by omega, hd0, by omega⟩) (holds_ite (fun h => res _ _ ?_) (fun h => res _ _ ?_))
    · have := List.sizeOf_lt_of_mem hx
      simp only [Trm.mk.sizeOf_spec] at h1
      omega
    · have h : (ndLV l (left - 1) (deep + 1)).1 = false := by simpa using h
      rw [e, ← h]
    · have h : (ndLV l (left - 1) (deep + 1)).1 = true := by simpa using h
      rw [e, ← h]
noncomputable def ndAll : WSpec := ⟨[.agg termP], [.i .i64], .i .i64, 3, fun (x : TermX × Unit) (y : Int) (z : Int × Unit) => lenT ⟨x.1.1, x.1.2.1, x.1.2.2.1, x.1.2.2.2.1⟩ ∧ 0 ≤ y ∧ y ≤ 1000000000 ∧ 0 ≤ z.1 ∧ z.1 ≤ 1000000,
  fun (x : TermX × Unit) (y : Int) (z : Int × Unit) => .leaf (.sb (ndV ⟨x.1.1, x.1.2.1, x.1.2.2.1, x.1.2.2.2.1⟩ y z.1).1, .si .i64 (ndV ⟨x.1.1, x.1.2.1, x.1.2.2.1, x.1.2.2.2.1⟩ y z.1).2)⟩
theorem ndAll_kept : ndAll.Kept Tryz.prog 68 := by
  intro x y z hx
  let x' : TermX × Unit := x
  exact law_nd_kept (SizeOf.sizeOf (⟨x'.1.1, x'.1.2.1, x'.1.2.2.1, x'.1.2.2.2.1⟩ : Trm) + 1) x y z ⟨⟨Nat.lt_succ_self _, hx.1⟩, hx.2⟩
end Go.Proofs.YtghaalknpdlobaaGreatDoor

namespace Go.Proofs.YtghaalknpdlobaaGreatDoor
set_option linter.unusedSectionVars false
set_option linter.unusedVariables false
set_option linter.unusedSimpArgs false
open Go Go.Ev Go.Proofs
set_option maxRecDepth 100000

/-! The law's small. -/

def wideB (c : SCase) : Bool := decide (20 < (c.args.length : Int)) || decide (200 < (c.name.size : Int))
def smG : List Srt → Int → Bool
  | [], _ => true
  | s :: g, m => !(s.cases.any wideB) && (!(decide (60 < IntKind.i64.wrap (m + (s.cases.length : Int)))) && (!(decide (5 < (s.vec.length : Int))) && smG g (IntKind.i64.wrap (m + (s.cases.length : Int)))))
def smallB (g : List Srt) : Bool := smG g 0 && !(decide (12 < (g.length : Int)))
def okLens (g : List Srt) : Prop := g.length ≤ maxL ∧ ∀ s ∈ g, s.cases.length ≤ maxL

abbrev SaX : Type := List (List Srt) × Int × Int × List Srt × Int × List Srt × Int × Int × Unit × List SCase × Int × Int × Unit
abbrev SaX2 : Type := List (List Srt) × Int × Int × List Srt × Int × List Srt × Int × Int × Unit
abbrev SaX1 : Type := List (List Srt) × Int × Int × Unit
noncomputable abbrev saK : List (Nat × Pt) := [(10, .d Cd.sorts), (11, .i .i64), (12, .i .i64), (4, .d Cd.sort), (5, .i .i64), (16, .d Cd.sort), (17, .i .i64), (18, .i .i64)]
noncomputable def sa3Dt (gs : List (List Srt)) (n1 i1 : Int) (g : List Srt) (m : Int) (g2 : List Srt) (n2 i2 : Int) (b1 b2 b3 : Bool) (c0 : List SCase) (v : List Int) (cs : List SCase) (i3 : Int) : Dt (AExit × List AVal × List AObj) :=
  .ite ((cs.drop i3.toNat).any wideB) (.leaf (.ret, [.sb false], [])) (.leaf (.exit 4, [.dsl (Cd.sorts : Cd) gs, .si .i64 n1, .si .i64 i1, .dsl (Cd.sort : Cd) g, .si .i64 m, .dsl (Cd.sort : Cd) g2, .si .i64 n2, .si .i64 i2, .ptr 0 0],
    [.cells [.sb b1, .sb b2, .sb b3, .dsl (Cd.case : Cd) c0, .dsl (Cd.int : Cd) v] 106 false false 0 0 [(0, 0, 5)]]))
def sa3V (cs : List SCase) (n i : Int) : Prop := n = (cs.length : Int) ∧ cs.length ≤ maxL ∧ 0 ≤ i ∧ i ≤ (cs.length : Int)
noncomputable def sa3 : PSpec :=
  { body := loopIn Tryz.f16 4, nt := 59, nx := 1, room := 8, keep := saK ++ [(7, .p 0 0), (28, .d Cd.case), (29, .i .i64), (30, .i .i64)], objs := [(0, .cells sortP 106 0 0 [(0, 0, 5)])]
    keepX := fun x => match x with | .ret => [2] | _ => [10, 11, 12, 4, 5, 16, 17, 18, 7], objsX := fun x => match x with | .ret => [] | _ => [0]
    inv := fun (x : SaX) (y : SmY) => sa3V x.2.2.2.2.2.2.2.2.2.1 x.2.2.2.2.2.2.2.2.2.2.1 x.2.2.2.2.2.2.2.2.2.2.2.1
    res := fun (x : SaX) (y : SmY) => sa3Dt x.1 x.2.1 x.2.2.1 x.2.2.2.1 x.2.2.2.2.1 x.2.2.2.2.2.1 x.2.2.2.2.2.2.1 x.2.2.2.2.2.2.2.1 y.1.1 y.1.2.1 y.1.2.2.1 y.1.2.2.2.1 y.1.2.2.2.2.1 x.2.2.2.2.2.2.2.2.2.1 x.2.2.2.2.2.2.2.2.2.2.2.1 }
theorem sa3q_ok : LpSound Tryz.prog (sa3.loop []) := by
  refine pkept ct0 lp0 sa3 (fun (x : SaX) _ => (((show List SCase from x.2.2.2.2.2.2.2.2.2.1).length : Int) - x.2.2.2.2.2.2.2.2.2.2.2.1).toNat) (by kernel_rfl) ?_
  intro xx yy hx
  obtain ⟨gs, n1, i1, g, m, g2, n2, i2, u1, cs, n3, i3, u2⟩ : SaX := xx
  obtain ⟨⟨b1, b2, b3, c0, v, u3⟩, u4⟩ : SmY := yy
  have hx : sa3V cs n3 i3 := hx
  obtain ⟨rfl, hm, h0, h1⟩ := hx
  have hm2 := len64 hm
  let z : SCase := Univ.dflt (Cd.case : Cd)
  refine hd_eq (t := .ite (decide (i3 < (cs.length : Int))) (.ite (decide (0 ≤ i3) && decide (i3 < (cs.length : Int))) (.ite (decide (20 < ((cs.getD i3.toNat z).args.length : Int))) (.leaf (true, .ret, [.sb false], [])) (.ite (decide (200 < ((cs.getD i3.toNat z).name.size : Int))) (.leaf (true, .ret, [.sb false], []))
      (.leaf (true, .normal, [.dsl (Cd.sorts : Cd) gs, .si .i64 n1, .si .i64 i1, .dsl (Cd.sort : Cd) g, .si .i64 m, .dsl (Cd.sort : Cd) g2, .si .i64 n2, .si .i64 i2, .ptr 0 0, .dsl (Cd.case : Cd) cs, .si .i64 (cs.length : Int), .si .i64 (IntKind.i64.wrap (i3 + 1))],
        [.cells [.sb b1, .sb b2, .sb b3, .dsl (Cd.case : Cd) c0, .dsl (Cd.int : Cd) v] 106 false false 0 0 [(0, 0, 5)]])))) .fail)
    (.leaf (true, .exit 4, [.dsl (Cd.sorts : Cd) gs, .si .i64 n1, .si .i64 i1, .dsl (Cd.sort : Cd) g, .si .i64 m, .dsl (Cd.sort : Cd) g2, .si .i64 n2, .si .i64 i2, .ptr 0 0], [.cells [.sb b1, .sb b2, .sb b3, .dsl (Cd.case : Cd) c0, .dsl (Cd.int : Cd) v] 106 false false 0 0 [(0, 0, 5)]]))) (by kernel_rfl) ?_
  refine holds_ite (fun hlt => ?_) (fun hlt => ⟨rfl, ?_⟩)
  · have hlt := of_decide_eq_true hlt
    have hd := drop_cons cs i3 z h0 hlt
    have hw : IntKind.i64.wrap (i3 + 1) = i3 + 1 := wrap64 (by omega) (by omega)
    have hc : (cs.drop i3.toNat).any wideB = (wideB (cs.getD i3.toNat z) || (cs.drop (i3 + 1).toNat).any wideB) := by rw [hd, List.any_cons]
    have bad : wideB (cs.getD i3.toNat z) = true → (sa3Dt gs n1 i1 g m g2 n2 i2 b1 b2 b3 c0 v cs i3).val = some (.ret, [.sb false], []) := by
      intro h; unfold sa3Dt; rw [hc, h]; rfl
    rw [hw]
    refine holds_need (by simp; exact ⟨h0, hlt⟩) (holds_ite (fun h => ⟨rfl, bad (by unfold wideB; rw [h]; rfl)⟩) fun h => holds_ite (fun h' => ⟨rfl, bad (by unfold wideB; rw [h', Bool.or_true])⟩) fun h' => ⟨rfl, (gs, n1, i1, g, m, g2, n2, i2, (), cs, (cs.length : Int), (i3 + 1 : Int), ()), ((b1, b2, b3, c0, v, ()), ()), rfl, rfl, ?_, ?_, ?_⟩)
    · show sa3V cs (cs.length : Int) (i3 + 1)
      exact ⟨rfl, hm, by omega, by omega⟩
    · show ((cs.length : Int) - (i3 + 1)).toNat < ((cs.length : Int) - i3).toNat
      omega
    · have hf : wideB (cs.getD i3.toNat z) = false := by unfold wideB; rw [h, h']; rfl
      show (sa3Dt gs n1 i1 g m g2 n2 i2 b1 b2 b3 c0 v cs (i3 + 1)).val = (sa3Dt gs n1 i1 g m g2 n2 i2 b1 b2 b3 c0 v cs i3).val
      unfold sa3Dt; rw [hc, hf, Bool.false_or]
  · have hlt := of_decide_eq_false hlt
    show (sa3Dt gs n1 i1 g m g2 n2 i2 b1 b2 b3 c0 v cs i3).val = _
    unfold sa3Dt
    rw [drop_end cs i3 h1 hlt]
    rfl

noncomputable def sa2Dt (gs : List (List Srt)) (n1 i1 : Int) (g : List Srt) (m : Int) (g2 : List Srt) (i2 : Int) : Dt (AExit × List AVal × List AObj) :=
  .ite (!smG (g2.drop i2.toNat) m) (.leaf (.ret, [.sb false], [])) (.leaf (.exit 2, [.dsl (Cd.sorts : Cd) gs, .si .i64 n1, .si .i64 i1, .dsl (Cd.sort : Cd) g], []))
def sa2V (g2 : List Srt) (n2 i2 : Int) : Prop := okLens g2 ∧ n2 = (g2.length : Int) ∧ 0 ≤ i2 ∧ i2 ≤ (g2.length : Int)
noncomputable def sa2 : PSpec :=
  { body := markB [4] (loopIn Tryz.f16 2), nt := 59, nx := 0, room := 32, keep := saK, objs := []
    keepX := fun x => match x with | .ret => [2] | _ => [10, 11, 12, 4], objsX := fun _ => []
    inv := fun (x : SaX2) _ => sa2V x.2.2.2.2.2.1 x.2.2.2.2.2.2.1 x.2.2.2.2.2.2.2.1
    res := fun (x : SaX2) _ => sa2Dt x.1 x.2.1 x.2.2.1 x.2.2.2.1 x.2.2.2.2.1 x.2.2.2.2.2.1 x.2.2.2.2.2.2.2.1 }
theorem sa2q_ok : LpSound Tryz.prog (sa2.loop [(4, sa3.loop [])]) := by
  refine pkept ct0 (lpc sa3q_ok lp0) sa2 (fun (x : SaX2) _ => (((show List Srt from x.2.2.2.2.2.1).length : Int) - x.2.2.2.2.2.2.2.1).toNat) (by kernel_rfl) ?_
  intro xx yy hx
  obtain ⟨gs, n1, i1, g, m, g2, n2, i2, u1⟩ : SaX2 := xx
  have hx : sa2V g2 n2 i2 := hx
  obtain ⟨⟨hm, hcs⟩, rfl, h0, h1⟩ := hx
  have hm2 := len64 hm
  let z : Srt := Univ.dflt (Cd.sort : Cd)
  let M : Int := IntKind.i64.wrap (m + ((g2.getD i2.toNat z).cases.length : Int))
  refine hd_eq (t := .ite (decide (i2 < (g2.length : Int))) (.ite (decide (0 ≤ i2) && decide (i2 < (g2.length : Int))) (.ite (dec (sa3V (g2.getD i2.toNat z).cases ((g2.getD i2.toNat z).cases.length : Int) 0)) (.ite ((g2.getD i2.toNat z).cases.any wideB) (.leaf (true, .ret, [.sb false], []))
      (.ite (decide (60 < M)) (.leaf (true, .ret, [.sb false], [])) (.ite (decide (5 < ((g2.getD i2.toNat z).vec.length : Int))) (.leaf (true, .ret, [.sb false], []))
        (.leaf (true, .normal, [.dsl (Cd.sorts : Cd) gs, .si .i64 n1, .si .i64 i1, .dsl (Cd.sort : Cd) g, .si .i64 M, .dsl (Cd.sort : Cd) g2, .si .i64 (g2.length : Int), .si .i64 (IntKind.i64.wrap (i2 + 1))], []))))) .fail) .fail)
    (.leaf (true, .exit 2, [.dsl (Cd.sorts : Cd) gs, .si .i64 n1, .si .i64 i1, .dsl (Cd.sort : Cd) g], []))) (by kernel_rfl) ?_
  refine holds_ite (fun hlt => ?_) (fun hlt => ⟨rfl, ?_⟩)
  · have hlt := of_decide_eq_true hlt
    have hd := drop_cons g2 i2 z h0 hlt
    have hw : IntKind.i64.wrap (i2 + 1) = i2 + 1 := wrap64 (by omega) (by omega)
    have hcl := hcs _ (getD_mem g2 i2 z h0 hlt)
    have hc : smG (g2.drop i2.toNat) m = (!((g2.getD i2.toNat z).cases.any wideB) && (!(decide (60 < M)) && (!(decide (5 < ((g2.getD i2.toNat z).vec.length : Int))) && smG (g2.drop (i2 + 1).toNat) M))) := by
      rw [hd]; conv => lhs; unfold smG
    have bad : smG (g2.drop i2.toNat) m = false → (sa2Dt gs n1 i1 g m g2 i2).val = some (.ret, [.sb false], []) := by
      intro h; unfold sa2Dt; rw [h]; rfl
    rw [hw]
    refine holds_need (by simp; exact ⟨h0, hlt⟩) (holds_need (dec_true ⟨rfl, hcl, Int.le_refl _, by omega⟩) (holds_ite (fun h => ⟨rfl, bad (by rw [hc, h]; rfl)⟩) fun h => holds_ite (fun h' => ⟨rfl, bad (by rw [hc, h']; simp)⟩) fun h' => holds_ite (fun h'' => ⟨rfl, bad (by rw [hc, h'']; simp)⟩) fun h'' =>
      ⟨rfl, (gs, n1, i1, g, M, g2, (g2.length : Int), (i2 + 1 : Int), ()), (), rfl, rfl, ?_, ?_, ?_⟩))
    · show sa2V g2 (g2.length : Int) (i2 + 1)
      exact ⟨⟨hm, hcs⟩, rfl, by omega, by omega⟩
    · show ((g2.length : Int) - (i2 + 1)).toNat < ((g2.length : Int) - i2).toNat
      omega
    · show (sa2Dt gs n1 i1 g M g2 (i2 + 1)).val = (sa2Dt gs n1 i1 g m g2 i2).val
      unfold sa2Dt; rw [hc, h, h', h'']; rfl
  · have hlt := of_decide_eq_false hlt
    show (sa2Dt gs n1 i1 g m g2 i2).val = _
    unfold sa2Dt
    rw [drop_end g2 i2 h1 hlt]
    rfl

noncomputable def sa1Dt (gs : List (List Srt)) (i : Int) : Dt (AExit × List AVal × List AObj) := .ite ((gs.drop i.toNat).all smallB) (.leaf (.exit 0, [], [])) (.leaf (.ret, [.sb false], []))
def sa1V (gs : List (List Srt)) (n i : Int) : Prop := (∀ g ∈ gs, okLens g) ∧ gs.length ≤ maxL ∧ n = (gs.length : Int) ∧ 0 ≤ i ∧ i ≤ (gs.length : Int)
noncomputable def sa1 : PSpec :=
  { body := markB [2] (loopIn Tryz.f16 0), nt := 59, nx := 0, room := 64, keep := [(10, .d Cd.sorts), (11, .i .i64), (12, .i .i64)], objs := []
    keepX := fun x => match x with | .ret => [2] | _ => [], objsX := fun _ => []
    inv := fun (x : SaX1) _ => sa1V x.1 x.2.1 x.2.2.1
    res := fun (x : SaX1) _ => sa1Dt x.1 x.2.2.1 }
theorem sa1q_ok : LpSound Tryz.prog (sa1.loop [(2, sa2.loop [(4, sa3.loop [])])]) := by
  refine pkept ct0 (lpc sa2q_ok lp0) sa1 (fun (x : SaX1) _ => (((show List (List Srt) from x.1).length : Int) - x.2.2.1).toNat) (by kernel_rfl) ?_
  intro xx yy hx
  obtain ⟨gs, n, i, u1⟩ : SaX1 := xx
  have hx : sa1V gs n i := hx
  obtain ⟨hg, hm, rfl, h0, h1⟩ := hx
  have hm2 := len64 hm
  let z : List Srt := Univ.dflt (Cd.sorts : Cd)
  refine hd_eq (t := .ite (decide (i < (gs.length : Int))) (.ite (decide (0 ≤ i) && decide (i < (gs.length : Int))) (.ite (dec (sa2V (gs.getD i.toNat z) ((gs.getD i.toNat z).length : Int) 0)) (.ite (!smG (gs.getD i.toNat z) 0) (.leaf (true, .ret, [.sb false], []))
      (.ite (decide (12 < ((gs.getD i.toNat z).length : Int))) (.leaf (true, .ret, [.sb false], [])) (.leaf (true, .normal, [.dsl (Cd.sorts : Cd) gs, .si .i64 (gs.length : Int), .si .i64 (IntKind.i64.wrap (i + 1))], [])))) .fail) .fail)
    (.leaf (true, .exit 0, [], []))) (by kernel_rfl) ?_
  refine holds_ite (fun hlt => ?_) (fun hlt => ⟨rfl, ?_⟩)
  · have hlt := of_decide_eq_true hlt
    have hd := drop_cons gs i z h0 hlt
    have hw : IntKind.i64.wrap (i + 1) = i + 1 := wrap64 (by omega) (by omega)
    have hgi := hg _ (getD_mem gs i z h0 hlt)
    have hc : (gs.drop i.toNat).all smallB = ((smG (gs.getD i.toNat z) 0 && !(decide (12 < ((gs.getD i.toNat z).length : Int)))) && (gs.drop (i + 1).toNat).all smallB) := by rw [hd, List.all_cons]; rfl
    have bad : (gs.drop i.toNat).all smallB = false → (sa1Dt gs i).val = some (.ret, [.sb false], []) := by
      intro h; unfold sa1Dt; rw [h]; rfl
    rw [hw]
    refine holds_need (by simp; exact ⟨h0, hlt⟩) (holds_need (dec_true ⟨hgi, rfl, Int.le_refl _, by omega⟩) (holds_ite (fun h => ⟨rfl, bad ?_⟩) fun h => holds_ite (fun h' => ⟨rfl, bad (by rw [hc, h']; simp)⟩) fun h' => ⟨rfl, (gs, (gs.length : Int), (i + 1 : Int), ()), (), rfl, rfl, ?_, ?_, ?_⟩))
    · have h : smG (gs.getD i.toNat z) 0 = false := by simpa using h
      rw [hc, h]; rfl
    · show sa1V gs (gs.length : Int) (i + 1)
      exact ⟨hg, hm, rfl, by omega, by omega⟩
    · show ((gs.length : Int) - (i + 1)).toNat < ((gs.length : Int) - i).toNat
      omega
    · have h : smG (gs.getD i.toNat z) 0 = true := by simpa using h
      show (sa1Dt gs (i + 1)).val = (sa1Dt gs i).val
      unfold sa1Dt; rw [hc, h, h']; rfl
  · have hlt := of_decide_eq_false hlt
    show (sa1Dt gs i).val = _
    unfold sa1Dt
    rw [drop_end gs i h1 hlt]
    rfl
noncomputable def smallC : FSpec := ⟨[.d Cd.sorts], fun (x : List (List Srt) × Unit) => (∀ g ∈ x.1, okLens g) ∧ x.1.length ≤ maxL, fun (x : List (List Srt) × Unit) => .leaf (.sb (x.1.all smallB))⟩
theorem small_kept : smallC.Kept Tryz.prog 16 := by
  have hL : ∀ p ∈ [(0, sa1.loop [(2, sa2.loop [(4, sa3.loop [])])])], LpSound Tryz.prog p.2 := lpc sa1q_ok lp0
  have hmk : mkFn Tryz.prog 16 = some (.code (unmark [(0, sa1.loop [(2, sa2.loop [(4, sa3.loop [])])])] (cd Tryz.f16 [0])) Tryz.f16.ntmps Tryz.f16.results.toList) := by kernel_rfl
  refine fkept ct0 hL smallC 16 Tryz.f16 [0] hmk (by kernel_rfl) ?_
  intro xx hx
  obtain ⟨gs, u⟩ : List (List Srt) × Unit := xx
  obtain ⟨hx, hm⟩ : (∀ g ∈ gs, okLens g) ∧ gs.length ≤ maxL := hx
  refine hd_eq (t := .ite (dec (sa1V gs (gs.length : Int) 0)) (.ite (gs.all smallB) (.leaf (true, .sb true)) (.leaf (true, .sb false))) .fail) (by kernel_rfl) ?_
  refine holds_need (dec_true ⟨hx, hm, rfl, Int.le_refl _, by omega⟩) (holds_ite (fun h => ⟨rfl, ?_⟩) (fun h => ⟨rfl, ?_⟩))
  · show some (AVal.sb (gs.all smallB)) = _
    rw [h]
  · show some (AVal.sb (gs.all smallB)) = _
    rw [h]

theorem smG_cases : ∀ {g : List Srt} {m : Int}, smG g m = true → ∀ s ∈ g, ∀ c ∈ s.cases, wideB c = false
  | [], _, _, s, h => by cases h
  | s :: g, m, hb, t, h => by
    unfold smG at hb
    simp only [Bool.and_eq_true] at hb
    rcases List.mem_cons.1 h with e | e
    · rw [e]
      intro c hc
      have := hb.1
      simp only [Bool.not_eq_true', List.any_eq_false] at this
      simpa using this c hc
    · exact smG_cases hb.2.2.2 t e
end Go.Proofs.YtghaalknpdlobaaGreatDoor

namespace Go.Proofs.YtghaalknpdlobaaGreatDoor
set_option linter.unusedSectionVars false
set_option linter.unusedVariables false
set_option linter.unusedSimpArgs false
open Go Go.Ev Go.Proofs Go.RowKit
set_option maxRecDepth 100000

/-! The law's sane, and SortsFits itself. -/

theorem sane_in (W : World) (m : Nat) : CallsIn (FW none) m Tryz.prog 15 #[] W fun e w' => e = .returned (.bool true) ∧ Below W.heap.size W w' := by
  refine callsIn_of_wp_marks (F := FW none) (n := m) (fn := Tryz.f15) (c := sane0) (by kernel_rfl) (by kernel_rfl) trivial ?_ rfl
  refine piece_sound (d := sane1) ext_ok follows_ok (env_new _) rfl (by kernel_rfl) (by kernel_rfl) piece1 (enters W 205 (by decide)) fun a1 w1 h1 => ?_
  refine piece_sound (d := sane2) ext_ok follows_ok (env_new _) rfl (by kernel_rfl) (by kernel_rfl) piece2 h1 fun a2 w2 h2 => ?_
  refine piece_sound (d := sane3) ext_ok follows_ok (env_new _) rfl (by kernel_rfl) (by kernel_rfl) piece3 h2 fun a3 w3 h3 => ?_
  refine piece_sound (d := sane4) ext_ok follows_ok (env_new _) rfl (by kernel_rfl) (by kernel_rfl) piece4 h3 fun a4 w4 h4 => ?_
  refine piece_sound (d := sane5) ext_ok follows_ok (env_new _) rfl (by kernel_rfl) (by kernel_rfl) piece5 h4 fun a5 w5 h5 => ?_
  refine piece_sound (d := sane6) ext_ok follows_ok (env_new _) rfl (by kernel_rfl) (by kernel_rfl) piece6 h5 fun a6 w6 h6 => ?_
  exact last_sound (t := 0) ext_ok follows_ok (env_new _) rfl (by kernel_rfl) (by kernel_rfl) piece7 h6

noncomputable def saneC : FSpec := ⟨[], fun _ => True, fun _ => .leaf (.sb true)⟩
theorem sane_kept : saneC.Kept Tryz.prog 15 := by
  intro x _ r hr
  cases hr
  refine ⟨rfl, fun Γ w vs hst hno hlo hv => ?_⟩
  have hvs : vs = #[] := by
    have := hv.nil_inv
    exact Array.toList_eq_nil_iff.1 this
  subst hvs
  have hmk : mkFn Tryz.prog 15 = some (.code (codeOf Tryz.f15) Tryz.f15.ntmps Tryz.f15.results.toList) := by kernel_rfl
  obtain ⟨_, _, _, _, _, _, hrun⟩ := mkFn_code hmk
  refine ⟨hrun _ _, fun m => CallsIn.mono (sane_in w m) ?_⟩
  rintro e w' ⟨rfl, hb⟩
  refine ⟨.bool true, Γ, rfl, by unfold VRel; rfl, hno, Ext.refl Γ, fun b ob e => ?_, hb⟩
  have h1 := hst b ob e
  have : b < w.heap.size := (Array.getElem?_eq_some_iff.1 h1).1
  rw [hb.block b this]; exact h1
end Go.Proofs.YtghaalknpdlobaaGreatDoor

namespace Go.Proofs.YtghaalknpdlobaaGreatDoor
set_option linter.unusedSectionVars false
set_option linter.unusedVariables false
set_option linter.unusedSimpArgs false
open Go Go.Ev Go.Proofs Go.RowKit
set_option maxRecDepth 100000

/-! The law SortsFits: true, whatever it is given. -/

theorem small_names {g : List Srt} (hl : okLens g) (h : smallB g = true) : namesOk g := by
  unfold smallB at h
  rw [Bool.and_eq_true] at h
  refine ⟨hl.1, fun s hs c hc => ?_⟩
  have hw := smG_cases h.1 s hs c hc
  unfold wideB at hw
  simp only [Bool.or_eq_false_iff, decide_eq_false_iff_not] at hw
  have e : c.name.size = c.name.data.toList.length := by cases c.name; simp [ByteArray.size]
  have := hw.2
  unfold maxL; omega

def lawP (g : List Srt) (t : Trm) : Prop := okLens g ∧ lenT t
noncomputable def lawS : FSpec := ⟨[.d Cd.sort, .i .i64, .agg termP], fun (x : FitsX) => lawP x.1 ⟨x.2.2.1.1, x.2.2.1.2.1, x.2.2.1.2.2.1, x.2.2.1.2.2.2.1⟩, fun _ => .leaf (.sb true)⟩
noncomputable def lawTail (g : List Srt) (b : Bool) (e : Int) (x y : List Bool) (p q : Int) : Dt (Bool × AVal) :=
  .ite (dec True) (.ite (dec (namesOk g)) (.ite (decide (errG g = errG g)) (.ite (b == b) (.ite (decide (e = e)) (.ite (dec (x.length ≤ maxL)) (.ite (eqL x y) (.leaf (true, .sb (decide (p = q)))) fF) .fail) fF) fF) fF) .fail) .fail
theorem tail_true {g : List Srt} {b : Bool} {e : Int} {x : List Bool} {p : Int} (hn : namesOk g) (hx : x.length ≤ maxL) : (lawTail g b e x x p p).holds fun q => q.1 = true ∧ some (AVal.sb true) = some q.2 := by
  unfold lawTail
  refine holds_need (dec_true trivial) (holds_need (dec_true hn) (holds_ite (fun _ => holds_ite (fun _ => holds_ite (fun _ => holds_need (dec_true hx) (holds_ite (fun _ => ⟨rfl, ?_⟩) (fun h => ?_))) (fun h => ?_)) (fun h => ?_)) (fun h => ?_)))
  · rw [decide_eq_true rfl]
  · exact absurd rfl (of_decide_eq_false h)
  · exact absurd rfl (of_decide_eq_false h)
  · simp at h
  · exact absurd rfl (of_decide_eq_false h)

noncomputable abbrev lawCs : List (FuncId × List FSpec) := [(15, [saneC]), (16, [smallC]), (18, [fitsC]), (19, [rfitsC]), (20, [emptC]), (21, [rempC]), (22, [checkC]), (23, [rcheckC]), (24, [eqlC])]
theorem law_kept : lawS.Kept Tryz.prog 3 := by
  have hcs : ∀ p ∈ lawCs, ∀ S ∈ p.2, S.Kept Tryz.prog p.1 := ctc sane_kept (ctc small_kept (ctc fits_kept (ctc rfits_kept (ctc empt_kept (ctc remp_kept (ctc check_kept (ctc rcheck_kept (ctc eql_kept ct0))))))))
  refine fkeptW (xsc (X := .w ndAll) ndAll_kept xs0) hcs lp0 lawS 3 Tryz.f3 [] (by kernel_rfl) (by kernel_rfl) ?_
  intro xx hx
  obtain ⟨g, i, ⟨k, n, s, l, u1⟩, u2⟩ : FitsX := xx
  obtain ⟨hg, ht⟩ : lawP g ⟨k, n, s, l⟩ := hx
  let b : Bool := fitsB g i ⟨k, n, s, l⟩
  let e : Int := fitsE g i ⟨k, n, s, l⟩
  refine hd_eq (t := .ite (dec True) (.ite (!true) (.leaf (true, .sb false)) (.ite (dec ((∀ h ∈ [g], okLens h) ∧ [g].length ≤ maxL)) (.ite (!([g].all smallB)) (.leaf (true, .sb true))
    (.ite (dec (lenT ⟨k, n, s, l⟩ ∧ (0 : Int) ≤ 2000 ∧ (2000 : Int) ≤ 1000000000 ∧ (0 : Int) ≤ 1 ∧ (1 : Int) ≤ 1000000)) (.ite (!(ndV ⟨k, n, s, l⟩ 2000 1).1) (.leaf (true, .sb true))
      (.ite (dec True) (.ite (dec (namesOk g ∧ tOk ⟨k, n, s, l⟩)) (.ite (dec True) (.ite (graphP g)
        (.ite (dec (namesOk g)) (.ite (graphP g) (lawTail g b e (emptL g) (emptL g) 0 0) (lawTail g b e (emptL g) [] 0 110)) .fail)
        (.ite (dec (namesOk g)) (.ite (graphP g) (lawTail g b e [] (emptL g) 110 0) (lawTail g b e [] [] 110 110)) .fail)) .fail) .fail) .fail)) .fail)) .fail)) .fail) (by kernel_rfl) ?_
  refine holds_need (dec_true trivial) (holds_ite (fun h => by cases h) fun _ => holds_need (dec_true ⟨fun h hh => by rw [List.mem_singleton.1 hh]; exact hg, by unfold maxL; simp⟩) (holds_ite (fun _ => ⟨rfl, rfl⟩) fun hs => ?_))
  have hs : smallB g = true := by simpa using hs
  have hn := small_names hg hs
  refine holds_need (dec_true ⟨ht, by omega, by omega, by omega, by omega⟩) (holds_ite (fun _ => ⟨rfl, rfl⟩) fun hf => ?_)
  have hf : (ndV ⟨k, n, s, l⟩ 2000 1).1 = true := by simpa using hf
  obtain ⟨a1, a2, a3⟩ := nd_true _ _ _ (by omega) hf
  have htk : tOk ⟨k, n, s, l⟩ := ⟨by omega, a3⟩
  refine holds_need (dec_true trivial) (holds_need (dec_true ⟨hn, htk⟩) (holds_need (dec_true trivial) (holds_ite (fun q => holds_need (dec_true hn) (holds_ite (fun _ => ?_) (fun q' => by rw [q] at q'; cases q'))) (fun q => holds_need (dec_true hn) (holds_ite (fun q' => by rw [q] at q'; cases q') (fun _ => ?_))))))
  · exact tail_true hn (by rw [empt_len]; exact hg.1)
  · exact tail_true hn (by unfold maxL; simp)
end Go.Proofs.YtghaalknpdlobaaGreatDoor

namespace Go.Proofs.YtghaalknpdlobaaGreatDoor
set_option linter.unusedSectionVars false
set_option linter.unusedVariables false
set_option linter.unusedSimpArgs false
open Go Go.Ev Go.Proofs Go.RowKit
set_option maxRecDepth 100000

/-! What a row's reading of its arguments tells: data of the chapter's universe. -/

theorem choose_below {α : Type} (d : α) {n : Nat} {p : Nat → α → Prop} (h : ∀ i, i < n → ∃ a, p i a) : ∃ f : Nat → α, ∀ i, i < n → p i (f i) :=
  ⟨fun i => if hi : i < n then (h i hi).choose else d, fun i hi => by simp only [dif_pos hi]; exact (h i hi).choose_spec⟩

section
variable {H : Type} {enc : TypeId × Value → H} {W : World} {sp : Nat → Bool} {hd : Bool}

/-- These cells stand for z. -/
def CellsAre (W : World) (c : Cd) (cs : List Value) (z : c.S) : Prop :=
  cs.length = c.esz ∧ ∀ (k : Nat) (cl : Cell Univ.C Univ.S), (c.cells z)[k]? = some cl → ∃ v, cs[k]? = some v ∧ CRel (fun b => W.heap[b]?) cl v

theorem slice_in {t e : TypeId} (ht : Tryz.prog.underlying t = some (.slice e)) (c : Cd) (hc : Tryz.prog.cellsOf e = c.esz) (Q : c.S → Prop) {fuel : Nat} {cs : List Value} {x : DataW H × List MemPlace}
    (h : DataW.trod enc Tryz.prog W 0 sp hd fuel t cs = some x) (ih : ∀ n cs' y, n < fuel → DataW.trod enc Tryz.prog W 0 sp hd n e cs' = some y → ∃ z, CellsAre W c cs' z ∧ Q z) :
    ∃ (v : Value) (l : List c.S), cs = [v] ∧ CRel (fun b => W.heap[b]?) (.sl c l : Cell Univ.C Univ.S) v ∧ l.length ≤ maxL ∧ ∀ z ∈ l, Q z := by
  rcases DataW.trod_slice ht h with ⟨rfl, _⟩ | ⟨a, len, cap, elems, rest, n, rfl, rfl, _, _, hl, hm, hlen, hel, _, _⟩
  · exact ⟨_, [], rfl, .nil c none 0, Nat.zero_le _, fun _ h => by cases h⟩
  have hx : ∀ i, i < len → ∃ q : List Value × c.S, W.cells? 0 (a.add (i * c.esz)) c.esz = some q.1 ∧ CellsAre W c q.1 q.2 ∧ Q q.2 := by
    intro i hi
    have e1 := hel i hi
    have hi' : i < elems.length := by omega
    rw [List.getElem?_eq_getElem hi', hc] at e1
    obtain ⟨cs', h1, h2⟩ := Option.bind_eq_some_iff.1 e1
    obtain ⟨z, hz, hq⟩ := ih n cs' _ (Nat.lt_succ_self n) h2
    exact ⟨(cs', z), h1, hz, hq⟩
  by_cases h0 : len = 0
  · subst h0
    exact ⟨_, [], rfl, .nil c (some a) cap, Nat.zero_le _, fun _ h => by cases h⟩
  obtain ⟨F, hF⟩ := choose_below (α := List Value × c.S) ([], c.dflt) hx
  have hpos : 0 < c.esz := Univ.pos (self := univ) c
  have hcell : ∀ i, i < len → ∀ k, k < c.esz → W.cell? ((a.add (i * c.esz)).add k) = (F i).1[k]? := fun i hi => (World.cells?_some (hF i hi).1).2.2
  have hlenF : ∀ i, i < len → (F i).1.length = c.esz := fun i hi => (hF i hi).2.1.1
  have hv : ∀ i, i < len → ∀ k, k < c.esz → (F i).1[k]? = some ((F i).1.getD k (.bool false)) := by
    intro i hi k hk
    rw [← hlenF i hi] at hk
    simp [List.getD, List.getElem?_eq_getElem hk]
  obtain ⟨C, e', z, hb, hsp⟩ : ∃ C e' z, W.heap[a.block]? = some (.cells C e' z) ∧ a.spot = none := by
    have := hcell 0 (by omega) 0 hpos
    rw [hv 0 (by omega) 0 hpos, Nat.zero_mul] at this
    have e0 : (a.add 0).add 0 = a := by simp [Addr.add]
    rw [e0] at this
    unfold World.cell? at this
    split at this
    · rename_i C e' z hb
      split at this
      · cases this
      · rename_i hs
        exact ⟨C, e', z, hb, by simpa using hs⟩
    · cases this
  have hadd : ∀ i k, (a.add i).add k = ⟨a.block, a.off + i + k, none⟩ := by
    intro i k
    cases a with
    | mk b o s =>
      obtain rfl : s = none := hsp
      unfold Addr.add
      by_cases hi : i = 0 <;> by_cases hk : k = 0 <;> simp [hi, hk]
  have hC : ∀ i, i < len → ∀ k, k < c.esz → C[a.off + i * c.esz + k]? = some ((F i).1.getD k (.bool false)) := by
    intro i hi k hk
    have := hcell i hi k hk
    rw [hadd, hv i hi k hk] at this
    unfold World.cell? at this
    rw [show (⟨a.block, a.off + i * c.esz + k, none⟩ : Addr).block = a.block from rfl, hb] at this
    simpa using this
  let l : List c.S := (List.range len).map fun i => (F i).2
  have hll : l.length = len := by simp [l]
  have hget : ∀ (j : Nat) (y : c.S), l[j]? = some y → j < len ∧ y = (F j).2 := by
    intro j y hy
    have hj : j < len := by
      have := (List.getElem?_eq_some_iff.1 hy).1
      omega
    refine ⟨hj, ?_⟩
    simp only [l, List.getElem?_map, List.getElem?_range hj, Option.map_some, Option.some.injEq] at hy
    exact hy.symm
  refine ⟨.slice (some a) len cap, l, rfl, ?_, ?_, ?_⟩
  · have ea : a = ⟨a.block, a.off, none⟩ := by cases a; simp_all
    have key : CRel (fun b => W.heap[b]?) (.sl c l : Cell Univ.C Univ.S) (.slice (some ⟨a.block, a.off, none⟩) l.length cap) := by
      refine CRel.sl c l a.block a.off cap C e' z (fun j k => (F j).1.getD k (.bool false)) hb (by omega) ?_ ?_
      · intro j y hy k hk
        exact hC j (hget j y hy).1 k hk
      · intro j y hy k cl hk
        obtain ⟨hj, rfl⟩ := hget j y hy
        obtain ⟨v, h1, h2⟩ := (hF j hj).2.1.2 k cl hk
        have : (F j).1.getD k (.bool false) = v := by simp [List.getD, h1]
        rw [this]
        exact h2
    rw [hll, ← ea] at key
    exact key
  · have : maxLen = maxL := by unfold maxLen maxL; rfl
    omega
  · intro y hy
    obtain ⟨i, hi, rfl⟩ := List.mem_map.1 hy
    exact (hF i (by simpa using hi)).2.2

theorem struct_in {t : TypeId} {fs : Array Field} (ht : Tryz.prog.underlying t = some (.struct fs)) {ks : List (TypeId × Nat × Nat)} (hk : fs.toList.map (fun f => (f.type, f.offset, Tryz.prog.cellsOf f.type)) = ks)
    {fuel : Nat} {cs : List Value} {x : DataW H × List MemPlace} (h : DataW.trod enc Tryz.prog W 0 sp hd fuel t cs = some x) :
    ∃ n, fuel = n + 1 ∧ cs.length = Tryz.prog.cellsOf t ∧ ∀ k ∈ ks, ∃ y, DataW.trod enc Tryz.prog W 0 sp hd n k.1 ((cs.drop k.2.1).take k.2.2) = some y := by
  obtain ⟨xs, n, h1, _, h2, h3, h4⟩ := DataW.trod_struct ht h
  refine ⟨n, h1, h2, fun k hkk => ?_⟩
  rw [← hk] at hkk
  obtain ⟨f, hf, rfl⟩ := List.mem_map.1 hkk
  obtain ⟨i, hi, e⟩ := List.getElem_of_mem hf
  have hi2 : i < xs.length := by rw [h3]; simpa using hi
  have := h4 i f (by rw [← e]; simp)
  exact ⟨xs[i], by rw [this, List.getElem?_eq_getElem hi2]⟩

noncomputable def fieldsOf (t : TypeId) : Array Field := match Tryz.prog.underlying t with
  | some (.struct fs) => fs
  | _ => #[]

theorem bool_in {fuel : Nat} {cs : List Value} {x : DataW H × List MemPlace} (h : DataW.trod enc Tryz.prog W 0 sp hd fuel 4 cs = some x) : ∃ b, cs = [.bool b] := by
  obtain ⟨b, h, _⟩ := DataW.trod_bool (by kernel_rfl) h; exact ⟨b, h⟩
theorem int_in {fuel : Nat} {cs : List Value} {x : DataW H × List MemPlace} (h : DataW.trod enc Tryz.prog W 0 sp hd fuel 3 cs = some x) : ∃ b, cs = [.int .i64 b] := by
  obtain ⟨b, h, _⟩ := DataW.trod_int (k := .i64) (by kernel_rfl) h; exact ⟨b, h⟩
theorem str_in {fuel : Nat} {cs : List Value} {x : DataW H × List MemPlace} (h : DataW.trod enc Tryz.prog W 0 sp hd fuel 9 cs = some x) : ∃ b, cs = [.string b] := by
  obtain ⟨b, h, _⟩ := DataW.trod_string (by kernel_rfl) h; exact ⟨b, h⟩
theorem ints_in {fuel : Nat} {cs : List Value} {x : DataW H × List MemPlace} (h : DataW.trod enc Tryz.prog W 0 sp hd fuel 49 cs = some x) :
    ∃ (v : Value) (l : List Int), cs = [v] ∧ CRel (fun b => W.heap[b]?) (.sl Cd.int l : Cell Univ.C Univ.S) v := by
  obtain ⟨v, l, h1, h2, _⟩ := slice_in (t := 49) (e := 3) (by kernel_rfl) .int (by kernel_rfl) (fun _ => True) h fun n cs' y _ hy => by
    obtain ⟨b, rfl⟩ := int_in hy
    refine ⟨b, ⟨rfl, fun k cl hk => ?_⟩, trivial⟩
    match k, hk with
    | 0, hk => cases hk; exact ⟨_, rfl, .i _ _⟩
  exact ⟨v, l, h1, h2⟩

noncomputable def caseF : Array Field := fieldsOf 103
theorem symbol_in {fuel : Nat} {cs : List Value} {x : DataW H × List MemPlace} (h : DataW.trod enc Tryz.prog W 0 sp hd fuel 101 cs = some x) : ∃ s n, cs = [.string s, .int .i64 n] := by
  obtain ⟨n, rfl, hl, hk⟩ := struct_in (t := 101) (fs := fieldsOf 101) (ks := [(9, 0, 1), (3, 1, 1)]) (by kernel_rfl) (by kernel_rfl) h
  have hl : cs.length = 2 := hl
  match cs, hl with
  | [a, b], _ =>
    obtain ⟨_, h0⟩ := hk (9, 0, 1) (by simp)
    obtain ⟨_, h1⟩ := hk (3, 1, 1) (by simp)
    obtain ⟨s, e0⟩ := str_in h0
    obtain ⟨m, e1⟩ := int_in h1
    simp only [List.drop_zero, List.take_succ_cons, List.take_zero, List.cons.injEq, and_true, List.drop_succ_cons] at e0 e1
    exact ⟨s, m, by rw [e0, e1]⟩
theorem case_in {fuel : Nat} {cs : List Value} {x : DataW H × List MemPlace} (h : DataW.trod enc Tryz.prog W 0 sp hd fuel 103 cs = some x) : ∃ z, CellsAre W .case cs z ∧ True := by
  obtain ⟨n, rfl, hl, hk⟩ := struct_in (t := 103) (fs := fieldsOf 103) (ks := [(101, 0, 2), (49, 2, 1)]) (by kernel_rfl) (by kernel_rfl) h
  have hl : cs.length = 3 := hl
  match cs, hl with
  | [a, b, c], _ =>
    obtain ⟨_, h0⟩ := hk (101, 0, 2) (by simp)
    obtain ⟨_, h1⟩ := hk (49, 2, 1) (by simp)
    obtain ⟨s, m, e0⟩ := symbol_in h0
    obtain ⟨v, l, e1, hv⟩ := ints_in h1
    simp only [List.drop_zero, List.take_succ_cons, List.take_zero, List.cons.injEq, and_true, List.drop_succ_cons] at e0 e1
    obtain ⟨rfl, rfl⟩ := e0
    subst e1
    refine ⟨⟨s, m, l⟩, ⟨rfl, fun k cl hk => ?_⟩, trivial⟩
    match k, hk with
    | 0, hk => cases hk; exact ⟨_, rfl, .s _⟩
    | 1, hk => cases hk; exact ⟨_, rfl, .i _ _⟩
    | 2, hk => cases hk; exact ⟨_, rfl, hv⟩
theorem sort_in {fuel : Nat} {cs : List Value} {x : DataW H × List MemPlace} (h : DataW.trod enc Tryz.prog W 0 sp hd fuel 106 cs = some x) : ∃ z : Srt, CellsAre W .sort cs z ∧ z.cases.length ≤ maxL := by
  obtain ⟨n, rfl, hl, hk⟩ := struct_in (t := 106) (fs := fieldsOf 106) (ks := [(4, 0, 1), (4, 1, 1), (4, 2, 1), (104, 3, 1), (49, 4, 1)]) (by kernel_rfl) (by kernel_rfl) h
  have hl : cs.length = 5 := hl
  match cs, hl with
  | [a, b, c, d, e], _ =>
    obtain ⟨_, h0⟩ := hk (4, 0, 1) (by simp)
    obtain ⟨_, h1⟩ := hk (4, 1, 1) (by simp)
    obtain ⟨_, h2⟩ := hk (4, 2, 1) (by simp)
    obtain ⟨_, h3⟩ := hk (104, 3, 1) (by simp)
    obtain ⟨_, h4⟩ := hk (49, 4, 1) (by simp)
    obtain ⟨i, e0⟩ := bool_in h0
    obtain ⟨s, e1⟩ := bool_in h1
    obtain ⟨t, e2⟩ := bool_in h2
    obtain ⟨v, l, e3, hv, hvl, _⟩ := slice_in (t := 104) (e := 103) (by kernel_rfl) .case (by kernel_rfl) (fun _ => True) h3 fun _ _ _ _ hy => case_in hy
    obtain ⟨u, m, e4, hu⟩ := ints_in h4
    simp only [List.drop_zero, List.take_succ_cons, List.take_zero, List.cons.injEq, and_true, List.drop_succ_cons] at e0 e1 e2 e3 e4
    subst e0 e1 e2 e3 e4
    refine ⟨⟨i, s, t, l, m⟩, ⟨rfl, fun k cl hk => ?_⟩, hvl⟩
    match k, hk with
    | 0, hk => cases hk; exact ⟨_, rfl, .b _⟩
    | 1, hk => cases hk; exact ⟨_, rfl, .b _⟩
    | 2, hk => cases hk; exact ⟨_, rfl, .b _⟩
    | 3, hk => cases hk; exact ⟨_, rfl, hv⟩
    | 4, hk => cases hk; exact ⟨_, rfl, hu⟩
theorem sorts_in {fuel : Nat} {cs : List Value} {x : DataW H × List MemPlace} (h : DataW.trod enc Tryz.prog W 0 sp hd fuel 22 cs = some x) :
    ∃ (v : Value) (g : List Srt), cs = [v] ∧ CRel (fun b => W.heap[b]?) (.sl Cd.sort g : Cell Univ.C Univ.S) v ∧ okLens g := by
  obtain ⟨v, l, h1, h2, h3, h4⟩ := slice_in (t := 22) (e := 106) (by kernel_rfl) .sort (by kernel_rfl) (fun (z : Srt) => z.cases.length ≤ maxL) h fun _ _ _ _ hy => sort_in hy
  exact ⟨v, l, h1, h2, h3, h4⟩
theorem lenL_of : ∀ {l : List Trm}, (∀ x ∈ l, lenT x) → lenL l
  | [], _ => by unfold lenL; trivial
  | x :: l, h => by unfold lenL; exact ⟨h x (by simp), lenL_of fun y hy => h y (by simp [hy])⟩
theorem term_in : ∀ {fuel : Nat} {cs : List Value} {x : DataW H × List MemPlace}, DataW.trod enc Tryz.prog W 0 sp hd fuel 25 cs = some x → ∃ z : Trm, CellsAre W .term cs z ∧ lenT z := by
  intro fuel
  induction fuel using Nat.strongRecOn with
  | _ fuel ih =>
    intro cs x h
    obtain ⟨n, rfl, hl, hk⟩ := struct_in (t := 25) (fs := fieldsOf 25) (ks := [(3, 0, 1), (3, 1, 1), (9, 2, 1), (23, 3, 1)]) (by kernel_rfl) (by kernel_rfl) h
    have hl : cs.length = 4 := hl
    match cs, hl with
    | [a, b, c, d], _ =>
      obtain ⟨_, h0⟩ := hk (3, 0, 1) (by simp)
      obtain ⟨_, h1⟩ := hk (3, 1, 1) (by simp)
      obtain ⟨_, h2⟩ := hk (9, 2, 1) (by simp)
      obtain ⟨_, h3⟩ := hk (23, 3, 1) (by simp)
      obtain ⟨i, e0⟩ := int_in h0
      obtain ⟨m, e1⟩ := int_in h1
      obtain ⟨s, e2⟩ := str_in h2
      obtain ⟨v, l, e3, hv, hvl, hq⟩ := slice_in (t := 23) (e := 25) (by kernel_rfl) .term (by kernel_rfl) (fun (z : Trm) => lenT z) h3 fun n' cs' y hn hy => ih n' (by omega) hy
      simp only [List.drop_zero, List.take_succ_cons, List.take_zero, List.cons.injEq, and_true, List.drop_succ_cons] at e0 e1 e2 e3
      subst e0 e1 e2 e3
      refine ⟨⟨i, m, s, l⟩, ⟨rfl, fun k cl hk => ?_⟩, by unfold lenT; exact ⟨hvl, lenL_of hq⟩⟩
      match k, hk with
      | 0, hk => cases hk; exact ⟨_, rfl, .i _ _⟩
      | 1, hk => cases hk; exact ⟨_, rfl, .i _ _⟩
      | 2, hk => cases hk; exact ⟨_, rfl, .s _⟩
      | 3, hk => cases hk; exact ⟨_, rfl, hv⟩
end
end Go.Proofs.YtghaalknpdlobaaGreatDoor

