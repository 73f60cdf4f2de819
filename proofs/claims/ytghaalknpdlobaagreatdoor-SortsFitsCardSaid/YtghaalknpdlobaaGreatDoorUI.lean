/- A part of the proof that the card of SortsFits holds (Rows.SortsFitsCardSaid); no conditions. -/
import Derived.Test.YtghaalknpdlobaaGreatDoorUC
import Derived.Test.YtghaalknpdlobaaGreatDoorUH
import Derived.Test.YtghaalknpdlobaaGreatDoorUJ
import Derived.Test.YtghaalknpdlobaaGreatDoorUK
import Derived.Lay
import Derived.LaidOnce
import Derived.SevenTiedAt
namespace Go.Proofs.YtghaalknpdlobaaGreatDoor
set_option linter.unusedSectionVars false
set_option linter.unusedVariables false
set_option linter.unusedSimpArgs false
open Go Go.Ev Go.Proofs Go.RowKit Go.ChangeShapes Go.WideShapes Go.ChangeAt
set_option maxRecDepth 100000

/-! SortsFits: the row and the card. -/

theorem fits_lifted (os : Os) (started : os.Started) (H : Type) (enc : TypeId × Value → H) :
    ReturnsInHanded {} Tryz.checked os 3 .any (fun w args => (Rows.sortsFitsSpec.pre enc Tryz.prog Tryz.f3 [] false w args ∧ laidMetH Tryz.prog laidF w) ∧ sizedMet enc Tryz.prog Tryz.f3 (OpenSpec.ofChange Rows.sortsFitsSpec) false w args)
      (Rows.sortsFitsSpec.post enc Tryz.prog Tryz.f3 false true false false) := by
  refine returnsInHanded_of_change_and (C := Tryz.checked) (X := fun w _ => laidMetH Tryz.prog laidF w) (fun _ _ _ hh h => h.of_heap hh) own started inits3 f3q_at
    (ChangeSpec.witness_shaped (enc := enc) (C := Tryz.checked) (os := os) (X := fun w _ => laidMetH Tryz.prog laidF w) false (World.laidAll Tryz.prog os laidF) fitsArgs 8 (World.laidAll_os _ _ _)
      (World.shaped_of_ZipB (sh1 os) (sh2 os)) (ok3 os) (pre3 os enc) (size3 os enc)
      (by rw [laid_plain]; exact laidMet_laidAll _ (fits_lays os) (fits_ifs os))) ?_
  intro W base args ds gs before hval hW _ _ _ _
  exact fits_contract H enc W base args ds gs before hval hW

theorem fits_said : Rows.SortsFitsSaid :=
  OpenClaim.holds_of_wide 3 Tryz.f3 rfl rfl rfl rfl rfl rfl rfl ⟨rfl, rfl, rfl, rfl, rfl⟩ rfl rfl rfl rfl rfl f3q_named f3q_at fits_joined
    (of_decide_eq_true (by kernel_rfl)) (by unfold Func.isWrapper; first | (rw [if_pos (by decide +kernel)]; kernel_rfl) | (rw [if_neg (by decide +kernel)]; exact ⟨rfl, rfl⟩))
    (fun os started H enc _ => fits_lifted os started H enc)

theorem fits_plain (f : FuncId) (fn : Func) (hf : Tryz.pinned.checked.prog.funcNamed "riparian/riparianlaw11.SortsFits" = some f) (hfn : Tryz.pinned.checked.prog.funcs[f]? = some fn) :
    false = Tryz.pinned.checked.prog.looks [] ∧ ∀ (j : Nat) t, fn.params[j]? = some t → Tryz.pinned.checked.prog.wantsStandIn t = false := by
  obtain rfl : f = 3 := Option.some.inj (f3q_named.symm.trans hf) |>.symm
  obtain rfl : fn = Tryz.f3 := (Option.some.inj (f3q_at.symm.trans hfn)).symm
  refine ⟨looks0, fun j t ht => ?_⟩
  have ht : (#[22, 3, 25] : Array TypeId)[j]? = some t := ht
  have hm : t ∈ [22, 3, 25] := by simpa using Array.mem_of_getElem? ht
  exact (show Tryz.prog.wantsStandIn t = false by simpa using List.all_eq_true.1 stand0 t hm)

theorem fits_wf : Rows.sortsFitsRow.wfByText (OpenSpec.ofChange Rows.sortsFitsSpec) = true := by kernel_rfl
/-- The card. -/
theorem sortsFits_card : Rows.SortsFitsCardSaid :=
  Claim7.holds_tied_plain_at .later [] _ _ _ _ fits_said (fun _ h => by cases h) fits_wf (fun _ h => by cases h) sortsFits_row_tie rfl ⟨rfl, rfl⟩ main_is rfl fits_plain fits_goes
end Go.Proofs.YtghaalknpdlobaaGreatDoor

