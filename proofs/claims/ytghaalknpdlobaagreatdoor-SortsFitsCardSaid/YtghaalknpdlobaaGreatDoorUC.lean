/- A part of the proof that the card of SortsFits holds (Rows.SortsFitsCardSaid); no conditions. -/
import Derived.Test.YtghaalknpdlobaaGreatDoorUB
import Derived.Lay
import Derived.LaidOnce
import Derived.SevenTiedAt
namespace Go.Proofs.YtghaalknpdlobaaGreatDoor
set_option linter.unusedSectionVars false
set_option linter.unusedVariables false
set_option linter.unusedSimpArgs false
open Go Go.Ev Go.Proofs Go.RowKit Go.ChangeShapes Go.WideShapes Go.ChangeAt
set_option maxRecDepth 100000

/-! SortsFits: the witness, the row, the card. -/

theorem own : ownKnob Tryz.prog.godebug = none := by kernel_rfl
noncomputable def laidF : List (String × DataW Unit) := Rows.sortsFitsRow.laid
theorem laid_plain : laidMetH Tryz.prog laidF = laidMet Tryz.prog laidF := by
  funext W; exact MakeChecks.laidMetH_plain _ _ _ (by kernel_rfl)
noncomputable def fitsArgs : Array Value := #[.slice none 0 0, .int .i64 0, .agg #[.int .i64 0, .int .i64 0, .string ⟨#[]⟩, .slice none 0 0]]
theorem fits_lays (os : Os) : (World.holding Tryz.prog os ⟨#[], #[], []⟩).layFits Tryz.prog laidF [] = true := by kernel_rfl
theorem fits_ifs (os : Os) : (World.holding Tryz.prog os ⟨#[], #[], []⟩).layIfaces Tryz.prog laidF (World.laidAll Tryz.prog os laidF) = true := by kernel_rfl

theorem f3q_named : Tryz.prog.funcNamed "riparian/riparianlaw11.SortsFits" = some 3 := by kernel_rfl
theorem f3q_at : Tryz.prog.funcs[3]? = some Tryz.f3 := by kernel_rfl
theorem looks0 : false = Tryz.prog.looks [] := by kernel_rfl
theorem stand0 : ([22, 3, 25].all fun u => !Tryz.prog.wantsStandIn u) = true := by kernel_rfl
theorem inits3 : Tryz.prog.inits.idxOf? 3 = none := by kernel_rfl
theorem sh1 (os : Os) : ((World.laidAll Tryz.prog os laidF).forCall (fun _ _ => 0) ⟨#[], fitsArgs, []⟩).variablesZipB Tryz.prog = true := by kernel_rfl
theorem sh2 (os : Os) : (((World.laidAll Tryz.prog os laidF).forCall (fun _ _ => 0) ⟨#[], fitsArgs, []⟩).heap.toList.drop Tryz.prog.globals.size).take ((begin Tryz.prog (fun _ _ => 0) default).world.heap.size - Tryz.prog.globals.size) =
      (begin Tryz.prog (fun _ _ => 0) default).world.heap.toList.drop Tryz.prog.globals.size := by kernel_rfl
theorem ok3 (os : Os) : Input.okWideB Tryz.checked.prog ((World.laidAll Tryz.prog os laidF).forCall (fun _ _ => 0) ⟨#[], fitsArgs, []⟩) 3 ⟨#[], fitsArgs, []⟩ = true := by kernel_rfl
theorem pre3 (os : Os) {H : Type} (enc : TypeId × Value → H) : Rows.sortsFitsSpec.preB enc Tryz.checked.prog Tryz.f3 [] false ((World.laidAll Tryz.prog os laidF).forCall (fun _ _ => 0) ⟨#[], fitsArgs, []⟩).memory fitsArgs 8 = true := by kernel_rfl
theorem size3 (os : Os) {H : Type} (enc : TypeId × Value → H) : Rows.sortsFitsSpec.sizedB enc Tryz.checked.prog Tryz.f3 false ((World.laidAll Tryz.prog os laidF).forCall (fun _ _ => 0) ⟨#[], fitsArgs, []⟩).memory fitsArgs 8 = true := by kernel_rfl
end Go.Proofs.YtghaalknpdlobaaGreatDoor

