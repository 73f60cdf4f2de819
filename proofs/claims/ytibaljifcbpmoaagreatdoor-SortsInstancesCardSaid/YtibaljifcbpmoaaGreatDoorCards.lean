/-
  DERIVED. GIVEN WITH THE SEED: THE CARDS: each row of YtibaljifcbpmoaaGreatDoorRows.lean that lists a variable, with what it lists TIED to the program's text (the seventh form; the later family's looks); each row that meets fmt, with fmt's text TOLD by the authors' own Lean function (tested against real Go, not proved from fmt's source: count such statements apart). THE CARD IS WHAT COUNTS. Prove the row's statement (the work); the ties are given (YtibaljifcbpmoaaGreatDoorTie.lean); close each card by the builder's one call (the guide's Derived/Test/ToyasCard.lean, 'card_holds'). Laid BY PROGRAM, IN A SANDBOX (cutbox-door.mjs). By AI agents, Wed Nov 11 2026. No macro, syntax, notation, axiom, sorry.
-/
import Derived.Test.YtibaljifcbpmoaaGreatDoorRows
import GoSem.ClaimSeven
namespace Go.Proofs.YtibaljifcbpmoaaGreatDoor
namespace Rows

/-- THE TIED CARD OF 'riparianlaw11.SortsInstances'. -/
def sortsInstancesCard : Claim7 := { stood := { row := sortsInstancesRow, standIns := [], harness := (true, "cf934669549fce098b591e632c41bbd1cbc7f3e05380fd176aaeaa1b63ccccba"), looks := false }, kinds := [], alts := [], laidByText := true, laidKinds := [.data, .data, .data, .data, .widerDeep, .pinned, .pinned, .pinned, .pinned, .pinned, .pinned], laidTests := true, laidLooks := .later }
def SortsInstancesCardSaid : Prop := Claim7.holds Tryz.pinned (.plain (OpenSpec.ofChange sortsInstancesSpec)) sortsInstancesCard

/-- THE SECOND FORM's CARD OF 'riparianlaw11.SortsInstances'. -/
def sortsInstancesUptoCard : Claim7 := { stood := { row := sortsInstancesUptoRow, standIns := [], harness := (true, "cf934669549fce098b591e632c41bbd1cbc7f3e05380fd176aaeaa1b63ccccba"), looks := false }, kinds := [], alts := [], laidByText := true, laidKinds := [.data, .data, .data, .data, .widerDeep, .pinned, .pinned, .pinned, .pinned, .pinned, .pinned], laidTests := true, laidLooks := .later }
def SortsInstancesUptoCardSaid : Prop := Claim7.holds Tryz.pinned (.plain (OpenSpec.upto sortsInstancesSpec)) sortsInstancesUptoCard
end Rows
end Go.Proofs.YtibaljifcbpmoaaGreatDoor
