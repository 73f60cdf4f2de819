/-
  DERIVED. GIVEN WITH THE SEED: THE CARDS: each row of YtghaalknpdlobaaGreatDoorRows.lean that lists a variable, with what it lists TIED to the program's text (the seventh form; the later family's looks); each row that meets fmt, with fmt's text TOLD by the authors' own Lean function (tested against real Go, not proved from fmt's source: count such statements apart). THE CARD IS WHAT COUNTS. Prove the row's statement (the work); the ties are given (YtghaalknpdlobaaGreatDoorTie.lean); close each card by the builder's one call (the guide's Derived/Test/ToyasCard.lean, 'card_holds'). Laid BY PROGRAM, IN A SANDBOX (cutbox-door.mjs). By AI agents, Wed Nov 11 2026. No macro, syntax, notation, axiom, sorry.
-/
import Derived.Test.YtghaalknpdlobaaGreatDoorRows
import GoSem.ClaimSeven
namespace Go.Proofs.YtghaalknpdlobaaGreatDoor
namespace Rows

/-- THE TIED CARD OF 'riparianlaw11.SortsFits'. -/
def sortsFitsCard : Claim7 := { stood := { row := sortsFitsRow, standIns := [], harness := (true, "2d1ae55195a7df24065590f9ed50c68d954a343600c95a8804882ad161a3fb95"), looks := false }, kinds := [], alts := [], laidByText := true, laidKinds := [.data, .data, .data, .data, .widerDeep, .pinned, .pinned, .pinned, .pinned, .pinned, .pinned], laidTests := true, laidLooks := .later }
def SortsFitsCardSaid : Prop := Claim7.holds Tryz.pinned (.plain (OpenSpec.ofChange sortsFitsSpec)) sortsFitsCard

/-- THE TIED CARD OF 'riparianlaw11.SortsWithin'. -/
def sortsWithinCard : Claim7 := { stood := { row := sortsWithinRow, standIns := [], harness := (true, "2d1ae55195a7df24065590f9ed50c68d954a343600c95a8804882ad161a3fb95"), looks := false }, kinds := [], alts := [], laidByText := true, laidKinds := [.data, .data, .data, .data, .widerDeep, .pinned, .pinned, .pinned, .pinned, .pinned, .pinned], laidTests := true, laidLooks := .later }
def SortsWithinCardSaid : Prop := Claim7.holds Tryz.pinned (.plain (OpenSpec.ofChange sortsWithinSpec)) sortsWithinCard

/-- THE TIED CARD OF 'riparianlaw11.SortsNormal'. -/
def sortsNormalCard : Claim7 := { stood := { row := sortsNormalRow, standIns := [], harness := (true, "2d1ae55195a7df24065590f9ed50c68d954a343600c95a8804882ad161a3fb95"), looks := false }, kinds := [], alts := [], laidByText := true, laidKinds := [.data, .data, .data, .data, .widerDeep, .pinned, .pinned, .pinned, .pinned, .pinned, .pinned], laidTests := true, laidLooks := .later }
def SortsNormalCardSaid : Prop := Claim7.holds Tryz.pinned (.plain (OpenSpec.ofChange sortsNormalSpec)) sortsNormalCard

/-- THE TIED CARD OF 'riparianlaw11.SortsEmpty'. -/
def sortsEmptyCard : Claim7 := { stood := { row := sortsEmptyRow, standIns := [], harness := (true, "2d1ae55195a7df24065590f9ed50c68d954a343600c95a8804882ad161a3fb95"), looks := false }, kinds := [], alts := [], laidByText := true, laidKinds := [.data, .data, .data, .data, .widerDeep, .pinned, .pinned, .pinned, .pinned, .pinned, .pinned], laidTests := true, laidLooks := .later }
def SortsEmptyCardSaid : Prop := Claim7.holds Tryz.pinned (.plain (OpenSpec.ofChange sortsEmptySpec)) sortsEmptyCard

/-- THE TIED CARD OF 'riparianlaw11.SortsTypes'. -/
def sortsTypesCard : Claim7 := { stood := { row := sortsTypesRow, standIns := [], harness := (true, "2d1ae55195a7df24065590f9ed50c68d954a343600c95a8804882ad161a3fb95"), looks := false }, kinds := [], alts := [], laidByText := true, laidKinds := [.data, .data, .data, .data, .widerDeep, .pinned, .pinned, .pinned, .pinned, .pinned, .pinned], laidTests := true, laidLooks := .later }
def SortsTypesCardSaid : Prop := Claim7.holds Tryz.pinned (.plain (OpenSpec.ofChange sortsTypesSpec)) sortsTypesCard

/-- THE TIED CARD OF 'riparianlaw11.SortsLeast'. -/
def sortsLeastCard : Claim7 := { stood := { row := sortsLeastRow, standIns := [], harness := (true, "2d1ae55195a7df24065590f9ed50c68d954a343600c95a8804882ad161a3fb95"), looks := false }, kinds := [], alts := [], laidByText := true, laidKinds := [.data, .data, .data, .data, .widerDeep, .pinned, .pinned, .pinned, .pinned, .pinned, .pinned], laidTests := true, laidLooks := .later }
def SortsLeastCardSaid : Prop := Claim7.holds Tryz.pinned (.plain (OpenSpec.ofChange sortsLeastSpec)) sortsLeastCard

/-- THE TIED CARD OF 'riparianlaw11.SortsParts'. -/
def sortsPartsCard : Claim7 := { stood := { row := sortsPartsRow, standIns := [], harness := (true, "2d1ae55195a7df24065590f9ed50c68d954a343600c95a8804882ad161a3fb95"), looks := false }, kinds := [], alts := [], laidByText := true, laidKinds := [.data, .data, .data, .data, .widerDeep, .pinned, .pinned, .pinned, .pinned, .pinned, .pinned], laidTests := true, laidLooks := .later }
def SortsPartsCardSaid : Prop := Claim7.holds Tryz.pinned (.plain (OpenSpec.ofChange sortsPartsSpec)) sortsPartsCard

/-- THE TIED CARD OF 'riparianlaw11.SortsInclusion'. -/
def sortsInclusionCard : Claim7 := { stood := { row := sortsInclusionRow, standIns := [], harness := (true, "2d1ae55195a7df24065590f9ed50c68d954a343600c95a8804882ad161a3fb95"), looks := false }, kinds := [], alts := [], laidByText := true, laidKinds := [.data, .data, .data, .data, .widerDeep, .pinned, .pinned, .pinned, .pinned, .pinned, .pinned], laidTests := true, laidLooks := .later }
def SortsInclusionCardSaid : Prop := Claim7.holds Tryz.pinned (.plain (OpenSpec.ofChange sortsInclusionSpec)) sortsInclusionCard

/-- THE TIED CARD OF 'riparianlaw11.SortsMeet'. -/
def sortsMeetCard : Claim7 := { stood := { row := sortsMeetRow, standIns := [], harness := (true, "2d1ae55195a7df24065590f9ed50c68d954a343600c95a8804882ad161a3fb95"), looks := false }, kinds := [], alts := [], laidByText := true, laidKinds := [.data, .data, .data, .data, .widerDeep, .pinned, .pinned, .pinned, .pinned, .pinned, .pinned], laidTests := true, laidLooks := .later }
def SortsMeetCardSaid : Prop := Claim7.holds Tryz.pinned (.plain (OpenSpec.ofChange sortsMeetSpec)) sortsMeetCard

/-- THE TIED CARD OF 'riparianlaw11.SortsJoin'. -/
def sortsJoinCard : Claim7 := { stood := { row := sortsJoinRow, standIns := [], harness := (true, "2d1ae55195a7df24065590f9ed50c68d954a343600c95a8804882ad161a3fb95"), looks := false }, kinds := [], alts := [], laidByText := true, laidKinds := [.data, .data, .data, .data, .widerDeep, .pinned, .pinned, .pinned, .pinned, .pinned, .pinned], laidTests := true, laidLooks := .later }
def SortsJoinCardSaid : Prop := Claim7.holds Tryz.pinned (.plain (OpenSpec.ofChange sortsJoinSpec)) sortsJoinCard

/-- THE TIED CARD OF 'riparianlaw11.SortsInstances'. -/
def sortsInstancesCard : Claim7 := { stood := { row := sortsInstancesRow, standIns := [], harness := (true, "2d1ae55195a7df24065590f9ed50c68d954a343600c95a8804882ad161a3fb95"), looks := false }, kinds := [], alts := [], laidByText := true, laidKinds := [.data, .data, .data, .data, .widerDeep, .pinned, .pinned, .pinned, .pinned, .pinned, .pinned], laidTests := true, laidLooks := .later }
def SortsInstancesCardSaid : Prop := Claim7.holds Tryz.pinned (.plain (OpenSpec.ofChange sortsInstancesSpec)) sortsInstancesCard

/-- THE TIED CARD OF 'riparianlaw11.SortsMakes'. -/
def sortsMakesCard : Claim7 := { stood := { row := sortsMakesRow, standIns := [], harness := (true, "2d1ae55195a7df24065590f9ed50c68d954a343600c95a8804882ad161a3fb95"), looks := false }, kinds := [], alts := [], laidByText := true, laidKinds := [.data, .data, .data, .data, .widerDeep, .pinned, .pinned, .pinned, .pinned, .pinned, .pinned], laidTests := true, laidLooks := .later }
def SortsMakesCardSaid : Prop := Claim7.holds Tryz.pinned (.plain (OpenSpec.ofChange sortsMakesSpec)) sortsMakesCard

/-- THE SECOND FORM's CARD OF 'riparianlaw11.SortsFits'. -/
def sortsFitsUptoCard : Claim7 := { stood := { row := sortsFitsUptoRow, standIns := [], harness := (true, "2d1ae55195a7df24065590f9ed50c68d954a343600c95a8804882ad161a3fb95"), looks := false }, kinds := [], alts := [], laidByText := true, laidKinds := [.data, .data, .data, .data, .widerDeep, .pinned, .pinned, .pinned, .pinned, .pinned, .pinned], laidTests := true, laidLooks := .later }
def SortsFitsUptoCardSaid : Prop := Claim7.holds Tryz.pinned (.plain (OpenSpec.upto sortsFitsSpec)) sortsFitsUptoCard

/-- THE SECOND FORM's CARD OF 'riparianlaw11.SortsWithin'. -/
def sortsWithinUptoCard : Claim7 := { stood := { row := sortsWithinUptoRow, standIns := [], harness := (true, "2d1ae55195a7df24065590f9ed50c68d954a343600c95a8804882ad161a3fb95"), looks := false }, kinds := [], alts := [], laidByText := true, laidKinds := [.data, .data, .data, .data, .widerDeep, .pinned, .pinned, .pinned, .pinned, .pinned, .pinned], laidTests := true, laidLooks := .later }
def SortsWithinUptoCardSaid : Prop := Claim7.holds Tryz.pinned (.plain (OpenSpec.upto sortsWithinSpec)) sortsWithinUptoCard

/-- THE SECOND FORM's CARD OF 'riparianlaw11.SortsNormal'. -/
def sortsNormalUptoCard : Claim7 := { stood := { row := sortsNormalUptoRow, standIns := [], harness := (true, "2d1ae55195a7df24065590f9ed50c68d954a343600c95a8804882ad161a3fb95"), looks := false }, kinds := [], alts := [], laidByText := true, laidKinds := [.data, .data, .data, .data, .widerDeep, .pinned, .pinned, .pinned, .pinned, .pinned, .pinned], laidTests := true, laidLooks := .later }
def SortsNormalUptoCardSaid : Prop := Claim7.holds Tryz.pinned (.plain (OpenSpec.upto sortsNormalSpec)) sortsNormalUptoCard

/-- THE SECOND FORM's CARD OF 'riparianlaw11.SortsEmpty'. -/
def sortsEmptyUptoCard : Claim7 := { stood := { row := sortsEmptyUptoRow, standIns := [], harness := (true, "2d1ae55195a7df24065590f9ed50c68d954a343600c95a8804882ad161a3fb95"), looks := false }, kinds := [], alts := [], laidByText := true, laidKinds := [.data, .data, .data, .data, .widerDeep, .pinned, .pinned, .pinned, .pinned, .pinned, .pinned], laidTests := true, laidLooks := .later }
def SortsEmptyUptoCardSaid : Prop := Claim7.holds Tryz.pinned (.plain (OpenSpec.upto sortsEmptySpec)) sortsEmptyUptoCard

/-- THE SECOND FORM's CARD OF 'riparianlaw11.SortsTypes'. -/
def sortsTypesUptoCard : Claim7 := { stood := { row := sortsTypesUptoRow, standIns := [], harness := (true, "2d1ae55195a7df24065590f9ed50c68d954a343600c95a8804882ad161a3fb95"), looks := false }, kinds := [], alts := [], laidByText := true, laidKinds := [.data, .data, .data, .data, .widerDeep, .pinned, .pinned, .pinned, .pinned, .pinned, .pinned], laidTests := true, laidLooks := .later }
def SortsTypesUptoCardSaid : Prop := Claim7.holds Tryz.pinned (.plain (OpenSpec.upto sortsTypesSpec)) sortsTypesUptoCard

/-- THE SECOND FORM's CARD OF 'riparianlaw11.SortsLeast'. -/
def sortsLeastUptoCard : Claim7 := { stood := { row := sortsLeastUptoRow, standIns := [], harness := (true, "2d1ae55195a7df24065590f9ed50c68d954a343600c95a8804882ad161a3fb95"), looks := false }, kinds := [], alts := [], laidByText := true, laidKinds := [.data, .data, .data, .data, .widerDeep, .pinned, .pinned, .pinned, .pinned, .pinned, .pinned], laidTests := true, laidLooks := .later }
def SortsLeastUptoCardSaid : Prop := Claim7.holds Tryz.pinned (.plain (OpenSpec.upto sortsLeastSpec)) sortsLeastUptoCard

/-- THE SECOND FORM's CARD OF 'riparianlaw11.SortsParts'. -/
def sortsPartsUptoCard : Claim7 := { stood := { row := sortsPartsUptoRow, standIns := [], harness := (true, "2d1ae55195a7df24065590f9ed50c68d954a343600c95a8804882ad161a3fb95"), looks := false }, kinds := [], alts := [], laidByText := true, laidKinds := [.data, .data, .data, .data, .widerDeep, .pinned, .pinned, .pinned, .pinned, .pinned, .pinned], laidTests := true, laidLooks := .later }
def SortsPartsUptoCardSaid : Prop := Claim7.holds Tryz.pinned (.plain (OpenSpec.upto sortsPartsSpec)) sortsPartsUptoCard

/-- THE SECOND FORM's CARD OF 'riparianlaw11.SortsInclusion'. -/
def sortsInclusionUptoCard : Claim7 := { stood := { row := sortsInclusionUptoRow, standIns := [], harness := (true, "2d1ae55195a7df24065590f9ed50c68d954a343600c95a8804882ad161a3fb95"), looks := false }, kinds := [], alts := [], laidByText := true, laidKinds := [.data, .data, .data, .data, .widerDeep, .pinned, .pinned, .pinned, .pinned, .pinned, .pinned], laidTests := true, laidLooks := .later }
def SortsInclusionUptoCardSaid : Prop := Claim7.holds Tryz.pinned (.plain (OpenSpec.upto sortsInclusionSpec)) sortsInclusionUptoCard

/-- THE SECOND FORM's CARD OF 'riparianlaw11.SortsMeet'. -/
def sortsMeetUptoCard : Claim7 := { stood := { row := sortsMeetUptoRow, standIns := [], harness := (true, "2d1ae55195a7df24065590f9ed50c68d954a343600c95a8804882ad161a3fb95"), looks := false }, kinds := [], alts := [], laidByText := true, laidKinds := [.data, .data, .data, .data, .widerDeep, .pinned, .pinned, .pinned, .pinned, .pinned, .pinned], laidTests := true, laidLooks := .later }
def SortsMeetUptoCardSaid : Prop := Claim7.holds Tryz.pinned (.plain (OpenSpec.upto sortsMeetSpec)) sortsMeetUptoCard

/-- THE SECOND FORM's CARD OF 'riparianlaw11.SortsJoin'. -/
def sortsJoinUptoCard : Claim7 := { stood := { row := sortsJoinUptoRow, standIns := [], harness := (true, "2d1ae55195a7df24065590f9ed50c68d954a343600c95a8804882ad161a3fb95"), looks := false }, kinds := [], alts := [], laidByText := true, laidKinds := [.data, .data, .data, .data, .widerDeep, .pinned, .pinned, .pinned, .pinned, .pinned, .pinned], laidTests := true, laidLooks := .later }
def SortsJoinUptoCardSaid : Prop := Claim7.holds Tryz.pinned (.plain (OpenSpec.upto sortsJoinSpec)) sortsJoinUptoCard

/-- THE SECOND FORM's CARD OF 'riparianlaw11.SortsInstances'. -/
def sortsInstancesUptoCard : Claim7 := { stood := { row := sortsInstancesUptoRow, standIns := [], harness := (true, "2d1ae55195a7df24065590f9ed50c68d954a343600c95a8804882ad161a3fb95"), looks := false }, kinds := [], alts := [], laidByText := true, laidKinds := [.data, .data, .data, .data, .widerDeep, .pinned, .pinned, .pinned, .pinned, .pinned, .pinned], laidTests := true, laidLooks := .later }
def SortsInstancesUptoCardSaid : Prop := Claim7.holds Tryz.pinned (.plain (OpenSpec.upto sortsInstancesSpec)) sortsInstancesUptoCard

/-- THE SECOND FORM's CARD OF 'riparianlaw11.SortsMakes'. -/
def sortsMakesUptoCard : Claim7 := { stood := { row := sortsMakesUptoRow, standIns := [], harness := (true, "2d1ae55195a7df24065590f9ed50c68d954a343600c95a8804882ad161a3fb95"), looks := false }, kinds := [], alts := [], laidByText := true, laidKinds := [.data, .data, .data, .data, .widerDeep, .pinned, .pinned, .pinned, .pinned, .pinned, .pinned], laidTests := true, laidLooks := .later }
def SortsMakesUptoCardSaid : Prop := Claim7.holds Tryz.pinned (.plain (OpenSpec.upto sortsMakesSpec)) sortsMakesUptoCard
end Rows
end Go.Proofs.YtghaalknpdlobaaGreatDoor
