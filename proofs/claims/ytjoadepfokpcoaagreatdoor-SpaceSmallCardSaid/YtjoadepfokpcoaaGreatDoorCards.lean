/-
  DERIVED. GIVEN WITH THE SEED: THE CARDS: each row of YtjoadepfokpcoaaGreatDoorRows.lean that lists a variable, with what it lists TIED to the program's text (the seventh form; the later family's looks); each row that meets fmt, with fmt's text TOLD by the authors' own Lean function (tested against real Go, not proved from fmt's source: count such statements apart). THE CARD IS WHAT COUNTS. Prove the row's statement (the work); the ties are given (YtjoadepfokpcoaaGreatDoorTie.lean); close each card by the builder's one call (the guide's Derived/Test/ToyasCard.lean, 'card_holds'). Laid BY PROGRAM, IN A SANDBOX (cutbox-door.mjs). By AI agents, Wed Nov 11 2026. No macro, syntax, notation, axiom, sorry.
-/
import Derived.Test.YtjoadepfokpcoaaGreatDoorRows
import GoSem.ClaimSeven
namespace Go.Proofs.YtjoadepfokpcoaaGreatDoor
namespace Rows

/-- THE TIED CARD OF 'brackenlaw19.DocWalk'. -/
def docWalkCard : Claim7 := { stood := { row := docWalkRow, standIns := [], harness := (true, "ad30e0b099248d1e5b981e1b6bbbcd98ca8178ca8cc5c84e7987c324938dce30"), looks := true }, kinds := [], alts := [], laidByText := true, laidKinds := [.data, .data, .data, .data, .data, .data, .pinned, .pinned], laidTests := true, laidLooks := .later }
def DocWalkCardSaid : Prop := Claim7.holds Tryz.pinned (.plain (OpenSpec.ofChange docWalkSpec)) docWalkCard

/-- THE TIED CARD OF 'brackenlaw19.DocUp'. -/
def docUpCard : Claim7 := { stood := { row := docUpRow, standIns := [], harness := (true, "ad30e0b099248d1e5b981e1b6bbbcd98ca8178ca8cc5c84e7987c324938dce30"), looks := true }, kinds := [], alts := [], laidByText := true, laidKinds := [.data, .data, .data, .data, .data, .data, .pinned, .pinned], laidTests := true, laidLooks := .later }
def DocUpCardSaid : Prop := Claim7.holds Tryz.pinned (.plain (OpenSpec.ofChange docUpSpec)) docUpCard

/-- THE TIED CARD OF 'brackenlaw19.DocSides'. -/
def docSidesCard : Claim7 := { stood := { row := docSidesRow, standIns := [], harness := (true, "ad30e0b099248d1e5b981e1b6bbbcd98ca8178ca8cc5c84e7987c324938dce30"), looks := true }, kinds := [], alts := [], laidByText := true, laidKinds := [.data, .data, .data, .data, .data, .data, .pinned, .pinned], laidTests := true, laidLooks := .later }
def DocSidesCardSaid : Prop := Claim7.holds Tryz.pinned (.plain (OpenSpec.ofChange docSidesSpec)) docSidesCard

/-- THE TIED CARD OF 'brackenlaw24.SpaceSmall'. -/
def spaceSmallCard : Claim7 := { stood := { row := spaceSmallRow, standIns := [], harness := (true, "ad30e0b099248d1e5b981e1b6bbbcd98ca8178ca8cc5c84e7987c324938dce30"), looks := true }, kinds := [], alts := [], laidByText := true, laidKinds := [.data, .data, .data, .data, .data, .data, .pinned, .pinned], laidTests := true, laidLooks := .later }
def SpaceSmallCardSaid : Prop := Claim7.holds Tryz.pinned (.plain (OpenSpec.ofChange spaceSmallSpec)) spaceSmallCard

/-- THE TIED CARD OF 'brackenlaw18.BuildSame'. -/
def buildSameCard : Claim7 := { stood := { row := buildSameRow, standIns := [], harness := (true, "ad30e0b099248d1e5b981e1b6bbbcd98ca8178ca8cc5c84e7987c324938dce30"), looks := true }, kinds := [], alts := [], laidByText := true, laidKinds := [.data, .data, .data, .data, .sentinel, .sentinel, .data, .data, .pinned, .pinned], laidTests := true, laidLooks := .later }
def BuildSameCardSaid : Prop := Claim7.holds Tryz.pinned (.plain (OpenSpec.ofChange buildSameSpec)) buildSameCard

/-- THE TIED CARD OF 'brackenlaw18.BuildShapes'. -/
def buildShapesCard : Claim7 := { stood := { row := buildShapesRow, standIns := [], harness := (true, "ad30e0b099248d1e5b981e1b6bbbcd98ca8178ca8cc5c84e7987c324938dce30"), looks := true }, kinds := [], alts := [], laidByText := true, laidKinds := [.data, .data, .data, .data, .sentinel, .sentinel, .data, .data, .pinned, .pinned], laidTests := true, laidLooks := .later }
def BuildShapesCardSaid : Prop := Claim7.holds Tryz.pinned (.plain (OpenSpec.ofChange buildShapesSpec)) buildShapesCard

/-- THE TIED CARD OF 'brackenlaw21.FindAll'. -/
def findAllCard : Claim7 := { stood := { row := findAllRow, standIns := [], harness := (true, "ad30e0b099248d1e5b981e1b6bbbcd98ca8178ca8cc5c84e7987c324938dce30"), looks := true }, kinds := [], alts := [], laidByText := true, laidKinds := [.data, .data, .data, .data, .data, .data, .pinned, .pinned], laidTests := true, laidLooks := .later }
def FindAllCardSaid : Prop := Claim7.holds Tryz.pinned (.plain (OpenSpec.ofChange findAllSpec)) findAllCard

/-- THE TIED CARD OF 'brackenlaw21.FindParts'. -/
def findPartsCard : Claim7 := { stood := { row := findPartsRow, standIns := [], harness := (true, "ad30e0b099248d1e5b981e1b6bbbcd98ca8178ca8cc5c84e7987c324938dce30"), looks := true }, kinds := [], alts := [], laidByText := true, laidKinds := [.data, .data, .data, .data, .data, .data, .pinned, .pinned], laidTests := true, laidLooks := .later }
def FindPartsCardSaid : Prop := Claim7.holds Tryz.pinned (.plain (OpenSpec.ofChange findPartsSpec)) findPartsCard

/-- THE SECOND FORM's CARD OF 'brackenlaw19.DocWalk'. -/
def docWalkUptoCard : Claim7 := { stood := { row := docWalkUptoRow, standIns := [], harness := (true, "ad30e0b099248d1e5b981e1b6bbbcd98ca8178ca8cc5c84e7987c324938dce30"), looks := true }, kinds := [], alts := [], laidByText := true, laidKinds := [.data, .data, .data, .data, .data, .data, .pinned, .pinned], laidTests := true, laidLooks := .later }
def DocWalkUptoCardSaid : Prop := Claim7.holds Tryz.pinned (.plain (OpenSpec.upto docWalkSpec)) docWalkUptoCard

/-- THE SECOND FORM's CARD OF 'brackenlaw19.DocUp'. -/
def docUpUptoCard : Claim7 := { stood := { row := docUpUptoRow, standIns := [], harness := (true, "ad30e0b099248d1e5b981e1b6bbbcd98ca8178ca8cc5c84e7987c324938dce30"), looks := true }, kinds := [], alts := [], laidByText := true, laidKinds := [.data, .data, .data, .data, .data, .data, .pinned, .pinned], laidTests := true, laidLooks := .later }
def DocUpUptoCardSaid : Prop := Claim7.holds Tryz.pinned (.plain (OpenSpec.upto docUpSpec)) docUpUptoCard

/-- THE SECOND FORM's CARD OF 'brackenlaw19.DocSides'. -/
def docSidesUptoCard : Claim7 := { stood := { row := docSidesUptoRow, standIns := [], harness := (true, "ad30e0b099248d1e5b981e1b6bbbcd98ca8178ca8cc5c84e7987c324938dce30"), looks := true }, kinds := [], alts := [], laidByText := true, laidKinds := [.data, .data, .data, .data, .data, .data, .pinned, .pinned], laidTests := true, laidLooks := .later }
def DocSidesUptoCardSaid : Prop := Claim7.holds Tryz.pinned (.plain (OpenSpec.upto docSidesSpec)) docSidesUptoCard

/-- THE SECOND FORM's CARD OF 'brackenlaw24.SpaceSmall'. -/
def spaceSmallUptoCard : Claim7 := { stood := { row := spaceSmallUptoRow, standIns := [], harness := (true, "ad30e0b099248d1e5b981e1b6bbbcd98ca8178ca8cc5c84e7987c324938dce30"), looks := true }, kinds := [], alts := [], laidByText := true, laidKinds := [.data, .data, .data, .data, .data, .data, .pinned, .pinned], laidTests := true, laidLooks := .later }
def SpaceSmallUptoCardSaid : Prop := Claim7.holds Tryz.pinned (.plain (OpenSpec.upto spaceSmallSpec)) spaceSmallUptoCard

/-- THE SECOND FORM's CARD OF 'brackenlaw18.BuildSame'. -/
def buildSameUptoCard : Claim7 := { stood := { row := buildSameUptoRow, standIns := [], harness := (true, "ad30e0b099248d1e5b981e1b6bbbcd98ca8178ca8cc5c84e7987c324938dce30"), looks := true }, kinds := [], alts := [], laidByText := true, laidKinds := [.data, .data, .data, .data, .sentinel, .sentinel, .data, .data, .pinned, .pinned], laidTests := true, laidLooks := .later }
def BuildSameUptoCardSaid : Prop := Claim7.holds Tryz.pinned (.plain (OpenSpec.upto buildSameSpec)) buildSameUptoCard

/-- THE SECOND FORM's CARD OF 'brackenlaw18.BuildShapes'. -/
def buildShapesUptoCard : Claim7 := { stood := { row := buildShapesUptoRow, standIns := [], harness := (true, "ad30e0b099248d1e5b981e1b6bbbcd98ca8178ca8cc5c84e7987c324938dce30"), looks := true }, kinds := [], alts := [], laidByText := true, laidKinds := [.data, .data, .data, .data, .sentinel, .sentinel, .data, .data, .pinned, .pinned], laidTests := true, laidLooks := .later }
def BuildShapesUptoCardSaid : Prop := Claim7.holds Tryz.pinned (.plain (OpenSpec.upto buildShapesSpec)) buildShapesUptoCard

/-- THE SECOND FORM's CARD OF 'brackenlaw21.FindAll'. -/
def findAllUptoCard : Claim7 := { stood := { row := findAllUptoRow, standIns := [], harness := (true, "ad30e0b099248d1e5b981e1b6bbbcd98ca8178ca8cc5c84e7987c324938dce30"), looks := true }, kinds := [], alts := [], laidByText := true, laidKinds := [.data, .data, .data, .data, .data, .data, .pinned, .pinned], laidTests := true, laidLooks := .later }
def FindAllUptoCardSaid : Prop := Claim7.holds Tryz.pinned (.plain (OpenSpec.upto findAllSpec)) findAllUptoCard

/-- THE SECOND FORM's CARD OF 'brackenlaw21.FindParts'. -/
def findPartsUptoCard : Claim7 := { stood := { row := findPartsUptoRow, standIns := [], harness := (true, "ad30e0b099248d1e5b981e1b6bbbcd98ca8178ca8cc5c84e7987c324938dce30"), looks := true }, kinds := [], alts := [], laidByText := true, laidKinds := [.data, .data, .data, .data, .data, .data, .pinned, .pinned], laidTests := true, laidLooks := .later }
def FindPartsUptoCardSaid : Prop := Claim7.holds Tryz.pinned (.plain (OpenSpec.upto findPartsSpec)) findPartsUptoCard
end Rows
end Go.Proofs.YtjoadepfokpcoaaGreatDoor
