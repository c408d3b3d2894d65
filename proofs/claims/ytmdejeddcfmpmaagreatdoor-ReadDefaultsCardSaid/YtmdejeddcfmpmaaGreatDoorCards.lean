/-
  DERIVED. GIVEN WITH THE SEED: THE CARDS: each row of YtmdejeddcfmpmaaGreatDoorRows.lean that lists a variable, with what it lists TIED to the program's text (the seventh form; the later family's looks); each row that meets fmt, with fmt's text TOLD by the authors' own Lean function (tested against real Go, not proved from fmt's source: count such statements apart). THE CARD IS WHAT COUNTS. Prove the row's statement (the work); the ties are given (YtmdejeddcfmpmaaGreatDoorTie.lean); close each card by the builder's one call (the guide's Derived/Test/ToyasCard.lean, 'card_holds'). Laid BY PROGRAM, IN A SANDBOX (cutbox-door.mjs). By AI agents, Wed Nov 11 2026. No macro, syntax, notation, axiom, sorry.
-/
import Derived.Test.YtmdejeddcfmpmaaGreatDoorRows
import GoSem.ClaimSeven
namespace Go.Proofs.YtmdejeddcfmpmaaGreatDoor
namespace Rows

/-- THE TIED CARD OF 'brackenlaw15.ReadSpaces'. -/
def readSpacesCard : Claim7 := { stood := { row := readSpacesRow, standIns := [], harness := (true, "e94f10e172528504e419456411da70b46ea1a2415410a3334b86871d0d98e5dd"), looks := true }, kinds := [], alts := [], laidByText := true, laidKinds := [.data, .data, .data, .pinned, .pinned], laidTests := true, laidLooks := .later }
def ReadSpacesCardSaid : Prop := Claim7.holds Tryz.pinned (.plain (OpenSpec.ofChange readSpacesSpec)) readSpacesCard

/-- THE TIED CARD OF 'brackenlaw15.ReadUnbound'. -/
def readUnboundCard : Claim7 := { stood := { row := readUnboundRow, standIns := [], harness := (true, "e94f10e172528504e419456411da70b46ea1a2415410a3334b86871d0d98e5dd"), looks := true }, kinds := [], alts := [], laidByText := true, laidKinds := [.data, .data, .data, .pinned, .pinned], laidTests := true, laidLooks := .later }
def ReadUnboundCardSaid : Prop := Claim7.holds Tryz.pinned (.plain (OpenSpec.ofChange readUnboundSpec)) readUnboundCard

/-- THE TIED CARD OF 'brackenlaw15.ReadTwice'. -/
def readTwiceCard : Claim7 := { stood := { row := readTwiceRow, standIns := [], harness := (true, "e94f10e172528504e419456411da70b46ea1a2415410a3334b86871d0d98e5dd"), looks := true }, kinds := [], alts := [], laidByText := true, laidKinds := [.data, .data, .data, .pinned, .pinned], laidTests := true, laidLooks := .later }
def ReadTwiceCardSaid : Prop := Claim7.holds Tryz.pinned (.plain (OpenSpec.ofChange readTwiceSpec)) readTwiceCard

/-- THE TIED CARD OF 'brackenlaw15.ReadMerges'. -/
def readMergesCard : Claim7 := { stood := { row := readMergesRow, standIns := [], harness := (true, "e94f10e172528504e419456411da70b46ea1a2415410a3334b86871d0d98e5dd"), looks := true }, kinds := [], alts := [], laidByText := true, laidKinds := [.data, .data, .data, .pinned, .pinned], laidTests := true, laidLooks := .later }
def ReadMergesCardSaid : Prop := Claim7.holds Tryz.pinned (.plain (OpenSpec.ofChange readMergesSpec)) readMergesCard

/-- THE TIED CARD OF 'brackenlaw15.ReadTags'. -/
def readTagsCard : Claim7 := { stood := { row := readTagsRow, standIns := [], harness := (true, "e94f10e172528504e419456411da70b46ea1a2415410a3334b86871d0d98e5dd"), looks := true }, kinds := [], alts := [], laidByText := true, laidKinds := [.data, .data, .data, .pinned, .pinned], laidTests := true, laidLooks := .later }
def ReadTagsCardSaid : Prop := Claim7.holds Tryz.pinned (.plain (OpenSpec.ofChange readTagsSpec)) readTagsCard

/-- THE TIED CARD OF 'brackenlaw15.ReadDefaults'. -/
def readDefaultsCard : Claim7 := { stood := { row := readDefaultsRow, standIns := [], harness := (true, "e94f10e172528504e419456411da70b46ea1a2415410a3334b86871d0d98e5dd"), looks := true }, kinds := [], alts := [], laidByText := true, laidKinds := [.data, .data, .data, .pinned, .pinned], laidTests := true, laidLooks := .later }
def ReadDefaultsCardSaid : Prop := Claim7.holds Tryz.pinned (.plain (OpenSpec.ofChange readDefaultsSpec)) readDefaultsCard

/-- THE SECOND FORM's CARD OF 'brackenlaw15.ReadSpaces'. -/
def readSpacesUptoCard : Claim7 := { stood := { row := readSpacesUptoRow, standIns := [], harness := (true, "e94f10e172528504e419456411da70b46ea1a2415410a3334b86871d0d98e5dd"), looks := true }, kinds := [], alts := [], laidByText := true, laidKinds := [.data, .data, .data, .pinned, .pinned], laidTests := true, laidLooks := .later }
def ReadSpacesUptoCardSaid : Prop := Claim7.holds Tryz.pinned (.plain (OpenSpec.upto readSpacesSpec)) readSpacesUptoCard

/-- THE SECOND FORM's CARD OF 'brackenlaw15.ReadUnbound'. -/
def readUnboundUptoCard : Claim7 := { stood := { row := readUnboundUptoRow, standIns := [], harness := (true, "e94f10e172528504e419456411da70b46ea1a2415410a3334b86871d0d98e5dd"), looks := true }, kinds := [], alts := [], laidByText := true, laidKinds := [.data, .data, .data, .pinned, .pinned], laidTests := true, laidLooks := .later }
def ReadUnboundUptoCardSaid : Prop := Claim7.holds Tryz.pinned (.plain (OpenSpec.upto readUnboundSpec)) readUnboundUptoCard

/-- THE SECOND FORM's CARD OF 'brackenlaw15.ReadTwice'. -/
def readTwiceUptoCard : Claim7 := { stood := { row := readTwiceUptoRow, standIns := [], harness := (true, "e94f10e172528504e419456411da70b46ea1a2415410a3334b86871d0d98e5dd"), looks := true }, kinds := [], alts := [], laidByText := true, laidKinds := [.data, .data, .data, .pinned, .pinned], laidTests := true, laidLooks := .later }
def ReadTwiceUptoCardSaid : Prop := Claim7.holds Tryz.pinned (.plain (OpenSpec.upto readTwiceSpec)) readTwiceUptoCard

/-- THE SECOND FORM's CARD OF 'brackenlaw15.ReadMerges'. -/
def readMergesUptoCard : Claim7 := { stood := { row := readMergesUptoRow, standIns := [], harness := (true, "e94f10e172528504e419456411da70b46ea1a2415410a3334b86871d0d98e5dd"), looks := true }, kinds := [], alts := [], laidByText := true, laidKinds := [.data, .data, .data, .pinned, .pinned], laidTests := true, laidLooks := .later }
def ReadMergesUptoCardSaid : Prop := Claim7.holds Tryz.pinned (.plain (OpenSpec.upto readMergesSpec)) readMergesUptoCard

/-- THE SECOND FORM's CARD OF 'brackenlaw15.ReadTags'. -/
def readTagsUptoCard : Claim7 := { stood := { row := readTagsUptoRow, standIns := [], harness := (true, "e94f10e172528504e419456411da70b46ea1a2415410a3334b86871d0d98e5dd"), looks := true }, kinds := [], alts := [], laidByText := true, laidKinds := [.data, .data, .data, .pinned, .pinned], laidTests := true, laidLooks := .later }
def ReadTagsUptoCardSaid : Prop := Claim7.holds Tryz.pinned (.plain (OpenSpec.upto readTagsSpec)) readTagsUptoCard

/-- THE SECOND FORM's CARD OF 'brackenlaw15.ReadDefaults'. -/
def readDefaultsUptoCard : Claim7 := { stood := { row := readDefaultsUptoRow, standIns := [], harness := (true, "e94f10e172528504e419456411da70b46ea1a2415410a3334b86871d0d98e5dd"), looks := true }, kinds := [], alts := [], laidByText := true, laidKinds := [.data, .data, .data, .pinned, .pinned], laidTests := true, laidLooks := .later }
def ReadDefaultsUptoCardSaid : Prop := Claim7.holds Tryz.pinned (.plain (OpenSpec.upto readDefaultsSpec)) readDefaultsUptoCard
end Rows
end Go.Proofs.YtmdejeddcfmpmaaGreatDoor
