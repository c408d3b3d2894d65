/-
  DERIVED. GIVEN WITH THE SEED: THE CARDS: each row of YtpcbnpekdmobpaaGreatDoorRows.lean that lists a variable, with what it lists TIED to the program's text (the seventh form; the later family's looks); each row that meets fmt, with fmt's text TOLD by the authors' own Lean function (tested against real Go, not proved from fmt's source: count such statements apart). THE CARD IS WHAT COUNTS. Prove the row's statement (the work); the ties are given (YtpcbnpekdmobpaaGreatDoorTie.lean); close each card by the builder's one call (the guide's Derived/Test/ToyasCard.lean, 'card_holds'). Laid BY PROGRAM, IN A SANDBOX (cutbox-door.mjs). By AI agents, Wed Nov 11 2026. No macro, syntax, notation, axiom, sorry.
-/
import Derived.Test.YtpcbnpekdmobpaaGreatDoorRows
import GoSem.ClaimSeven
namespace Go.Proofs.YtpcbnpekdmobpaaGreatDoor
namespace Rows

/-- THE TIED CARD OF 'brackenlaw16.TreeNexts'. -/
def treeNextsCard : Claim7 := { stood := { row := treeNextsRow, standIns := [], harness := (true, "17b912f7d8cf484a28660b779a3cd7581953b75c4a0296f9ad96fd625868b0a6"), looks := true }, kinds := [], alts := [], laidByText := true, laidKinds := [.data, .data, .data, .pinned, .pinned], laidTests := true, laidLooks := .later }
def TreeNextsCardSaid : Prop := Claim7.holds Tryz.pinned (.plain (OpenSpec.ofChange treeNextsSpec)) treeNextsCard

/-- THE TIED CARD OF 'brackenlaw16.TreeAsks'. -/
def treeAsksCard : Claim7 := { stood := { row := treeAsksRow, standIns := [], harness := (true, "17b912f7d8cf484a28660b779a3cd7581953b75c4a0296f9ad96fd625868b0a6"), looks := true }, kinds := [], alts := [], laidByText := true, laidKinds := [.data, .data, .data, .pinned, .pinned], laidTests := true, laidLooks := .later }
def TreeAsksCardSaid : Prop := Claim7.holds Tryz.pinned (.plain (OpenSpec.ofChange treeAsksSpec)) treeAsksCard

/-- THE TIED CARD OF 'brackenlaw16.TreeMade'. -/
def treeMadeCard : Claim7 := { stood := { row := treeMadeRow, standIns := [], harness := (true, "17b912f7d8cf484a28660b779a3cd7581953b75c4a0296f9ad96fd625868b0a6"), looks := true }, kinds := [], alts := [], laidByText := true, laidKinds := [.data, .data, .data, .pinned, .pinned], laidTests := true, laidLooks := .later }
def TreeMadeCardSaid : Prop := Claim7.holds Tryz.pinned (.plain (OpenSpec.ofChange treeMadeSpec)) treeMadeCard

/-- THE TIED CARD OF 'brackenlaw16.TreeEnds'. -/
def treeEndsCard : Claim7 := { stood := { row := treeEndsRow, standIns := [], harness := (true, "17b912f7d8cf484a28660b779a3cd7581953b75c4a0296f9ad96fd625868b0a6"), looks := true }, kinds := [], alts := [], laidByText := true, laidKinds := [.data, .data, .data, .pinned, .pinned], laidTests := true, laidLooks := .later }
def TreeEndsCardSaid : Prop := Claim7.holds Tryz.pinned (.plain (OpenSpec.ofChange treeEndsSpec)) treeEndsCard

/-- THE TIED CARD OF 'brackenlaw16.TreeScopes'. -/
def treeScopesCard : Claim7 := { stood := { row := treeScopesRow, standIns := [], harness := (true, "17b912f7d8cf484a28660b779a3cd7581953b75c4a0296f9ad96fd625868b0a6"), looks := true }, kinds := [], alts := [], laidByText := true, laidKinds := [.data, .data, .data, .pinned, .pinned], laidTests := true, laidLooks := .later }
def TreeScopesCardSaid : Prop := Claim7.holds Tryz.pinned (.plain (OpenSpec.ofChange treeScopesSpec)) treeScopesCard

/-- THE TIED CARD OF 'brackenlaw24.SpaceRises'. -/
def spaceRisesCard : Claim7 := { stood := { row := spaceRisesRow, standIns := [], harness := (true, "17b912f7d8cf484a28660b779a3cd7581953b75c4a0296f9ad96fd625868b0a6"), looks := true }, kinds := [], alts := [], laidByText := true, laidKinds := [.data, .data, .data, .data, .data, .data, .pinned, .pinned], laidTests := true, laidLooks := .later }
def SpaceRisesCardSaid : Prop := Claim7.holds Tryz.pinned (.plain (OpenSpec.ofChange spaceRisesSpec)) spaceRisesCard

/-- THE SECOND FORM's CARD OF 'brackenlaw16.TreeNexts'. -/
def treeNextsUptoCard : Claim7 := { stood := { row := treeNextsUptoRow, standIns := [], harness := (true, "17b912f7d8cf484a28660b779a3cd7581953b75c4a0296f9ad96fd625868b0a6"), looks := true }, kinds := [], alts := [], laidByText := true, laidKinds := [.data, .data, .data, .pinned, .pinned], laidTests := true, laidLooks := .later }
def TreeNextsUptoCardSaid : Prop := Claim7.holds Tryz.pinned (.plain (OpenSpec.upto treeNextsSpec)) treeNextsUptoCard

/-- THE SECOND FORM's CARD OF 'brackenlaw16.TreeAsks'. -/
def treeAsksUptoCard : Claim7 := { stood := { row := treeAsksUptoRow, standIns := [], harness := (true, "17b912f7d8cf484a28660b779a3cd7581953b75c4a0296f9ad96fd625868b0a6"), looks := true }, kinds := [], alts := [], laidByText := true, laidKinds := [.data, .data, .data, .pinned, .pinned], laidTests := true, laidLooks := .later }
def TreeAsksUptoCardSaid : Prop := Claim7.holds Tryz.pinned (.plain (OpenSpec.upto treeAsksSpec)) treeAsksUptoCard

/-- THE SECOND FORM's CARD OF 'brackenlaw16.TreeMade'. -/
def treeMadeUptoCard : Claim7 := { stood := { row := treeMadeUptoRow, standIns := [], harness := (true, "17b912f7d8cf484a28660b779a3cd7581953b75c4a0296f9ad96fd625868b0a6"), looks := true }, kinds := [], alts := [], laidByText := true, laidKinds := [.data, .data, .data, .pinned, .pinned], laidTests := true, laidLooks := .later }
def TreeMadeUptoCardSaid : Prop := Claim7.holds Tryz.pinned (.plain (OpenSpec.upto treeMadeSpec)) treeMadeUptoCard

/-- THE SECOND FORM's CARD OF 'brackenlaw16.TreeEnds'. -/
def treeEndsUptoCard : Claim7 := { stood := { row := treeEndsUptoRow, standIns := [], harness := (true, "17b912f7d8cf484a28660b779a3cd7581953b75c4a0296f9ad96fd625868b0a6"), looks := true }, kinds := [], alts := [], laidByText := true, laidKinds := [.data, .data, .data, .pinned, .pinned], laidTests := true, laidLooks := .later }
def TreeEndsUptoCardSaid : Prop := Claim7.holds Tryz.pinned (.plain (OpenSpec.upto treeEndsSpec)) treeEndsUptoCard

/-- THE SECOND FORM's CARD OF 'brackenlaw16.TreeScopes'. -/
def treeScopesUptoCard : Claim7 := { stood := { row := treeScopesUptoRow, standIns := [], harness := (true, "17b912f7d8cf484a28660b779a3cd7581953b75c4a0296f9ad96fd625868b0a6"), looks := true }, kinds := [], alts := [], laidByText := true, laidKinds := [.data, .data, .data, .pinned, .pinned], laidTests := true, laidLooks := .later }
def TreeScopesUptoCardSaid : Prop := Claim7.holds Tryz.pinned (.plain (OpenSpec.upto treeScopesSpec)) treeScopesUptoCard

/-- THE SECOND FORM's CARD OF 'brackenlaw24.SpaceRises'. -/
def spaceRisesUptoCard : Claim7 := { stood := { row := spaceRisesUptoRow, standIns := [], harness := (true, "17b912f7d8cf484a28660b779a3cd7581953b75c4a0296f9ad96fd625868b0a6"), looks := true }, kinds := [], alts := [], laidByText := true, laidKinds := [.data, .data, .data, .data, .data, .data, .pinned, .pinned], laidTests := true, laidLooks := .later }
def SpaceRisesUptoCardSaid : Prop := Claim7.holds Tryz.pinned (.plain (OpenSpec.upto spaceRisesSpec)) spaceRisesUptoCard
end Rows
end Go.Proofs.YtpcbnpekdmobpaaGreatDoor
