/-
  DERIVED. GIVEN WITH THE SEED: THE CARDS: each row of YtkhblpmjmkhiiaaGreatDoorRows.lean that lists a variable, with what it lists TIED to the program's text (the seventh form; the later family's looks); each row that meets fmt, with fmt's text TOLD by the authors' own Lean function (tested against real Go, not proved from fmt's source: count such statements apart). THE CARD IS WHAT COUNTS. Prove the row's statement (the work); the ties are given (YtkhblpmjmkhiiaaGreatDoorTie.lean); close each card by the builder's one call (the guide's Derived/Test/ToyasCard.lean, 'card_holds'). Laid BY PROGRAM, IN A SANDBOX (cutbox-door.mjs). By AI agents, Wed Nov 11 2026. No macro, syntax, notation, axiom, sorry.
-/
import Derived.Test.YtkhblpmjmkhiiaaGreatDoorRows
import GoSem.ClaimSeven
namespace Go.Proofs.YtkhblpmjmkhiiaaGreatDoor
namespace Rows

/-- THE TIED CARD OF 'grapnellaw18.ArchiveBytes'. -/
def archiveBytesCard : Claim7 := { stood := { row := archiveBytesRow, standIns := [], harness := (true, "bc2dce3e9603473573018e169b86d7d90b7a3f41b8da2cd3d6ec38e98662efa8"), looks := true }, kinds := [], alts := [], laidByText := true, laidKinds := [.data, .pinned], laidTests := true, laidLooks := .later }
def ArchiveBytesCardSaid : Prop := Claim7.holds Tryz.pinned (.plain (OpenSpec.ofChange archiveBytesSpec)) archiveBytesCard

/-- THE TIED CARD OF 'grapnellaw18.ArchiveBent'. -/
def archiveBentCard : Claim7 := { stood := { row := archiveBentRow, standIns := [], harness := (true, "bc2dce3e9603473573018e169b86d7d90b7a3f41b8da2cd3d6ec38e98662efa8"), looks := true }, kinds := [], alts := [], laidByText := true, laidKinds := [.data, .pinned], laidTests := true, laidLooks := .later }
def ArchiveBentCardSaid : Prop := Claim7.holds Tryz.pinned (.plain (OpenSpec.ofChange archiveBentSpec)) archiveBentCard

/-- THE SECOND FORM's CARD OF 'grapnellaw18.ArchiveBytes'. -/
def archiveBytesUptoCard : Claim7 := { stood := { row := archiveBytesUptoRow, standIns := [], harness := (true, "bc2dce3e9603473573018e169b86d7d90b7a3f41b8da2cd3d6ec38e98662efa8"), looks := true }, kinds := [], alts := [], laidByText := true, laidKinds := [.data, .pinned], laidTests := true, laidLooks := .later }
def ArchiveBytesUptoCardSaid : Prop := Claim7.holds Tryz.pinned (.plain (OpenSpec.upto archiveBytesSpec)) archiveBytesUptoCard

/-- THE SECOND FORM's CARD OF 'grapnellaw18.ArchiveBent'. -/
def archiveBentUptoCard : Claim7 := { stood := { row := archiveBentUptoRow, standIns := [], harness := (true, "bc2dce3e9603473573018e169b86d7d90b7a3f41b8da2cd3d6ec38e98662efa8"), looks := true }, kinds := [], alts := [], laidByText := true, laidKinds := [.data, .pinned], laidTests := true, laidLooks := .later }
def ArchiveBentUptoCardSaid : Prop := Claim7.holds Tryz.pinned (.plain (OpenSpec.upto archiveBentSpec)) archiveBentUptoCard
end Rows
end Go.Proofs.YtkhblpmjmkhiiaaGreatDoor
