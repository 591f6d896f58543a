/-
  DERIVED. GIVEN WITH THE SEED: THE CARDS: each row of YtkhblpmjmkhiiaaDoorRows.lean that lists a variable, with what it lists TIED to the program's text (the seventh form; the later family's looks); each row that meets fmt, with fmt's text TOLD by the authors' own Lean function (tested against real Go, not proved from fmt's source: count such statements apart). THE CARD IS WHAT COUNTS. Prove the row's statement (the work); the ties are given (YtkhblpmjmkhiiaaDoorTie.lean); close each card by the builder's one call (the guide's Derived/Test/ToyasCard.lean, 'card_holds'). Laid BY PROGRAM, IN A SANDBOX (cutbox-door.mjs). By AI agents, Wed Nov 11 2026. No macro, syntax, notation, axiom, sorry.
-/
import Derived.Test.YtkhblpmjmkhiiaaDoorRows
import GoSem.ClaimSeven
namespace Go.Proofs.YtkhblpmjmkhiiaaDoor
namespace Rows

/-- THE TIED CARD OF 'grapnellaw18.ArchiveNormals'. -/
def archiveNormalsCard : Claim7 := { stood := { row := archiveNormalsRow, standIns := [], harness := (true, "b1b3e7ddabcb5e9df29832efb0e53c8d41558f707d82fe92ef03856339a099fc"), looks := true }, kinds := [], alts := [], laidByText := true, laidKinds := [.data, .pinned], laidTests := true, laidLooks := .later }
def ArchiveNormalsCardSaid : Prop := Claim7.holds Tryd.pinned (.plain (OpenSpec.ofChange archiveNormalsSpec)) archiveNormalsCard

/-- THE TIED CARD OF 'grapnellaw18.ArchiveOnce'. -/
def archiveOnceCard : Claim7 := { stood := { row := archiveOnceRow, standIns := [], harness := (true, "b1b3e7ddabcb5e9df29832efb0e53c8d41558f707d82fe92ef03856339a099fc"), looks := true }, kinds := [], alts := [], laidByText := true, laidKinds := [.data, .pinned], laidTests := true, laidLooks := .later }
def ArchiveOnceCardSaid : Prop := Claim7.holds Tryd.pinned (.plain (OpenSpec.ofChange archiveOnceSpec)) archiveOnceCard

/-- THE SECOND FORM's CARD OF 'grapnellaw18.ArchiveNormals'. -/
def archiveNormalsUptoCard : Claim7 := { stood := { row := archiveNormalsUptoRow, standIns := [], harness := (true, "b1b3e7ddabcb5e9df29832efb0e53c8d41558f707d82fe92ef03856339a099fc"), looks := true }, kinds := [], alts := [], laidByText := true, laidKinds := [.data, .pinned], laidTests := true, laidLooks := .later }
def ArchiveNormalsUptoCardSaid : Prop := Claim7.holds Tryd.pinned (.plain (OpenSpec.upto archiveNormalsSpec)) archiveNormalsUptoCard

/-- THE SECOND FORM's CARD OF 'grapnellaw18.ArchiveOnce'. -/
def archiveOnceUptoCard : Claim7 := { stood := { row := archiveOnceUptoRow, standIns := [], harness := (true, "b1b3e7ddabcb5e9df29832efb0e53c8d41558f707d82fe92ef03856339a099fc"), looks := true }, kinds := [], alts := [], laidByText := true, laidKinds := [.data, .pinned], laidTests := true, laidLooks := .later }
def ArchiveOnceUptoCardSaid : Prop := Claim7.holds Tryd.pinned (.plain (OpenSpec.upto archiveOnceSpec)) archiveOnceUptoCard
end Rows
end Go.Proofs.YtkhblpmjmkhiiaaDoor
