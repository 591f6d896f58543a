/-
  DERIVED. GIVEN WITH THE SEED: THE CARDS: each row of YtoggfapafjgkdaaDoorRows.lean that lists a variable, with what it lists TIED to the program's text (the seventh form; the later family's looks); each row that meets fmt, with fmt's text TOLD by the authors' own Lean function (tested against real Go, not proved from fmt's source: count such statements apart). THE CARD IS WHAT COUNTS. Prove the row's statement (the work); the ties are given (YtoggfapafjgkdaaDoorTie.lean); close each card by the builder's one call (the guide's Derived/Test/ToyasCard.lean, 'card_holds'). Laid BY PROGRAM, IN A SANDBOX (cutbox-door.mjs). By AI agents, Wed Nov 11 2026. No macro, syntax, notation, axiom, sorry.
-/
import Derived.Test.YtoggfapafjgkdaaDoorRows
import GoSem.ClaimSeven
namespace Go.Proofs.YtoggfapafjgkdaaDoor
namespace Rows

/-- THE TIED CARD OF 'grapnellaw19.DeltaDiffs'. -/
def deltaDiffsCard : Claim7 := { stood := { row := deltaDiffsRow, standIns := [], harness := (true, "6a3a4cfdd22b17481ef95879a166bb4b0a106aab83f39b5755c037f4ac8ff715"), looks := true }, kinds := [], alts := [], laidByText := true, laidKinds := [.data, .pinned], laidTests := true, laidLooks := .later }
def DeltaDiffsCardSaid : Prop := Claim7.holds Tryd.pinned (.plain (OpenSpec.ofChange deltaDiffsSpec)) deltaDiffsCard

/-- THE TIED CARD OF 'grapnellaw19.DeltaSame'. -/
def deltaSameCard : Claim7 := { stood := { row := deltaSameRow, standIns := [], harness := (true, "6a3a4cfdd22b17481ef95879a166bb4b0a106aab83f39b5755c037f4ac8ff715"), looks := true }, kinds := [], alts := [], laidByText := true, laidKinds := [.data, .pinned], laidTests := true, laidLooks := .later }
def DeltaSameCardSaid : Prop := Claim7.holds Tryd.pinned (.plain (OpenSpec.ofChange deltaSameSpec)) deltaSameCard

/-- THE TIED CARD OF 'grapnellaw19.DeltaApplies'. -/
def deltaAppliesCard : Claim7 := { stood := { row := deltaAppliesRow, standIns := [], harness := (true, "6a3a4cfdd22b17481ef95879a166bb4b0a106aab83f39b5755c037f4ac8ff715"), looks := true }, kinds := [], alts := [], laidByText := true, laidKinds := [.data, .pinned], laidTests := true, laidLooks := .later }
def DeltaAppliesCardSaid : Prop := Claim7.holds Tryd.pinned (.plain (OpenSpec.ofChange deltaAppliesSpec)) deltaAppliesCard

/-- THE TIED CARD OF 'grapnellaw19.DeltaBack'. -/
def deltaBackCard : Claim7 := { stood := { row := deltaBackRow, standIns := [], harness := (true, "6a3a4cfdd22b17481ef95879a166bb4b0a106aab83f39b5755c037f4ac8ff715"), looks := true }, kinds := [], alts := [], laidByText := true, laidKinds := [.data, .pinned], laidTests := true, laidLooks := .later }
def DeltaBackCardSaid : Prop := Claim7.holds Tryd.pinned (.plain (OpenSpec.ofChange deltaBackSpec)) deltaBackCard

/-- THE TIED CARD OF 'grapnellaw19.DeltaThere'. -/
def deltaThereCard : Claim7 := { stood := { row := deltaThereRow, standIns := [], harness := (true, "6a3a4cfdd22b17481ef95879a166bb4b0a106aab83f39b5755c037f4ac8ff715"), looks := true }, kinds := [], alts := [], laidByText := true, laidKinds := [.data, .pinned], laidTests := true, laidLooks := .later }
def DeltaThereCardSaid : Prop := Claim7.holds Tryd.pinned (.plain (OpenSpec.ofChange deltaThereSpec)) deltaThereCard

/-- THE TIED CARD OF 'grapnellaw19.DeltaStops'. -/
def deltaStopsCard : Claim7 := { stood := { row := deltaStopsRow, standIns := [], harness := (true, "6a3a4cfdd22b17481ef95879a166bb4b0a106aab83f39b5755c037f4ac8ff715"), looks := true }, kinds := [], alts := [], laidByText := true, laidKinds := [.data, .pinned], laidTests := true, laidLooks := .later }
def DeltaStopsCardSaid : Prop := Claim7.holds Tryd.pinned (.plain (OpenSpec.ofChange deltaStopsSpec)) deltaStopsCard

/-- THE TIED CARD OF 'grapnellaw18.ArchiveNormals'. -/
def archiveNormalsCard : Claim7 := { stood := { row := archiveNormalsRow, standIns := [], harness := (true, "6a3a4cfdd22b17481ef95879a166bb4b0a106aab83f39b5755c037f4ac8ff715"), looks := true }, kinds := [], alts := [], laidByText := true, laidKinds := [.data, .pinned], laidTests := true, laidLooks := .later }
def ArchiveNormalsCardSaid : Prop := Claim7.holds Tryd.pinned (.plain (OpenSpec.ofChange archiveNormalsSpec)) archiveNormalsCard

/-- THE TIED CARD OF 'grapnellaw18.ArchiveOnce'. -/
def archiveOnceCard : Claim7 := { stood := { row := archiveOnceRow, standIns := [], harness := (true, "6a3a4cfdd22b17481ef95879a166bb4b0a106aab83f39b5755c037f4ac8ff715"), looks := true }, kinds := [], alts := [], laidByText := true, laidKinds := [.data, .pinned], laidTests := true, laidLooks := .later }
def ArchiveOnceCardSaid : Prop := Claim7.holds Tryd.pinned (.plain (OpenSpec.ofChange archiveOnceSpec)) archiveOnceCard

/-- THE SECOND FORM's CARD OF 'grapnellaw19.DeltaDiffs'. -/
def deltaDiffsUptoCard : Claim7 := { stood := { row := deltaDiffsUptoRow, standIns := [], harness := (true, "6a3a4cfdd22b17481ef95879a166bb4b0a106aab83f39b5755c037f4ac8ff715"), looks := true }, kinds := [], alts := [], laidByText := true, laidKinds := [.data, .pinned], laidTests := true, laidLooks := .later }
def DeltaDiffsUptoCardSaid : Prop := Claim7.holds Tryd.pinned (.plain (OpenSpec.upto deltaDiffsSpec)) deltaDiffsUptoCard

/-- THE SECOND FORM's CARD OF 'grapnellaw19.DeltaSame'. -/
def deltaSameUptoCard : Claim7 := { stood := { row := deltaSameUptoRow, standIns := [], harness := (true, "6a3a4cfdd22b17481ef95879a166bb4b0a106aab83f39b5755c037f4ac8ff715"), looks := true }, kinds := [], alts := [], laidByText := true, laidKinds := [.data, .pinned], laidTests := true, laidLooks := .later }
def DeltaSameUptoCardSaid : Prop := Claim7.holds Tryd.pinned (.plain (OpenSpec.upto deltaSameSpec)) deltaSameUptoCard

/-- THE SECOND FORM's CARD OF 'grapnellaw19.DeltaApplies'. -/
def deltaAppliesUptoCard : Claim7 := { stood := { row := deltaAppliesUptoRow, standIns := [], harness := (true, "6a3a4cfdd22b17481ef95879a166bb4b0a106aab83f39b5755c037f4ac8ff715"), looks := true }, kinds := [], alts := [], laidByText := true, laidKinds := [.data, .pinned], laidTests := true, laidLooks := .later }
def DeltaAppliesUptoCardSaid : Prop := Claim7.holds Tryd.pinned (.plain (OpenSpec.upto deltaAppliesSpec)) deltaAppliesUptoCard

/-- THE SECOND FORM's CARD OF 'grapnellaw19.DeltaBack'. -/
def deltaBackUptoCard : Claim7 := { stood := { row := deltaBackUptoRow, standIns := [], harness := (true, "6a3a4cfdd22b17481ef95879a166bb4b0a106aab83f39b5755c037f4ac8ff715"), looks := true }, kinds := [], alts := [], laidByText := true, laidKinds := [.data, .pinned], laidTests := true, laidLooks := .later }
def DeltaBackUptoCardSaid : Prop := Claim7.holds Tryd.pinned (.plain (OpenSpec.upto deltaBackSpec)) deltaBackUptoCard

/-- THE SECOND FORM's CARD OF 'grapnellaw19.DeltaThere'. -/
def deltaThereUptoCard : Claim7 := { stood := { row := deltaThereUptoRow, standIns := [], harness := (true, "6a3a4cfdd22b17481ef95879a166bb4b0a106aab83f39b5755c037f4ac8ff715"), looks := true }, kinds := [], alts := [], laidByText := true, laidKinds := [.data, .pinned], laidTests := true, laidLooks := .later }
def DeltaThereUptoCardSaid : Prop := Claim7.holds Tryd.pinned (.plain (OpenSpec.upto deltaThereSpec)) deltaThereUptoCard

/-- THE SECOND FORM's CARD OF 'grapnellaw19.DeltaStops'. -/
def deltaStopsUptoCard : Claim7 := { stood := { row := deltaStopsUptoRow, standIns := [], harness := (true, "6a3a4cfdd22b17481ef95879a166bb4b0a106aab83f39b5755c037f4ac8ff715"), looks := true }, kinds := [], alts := [], laidByText := true, laidKinds := [.data, .pinned], laidTests := true, laidLooks := .later }
def DeltaStopsUptoCardSaid : Prop := Claim7.holds Tryd.pinned (.plain (OpenSpec.upto deltaStopsSpec)) deltaStopsUptoCard

/-- THE SECOND FORM's CARD OF 'grapnellaw18.ArchiveNormals'. -/
def archiveNormalsUptoCard : Claim7 := { stood := { row := archiveNormalsUptoRow, standIns := [], harness := (true, "6a3a4cfdd22b17481ef95879a166bb4b0a106aab83f39b5755c037f4ac8ff715"), looks := true }, kinds := [], alts := [], laidByText := true, laidKinds := [.data, .pinned], laidTests := true, laidLooks := .later }
def ArchiveNormalsUptoCardSaid : Prop := Claim7.holds Tryd.pinned (.plain (OpenSpec.upto archiveNormalsSpec)) archiveNormalsUptoCard

/-- THE SECOND FORM's CARD OF 'grapnellaw18.ArchiveOnce'. -/
def archiveOnceUptoCard : Claim7 := { stood := { row := archiveOnceUptoRow, standIns := [], harness := (true, "6a3a4cfdd22b17481ef95879a166bb4b0a106aab83f39b5755c037f4ac8ff715"), looks := true }, kinds := [], alts := [], laidByText := true, laidKinds := [.data, .pinned], laidTests := true, laidLooks := .later }
def ArchiveOnceUptoCardSaid : Prop := Claim7.holds Tryd.pinned (.plain (OpenSpec.upto archiveOnceSpec)) archiveOnceUptoCard
end Rows
end Go.Proofs.YtoggfapafjgkdaaDoor
