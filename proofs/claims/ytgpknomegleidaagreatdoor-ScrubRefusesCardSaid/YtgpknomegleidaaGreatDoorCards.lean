/-
  DERIVED. GIVEN WITH THE SEED: THE CARDS: each row of YtgpknomegleidaaGreatDoorRows.lean that lists a variable, with what it lists TIED to the program's text (the seventh form; the later family's looks); each row that meets fmt, with fmt's text TOLD by the authors' own Lean function (tested against real Go, not proved from fmt's source: count such statements apart). THE CARD IS WHAT COUNTS. Prove the row's statement (the work); the ties are given (YtgpknomegleidaaGreatDoorTie.lean); close each card by the builder's one call (the guide's Derived/Test/ToyasCard.lean, 'card_holds'). Laid BY PROGRAM, IN A SANDBOX (cutbox-door.mjs). By AI agents, Wed Nov 11 2026. No macro, syntax, notation, axiom, sorry.
-/
import Derived.Test.YtgpknomegleidaaGreatDoorRows
import GoSem.ClaimSeven
namespace Go.Proofs.YtgpknomegleidaaGreatDoor
namespace Rows

/-- THE TIED CARD OF 'grapnellaw20.ScrubRefuses'. -/
def scrubRefusesCard : Claim7 := { stood := { row := scrubRefusesRow, standIns := [], harness := (true, "114ac01f345289e347a6124d73f2e778fac85f327d2aa7d7b47dd9a820dda7f8"), looks := true }, kinds := [], alts := [], laidByText := true, laidKinds := [.handle], laidTests := true, laidLooks := .later }
def ScrubRefusesCardSaid : Prop := Claim7.holds Tryz.pinned (.plain (OpenSpec.ofChange scrubRefusesSpec)) scrubRefusesCard

/-- THE TIED CARD OF 'grapnellaw20.ScrubQuarantines'. -/
def scrubQuarantinesCard : Claim7 := { stood := { row := scrubQuarantinesRow, standIns := [], harness := (true, "114ac01f345289e347a6124d73f2e778fac85f327d2aa7d7b47dd9a820dda7f8"), looks := true }, kinds := [], alts := [], laidByText := true, laidKinds := [.handle], laidTests := true, laidLooks := .later }
def ScrubQuarantinesCardSaid : Prop := Claim7.holds Tryz.pinned (.plain (OpenSpec.ofChange scrubQuarantinesSpec)) scrubQuarantinesCard

/-- THE SECOND FORM's CARD OF 'grapnellaw20.ScrubRefuses'. -/
def scrubRefusesUptoCard : Claim7 := { stood := { row := scrubRefusesUptoRow, standIns := [], harness := (true, "114ac01f345289e347a6124d73f2e778fac85f327d2aa7d7b47dd9a820dda7f8"), looks := true }, kinds := [], alts := [], laidByText := true, laidKinds := [.handle], laidTests := true, laidLooks := .later }
def ScrubRefusesUptoCardSaid : Prop := Claim7.holds Tryz.pinned (.plain (OpenSpec.upto scrubRefusesSpec)) scrubRefusesUptoCard

/-- THE SECOND FORM's CARD OF 'grapnellaw20.ScrubQuarantines'. -/
def scrubQuarantinesUptoCard : Claim7 := { stood := { row := scrubQuarantinesUptoRow, standIns := [], harness := (true, "114ac01f345289e347a6124d73f2e778fac85f327d2aa7d7b47dd9a820dda7f8"), looks := true }, kinds := [], alts := [], laidByText := true, laidKinds := [.handle], laidTests := true, laidLooks := .later }
def ScrubQuarantinesUptoCardSaid : Prop := Claim7.holds Tryz.pinned (.plain (OpenSpec.upto scrubQuarantinesSpec)) scrubQuarantinesUptoCard
end Rows
end Go.Proofs.YtgpknomegleidaaGreatDoor
