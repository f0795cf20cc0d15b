/-
  DERIVED. GIVEN WITH THE SEED: THE CARDS: each row of YtfjpbjjniojbfaaGreatDoorRows.lean that lists a variable, with what it lists TIED to the program's text (the seventh form; the later family's looks); each row that meets fmt, with fmt's text TOLD by the authors' own Lean function (tested against real Go, not proved from fmt's source: count such statements apart). THE CARD IS WHAT COUNTS. Prove the row's statement (the work); the ties are given (YtfjpbjjniojbfaaGreatDoorTie.lean); close each card by the builder's one call (the guide's Derived/Test/ToyasCard.lean, 'card_holds'). Laid BY PROGRAM, IN A SANDBOX (cutbox-door.mjs). By AI agents, Wed Nov 11 2026. No macro, syntax, notation, axiom, sorry.
-/
import Derived.Test.YtfjpbjjniojbfaaGreatDoorRows
import GoSem.ClaimSeven
namespace Go.Proofs.YtfjpbjjniojbfaaGreatDoor
namespace Rows

/-- THE TIED CARD OF 'calliperlaw27.CheckOrder'. -/
def checkOrderCard : Claim7 := { stood := { row := checkOrderRow, standIns := [], harness := (true, "f5d6c0ebdfa36b52c9833feea9373d68b133dd3563e5572ab5043551453f688c"), looks := true }, kinds := [], alts := [], laidByText := true, laidKinds := [.handle, .sentinel, .sentinel, .sentinel, .sentinel], laidTests := true, laidLooks := .later }
def CheckOrderCardSaid : Prop := Claim7.holds Tryz.pinned (.plain (OpenSpec.ofChange checkOrderSpec)) checkOrderCard

/-- THE TIED CARD OF 'calliperlaw27.CheckSpaces'. -/
def checkSpacesCard : Claim7 := { stood := { row := checkSpacesRow, standIns := [], harness := (true, "f5d6c0ebdfa36b52c9833feea9373d68b133dd3563e5572ab5043551453f688c"), looks := true }, kinds := [], alts := [], laidByText := true, laidKinds := [.handle, .sentinel, .sentinel, .sentinel, .sentinel], laidTests := true, laidLooks := .later }
def CheckSpacesCardSaid : Prop := Claim7.holds Tryz.pinned (.plain (OpenSpec.ofChange checkSpacesSpec)) checkSpacesCard

/-- THE SECOND FORM's CARD OF 'calliperlaw27.CheckOrder'. -/
def checkOrderUptoCard : Claim7 := { stood := { row := checkOrderUptoRow, standIns := [], harness := (true, "f5d6c0ebdfa36b52c9833feea9373d68b133dd3563e5572ab5043551453f688c"), looks := true }, kinds := [], alts := [], laidByText := true, laidKinds := [.handle, .sentinel, .sentinel, .sentinel, .sentinel], laidTests := true, laidLooks := .later }
def CheckOrderUptoCardSaid : Prop := Claim7.holds Tryz.pinned (.plain (OpenSpec.upto checkOrderSpec)) checkOrderUptoCard

/-- THE SECOND FORM's CARD OF 'calliperlaw27.CheckSpaces'. -/
def checkSpacesUptoCard : Claim7 := { stood := { row := checkSpacesUptoRow, standIns := [], harness := (true, "f5d6c0ebdfa36b52c9833feea9373d68b133dd3563e5572ab5043551453f688c"), looks := true }, kinds := [], alts := [], laidByText := true, laidKinds := [.handle, .sentinel, .sentinel, .sentinel, .sentinel], laidTests := true, laidLooks := .later }
def CheckSpacesUptoCardSaid : Prop := Claim7.holds Tryz.pinned (.plain (OpenSpec.upto checkSpacesSpec)) checkSpacesUptoCard
end Rows
end Go.Proofs.YtfjpbjjniojbfaaGreatDoor
