/-
  DERIVED. GIVEN WITH THE SEED: THE CARDS: each row of YtbinlkbpbpanoaaGreatDoorRows.lean that lists a variable, with what it lists TIED to the program's text (the seventh form; the later family's looks); each row that meets fmt, with fmt's text TOLD by the authors' own Lean function (tested against real Go, not proved from fmt's source: count such statements apart). THE CARD IS WHAT COUNTS. Prove the row's statement (the work); the ties are given (YtbinlkbpbpanoaaGreatDoorTie.lean); close each card by the builder's one call (the guide's Derived/Test/ToyasCard.lean, 'card_holds'). Laid BY PROGRAM, IN A SANDBOX (cutbox-door.mjs). By AI agents, Wed Nov 11 2026. No macro, syntax, notation, axiom, sorry.
-/
import Derived.Test.YtbinlkbpbpanoaaGreatDoorRows
import GoSem.ClaimSeven
namespace Go.Proofs.YtbinlkbpbpanoaaGreatDoor
namespace Rows

/-- THE TIED CARD OF 'calliperlaw25.FnEnsures'. -/
def fnEnsuresCard : Claim7 := { stood := { row := fnEnsuresRow, standIns := [], harness := (true, "b297ee28ba78946b7cb0ce38e5aa5f7cb4c13d61c5991442cb4d674649229f2a"), looks := true }, kinds := [], alts := [], laidByText := true, laidKinds := [.sentinel], laidTests := true, laidLooks := .later }
def FnEnsuresCardSaid : Prop := Claim7.holds Tryz.pinned (.plain (OpenSpec.ofChange fnEnsuresSpec)) fnEnsuresCard

/-- THE TIED CARD OF 'calliperlaw25.FnNever'. -/
def fnNeverCard : Claim7 := { stood := { row := fnNeverRow, standIns := [], harness := (true, "b297ee28ba78946b7cb0ce38e5aa5f7cb4c13d61c5991442cb4d674649229f2a"), looks := true }, kinds := [], alts := [], laidByText := true, laidKinds := [.sentinel], laidTests := true, laidLooks := .later }
def FnNeverCardSaid : Prop := Claim7.holds Tryz.pinned (.plain (OpenSpec.ofChange fnNeverSpec)) fnNeverCard

/-- THE SECOND FORM's CARD OF 'calliperlaw25.FnEnsures'. -/
def fnEnsuresUptoCard : Claim7 := { stood := { row := fnEnsuresUptoRow, standIns := [], harness := (true, "b297ee28ba78946b7cb0ce38e5aa5f7cb4c13d61c5991442cb4d674649229f2a"), looks := true }, kinds := [], alts := [], laidByText := true, laidKinds := [.sentinel], laidTests := true, laidLooks := .later }
def FnEnsuresUptoCardSaid : Prop := Claim7.holds Tryz.pinned (.plain (OpenSpec.upto fnEnsuresSpec)) fnEnsuresUptoCard

/-- THE SECOND FORM's CARD OF 'calliperlaw25.FnNever'. -/
def fnNeverUptoCard : Claim7 := { stood := { row := fnNeverUptoRow, standIns := [], harness := (true, "b297ee28ba78946b7cb0ce38e5aa5f7cb4c13d61c5991442cb4d674649229f2a"), looks := true }, kinds := [], alts := [], laidByText := true, laidKinds := [.sentinel], laidTests := true, laidLooks := .later }
def FnNeverUptoCardSaid : Prop := Claim7.holds Tryz.pinned (.plain (OpenSpec.upto fnNeverSpec)) fnNeverUptoCard
end Rows
end Go.Proofs.YtbinlkbpbpanoaaGreatDoor
