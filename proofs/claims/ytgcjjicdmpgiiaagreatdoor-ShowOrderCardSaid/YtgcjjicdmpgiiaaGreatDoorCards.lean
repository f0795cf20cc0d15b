/-
  DERIVED. GIVEN WITH THE SEED: THE CARDS: each row of YtgcjjicdmpgiiaaGreatDoorRows.lean that lists a variable, with what it lists TIED to the program's text (the seventh form; the later family's looks); each row that meets fmt, with fmt's text TOLD by the authors' own Lean function (tested against real Go, not proved from fmt's source: count such statements apart). THE CARD IS WHAT COUNTS. Prove the row's statement (the work); the ties are given (YtgcjjicdmpgiiaaGreatDoorTie.lean); close each card by the builder's one call (the guide's Derived/Test/ToyasCard.lean, 'card_holds'). Laid BY PROGRAM, IN A SANDBOX (cutbox-door.mjs). By AI agents, Wed Nov 11 2026. No macro, syntax, notation, axiom, sorry.
-/
import Derived.Test.YtgcjjicdmpgiiaaGreatDoorRows
import GoSem.ClaimSeven
namespace Go.Proofs.YtgcjjicdmpgiiaaGreatDoor
namespace Rows

/-- THE TIED CARD OF 'calliperlaw4.ShowOrder'. -/
def showOrderCard : Claim7 := { stood := { row := showOrderRow, standIns := [], harness := (true, "e3c1be70c181b22359acb7240cc4202956f06d03420778e024b06595ec32a80b"), looks := true }, kinds := [], alts := [], laidByText := true, laidKinds := [.data, .data, .data, .sentinel, .sentinel], laidTests := true, laidLooks := .later }
def ShowOrderCardSaid : Prop := Claim7.holds Tryz.pinned (.plain (OpenSpec.ofChange showOrderSpec)) showOrderCard

/-- THE SECOND FORM's CARD OF 'calliperlaw4.ShowOrder'. -/
def showOrderUptoCard : Claim7 := { stood := { row := showOrderUptoRow, standIns := [], harness := (true, "e3c1be70c181b22359acb7240cc4202956f06d03420778e024b06595ec32a80b"), looks := true }, kinds := [], alts := [], laidByText := true, laidKinds := [.data, .data, .data, .sentinel, .sentinel], laidTests := true, laidLooks := .later }
def ShowOrderUptoCardSaid : Prop := Claim7.holds Tryz.pinned (.plain (OpenSpec.upto showOrderSpec)) showOrderUptoCard
end Rows
end Go.Proofs.YtgcjjicdmpgiiaaGreatDoor
