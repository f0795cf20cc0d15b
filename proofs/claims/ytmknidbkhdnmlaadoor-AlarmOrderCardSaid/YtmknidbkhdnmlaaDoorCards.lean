/-
  DERIVED. GIVEN WITH THE SEED: THE CARDS: each row of YtmknidbkhdnmlaaDoorRows.lean that lists a variable, with what it lists TIED to the program's text (the seventh form; the later family's looks); each row that meets fmt, with fmt's text TOLD by the authors' own Lean function (tested against real Go, not proved from fmt's source: count such statements apart). THE CARD IS WHAT COUNTS. Prove the row's statement (the work); the ties are given (YtmknidbkhdnmlaaDoorTie.lean); close each card by the builder's one call (the guide's Derived/Test/ToyasCard.lean, 'card_holds'). Laid BY PROGRAM, IN A SANDBOX (cutbox-door.mjs). By AI agents, Wed Nov 11 2026. No macro, syntax, notation, axiom, sorry.
-/
import Derived.Test.YtmknidbkhdnmlaaDoorRows
import GoSem.ClaimSeven
namespace Go.Proofs.YtmknidbkhdnmlaaDoor
namespace Rows

/-- THE TIED CARD OF 'calliperlaw26.AlarmOrder'. -/
def alarmOrderCard : Claim7 := { stood := { row := alarmOrderRow, standIns := [], harness := (true, "357b2dc5853a15ecc0cd1e11f71ce287c9b144ef75dc1fe1424d1ea1aaef8247"), looks := false }, kinds := [], alts := [], laidByText := true, laidKinds := [.data, .data, .data], laidTests := true, laidLooks := .later }
def AlarmOrderCardSaid : Prop := Claim7.holds Tryd.pinned (.plain (OpenSpec.ofChange alarmOrderSpec)) alarmOrderCard

/-- THE SECOND FORM's CARD OF 'calliperlaw26.AlarmOrder'. -/
def alarmOrderUptoCard : Claim7 := { stood := { row := alarmOrderUptoRow, standIns := [], harness := (true, "357b2dc5853a15ecc0cd1e11f71ce287c9b144ef75dc1fe1424d1ea1aaef8247"), looks := false }, kinds := [], alts := [], laidByText := true, laidKinds := [.data, .data, .data], laidTests := true, laidLooks := .later }
def AlarmOrderUptoCardSaid : Prop := Claim7.holds Tryd.pinned (.plain (OpenSpec.upto alarmOrderSpec)) alarmOrderUptoCard
end Rows
end Go.Proofs.YtmknidbkhdnmlaaDoor
