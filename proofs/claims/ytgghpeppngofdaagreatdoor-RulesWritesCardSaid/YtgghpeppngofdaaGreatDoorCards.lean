/-
  DERIVED. GIVEN WITH THE SEED: THE CARDS: each row of YtgghpeppngofdaaGreatDoorRows.lean that lists a variable, with what it lists TIED to the program's text (the seventh form; the later family's looks); each row that meets fmt, with fmt's text TOLD by the authors' own Lean function (tested against real Go, not proved from fmt's source: count such statements apart). THE CARD IS WHAT COUNTS. Prove the row's statement (the work); the ties are given (YtgghpeppngofdaaGreatDoorTie.lean); close each card by the builder's one call (the guide's Derived/Test/ToyasCard.lean, 'card_holds'). Laid BY PROGRAM, IN A SANDBOX (cutbox-door.mjs). By AI agents, Wed Nov 11 2026. No macro, syntax, notation, axiom, sorry.
-/
import Derived.Test.YtgghpeppngofdaaGreatDoorRows
import GoSem.ClaimSeven
namespace Go.Proofs.YtgghpeppngofdaaGreatDoor
namespace Rows

/-- THE TIED CARD OF 'calliperlaw5.RulesScopes'. -/
def rulesScopesCard : Claim7 := { stood := { row := rulesScopesRow, standIns := [], harness := (true, "fb37429c0a5493e50f3c847d1114f0aca4f6959c9fc8b867bacefad8582472e0"), looks := true }, kinds := [], alts := [], laidByText := true, laidKinds := [.handle], laidTests := true, laidLooks := .later }
def RulesScopesCardSaid : Prop := Claim7.holds Tryz.pinned (.plain (OpenSpec.ofChange rulesScopesSpec)) rulesScopesCard

/-- THE TIED CARD OF 'calliperlaw5.RulesWrites'. -/
def rulesWritesCard : Claim7 := { stood := { row := rulesWritesRow, standIns := [], harness := (true, "fb37429c0a5493e50f3c847d1114f0aca4f6959c9fc8b867bacefad8582472e0"), looks := true }, kinds := [], alts := [], laidByText := true, laidKinds := [.handle], laidTests := true, laidLooks := .later }
def RulesWritesCardSaid : Prop := Claim7.holds Tryz.pinned (.plain (OpenSpec.ofChange rulesWritesSpec)) rulesWritesCard

/-- THE TIED CARD OF 'calliperlaw5.RulesCalls'. -/
def rulesCallsCard : Claim7 := { stood := { row := rulesCallsRow, standIns := [], harness := (true, "fb37429c0a5493e50f3c847d1114f0aca4f6959c9fc8b867bacefad8582472e0"), looks := true }, kinds := [], alts := [], laidByText := true, laidKinds := [.handle], laidTests := true, laidLooks := .later }
def RulesCallsCardSaid : Prop := Claim7.holds Tryz.pinned (.plain (OpenSpec.ofChange rulesCallsSpec)) rulesCallsCard

/-- THE SECOND FORM's CARD OF 'calliperlaw5.RulesScopes'. -/
def rulesScopesUptoCard : Claim7 := { stood := { row := rulesScopesUptoRow, standIns := [], harness := (true, "fb37429c0a5493e50f3c847d1114f0aca4f6959c9fc8b867bacefad8582472e0"), looks := true }, kinds := [], alts := [], laidByText := true, laidKinds := [.handle], laidTests := true, laidLooks := .later }
def RulesScopesUptoCardSaid : Prop := Claim7.holds Tryz.pinned (.plain (OpenSpec.upto rulesScopesSpec)) rulesScopesUptoCard

/-- THE SECOND FORM's CARD OF 'calliperlaw5.RulesWrites'. -/
def rulesWritesUptoCard : Claim7 := { stood := { row := rulesWritesUptoRow, standIns := [], harness := (true, "fb37429c0a5493e50f3c847d1114f0aca4f6959c9fc8b867bacefad8582472e0"), looks := true }, kinds := [], alts := [], laidByText := true, laidKinds := [.handle], laidTests := true, laidLooks := .later }
def RulesWritesUptoCardSaid : Prop := Claim7.holds Tryz.pinned (.plain (OpenSpec.upto rulesWritesSpec)) rulesWritesUptoCard

/-- THE SECOND FORM's CARD OF 'calliperlaw5.RulesCalls'. -/
def rulesCallsUptoCard : Claim7 := { stood := { row := rulesCallsUptoRow, standIns := [], harness := (true, "fb37429c0a5493e50f3c847d1114f0aca4f6959c9fc8b867bacefad8582472e0"), looks := true }, kinds := [], alts := [], laidByText := true, laidKinds := [.handle], laidTests := true, laidLooks := .later }
def RulesCallsUptoCardSaid : Prop := Claim7.holds Tryz.pinned (.plain (OpenSpec.upto rulesCallsSpec)) rulesCallsUptoCard
end Rows
end Go.Proofs.YtgghpeppngofdaaGreatDoor
