/-
  NARROWER THAN 'FOR EVERY INPUT', by the rows' own cells (each row's printed sentence says how): CheckOrder: laid · CheckSpaces: laid.
  DERIVED. THE GIVEN ROWS OF THIS SEAT. 2 by the template 'for every input the law returns true; each argument reads behind the call as it read before'; 0 by the template 'total and deterministic' (their statements: YtfjpbjjniojbfaaGreatDoorTotals.lean).
  GIVEN WITH THE SEED: the statements are not yours to turn. If you find one false, say at which input.
  Laid BY PROGRAM, IN A SANDBOX (cutbox-rows.mjs): the forced cells as the released guide's own fill.sh prints them over the translation 5565c6d06d3ab512… (all of the seat's roots in one cut). By AI agents, Wed Nov 11 2026. No macro, syntax, notation, axiom, sorry.
-/
import Derived.Test.YtfjpbjjniojbfaaGreatDoorChecked
import GoSem.Claim
import GoSem.ClaimJoined
import GoSem.ClaimMapViews
import Derived.JoinedTies
import Derived.KernelRfl
namespace Go.Proofs.YtfjpbjjniojbfaaGreatDoor
/- THE CELL 'sum', in the pinned program and in every row, IS THE sha256 OF THE DUMP (.gsa) THAT YtfjpbjjniojbfaaGreatDoorProg.lean LOADS. Nothing in Lean hashes anything: it is a label: what it is worth is what the hold of that sum in a sandbox is worth. -/
noncomputable def Tryz.pinned : Pinned := { name := "ytfjpbjjniojbfaagreatdoor", sum := "5565c6d06d3ab5123dd8e27ee519f1587c1e2dd1764ddf922d8c965bf6819d96", checked := Tryz.checked }
namespace Rows
def none {H : Type} : Left H := { results := [], args := [] }

/- WHAT THE LISTED PACKAGE-LEVEL VARIABLES READ AS WHEN THE CALL BEGINS. Each datum BY PROGRAM (the guide's laid-datum.mjs) off the statement by which the dump's own 'gosem.cut.vars' lays the variable. In a bare row this is a premise. The card (YtfjpbjjniojbfaaGreatDoorCards.lean) ties it to the program's text. -/
def laid_errors_errorType {H : Type} : DataW H := .iface "internal/reflectlite.rtype" (.agg [.ptr (.lit (.string [101, 114, 114, 111, 114]))])
def laid_calliper_fn_errOut {H : Type} : DataW H := .iface "*errors.errorString" (.ptr (.agg [.lit (.string [116, 104, 101, 32, 98, 117, 100, 103, 101, 116, 32, 105, 115, 32, 115, 112, 101, 110, 116])]))
def laid_calliper_lex_errLong {H : Type} : DataW H := .iface "*errors.errorString" (.ptr (.agg [.lit (.string [116, 111, 111, 32, 108, 111, 110, 103])]))
def laid_calliper_lex_errWord {H : Type} : DataW H := .iface "*errors.errorString" (.ptr (.agg [.lit (.string [110, 111, 32, 115, 117, 99, 104, 32, 116, 111, 107, 101, 110])]))
def laid_calliper_check_errOut {H : Type} : DataW H := .iface "*errors.errorString" (.ptr (.agg [.lit (.string [116, 104, 101, 32, 98, 117, 100, 103, 101, 116, 32, 105, 115, 32, 115, 112, 101, 110, 116])]))

/-- 'calliperlaw27.CheckOrder': WHATEVER THE INPUT: true; the input reads as it did. -/
def checkOrderSpec : ChangeSpec := { name := "checkOrder", fn := fun _ => fun
  | [d1, d2, d3] => { results := [.lit (.bool true)], args := [d1, d2, d3] }
  | _ => none }
def checkOrderRow : OpenClaim := { program := "ytfjpbjjniojbfaagreatdoor", sum := "5565c6d06d3ab5123dd8e27ee519f1587c1e2dd1764ddf922d8c965bf6819d96", func := "calliper/calliperlaw27.CheckOrder", spec := "checkOrder", inPlace := ["internal/bytealg.IndexByteString", "internal/reflectlite.TypeOf", "internal/reflectlite.ValueOf", "(internal/reflectlite.Value).Type", "(internal/reflectlite.Value).IsNil", "(internal/reflectlite.Value).Elem", "(internal/reflectlite.Value).Set"], unfollowed := true, recurses := true, named := ["calliper/check.errOut", "calliper/lex.errLong", "calliper/lex.errWord", "errors.errorType", "calliper/fn.errOut"], apart := false, laid := [("errors.errorType", laid_errors_errorType), ("calliper/fn.errOut", laid_calliper_fn_errOut), ("calliper/lex.errLong", laid_calliper_lex_errLong), ("calliper/lex.errWord", laid_calliper_lex_errWord), ("calliper/check.errOut", laid_calliper_check_errOut)] }
def CheckOrderSaid : Prop := checkOrderRow.holds Tryz.pinned (OpenSpec.ofChange checkOrderSpec)

/-- ITS FALSE NEIGHBOUR: 'it returns false'. Refute it at one input. -/
def checkOrderWrong : ChangeSpec := { name := "checkOrder", fn := fun _ => fun
  | [d1, d2, d3] => { results := [.lit (.bool false)], args := [d1, d2, d3] }
  | _ => none }
def CheckOrderWrongFalsely : Prop := checkOrderRow.holds Tryz.pinned (OpenSpec.ofChange checkOrderWrong)

/-- 'calliperlaw27.CheckSpaces': WHATEVER THE INPUT: true; the input reads as it did. -/
def checkSpacesSpec : ChangeSpec := { name := "checkSpaces", fn := fun _ => fun
  | [d1, d2] => { results := [.lit (.bool true)], args := [d1, d2] }
  | _ => none }
def checkSpacesRow : OpenClaim := { program := "ytfjpbjjniojbfaagreatdoor", sum := "5565c6d06d3ab5123dd8e27ee519f1587c1e2dd1764ddf922d8c965bf6819d96", func := "calliper/calliperlaw27.CheckSpaces", spec := "checkSpaces", inPlace := ["internal/bytealg.IndexByteString", "internal/reflectlite.TypeOf", "internal/reflectlite.ValueOf", "(internal/reflectlite.Value).Type", "(internal/reflectlite.Value).IsNil", "(internal/reflectlite.Value).Elem", "(internal/reflectlite.Value).Set"], unfollowed := true, recurses := true, named := ["calliper/check.errOut", "calliper/lex.errLong", "calliper/lex.errWord", "errors.errorType", "calliper/fn.errOut"], apart := false, laid := [("errors.errorType", laid_errors_errorType), ("calliper/fn.errOut", laid_calliper_fn_errOut), ("calliper/lex.errLong", laid_calliper_lex_errLong), ("calliper/lex.errWord", laid_calliper_lex_errWord), ("calliper/check.errOut", laid_calliper_check_errOut)] }
def CheckSpacesSaid : Prop := checkSpacesRow.holds Tryz.pinned (OpenSpec.ofChange checkSpacesSpec)

/-- ITS FALSE NEIGHBOUR: 'it returns false'. Refute it at one input. -/
def checkSpacesWrong : ChangeSpec := { name := "checkSpaces", fn := fun _ => fun
  | [d1, d2] => { results := [.lit (.bool false)], args := [d1, d2] }
  | _ => none }
def CheckSpacesWrongFalsely : Prop := checkSpacesRow.holds Tryz.pinned (OpenSpec.ofChange checkSpacesWrong)

/- THE SECOND FORM. 'bulk': how many values and letters a reading holds, each counted each time it is reached (what is shared counts as often as it is met; a slice's spare places count too). A statement '..UptoSaid' is the law's where the arguments, and the package variables that the reading takes, are together of bulk at most 1048576: NARROWER than '..Said'. Prove '..Said' where nothing that the law and all that it calls make is longer than what came in: it says more and counts as full. Else prove '..UptoSaid'. A law counts once. -/
mutual
def uptoBulk {H : Type} : DataW H → Nat
  | .lit (.string bytes) => bytes.length + 1
  | .lit _ => 1
  | .nil => 1
  | .ptr d => uptoBulk d + 1
  | .slice elems spare => uptoBulkAll elems + uptoBulkAll spare + 1
  | .agg parts => uptoBulkAll parts + 1
  | .iface _ d => uptoBulk d + 1
  | .map entries => uptoBulkEntries entries + 1
  | .held _ => 1
def uptoBulkAll {H : Type} : List (DataW H) → Nat
  | [] => 0
  | d :: r => uptoBulk d + uptoBulkAll r
def uptoBulkEntries {H : Type} : List (Lit × DataW H) → Nat
  | [] => 0
  | x :: r => uptoBulkEntry x + uptoBulkEntries r
def uptoBulkEntry {H : Type} : Lit × DataW H → Nat
  | (.string bytes, d) => bytes.length + uptoBulk d + 1
  | (_, d) => uptoBulk d + 1
 end
def uptoSmall : (H : Type) → List (DataW H) → Bool := fun _ ds => decide (uptoBulkAll ds ≤ 1048576)
def OpenSpec.upto (s : _root_.Go.ChangeSpec) : _root_.Go.OpenSpec := { _root_.Go.OpenSpec.ofChange s with cond := some uptoSmall }

/-- 'calliperlaw27.CheckOrder', WHERE WHAT IT READS IS OF BULK AT MOST 1048576: true; the input reads as it did. -/
def checkOrderUptoRow : OpenClaim := { program := "ytfjpbjjniojbfaagreatdoor", sum := "5565c6d06d3ab5123dd8e27ee519f1587c1e2dd1764ddf922d8c965bf6819d96", func := "calliper/calliperlaw27.CheckOrder", spec := "checkOrder", inPlace := ["internal/bytealg.IndexByteString", "internal/reflectlite.TypeOf", "internal/reflectlite.ValueOf", "(internal/reflectlite.Value).Type", "(internal/reflectlite.Value).IsNil", "(internal/reflectlite.Value).Elem", "(internal/reflectlite.Value).Set"], unfollowed := true, recurses := true, named := ["calliper/check.errOut", "calliper/lex.errLong", "calliper/lex.errWord", "errors.errorType", "calliper/fn.errOut"], apart := false, laid := [("errors.errorType", laid_errors_errorType), ("calliper/fn.errOut", laid_calliper_fn_errOut), ("calliper/lex.errLong", laid_calliper_lex_errLong), ("calliper/lex.errWord", laid_calliper_lex_errWord), ("calliper/check.errOut", laid_calliper_check_errOut)], narrowed := true }
def CheckOrderUptoSaid : Prop := checkOrderUptoRow.holds Tryz.pinned (OpenSpec.upto checkOrderSpec)

/-- 'calliperlaw27.CheckSpaces', WHERE WHAT IT READS IS OF BULK AT MOST 1048576: true; the input reads as it did. -/
def checkSpacesUptoRow : OpenClaim := { program := "ytfjpbjjniojbfaagreatdoor", sum := "5565c6d06d3ab5123dd8e27ee519f1587c1e2dd1764ddf922d8c965bf6819d96", func := "calliper/calliperlaw27.CheckSpaces", spec := "checkSpaces", inPlace := ["internal/bytealg.IndexByteString", "internal/reflectlite.TypeOf", "internal/reflectlite.ValueOf", "(internal/reflectlite.Value).Type", "(internal/reflectlite.Value).IsNil", "(internal/reflectlite.Value).Elem", "(internal/reflectlite.Value).Set"], unfollowed := true, recurses := true, named := ["calliper/check.errOut", "calliper/lex.errLong", "calliper/lex.errWord", "errors.errorType", "calliper/fn.errOut"], apart := false, laid := [("errors.errorType", laid_errors_errorType), ("calliper/fn.errOut", laid_calliper_fn_errOut), ("calliper/lex.errLong", laid_calliper_lex_errLong), ("calliper/lex.errWord", laid_calliper_lex_errWord), ("calliper/check.errOut", laid_calliper_check_errOut)], narrowed := true }
def CheckSpacesUptoSaid : Prop := checkSpacesUptoRow.holds Tryz.pinned (OpenSpec.upto checkSpacesSpec)

end Rows
end Go.Proofs.YtfjpbjjniojbfaaGreatDoor
