/-
  NARROWER THAN 'FOR EVERY INPUT', by the rows' own cells (each row's printed sentence says how): FnEnsures: laid · FnNever: laid.
  DERIVED. THE GIVEN ROWS OF THIS SEAT. 2 by the template 'for every input the law returns true; each argument reads behind the call as it read before'; 0 by the template 'total and deterministic' (their statements: YtbinlkbpbpanoaaGreatDoorTotals.lean).
  GIVEN WITH THE SEED: the statements are not yours to turn. If you find one false, say at which input.
  Laid BY PROGRAM, IN A SANDBOX (cutbox-rows.mjs): the forced cells as the released guide's own fill.sh prints them over the translation bf76ead26678fcce… (all of the seat's roots in one cut). By AI agents, Wed Nov 11 2026. No macro, syntax, notation, axiom, sorry.
-/
import Derived.Test.YtbinlkbpbpanoaaGreatDoorChecked
import GoSem.Claim
import GoSem.ClaimJoined
import GoSem.ClaimMapViews
import Derived.JoinedTies
import Derived.KernelRfl
namespace Go.Proofs.YtbinlkbpbpanoaaGreatDoor
/- THE CELL 'sum', in the pinned program and in every row, IS THE sha256 OF THE DUMP (.gsa) THAT YtbinlkbpbpanoaaGreatDoorProg.lean LOADS. Nothing in Lean hashes anything: it is a label: what it is worth is what the hold of that sum in a sandbox is worth. -/
noncomputable def Tryz.pinned : Pinned := { name := "ytbinlkbpbpanoaagreatdoor", sum := "bf76ead26678fcced817a1e1945a4a979eb0de1c822d7c791582e2d671697201", checked := Tryz.checked }
namespace Rows
def none {H : Type} : Left H := { results := [], args := [] }

/- WHAT THE LISTED PACKAGE-LEVEL VARIABLES READ AS WHEN THE CALL BEGINS. Each datum BY PROGRAM (the guide's laid-datum.mjs) off the statement by which the dump's own 'gosem.cut.vars' lays the variable. In a bare row this is a premise. The card (YtbinlkbpbpanoaaGreatDoorCards.lean) ties it to the program's text. -/
def laid_calliper_fn_errOut {H : Type} : DataW H := .iface "*errors.errorString" (.ptr (.agg [.lit (.string [116, 104, 101, 32, 98, 117, 100, 103, 101, 116, 32, 105, 115, 32, 115, 112, 101, 110, 116])]))

/-- 'calliperlaw25.FnEnsures': WHATEVER THE INPUT: true; the input reads as it did. -/
def fnEnsuresSpec : ChangeSpec := { name := "fnEnsures", fn := fun _ => fun
  | [d1, d2, d3] => { results := [.lit (.bool true)], args := [d1, d2, d3] }
  | _ => none }
def fnEnsuresRow : OpenClaim := { program := "ytbinlkbpbpanoaagreatdoor", sum := "bf76ead26678fcced817a1e1945a4a979eb0de1c822d7c791582e2d671697201", func := "calliper/calliperlaw25.FnEnsures", spec := "fnEnsures", inPlace := ["internal/reflectlite.TypeOf"], unfollowed := true, recurses := true, named := ["calliper/fn.errOut"], apart := false, laid := [("calliper/fn.errOut", laid_calliper_fn_errOut)] }
def FnEnsuresSaid : Prop := fnEnsuresRow.holds Tryz.pinned (OpenSpec.ofChange fnEnsuresSpec)

/-- ITS FALSE NEIGHBOUR: 'it returns false'. Refute it at one input. -/
def fnEnsuresWrong : ChangeSpec := { name := "fnEnsures", fn := fun _ => fun
  | [d1, d2, d3] => { results := [.lit (.bool false)], args := [d1, d2, d3] }
  | _ => none }
def FnEnsuresWrongFalsely : Prop := fnEnsuresRow.holds Tryz.pinned (OpenSpec.ofChange fnEnsuresWrong)

/-- 'calliperlaw25.FnNever': WHATEVER THE INPUT: true; the input reads as it did. -/
def fnNeverSpec : ChangeSpec := { name := "fnNever", fn := fun _ => fun
  | [d1, d2] => { results := [.lit (.bool true)], args := [d1, d2] }
  | _ => none }
def fnNeverRow : OpenClaim := { program := "ytbinlkbpbpanoaagreatdoor", sum := "bf76ead26678fcced817a1e1945a4a979eb0de1c822d7c791582e2d671697201", func := "calliper/calliperlaw25.FnNever", spec := "fnNever", inPlace := ["internal/reflectlite.TypeOf"], unfollowed := true, recurses := true, named := ["calliper/fn.errOut"], apart := false, laid := [("calliper/fn.errOut", laid_calliper_fn_errOut)] }
def FnNeverSaid : Prop := fnNeverRow.holds Tryz.pinned (OpenSpec.ofChange fnNeverSpec)

/-- ITS FALSE NEIGHBOUR: 'it returns false'. Refute it at one input. -/
def fnNeverWrong : ChangeSpec := { name := "fnNever", fn := fun _ => fun
  | [d1, d2] => { results := [.lit (.bool false)], args := [d1, d2] }
  | _ => none }
def FnNeverWrongFalsely : Prop := fnNeverRow.holds Tryz.pinned (OpenSpec.ofChange fnNeverWrong)

/- THE SECOND FORM. 'bulk': how many values and letters a reading holds, each counted each time it is reached (what is shared counts as often as it is met; a slice's spare places count too). A statement '..UptoSaid' is the law's where the arguments, and the package variables that the reading takes, are together of bulk at most 1048576: NARROWER than '..Said'. Prove '..Said' where nothing that the law and all that it calls make is longer than what came in: it says more and counts as full. Else prove '..UptoSaid'. A law counts once. -/
mutual
def uptoBulk {H : Type} : DataW H → Nat
  | .lit (.string bytes) => bytes.length + 1
  | .lit _ => 1
  | .nil => 1
  | .ptr d => uptoBulk d + 1
  | .slice elems spare => uptoBulkAll elems + uptoBulkAll spare + 1
  | .agg parts => uptoBulkAll parts + 1
  | .iface _ d => uptoBulk d + 1
  | .map entries => uptoBulkEntries entries + 1
  | .held _ => 1
def uptoBulkAll {H : Type} : List (DataW H) → Nat
  | [] => 0
  | d :: r => uptoBulk d + uptoBulkAll r
def uptoBulkEntries {H : Type} : List (Lit × DataW H) → Nat
  | [] => 0
  | x :: r => uptoBulkEntry x + uptoBulkEntries r
def uptoBulkEntry {H : Type} : Lit × DataW H → Nat
  | (.string bytes, d) => bytes.length + uptoBulk d + 1
  | (_, d) => uptoBulk d + 1
 end
def uptoSmall : (H : Type) → List (DataW H) → Bool := fun _ ds => decide (uptoBulkAll ds ≤ 1048576)
def OpenSpec.upto (s : _root_.Go.ChangeSpec) : _root_.Go.OpenSpec := { _root_.Go.OpenSpec.ofChange s with cond := some uptoSmall }

/-- 'calliperlaw25.FnEnsures', WHERE WHAT IT READS IS OF BULK AT MOST 1048576: true; the input reads as it did. -/
def fnEnsuresUptoRow : OpenClaim := { program := "ytbinlkbpbpanoaagreatdoor", sum := "bf76ead26678fcced817a1e1945a4a979eb0de1c822d7c791582e2d671697201", func := "calliper/calliperlaw25.FnEnsures", spec := "fnEnsures", inPlace := ["internal/reflectlite.TypeOf"], unfollowed := true, recurses := true, named := ["calliper/fn.errOut"], apart := false, laid := [("calliper/fn.errOut", laid_calliper_fn_errOut)], narrowed := true }
def FnEnsuresUptoSaid : Prop := fnEnsuresUptoRow.holds Tryz.pinned (OpenSpec.upto fnEnsuresSpec)

/-- 'calliperlaw25.FnNever', WHERE WHAT IT READS IS OF BULK AT MOST 1048576: true; the input reads as it did. -/
def fnNeverUptoRow : OpenClaim := { program := "ytbinlkbpbpanoaagreatdoor", sum := "bf76ead26678fcced817a1e1945a4a979eb0de1c822d7c791582e2d671697201", func := "calliper/calliperlaw25.FnNever", spec := "fnNever", inPlace := ["internal/reflectlite.TypeOf"], unfollowed := true, recurses := true, named := ["calliper/fn.errOut"], apart := false, laid := [("calliper/fn.errOut", laid_calliper_fn_errOut)], narrowed := true }
def FnNeverUptoSaid : Prop := fnNeverUptoRow.holds Tryz.pinned (OpenSpec.upto fnNeverSpec)

end Rows
end Go.Proofs.YtbinlkbpbpanoaaGreatDoor
