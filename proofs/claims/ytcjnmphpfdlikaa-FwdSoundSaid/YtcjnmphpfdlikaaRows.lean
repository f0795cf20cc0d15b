/-
  No cell of these rows narrows 'for every input' (looked for: loops, veiled, ifaces, maps, wideKeys, modest, calm, conditions, laid).
  DERIVED. THE GIVEN ROWS OF THIS SEAT. 3 by the template 'for every input the law returns true; each argument reads behind the call as it read before'; 0 by the template 'total and deterministic' (their statements: YtcjnmphpfdlikaaTotals.lean).
  GIVEN WITH THE SEED: the statements are not yours to turn. If you find one false, say at which input.
  Laid BY PROGRAM, IN A SANDBOX (cutbox-rows.mjs): the forced cells as the released guide's own fill.sh prints them over the translation 7e56f315c6d7db51… (all of the seat's roots in one cut). By AI agents, Wed Nov 11 2026. No macro, syntax, notation, axiom, sorry.
-/
import Derived.Test.YtcjnmphpfdlikaaChecked
import GoSem.Claim
import GoSem.ClaimJoined
import GoSem.ClaimMapViews
import Derived.JoinedTies
import Derived.KernelRfl
namespace Go.Proofs.Ytcjnmphpfdlikaa
/- THE CELL 'sum', in the pinned program and in every row, IS THE sha256 OF THE DUMP (.gsa) THAT YtcjnmphpfdlikaaProg.lean LOADS. Nothing in Lean hashes anything: it is a label: what it is worth is what the hold of that sum in a sandbox is worth. -/
noncomputable def Try.pinned : Pinned := { name := "ytcjnmphpfdlikaa", sum := "7e56f315c6d7db518b820cba7842ad1668c4fee52c3335f7214dcd0a704a4fbe", checked := Try.checked }
namespace Rows
def none {H : Type} : Left H := { results := [], args := [] }

/-- 'calliperlaw15.FwdSound': WHATEVER THE INPUT: true; the input reads as it did. -/
def fwdSoundSpec : ChangeSpec := { name := "fwdSound", fn := fun _ => fun
  | [d1, d2, d3, d4, d5, d6, d7, d8, d9, d10] => { results := [.lit (.bool true)], args := [d1, d2, d3, d4, d5, d6, d7, d8, d9, d10] }
  | _ => none }
def fwdSoundRow : OpenClaim := { program := "ytcjnmphpfdlikaa", sum := "7e56f315c6d7db518b820cba7842ad1668c4fee52c3335f7214dcd0a704a4fbe", func := "calliper/calliperlaw15.FwdSound", spec := "fwdSound", apart := false }
def FwdSoundSaid : Prop := fwdSoundRow.holds Try.pinned (OpenSpec.ofChange fwdSoundSpec)

/-- ITS FALSE NEIGHBOUR: 'it returns false'. Refute it at one input. -/
def fwdSoundWrong : ChangeSpec := { name := "fwdSound", fn := fun _ => fun
  | [d1, d2, d3, d4, d5, d6, d7, d8, d9, d10] => { results := [.lit (.bool false)], args := [d1, d2, d3, d4, d5, d6, d7, d8, d9, d10] }
  | _ => none }
def FwdSoundWrongFalsely : Prop := fwdSoundRow.holds Try.pinned (OpenSpec.ofChange fwdSoundWrong)

/-- 'calliperlaw15.FwdAll': WHATEVER THE INPUT: true; the input reads as it did. -/
def fwdAllSpec : ChangeSpec := { name := "fwdAll", fn := fun _ => fun
  | [d1, d2, d3, d4, d5, d6, d7, d8, d9] => { results := [.lit (.bool true)], args := [d1, d2, d3, d4, d5, d6, d7, d8, d9] }
  | _ => none }
def fwdAllRow : OpenClaim := { program := "ytcjnmphpfdlikaa", sum := "7e56f315c6d7db518b820cba7842ad1668c4fee52c3335f7214dcd0a704a4fbe", func := "calliper/calliperlaw15.FwdAll", spec := "fwdAll", recurses := true, apart := false }
def FwdAllSaid : Prop := fwdAllRow.holds Try.pinned (OpenSpec.ofChange fwdAllSpec)

/-- ITS FALSE NEIGHBOUR: 'it returns false'. Refute it at one input. -/
def fwdAllWrong : ChangeSpec := { name := "fwdAll", fn := fun _ => fun
  | [d1, d2, d3, d4, d5, d6, d7, d8, d9] => { results := [.lit (.bool false)], args := [d1, d2, d3, d4, d5, d6, d7, d8, d9] }
  | _ => none }
def FwdAllWrongFalsely : Prop := fwdAllRow.holds Try.pinned (OpenSpec.ofChange fwdAllWrong)

/-- 'calliperlaw15.FwdRels': WHATEVER THE INPUT: true; the input reads as it did. -/
def fwdRelsSpec : ChangeSpec := { name := "fwdRels", fn := fun _ => fun
  | [d1, d2, d3, d4, d5] => { results := [.lit (.bool true)], args := [d1, d2, d3, d4, d5] }
  | _ => none }
def fwdRelsRow : OpenClaim := { program := "ytcjnmphpfdlikaa", sum := "7e56f315c6d7db518b820cba7842ad1668c4fee52c3335f7214dcd0a704a4fbe", func := "calliper/calliperlaw15.FwdRels", spec := "fwdRels", recurses := true, apart := false }
def FwdRelsSaid : Prop := fwdRelsRow.holds Try.pinned (OpenSpec.ofChange fwdRelsSpec)

/-- ITS FALSE NEIGHBOUR: 'it returns false'. Refute it at one input. -/
def fwdRelsWrong : ChangeSpec := { name := "fwdRels", fn := fun _ => fun
  | [d1, d2, d3, d4, d5] => { results := [.lit (.bool false)], args := [d1, d2, d3, d4, d5] }
  | _ => none }
def FwdRelsWrongFalsely : Prop := fwdRelsRow.holds Try.pinned (OpenSpec.ofChange fwdRelsWrong)

/- THE SECOND FORM. 'bulk': how many values and letters a reading holds, each counted each time it is reached (what is shared counts as often as it is met; a slice's spare places count too). A statement '..UptoSaid' is the law's where the arguments, and the package variables that the reading takes, are together of bulk at most 1048576: NARROWER than '..Said'. Prove '..Said' where nothing that the law and all that it calls make is longer than what came in: it says more and counts as full. Else prove '..UptoSaid'. A law counts once. -/
mutual
def uptoBulk {H : Type} : DataW H → Nat
  | .lit (.string bytes) => bytes.length + 1
  | .lit _ => 1
  | .nil => 1
  | .ptr d => uptoBulk d + 1
  | .slice elems spare => uptoBulkAll elems + uptoBulkAll spare + 1
  | .agg parts => uptoBulkAll parts + 1
  | .iface _ d => uptoBulk d + 1
  | .map entries => uptoBulkEntries entries + 1
  | .held _ => 1
def uptoBulkAll {H : Type} : List (DataW H) → Nat
  | [] => 0
  | d :: r => uptoBulk d + uptoBulkAll r
def uptoBulkEntries {H : Type} : List (Lit × DataW H) → Nat
  | [] => 0
  | x :: r => uptoBulkEntry x + uptoBulkEntries r
def uptoBulkEntry {H : Type} : Lit × DataW H → Nat
  | (.string bytes, d) => bytes.length + uptoBulk d + 1
  | (_, d) => uptoBulk d + 1
 end
def uptoSmall : (H : Type) → List (DataW H) → Bool := fun _ ds => decide (uptoBulkAll ds ≤ 1048576)
def OpenSpec.upto (s : _root_.Go.ChangeSpec) : _root_.Go.OpenSpec := { _root_.Go.OpenSpec.ofChange s with cond := some uptoSmall }

/-- 'calliperlaw15.FwdSound', WHERE WHAT IT READS IS OF BULK AT MOST 1048576: true; the input reads as it did. -/
def fwdSoundUptoRow : OpenClaim := { program := "ytcjnmphpfdlikaa", sum := "7e56f315c6d7db518b820cba7842ad1668c4fee52c3335f7214dcd0a704a4fbe", func := "calliper/calliperlaw15.FwdSound", spec := "fwdSound", apart := false, narrowed := true }
def FwdSoundUptoSaid : Prop := fwdSoundUptoRow.holds Try.pinned (OpenSpec.upto fwdSoundSpec)

/-- 'calliperlaw15.FwdAll', WHERE WHAT IT READS IS OF BULK AT MOST 1048576: true; the input reads as it did. -/
def fwdAllUptoRow : OpenClaim := { program := "ytcjnmphpfdlikaa", sum := "7e56f315c6d7db518b820cba7842ad1668c4fee52c3335f7214dcd0a704a4fbe", func := "calliper/calliperlaw15.FwdAll", spec := "fwdAll", recurses := true, apart := false, narrowed := true }
def FwdAllUptoSaid : Prop := fwdAllUptoRow.holds Try.pinned (OpenSpec.upto fwdAllSpec)

/-- 'calliperlaw15.FwdRels', WHERE WHAT IT READS IS OF BULK AT MOST 1048576: true; the input reads as it did. -/
def fwdRelsUptoRow : OpenClaim := { program := "ytcjnmphpfdlikaa", sum := "7e56f315c6d7db518b820cba7842ad1668c4fee52c3335f7214dcd0a704a4fbe", func := "calliper/calliperlaw15.FwdRels", spec := "fwdRels", recurses := true, apart := false, narrowed := true }
def FwdRelsUptoSaid : Prop := fwdRelsUptoRow.holds Try.pinned (OpenSpec.upto fwdRelsSpec)

end Rows
end Go.Proofs.Ytcjnmphpfdlikaa
