/-
  No cell of these rows narrows 'for every input' (looked for: loops, veiled, ifaces, maps, wideKeys, modest, calm, conditions, laid).
  DERIVED. THE GIVEN ROWS OF THIS SEAT. 5 by the template 'for every input the law returns true; each argument reads behind the call as it read before'; 0 by the template 'total and deterministic' (their statements: YtieolffpgjcnbaaGreatTotals.lean).
  GIVEN WITH THE SEED: the statements are not yours to turn. If you find one false, say at which input.
  Laid BY PROGRAM, IN A SANDBOX (cutbox-rows.mjs): the forced cells as the released guide's own fill.sh prints them over the translation 9a9d6b7d1a6e7437… (all of the seat's roots in one cut). By AI agents, Wed Nov 11 2026. No macro, syntax, notation, axiom, sorry.
-/
import Derived.Test.YtieolffpgjcnbaaGreatChecked
import GoSem.Claim
import GoSem.ClaimJoined
import GoSem.ClaimMapViews
import Derived.JoinedTies
import Derived.KernelRfl
namespace Go.Proofs.YtieolffpgjcnbaaGreat
/- THE CELL 'sum', in the pinned program and in every row, IS THE sha256 OF THE DUMP (.gsa) THAT YtieolffpgjcnbaaGreatProg.lean LOADS. Nothing in Lean hashes anything: it is a label: what it is worth is what the hold of that sum in a sandbox is worth. -/
noncomputable def Tryz.pinned : Pinned := { name := "ytieolffpgjcnbaagreat", sum := "9a9d6b7d1a6e74373a79610286600525bd11883f443fd693cb80280494c41873", checked := Tryz.checked }
namespace Rows
def none {H : Type} : Left H := { results := [], args := [] }

/-- 'calliperlaw19.ValueApart': WHATEVER THE INPUT: true; the input reads as it did. -/
def valueApartSpec : ChangeSpec := { name := "valueApart", fn := fun _ => fun
  | [d1, d2] => { results := [.lit (.bool true)], args := [d1, d2] }
  | _ => none }
def valueApartRow : OpenClaim := { program := "ytieolffpgjcnbaagreat", sum := "9a9d6b7d1a6e74373a79610286600525bd11883f443fd693cb80280494c41873", func := "calliper/calliperlaw19.ValueApart", spec := "valueApart", unfollowed := true, recurses := true, apart := false }
def ValueApartSaid : Prop := valueApartRow.holds Tryz.pinned (OpenSpec.ofChange valueApartSpec)

/-- ITS FALSE NEIGHBOUR: 'it returns false'. Refute it at one input. -/
def valueApartWrong : ChangeSpec := { name := "valueApart", fn := fun _ => fun
  | [d1, d2] => { results := [.lit (.bool false)], args := [d1, d2] }
  | _ => none }
def ValueApartWrongFalsely : Prop := valueApartRow.holds Tryz.pinned (OpenSpec.ofChange valueApartWrong)

/-- 'calliperlaw20.GuardTrims': WHATEVER THE INPUT: true; the input reads as it did. -/
def guardTrimsSpec : ChangeSpec := { name := "guardTrims", fn := fun _ => fun
  | [d1, d2, d3] => { results := [.lit (.bool true)], args := [d1, d2, d3] }
  | _ => none }
def guardTrimsRow : OpenClaim := { program := "ytieolffpgjcnbaagreat", sum := "9a9d6b7d1a6e74373a79610286600525bd11883f443fd693cb80280494c41873", func := "calliper/calliperlaw20.GuardTrims", spec := "guardTrims", unfollowed := true, recurses := true, apart := false }
def GuardTrimsSaid : Prop := guardTrimsRow.holds Tryz.pinned (OpenSpec.ofChange guardTrimsSpec)

/-- ITS FALSE NEIGHBOUR: 'it returns false'. Refute it at one input. -/
def guardTrimsWrong : ChangeSpec := { name := "guardTrims", fn := fun _ => fun
  | [d1, d2, d3] => { results := [.lit (.bool false)], args := [d1, d2, d3] }
  | _ => none }
def GuardTrimsWrongFalsely : Prop := guardTrimsRow.holds Tryz.pinned (OpenSpec.ofChange guardTrimsWrong)

/-- 'calliperlaw20.GuardKeeps': WHATEVER THE INPUT: true; the input reads as it did. -/
def guardKeepsSpec : ChangeSpec := { name := "guardKeeps", fn := fun _ => fun
  | [d1, d2, d3, d4, d5, d6, d7] => { results := [.lit (.bool true)], args := [d1, d2, d3, d4, d5, d6, d7] }
  | _ => none }
def guardKeepsRow : OpenClaim := { program := "ytieolffpgjcnbaagreat", sum := "9a9d6b7d1a6e74373a79610286600525bd11883f443fd693cb80280494c41873", func := "calliper/calliperlaw20.GuardKeeps", spec := "guardKeeps", unfollowed := true, recurses := true, apart := false }
def GuardKeepsSaid : Prop := guardKeepsRow.holds Tryz.pinned (OpenSpec.ofChange guardKeepsSpec)

/-- ITS FALSE NEIGHBOUR: 'it returns false'. Refute it at one input. -/
def guardKeepsWrong : ChangeSpec := { name := "guardKeeps", fn := fun _ => fun
  | [d1, d2, d3, d4, d5, d6, d7] => { results := [.lit (.bool false)], args := [d1, d2, d3, d4, d5, d6, d7] }
  | _ => none }
def GuardKeepsWrongFalsely : Prop := guardKeepsRow.holds Tryz.pinned (OpenSpec.ofChange guardKeepsWrong)

/-- 'calliperlaw20.GuardExact': WHATEVER THE INPUT: true; the input reads as it did. -/
def guardExactSpec : ChangeSpec := { name := "guardExact", fn := fun _ => fun
  | [d1, d2, d3, d4] => { results := [.lit (.bool true)], args := [d1, d2, d3, d4] }
  | _ => none }
def guardExactRow : OpenClaim := { program := "ytieolffpgjcnbaagreat", sum := "9a9d6b7d1a6e74373a79610286600525bd11883f443fd693cb80280494c41873", func := "calliper/calliperlaw20.GuardExact", spec := "guardExact", unfollowed := true, recurses := true, apart := false }
def GuardExactSaid : Prop := guardExactRow.holds Tryz.pinned (OpenSpec.ofChange guardExactSpec)

/-- ITS FALSE NEIGHBOUR: 'it returns false'. Refute it at one input. -/
def guardExactWrong : ChangeSpec := { name := "guardExact", fn := fun _ => fun
  | [d1, d2, d3, d4] => { results := [.lit (.bool false)], args := [d1, d2, d3, d4] }
  | _ => none }
def GuardExactWrongFalsely : Prop := guardExactRow.holds Tryz.pinned (OpenSpec.ofChange guardExactWrong)

/-- 'calliperlaw21.ProveBounds': WHATEVER THE INPUT: true; the input reads as it did. -/
def proveBoundsSpec : ChangeSpec := { name := "proveBounds", fn := fun _ => fun
  | [d1, d2, d3, d4, d5] => { results := [.lit (.bool true)], args := [d1, d2, d3, d4, d5] }
  | _ => none }
def proveBoundsRow : OpenClaim := { program := "ytieolffpgjcnbaagreat", sum := "9a9d6b7d1a6e74373a79610286600525bd11883f443fd693cb80280494c41873", func := "calliper/calliperlaw21.ProveBounds", spec := "proveBounds", unfollowed := true, recurses := true, apart := false }
def ProveBoundsSaid : Prop := proveBoundsRow.holds Tryz.pinned (OpenSpec.ofChange proveBoundsSpec)

/-- ITS FALSE NEIGHBOUR: 'it returns false'. Refute it at one input. -/
def proveBoundsWrong : ChangeSpec := { name := "proveBounds", fn := fun _ => fun
  | [d1, d2, d3, d4, d5] => { results := [.lit (.bool false)], args := [d1, d2, d3, d4, d5] }
  | _ => none }
def ProveBoundsWrongFalsely : Prop := proveBoundsRow.holds Tryz.pinned (OpenSpec.ofChange proveBoundsWrong)

/- THE SECOND FORM. 'bulk': how many values and letters a reading holds, each counted each time it is reached (what is shared counts as often as it is met; a slice's spare places count too). A statement '..UptoSaid' is the law's where the arguments, and the package variables that the reading takes, are together of bulk at most 1048576: NARROWER than '..Said'. Prove '..Said' where nothing that the law and all that it calls make is longer than what came in: it says more and counts as full. Else prove '..UptoSaid'. A law counts once. -/
mutual
def uptoBulk {H : Type} : DataW H → Nat
  | .lit (.string bytes) => bytes.length + 1
  | .lit _ => 1
  | .nil => 1
  | .ptr d => uptoBulk d + 1
  | .slice elems spare => uptoBulkAll elems + uptoBulkAll spare + 1
  | .agg parts => uptoBulkAll parts + 1
  | .iface _ d => uptoBulk d + 1
  | .map entries => uptoBulkEntries entries + 1
  | .held _ => 1
def uptoBulkAll {H : Type} : List (DataW H) → Nat
  | [] => 0
  | d :: r => uptoBulk d + uptoBulkAll r
def uptoBulkEntries {H : Type} : List (Lit × DataW H) → Nat
  | [] => 0
  | x :: r => uptoBulkEntry x + uptoBulkEntries r
def uptoBulkEntry {H : Type} : Lit × DataW H → Nat
  | (.string bytes, d) => bytes.length + uptoBulk d + 1
  | (_, d) => uptoBulk d + 1
 end
def uptoSmall : (H : Type) → List (DataW H) → Bool := fun _ ds => decide (uptoBulkAll ds ≤ 1048576)
def OpenSpec.upto (s : _root_.Go.ChangeSpec) : _root_.Go.OpenSpec := { _root_.Go.OpenSpec.ofChange s with cond := some uptoSmall }

/-- 'calliperlaw19.ValueApart', WHERE WHAT IT READS IS OF BULK AT MOST 1048576: true; the input reads as it did. -/
def valueApartUptoRow : OpenClaim := { program := "ytieolffpgjcnbaagreat", sum := "9a9d6b7d1a6e74373a79610286600525bd11883f443fd693cb80280494c41873", func := "calliper/calliperlaw19.ValueApart", spec := "valueApart", unfollowed := true, recurses := true, apart := false, narrowed := true }
def ValueApartUptoSaid : Prop := valueApartUptoRow.holds Tryz.pinned (OpenSpec.upto valueApartSpec)

/-- 'calliperlaw20.GuardTrims', WHERE WHAT IT READS IS OF BULK AT MOST 1048576: true; the input reads as it did. -/
def guardTrimsUptoRow : OpenClaim := { program := "ytieolffpgjcnbaagreat", sum := "9a9d6b7d1a6e74373a79610286600525bd11883f443fd693cb80280494c41873", func := "calliper/calliperlaw20.GuardTrims", spec := "guardTrims", unfollowed := true, recurses := true, apart := false, narrowed := true }
def GuardTrimsUptoSaid : Prop := guardTrimsUptoRow.holds Tryz.pinned (OpenSpec.upto guardTrimsSpec)

/-- 'calliperlaw20.GuardKeeps', WHERE WHAT IT READS IS OF BULK AT MOST 1048576: true; the input reads as it did. -/
def guardKeepsUptoRow : OpenClaim := { program := "ytieolffpgjcnbaagreat", sum := "9a9d6b7d1a6e74373a79610286600525bd11883f443fd693cb80280494c41873", func := "calliper/calliperlaw20.GuardKeeps", spec := "guardKeeps", unfollowed := true, recurses := true, apart := false, narrowed := true }
def GuardKeepsUptoSaid : Prop := guardKeepsUptoRow.holds Tryz.pinned (OpenSpec.upto guardKeepsSpec)

/-- 'calliperlaw20.GuardExact', WHERE WHAT IT READS IS OF BULK AT MOST 1048576: true; the input reads as it did. -/
def guardExactUptoRow : OpenClaim := { program := "ytieolffpgjcnbaagreat", sum := "9a9d6b7d1a6e74373a79610286600525bd11883f443fd693cb80280494c41873", func := "calliper/calliperlaw20.GuardExact", spec := "guardExact", unfollowed := true, recurses := true, apart := false, narrowed := true }
def GuardExactUptoSaid : Prop := guardExactUptoRow.holds Tryz.pinned (OpenSpec.upto guardExactSpec)

/-- 'calliperlaw21.ProveBounds', WHERE WHAT IT READS IS OF BULK AT MOST 1048576: true; the input reads as it did. -/
def proveBoundsUptoRow : OpenClaim := { program := "ytieolffpgjcnbaagreat", sum := "9a9d6b7d1a6e74373a79610286600525bd11883f443fd693cb80280494c41873", func := "calliper/calliperlaw21.ProveBounds", spec := "proveBounds", unfollowed := true, recurses := true, apart := false, narrowed := true }
def ProveBoundsUptoSaid : Prop := proveBoundsUptoRow.holds Tryz.pinned (OpenSpec.upto proveBoundsSpec)

end Rows
end Go.Proofs.YtieolffpgjcnbaaGreat
