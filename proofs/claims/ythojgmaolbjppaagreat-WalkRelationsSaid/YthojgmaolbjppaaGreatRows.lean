/-
  No cell of these rows narrows 'for every input' (looked for: loops, veiled, ifaces, maps, wideKeys, modest, calm, conditions, laid).
  DERIVED. THE GIVEN ROWS OF THIS SEAT. 7 by the template 'for every input the law returns true; each argument reads behind the call as it read before'; 0 by the template 'total and deterministic' (their statements: YthojgmaolbjppaaGreatTotals.lean).
  GIVEN WITH THE SEED: the statements are not yours to turn. If you find one false, say at which input.
  Laid BY PROGRAM, IN A SANDBOX (cutbox-rows.mjs): the forced cells as the released guide's own fill.sh prints them over the translation e7f4e1d9f7711816… (all of the seat's roots in one cut). By AI agents, Wed Nov 11 2026. No macro, syntax, notation, axiom, sorry.
-/
import Derived.Test.YthojgmaolbjppaaGreatChecked
import GoSem.Claim
import GoSem.ClaimJoined
import GoSem.ClaimMapViews
import Derived.JoinedTies
import Derived.KernelRfl
namespace Go.Proofs.YthojgmaolbjppaaGreat
/- THE CELL 'sum', in the pinned program and in every row, IS THE sha256 OF THE DUMP (.gsa) THAT YthojgmaolbjppaaGreatProg.lean LOADS. Nothing in Lean hashes anything: it is a label: what it is worth is what the hold of that sum in a sandbox is worth. -/
noncomputable def Tryz.pinned : Pinned := { name := "ythojgmaolbjppaagreat", sum := "e7f4e1d9f77118167569b39e526767d1d92abd7c5ed1ed4ecee3d722454fb507", checked := Tryz.checked }
namespace Rows
def none {H : Type} : Left H := { results := [], args := [] }

/-- 'calliperlaw23.BindFrames': WHATEVER THE INPUT: true; the input reads as it did. -/
def bindFramesSpec : ChangeSpec := { name := "bindFrames", fn := fun _ => fun
  | [d1, d2, d3, d4] => { results := [.lit (.bool true)], args := [d1, d2, d3, d4] }
  | _ => none }
def bindFramesRow : OpenClaim := { program := "ythojgmaolbjppaagreat", sum := "e7f4e1d9f77118167569b39e526767d1d92abd7c5ed1ed4ecee3d722454fb507", func := "calliper/calliperlaw23.BindFrames", spec := "bindFrames", unfollowed := true, recurses := true, apart := false }
def BindFramesSaid : Prop := bindFramesRow.holds Tryz.pinned (OpenSpec.ofChange bindFramesSpec)

/-- ITS FALSE NEIGHBOUR: 'it returns false'. Refute it at one input. -/
def bindFramesWrong : ChangeSpec := { name := "bindFrames", fn := fun _ => fun
  | [d1, d2, d3, d4] => { results := [.lit (.bool false)], args := [d1, d2, d3, d4] }
  | _ => none }
def BindFramesWrongFalsely : Prop := bindFramesRow.holds Tryz.pinned (OpenSpec.ofChange bindFramesWrong)

/-- 'calliperlaw23.BindRequires': WHATEVER THE INPUT: true; the input reads as it did. -/
def bindRequiresSpec : ChangeSpec := { name := "bindRequires", fn := fun _ => fun
  | [d1, d2, d3] => { results := [.lit (.bool true)], args := [d1, d2, d3] }
  | _ => none }
def bindRequiresRow : OpenClaim := { program := "ythojgmaolbjppaagreat", sum := "e7f4e1d9f77118167569b39e526767d1d92abd7c5ed1ed4ecee3d722454fb507", func := "calliper/calliperlaw23.BindRequires", spec := "bindRequires", unfollowed := true, recurses := true, apart := false }
def BindRequiresSaid : Prop := bindRequiresRow.holds Tryz.pinned (OpenSpec.ofChange bindRequiresSpec)

/-- ITS FALSE NEIGHBOUR: 'it returns false'. Refute it at one input. -/
def bindRequiresWrong : ChangeSpec := { name := "bindRequires", fn := fun _ => fun
  | [d1, d2, d3] => { results := [.lit (.bool false)], args := [d1, d2, d3] }
  | _ => none }
def BindRequiresWrongFalsely : Prop := bindRequiresRow.holds Tryz.pinned (OpenSpec.ofChange bindRequiresWrong)

/-- 'calliperlaw23.BindArrays': WHATEVER THE INPUT: true; the input reads as it did. -/
def bindArraysSpec : ChangeSpec := { name := "bindArrays", fn := fun _ => fun
  | [d1, d2, d3, d4] => { results := [.lit (.bool true)], args := [d1, d2, d3, d4] }
  | _ => none }
def bindArraysRow : OpenClaim := { program := "ythojgmaolbjppaagreat", sum := "e7f4e1d9f77118167569b39e526767d1d92abd7c5ed1ed4ecee3d722454fb507", func := "calliper/calliperlaw23.BindArrays", spec := "bindArrays", unfollowed := true, recurses := true, apart := false }
def BindArraysSaid : Prop := bindArraysRow.holds Tryz.pinned (OpenSpec.ofChange bindArraysSpec)

/-- ITS FALSE NEIGHBOUR: 'it returns false'. Refute it at one input. -/
def bindArraysWrong : ChangeSpec := { name := "bindArrays", fn := fun _ => fun
  | [d1, d2, d3, d4] => { results := [.lit (.bool false)], args := [d1, d2, d3, d4] }
  | _ => none }
def BindArraysWrongFalsely : Prop := bindArraysRow.holds Tryz.pinned (OpenSpec.ofChange bindArraysWrong)

/-- 'calliperlaw24.WalkLoop': WHATEVER THE INPUT: true; the input reads as it did. -/
def walkLoopSpec : ChangeSpec := { name := "walkLoop", fn := fun _ => fun
  | [d1, d2] => { results := [.lit (.bool true)], args := [d1, d2] }
  | _ => none }
def walkLoopRow : OpenClaim := { program := "ythojgmaolbjppaagreat", sum := "e7f4e1d9f77118167569b39e526767d1d92abd7c5ed1ed4ecee3d722454fb507", func := "calliper/calliperlaw24.WalkLoop", spec := "walkLoop", unfollowed := true, recurses := true, apart := false }
def WalkLoopSaid : Prop := walkLoopRow.holds Tryz.pinned (OpenSpec.ofChange walkLoopSpec)

/-- ITS FALSE NEIGHBOUR: 'it returns false'. Refute it at one input. -/
def walkLoopWrong : ChangeSpec := { name := "walkLoop", fn := fun _ => fun
  | [d1, d2] => { results := [.lit (.bool false)], args := [d1, d2] }
  | _ => none }
def WalkLoopWrongFalsely : Prop := walkLoopRow.holds Tryz.pinned (OpenSpec.ofChange walkLoopWrong)

/-- 'calliperlaw24.WalkForks': WHATEVER THE INPUT: true; the input reads as it did. -/
def walkForksSpec : ChangeSpec := { name := "walkForks", fn := fun _ => fun
  | [d1, d2, d3, d4] => { results := [.lit (.bool true)], args := [d1, d2, d3, d4] }
  | _ => none }
def walkForksRow : OpenClaim := { program := "ythojgmaolbjppaagreat", sum := "e7f4e1d9f77118167569b39e526767d1d92abd7c5ed1ed4ecee3d722454fb507", func := "calliper/calliperlaw24.WalkForks", spec := "walkForks", unfollowed := true, recurses := true, apart := false }
def WalkForksSaid : Prop := walkForksRow.holds Tryz.pinned (OpenSpec.ofChange walkForksSpec)

/-- ITS FALSE NEIGHBOUR: 'it returns false'. Refute it at one input. -/
def walkForksWrong : ChangeSpec := { name := "walkForks", fn := fun _ => fun
  | [d1, d2, d3, d4] => { results := [.lit (.bool false)], args := [d1, d2, d3, d4] }
  | _ => none }
def WalkForksWrongFalsely : Prop := walkForksRow.holds Tryz.pinned (OpenSpec.ofChange walkForksWrong)

/-- 'calliperlaw24.WalkEnds': WHATEVER THE INPUT: true; the input reads as it did. -/
def walkEndsSpec : ChangeSpec := { name := "walkEnds", fn := fun _ => fun
  | [d1, d2] => { results := [.lit (.bool true)], args := [d1, d2] }
  | _ => none }
def walkEndsRow : OpenClaim := { program := "ythojgmaolbjppaagreat", sum := "e7f4e1d9f77118167569b39e526767d1d92abd7c5ed1ed4ecee3d722454fb507", func := "calliper/calliperlaw24.WalkEnds", spec := "walkEnds", unfollowed := true, recurses := true, apart := false }
def WalkEndsSaid : Prop := walkEndsRow.holds Tryz.pinned (OpenSpec.ofChange walkEndsSpec)

/-- ITS FALSE NEIGHBOUR: 'it returns false'. Refute it at one input. -/
def walkEndsWrong : ChangeSpec := { name := "walkEnds", fn := fun _ => fun
  | [d1, d2] => { results := [.lit (.bool false)], args := [d1, d2] }
  | _ => none }
def WalkEndsWrongFalsely : Prop := walkEndsRow.holds Tryz.pinned (OpenSpec.ofChange walkEndsWrong)

/-- 'calliperlaw24.WalkRelations': WHATEVER THE INPUT: true; the input reads as it did. -/
def walkRelationsSpec : ChangeSpec := { name := "walkRelations", fn := fun _ => fun
  | [d1, d2] => { results := [.lit (.bool true)], args := [d1, d2] }
  | _ => none }
def walkRelationsRow : OpenClaim := { program := "ythojgmaolbjppaagreat", sum := "e7f4e1d9f77118167569b39e526767d1d92abd7c5ed1ed4ecee3d722454fb507", func := "calliper/calliperlaw24.WalkRelations", spec := "walkRelations", unfollowed := true, recurses := true, apart := false }
def WalkRelationsSaid : Prop := walkRelationsRow.holds Tryz.pinned (OpenSpec.ofChange walkRelationsSpec)

/-- ITS FALSE NEIGHBOUR: 'it returns false'. Refute it at one input. -/
def walkRelationsWrong : ChangeSpec := { name := "walkRelations", fn := fun _ => fun
  | [d1, d2] => { results := [.lit (.bool false)], args := [d1, d2] }
  | _ => none }
def WalkRelationsWrongFalsely : Prop := walkRelationsRow.holds Tryz.pinned (OpenSpec.ofChange walkRelationsWrong)

/- THE SECOND FORM. 'bulk': how many values and letters a reading holds, each counted each time it is reached (what is shared counts as often as it is met; a slice's spare places count too). A statement '..UptoSaid' is the law's where the arguments, and the package variables that the reading takes, are together of bulk at most 1048576: NARROWER than '..Said'. Prove '..Said' where nothing that the law and all that it calls make is longer than what came in: it says more and counts as full. Else prove '..UptoSaid'. A law counts once. -/
mutual
def uptoBulk {H : Type} : DataW H → Nat
  | .lit (.string bytes) => bytes.length + 1
  | .lit _ => 1
  | .nil => 1
  | .ptr d => uptoBulk d + 1
  | .slice elems spare => uptoBulkAll elems + uptoBulkAll spare + 1
  | .agg parts => uptoBulkAll parts + 1
  | .iface _ d => uptoBulk d + 1
  | .map entries => uptoBulkEntries entries + 1
  | .held _ => 1
def uptoBulkAll {H : Type} : List (DataW H) → Nat
  | [] => 0
  | d :: r => uptoBulk d + uptoBulkAll r
def uptoBulkEntries {H : Type} : List (Lit × DataW H) → Nat
  | [] => 0
  | x :: r => uptoBulkEntry x + uptoBulkEntries r
def uptoBulkEntry {H : Type} : Lit × DataW H → Nat
  | (.string bytes, d) => bytes.length + uptoBulk d + 1
  | (_, d) => uptoBulk d + 1
 end
def uptoSmall : (H : Type) → List (DataW H) → Bool := fun _ ds => decide (uptoBulkAll ds ≤ 1048576)
def OpenSpec.upto (s : _root_.Go.ChangeSpec) : _root_.Go.OpenSpec := { _root_.Go.OpenSpec.ofChange s with cond := some uptoSmall }

/-- 'calliperlaw23.BindFrames', WHERE WHAT IT READS IS OF BULK AT MOST 1048576: true; the input reads as it did. -/
def bindFramesUptoRow : OpenClaim := { program := "ythojgmaolbjppaagreat", sum := "e7f4e1d9f77118167569b39e526767d1d92abd7c5ed1ed4ecee3d722454fb507", func := "calliper/calliperlaw23.BindFrames", spec := "bindFrames", unfollowed := true, recurses := true, apart := false, narrowed := true }
def BindFramesUptoSaid : Prop := bindFramesUptoRow.holds Tryz.pinned (OpenSpec.upto bindFramesSpec)

/-- 'calliperlaw23.BindRequires', WHERE WHAT IT READS IS OF BULK AT MOST 1048576: true; the input reads as it did. -/
def bindRequiresUptoRow : OpenClaim := { program := "ythojgmaolbjppaagreat", sum := "e7f4e1d9f77118167569b39e526767d1d92abd7c5ed1ed4ecee3d722454fb507", func := "calliper/calliperlaw23.BindRequires", spec := "bindRequires", unfollowed := true, recurses := true, apart := false, narrowed := true }
def BindRequiresUptoSaid : Prop := bindRequiresUptoRow.holds Tryz.pinned (OpenSpec.upto bindRequiresSpec)

/-- 'calliperlaw23.BindArrays', WHERE WHAT IT READS IS OF BULK AT MOST 1048576: true; the input reads as it did. -/
def bindArraysUptoRow : OpenClaim := { program := "ythojgmaolbjppaagreat", sum := "e7f4e1d9f77118167569b39e526767d1d92abd7c5ed1ed4ecee3d722454fb507", func := "calliper/calliperlaw23.BindArrays", spec := "bindArrays", unfollowed := true, recurses := true, apart := false, narrowed := true }
def BindArraysUptoSaid : Prop := bindArraysUptoRow.holds Tryz.pinned (OpenSpec.upto bindArraysSpec)

/-- 'calliperlaw24.WalkLoop', WHERE WHAT IT READS IS OF BULK AT MOST 1048576: true; the input reads as it did. -/
def walkLoopUptoRow : OpenClaim := { program := "ythojgmaolbjppaagreat", sum := "e7f4e1d9f77118167569b39e526767d1d92abd7c5ed1ed4ecee3d722454fb507", func := "calliper/calliperlaw24.WalkLoop", spec := "walkLoop", unfollowed := true, recurses := true, apart := false, narrowed := true }
def WalkLoopUptoSaid : Prop := walkLoopUptoRow.holds Tryz.pinned (OpenSpec.upto walkLoopSpec)

/-- 'calliperlaw24.WalkForks', WHERE WHAT IT READS IS OF BULK AT MOST 1048576: true; the input reads as it did. -/
def walkForksUptoRow : OpenClaim := { program := "ythojgmaolbjppaagreat", sum := "e7f4e1d9f77118167569b39e526767d1d92abd7c5ed1ed4ecee3d722454fb507", func := "calliper/calliperlaw24.WalkForks", spec := "walkForks", unfollowed := true, recurses := true, apart := false, narrowed := true }
def WalkForksUptoSaid : Prop := walkForksUptoRow.holds Tryz.pinned (OpenSpec.upto walkForksSpec)

/-- 'calliperlaw24.WalkEnds', WHERE WHAT IT READS IS OF BULK AT MOST 1048576: true; the input reads as it did. -/
def walkEndsUptoRow : OpenClaim := { program := "ythojgmaolbjppaagreat", sum := "e7f4e1d9f77118167569b39e526767d1d92abd7c5ed1ed4ecee3d722454fb507", func := "calliper/calliperlaw24.WalkEnds", spec := "walkEnds", unfollowed := true, recurses := true, apart := false, narrowed := true }
def WalkEndsUptoSaid : Prop := walkEndsUptoRow.holds Tryz.pinned (OpenSpec.upto walkEndsSpec)

/-- 'calliperlaw24.WalkRelations', WHERE WHAT IT READS IS OF BULK AT MOST 1048576: true; the input reads as it did. -/
def walkRelationsUptoRow : OpenClaim := { program := "ythojgmaolbjppaagreat", sum := "e7f4e1d9f77118167569b39e526767d1d92abd7c5ed1ed4ecee3d722454fb507", func := "calliper/calliperlaw24.WalkRelations", spec := "walkRelations", unfollowed := true, recurses := true, apart := false, narrowed := true }
def WalkRelationsUptoSaid : Prop := walkRelationsUptoRow.holds Tryz.pinned (OpenSpec.upto walkRelationsSpec)

end Rows
end Go.Proofs.YthojgmaolbjppaaGreat
