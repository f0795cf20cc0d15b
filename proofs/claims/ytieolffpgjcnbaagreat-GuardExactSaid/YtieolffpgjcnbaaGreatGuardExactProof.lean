/- GuardExact answers true at all inputs, and leaves them as they were. No condition. -/
import Derived.Test.YtieolffpgjcnbaaGreatRows
import Derived.Test.YtieolffpgjcnbaaGreatGuardExactR0
import Derived.Test.YtieolffpgjcnbaaGreatGuardExactR1
import Derived.Test.YtieolffpgjcnbaaGreatGuardExactR2
import Derived.Test.YtieolffpgjcnbaaGreatGuardExactR3
import Derived.Test.YtieolffpgjcnbaaGreatGuardExactR4
import Derived.Test.YtieolffpgjcnbaaGreatGuardExactR5
import Derived.Test.YtieolffpgjcnbaaGreatGuardExactR6
import Derived.Test.YtieolffpgjcnbaaGreatGuardExactR7
import Derived.Test.YtieolffpgjcnbaaGreatGuardExactR8
import Derived.Test.YtieolffpgjcnbaaGreatGuardExactR9
import Derived.Test.YtieolffpgjcnbaaGreatGuardExactR10
import Derived.Test.YtieolffpgjcnbaaGreatGuardExactR11
import Derived.Test.YtieolffpgjcnbaaGreatGuardExactR12
import Derived.Test.YtieolffpgjcnbaaGreatGuardExactR13
import Derived.Test.YtieolffpgjcnbaaGreatGuardExactR14
import Derived.Test.YtieolffpgjcnbaaGreatGuardExactR15
import Derived.Test.YtieolffpgjcnbaaGreatGuardExactR16
import Derived.Test.YtieolffpgjcnbaaGreatGuardExactR17
import Derived.Test.YtieolffpgjcnbaaGreatGuardExactR18
import Derived.Test.YtieolffpgjcnbaaGreatGuardExactR19
import Derived.Test.YtieolffpgjcnbaaGreatGuardExactR20
import Derived.Test.YtieolffpgjcnbaaGreatGuardExactR21
import Derived.Test.YtieolffpgjcnbaaGreatGuardExactR22
import Derived.Test.YtieolffpgjcnbaaGreatGuardExactR23
import Derived.Test.YtieolffpgjcnbaaGreatGuardExactR24
import Derived.Test.YtieolffpgjcnbaaGreatGuardExactR25
import Derived.Test.YtieolffpgjcnbaaGreatGuardExactR26
import Derived.Test.YtieolffpgjcnbaaGreatGuardExactR27
import Derived.Test.YtieolffpgjcnbaaGreatGuardExactR28
import Derived.Test.YtieolffpgjcnbaaGreatGuardExactR29
import Derived.Test.YtieolffpgjcnbaaGreatGuardExactR30
import Derived.Test.YtieolffpgjcnbaaGreatGuardExactR31
import Derived.Test.YtieolffpgjcnbaaGreatGuardExactR32
import Derived.Test.YtieolffpgjcnbaaGreatGuardExactR33
import Derived.Test.YtieolffpgjcnbaaGreatGuardExactR34
import Derived.Test.YtieolffpgjcnbaaGreatGuardExactR35
import Derived.WalkKit
import Derived.ProofKit
import Derived.OpenShut
namespace Go.Proofs.YtieolffpgjcnbaaGreat.guardExact
open Go.Sx Go.ChangeShapes Go.WideShapes Go.ChangeAt Go.RowKit
set_option linter.unusedVariables false

theorem own : ownKnob Tryz.prog.godebug = none := by kernel_rfl

/-! ### The walk: by the runs of the kernel. -/
theorem walk (a0 : Int) (a1 : Int) (a2 : Int) (a3 : Int) (w0 : (Lit.int .i8 a0).wf = true) (w1 : (Lit.int .i8 a1).wf = true) (w2 : (Lit.int .i8 a2).wf = true) (w3 : (Lit.int .u8 a3).wf = true) (w : World) :
    Calls Tryz.prog 6 #[.int .i8 a0, .int .i8 a1, .int .i8 a2, .int .u8 a3] w fun e w' => e = .returned (.bool true) ∧ Grown w w' := by
  have r0 : ((-128) ≤ a0 ∧ a0 ≤ 127) := by simpa [Lit.wf, IntKind.min, IntKind.max, IntKind.signed, IntKind.bits] using w0
  have r1 : ((-128) ≤ a1 ∧ a1 ≤ 127) := by simpa [Lit.wf, IntKind.min, IntKind.max, IntKind.signed, IntKind.bits] using w1
  have r2 : ((-128) ≤ a2 ∧ a2 ≤ 127) := by simpa [Lit.wf, IntKind.min, IntKind.max, IntKind.signed, IntKind.bits] using w2
  have r3 : (0 ≤ a3 ∧ a3 ≤ 255) := by simpa [Lit.wf, IntKind.min, IntKind.max, IntKind.signed, IntKind.bits] using w3
  rcases (show (0 ≤ a0 ∧ a0 ≤ 9) ∨ (10 ≤ a0 ∧ a0 ≤ 99) ∨ (100 ≤ a0 ∧ a0 ≤ 127) ∨ (1 ≤ (-a0) ∧ (-a0) ≤ 9) ∨ (10 ≤ (-a0) ∧ (-a0) ≤ 99) ∨ (100 ≤ (-a0) ∧ (-a0) ≤ 128) by omega) with h0 | h0 | h0 | h0 | h0 | h0
  · rcases (show (0 ≤ a1 ∧ a1 ≤ 9) ∨ (10 ≤ a1 ∧ a1 ≤ 99) ∨ (100 ≤ a1 ∧ a1 ≤ 127) ∨ (1 ≤ (-a1) ∧ (-a1) ≤ 9) ∨ (10 ≤ (-a1) ∧ (-a1) ≤ 99) ∨ (100 ≤ (-a1) ∧ (-a1) ≤ 128) by omega) with h1 | h1 | h1 | h1 | h1 | h1
    · rcases (show (0 ≤ a2 ∧ a2 ≤ 9) ∨ (10 ≤ a2 ∧ a2 ≤ 99) ∨ (100 ≤ a2 ∧ a2 ≤ 127) ∨ (1 ≤ (-a2) ∧ (-a2) ≤ 9) ∨ (10 ≤ (-a2) ∧ (-a2) ≤ 99) ∨ (100 ≤ (-a2) ∧ (-a2) ≤ 128) by omega) with h2 | h2 | h2 | h2 | h2 | h2
      · exact case0 a0 a1 a2 a3 r0 r1 r2 r3 h0 h1 h2 w
      · exact case1 a0 a1 a2 a3 r0 r1 r2 r3 h0 h1 h2 w
      · exact case2 a0 a1 a2 a3 r0 r1 r2 r3 h0 h1 h2 w
      · exact case3 a0 a1 a2 a3 r0 r1 r2 r3 h0 h1 h2 w
      · exact case4 a0 a1 a2 a3 r0 r1 r2 r3 h0 h1 h2 w
      · exact case5 a0 a1 a2 a3 r0 r1 r2 r3 h0 h1 h2 w
    · rcases (show (0 ≤ a2 ∧ a2 ≤ 9) ∨ (10 ≤ a2 ∧ a2 ≤ 99) ∨ (100 ≤ a2 ∧ a2 ≤ 127) ∨ (1 ≤ (-a2) ∧ (-a2) ≤ 9) ∨ (10 ≤ (-a2) ∧ (-a2) ≤ 99) ∨ (100 ≤ (-a2) ∧ (-a2) ≤ 128) by omega) with h2 | h2 | h2 | h2 | h2 | h2
      · exact case6 a0 a1 a2 a3 r0 r1 r2 r3 h0 h1 h2 w
      · exact case7 a0 a1 a2 a3 r0 r1 r2 r3 h0 h1 h2 w
      · exact case8 a0 a1 a2 a3 r0 r1 r2 r3 h0 h1 h2 w
      · exact case9 a0 a1 a2 a3 r0 r1 r2 r3 h0 h1 h2 w
      · exact case10 a0 a1 a2 a3 r0 r1 r2 r3 h0 h1 h2 w
      · exact case11 a0 a1 a2 a3 r0 r1 r2 r3 h0 h1 h2 w
    · rcases (show (0 ≤ a2 ∧ a2 ≤ 9) ∨ (10 ≤ a2 ∧ a2 ≤ 99) ∨ (100 ≤ a2 ∧ a2 ≤ 127) ∨ (1 ≤ (-a2) ∧ (-a2) ≤ 9) ∨ (10 ≤ (-a2) ∧ (-a2) ≤ 99) ∨ (100 ≤ (-a2) ∧ (-a2) ≤ 128) by omega) with h2 | h2 | h2 | h2 | h2 | h2
      · exact case12 a0 a1 a2 a3 r0 r1 r2 r3 h0 h1 h2 w
      · exact case13 a0 a1 a2 a3 r0 r1 r2 r3 h0 h1 h2 w
      · exact case14 a0 a1 a2 a3 r0 r1 r2 r3 h0 h1 h2 w
      · exact case15 a0 a1 a2 a3 r0 r1 r2 r3 h0 h1 h2 w
      · exact case16 a0 a1 a2 a3 r0 r1 r2 r3 h0 h1 h2 w
      · exact case17 a0 a1 a2 a3 r0 r1 r2 r3 h0 h1 h2 w
    · rcases (show (0 ≤ a2 ∧ a2 ≤ 9) ∨ (10 ≤ a2 ∧ a2 ≤ 99) ∨ (100 ≤ a2 ∧ a2 ≤ 127) ∨ (1 ≤ (-a2) ∧ (-a2) ≤ 9) ∨ (10 ≤ (-a2) ∧ (-a2) ≤ 99) ∨ (100 ≤ (-a2) ∧ (-a2) ≤ 128) by omega) with h2 | h2 | h2 | h2 | h2 | h2
      · exact case18 a0 a1 a2 a3 r0 r1 r2 r3 h0 h1 h2 w
      · exact case19 a0 a1 a2 a3 r0 r1 r2 r3 h0 h1 h2 w
      · exact case20 a0 a1 a2 a3 r0 r1 r2 r3 h0 h1 h2 w
      · exact case21 a0 a1 a2 a3 r0 r1 r2 r3 h0 h1 h2 w
      · exact case22 a0 a1 a2 a3 r0 r1 r2 r3 h0 h1 h2 w
      · exact case23 a0 a1 a2 a3 r0 r1 r2 r3 h0 h1 h2 w
    · rcases (show (0 ≤ a2 ∧ a2 ≤ 9) ∨ (10 ≤ a2 ∧ a2 ≤ 99) ∨ (100 ≤ a2 ∧ a2 ≤ 127) ∨ (1 ≤ (-a2) ∧ (-a2) ≤ 9) ∨ (10 ≤ (-a2) ∧ (-a2) ≤ 99) ∨ (100 ≤ (-a2) ∧ (-a2) ≤ 128) by omega) with h2 | h2 | h2 | h2 | h2 | h2
      · exact case24 a0 a1 a2 a3 r0 r1 r2 r3 h0 h1 h2 w
      · exact case25 a0 a1 a2 a3 r0 r1 r2 r3 h0 h1 h2 w
      · exact case26 a0 a1 a2 a3 r0 r1 r2 r3 h0 h1 h2 w
      · exact case27 a0 a1 a2 a3 r0 r1 r2 r3 h0 h1 h2 w
      · exact case28 a0 a1 a2 a3 r0 r1 r2 r3 h0 h1 h2 w
      · exact case29 a0 a1 a2 a3 r0 r1 r2 r3 h0 h1 h2 w
    · rcases (show (0 ≤ a2 ∧ a2 ≤ 9) ∨ (10 ≤ a2 ∧ a2 ≤ 99) ∨ (100 ≤ a2 ∧ a2 ≤ 127) ∨ (1 ≤ (-a2) ∧ (-a2) ≤ 9) ∨ (10 ≤ (-a2) ∧ (-a2) ≤ 99) ∨ (100 ≤ (-a2) ∧ (-a2) ≤ 128) by omega) with h2 | h2 | h2 | h2 | h2 | h2
      · exact case30 a0 a1 a2 a3 r0 r1 r2 r3 h0 h1 h2 w
      · exact case31 a0 a1 a2 a3 r0 r1 r2 r3 h0 h1 h2 w
      · exact case32 a0 a1 a2 a3 r0 r1 r2 r3 h0 h1 h2 w
      · exact case33 a0 a1 a2 a3 r0 r1 r2 r3 h0 h1 h2 w
      · exact case34 a0 a1 a2 a3 r0 r1 r2 r3 h0 h1 h2 w
      · exact case35 a0 a1 a2 a3 r0 r1 r2 r3 h0 h1 h2 w
  · rcases (show (0 ≤ a1 ∧ a1 ≤ 9) ∨ (10 ≤ a1 ∧ a1 ≤ 99) ∨ (100 ≤ a1 ∧ a1 ≤ 127) ∨ (1 ≤ (-a1) ∧ (-a1) ≤ 9) ∨ (10 ≤ (-a1) ∧ (-a1) ≤ 99) ∨ (100 ≤ (-a1) ∧ (-a1) ≤ 128) by omega) with h1 | h1 | h1 | h1 | h1 | h1
    · rcases (show (0 ≤ a2 ∧ a2 ≤ 9) ∨ (10 ≤ a2 ∧ a2 ≤ 99) ∨ (100 ≤ a2 ∧ a2 ≤ 127) ∨ (1 ≤ (-a2) ∧ (-a2) ≤ 9) ∨ (10 ≤ (-a2) ∧ (-a2) ≤ 99) ∨ (100 ≤ (-a2) ∧ (-a2) ≤ 128) by omega) with h2 | h2 | h2 | h2 | h2 | h2
      · exact case36 a0 a1 a2 a3 r0 r1 r2 r3 h0 h1 h2 w
      · exact case37 a0 a1 a2 a3 r0 r1 r2 r3 h0 h1 h2 w
      · exact case38 a0 a1 a2 a3 r0 r1 r2 r3 h0 h1 h2 w
      · exact case39 a0 a1 a2 a3 r0 r1 r2 r3 h0 h1 h2 w
      · exact case40 a0 a1 a2 a3 r0 r1 r2 r3 h0 h1 h2 w
      · exact case41 a0 a1 a2 a3 r0 r1 r2 r3 h0 h1 h2 w
    · rcases (show (0 ≤ a2 ∧ a2 ≤ 9) ∨ (10 ≤ a2 ∧ a2 ≤ 99) ∨ (100 ≤ a2 ∧ a2 ≤ 127) ∨ (1 ≤ (-a2) ∧ (-a2) ≤ 9) ∨ (10 ≤ (-a2) ∧ (-a2) ≤ 99) ∨ (100 ≤ (-a2) ∧ (-a2) ≤ 128) by omega) with h2 | h2 | h2 | h2 | h2 | h2
      · exact case42 a0 a1 a2 a3 r0 r1 r2 r3 h0 h1 h2 w
      · exact case43 a0 a1 a2 a3 r0 r1 r2 r3 h0 h1 h2 w
      · exact case44 a0 a1 a2 a3 r0 r1 r2 r3 h0 h1 h2 w
      · exact case45 a0 a1 a2 a3 r0 r1 r2 r3 h0 h1 h2 w
      · exact case46 a0 a1 a2 a3 r0 r1 r2 r3 h0 h1 h2 w
      · exact case47 a0 a1 a2 a3 r0 r1 r2 r3 h0 h1 h2 w
    · rcases (show (0 ≤ a2 ∧ a2 ≤ 9) ∨ (10 ≤ a2 ∧ a2 ≤ 99) ∨ (100 ≤ a2 ∧ a2 ≤ 127) ∨ (1 ≤ (-a2) ∧ (-a2) ≤ 9) ∨ (10 ≤ (-a2) ∧ (-a2) ≤ 99) ∨ (100 ≤ (-a2) ∧ (-a2) ≤ 128) by omega) with h2 | h2 | h2 | h2 | h2 | h2
      · exact case48 a0 a1 a2 a3 r0 r1 r2 r3 h0 h1 h2 w
      · exact case49 a0 a1 a2 a3 r0 r1 r2 r3 h0 h1 h2 w
      · exact case50 a0 a1 a2 a3 r0 r1 r2 r3 h0 h1 h2 w
      · exact case51 a0 a1 a2 a3 r0 r1 r2 r3 h0 h1 h2 w
      · exact case52 a0 a1 a2 a3 r0 r1 r2 r3 h0 h1 h2 w
      · exact case53 a0 a1 a2 a3 r0 r1 r2 r3 h0 h1 h2 w
    · rcases (show (0 ≤ a2 ∧ a2 ≤ 9) ∨ (10 ≤ a2 ∧ a2 ≤ 99) ∨ (100 ≤ a2 ∧ a2 ≤ 127) ∨ (1 ≤ (-a2) ∧ (-a2) ≤ 9) ∨ (10 ≤ (-a2) ∧ (-a2) ≤ 99) ∨ (100 ≤ (-a2) ∧ (-a2) ≤ 128) by omega) with h2 | h2 | h2 | h2 | h2 | h2
      · exact case54 a0 a1 a2 a3 r0 r1 r2 r3 h0 h1 h2 w
      · exact case55 a0 a1 a2 a3 r0 r1 r2 r3 h0 h1 h2 w
      · exact case56 a0 a1 a2 a3 r0 r1 r2 r3 h0 h1 h2 w
      · exact case57 a0 a1 a2 a3 r0 r1 r2 r3 h0 h1 h2 w
      · exact case58 a0 a1 a2 a3 r0 r1 r2 r3 h0 h1 h2 w
      · exact case59 a0 a1 a2 a3 r0 r1 r2 r3 h0 h1 h2 w
    · rcases (show (0 ≤ a2 ∧ a2 ≤ 9) ∨ (10 ≤ a2 ∧ a2 ≤ 99) ∨ (100 ≤ a2 ∧ a2 ≤ 127) ∨ (1 ≤ (-a2) ∧ (-a2) ≤ 9) ∨ (10 ≤ (-a2) ∧ (-a2) ≤ 99) ∨ (100 ≤ (-a2) ∧ (-a2) ≤ 128) by omega) with h2 | h2 | h2 | h2 | h2 | h2
      · exact case60 a0 a1 a2 a3 r0 r1 r2 r3 h0 h1 h2 w
      · exact case61 a0 a1 a2 a3 r0 r1 r2 r3 h0 h1 h2 w
      · exact case62 a0 a1 a2 a3 r0 r1 r2 r3 h0 h1 h2 w
      · exact case63 a0 a1 a2 a3 r0 r1 r2 r3 h0 h1 h2 w
      · exact case64 a0 a1 a2 a3 r0 r1 r2 r3 h0 h1 h2 w
      · exact case65 a0 a1 a2 a3 r0 r1 r2 r3 h0 h1 h2 w
    · rcases (show (0 ≤ a2 ∧ a2 ≤ 9) ∨ (10 ≤ a2 ∧ a2 ≤ 99) ∨ (100 ≤ a2 ∧ a2 ≤ 127) ∨ (1 ≤ (-a2) ∧ (-a2) ≤ 9) ∨ (10 ≤ (-a2) ∧ (-a2) ≤ 99) ∨ (100 ≤ (-a2) ∧ (-a2) ≤ 128) by omega) with h2 | h2 | h2 | h2 | h2 | h2
      · exact case66 a0 a1 a2 a3 r0 r1 r2 r3 h0 h1 h2 w
      · exact case67 a0 a1 a2 a3 r0 r1 r2 r3 h0 h1 h2 w
      · exact case68 a0 a1 a2 a3 r0 r1 r2 r3 h0 h1 h2 w
      · exact case69 a0 a1 a2 a3 r0 r1 r2 r3 h0 h1 h2 w
      · exact case70 a0 a1 a2 a3 r0 r1 r2 r3 h0 h1 h2 w
      · exact case71 a0 a1 a2 a3 r0 r1 r2 r3 h0 h1 h2 w
  · rcases (show (0 ≤ a1 ∧ a1 ≤ 9) ∨ (10 ≤ a1 ∧ a1 ≤ 99) ∨ (100 ≤ a1 ∧ a1 ≤ 127) ∨ (1 ≤ (-a1) ∧ (-a1) ≤ 9) ∨ (10 ≤ (-a1) ∧ (-a1) ≤ 99) ∨ (100 ≤ (-a1) ∧ (-a1) ≤ 128) by omega) with h1 | h1 | h1 | h1 | h1 | h1
    · rcases (show (0 ≤ a2 ∧ a2 ≤ 9) ∨ (10 ≤ a2 ∧ a2 ≤ 99) ∨ (100 ≤ a2 ∧ a2 ≤ 127) ∨ (1 ≤ (-a2) ∧ (-a2) ≤ 9) ∨ (10 ≤ (-a2) ∧ (-a2) ≤ 99) ∨ (100 ≤ (-a2) ∧ (-a2) ≤ 128) by omega) with h2 | h2 | h2 | h2 | h2 | h2
      · exact case72 a0 a1 a2 a3 r0 r1 r2 r3 h0 h1 h2 w
      · exact case73 a0 a1 a2 a3 r0 r1 r2 r3 h0 h1 h2 w
      · exact case74 a0 a1 a2 a3 r0 r1 r2 r3 h0 h1 h2 w
      · exact case75 a0 a1 a2 a3 r0 r1 r2 r3 h0 h1 h2 w
      · exact case76 a0 a1 a2 a3 r0 r1 r2 r3 h0 h1 h2 w
      · exact case77 a0 a1 a2 a3 r0 r1 r2 r3 h0 h1 h2 w
    · rcases (show (0 ≤ a2 ∧ a2 ≤ 9) ∨ (10 ≤ a2 ∧ a2 ≤ 99) ∨ (100 ≤ a2 ∧ a2 ≤ 127) ∨ (1 ≤ (-a2) ∧ (-a2) ≤ 9) ∨ (10 ≤ (-a2) ∧ (-a2) ≤ 99) ∨ (100 ≤ (-a2) ∧ (-a2) ≤ 128) by omega) with h2 | h2 | h2 | h2 | h2 | h2
      · exact case78 a0 a1 a2 a3 r0 r1 r2 r3 h0 h1 h2 w
      · exact case79 a0 a1 a2 a3 r0 r1 r2 r3 h0 h1 h2 w
      · exact case80 a0 a1 a2 a3 r0 r1 r2 r3 h0 h1 h2 w
      · exact case81 a0 a1 a2 a3 r0 r1 r2 r3 h0 h1 h2 w
      · exact case82 a0 a1 a2 a3 r0 r1 r2 r3 h0 h1 h2 w
      · exact case83 a0 a1 a2 a3 r0 r1 r2 r3 h0 h1 h2 w
    · rcases (show (0 ≤ a2 ∧ a2 ≤ 9) ∨ (10 ≤ a2 ∧ a2 ≤ 99) ∨ (100 ≤ a2 ∧ a2 ≤ 127) ∨ (1 ≤ (-a2) ∧ (-a2) ≤ 9) ∨ (10 ≤ (-a2) ∧ (-a2) ≤ 99) ∨ (100 ≤ (-a2) ∧ (-a2) ≤ 128) by omega) with h2 | h2 | h2 | h2 | h2 | h2
      · exact case84 a0 a1 a2 a3 r0 r1 r2 r3 h0 h1 h2 w
      · exact case85 a0 a1 a2 a3 r0 r1 r2 r3 h0 h1 h2 w
      · exact case86 a0 a1 a2 a3 r0 r1 r2 r3 h0 h1 h2 w
      · exact case87 a0 a1 a2 a3 r0 r1 r2 r3 h0 h1 h2 w
      · exact case88 a0 a1 a2 a3 r0 r1 r2 r3 h0 h1 h2 w
      · exact case89 a0 a1 a2 a3 r0 r1 r2 r3 h0 h1 h2 w
    · rcases (show (0 ≤ a2 ∧ a2 ≤ 9) ∨ (10 ≤ a2 ∧ a2 ≤ 99) ∨ (100 ≤ a2 ∧ a2 ≤ 127) ∨ (1 ≤ (-a2) ∧ (-a2) ≤ 9) ∨ (10 ≤ (-a2) ∧ (-a2) ≤ 99) ∨ (100 ≤ (-a2) ∧ (-a2) ≤ 128) by omega) with h2 | h2 | h2 | h2 | h2 | h2
      · exact case90 a0 a1 a2 a3 r0 r1 r2 r3 h0 h1 h2 w
      · exact case91 a0 a1 a2 a3 r0 r1 r2 r3 h0 h1 h2 w
      · exact case92 a0 a1 a2 a3 r0 r1 r2 r3 h0 h1 h2 w
      · exact case93 a0 a1 a2 a3 r0 r1 r2 r3 h0 h1 h2 w
      · exact case94 a0 a1 a2 a3 r0 r1 r2 r3 h0 h1 h2 w
      · exact case95 a0 a1 a2 a3 r0 r1 r2 r3 h0 h1 h2 w
    · rcases (show (0 ≤ a2 ∧ a2 ≤ 9) ∨ (10 ≤ a2 ∧ a2 ≤ 99) ∨ (100 ≤ a2 ∧ a2 ≤ 127) ∨ (1 ≤ (-a2) ∧ (-a2) ≤ 9) ∨ (10 ≤ (-a2) ∧ (-a2) ≤ 99) ∨ (100 ≤ (-a2) ∧ (-a2) ≤ 128) by omega) with h2 | h2 | h2 | h2 | h2 | h2
      · exact case96 a0 a1 a2 a3 r0 r1 r2 r3 h0 h1 h2 w
      · exact case97 a0 a1 a2 a3 r0 r1 r2 r3 h0 h1 h2 w
      · exact case98 a0 a1 a2 a3 r0 r1 r2 r3 h0 h1 h2 w
      · exact case99 a0 a1 a2 a3 r0 r1 r2 r3 h0 h1 h2 w
      · exact case100 a0 a1 a2 a3 r0 r1 r2 r3 h0 h1 h2 w
      · exact case101 a0 a1 a2 a3 r0 r1 r2 r3 h0 h1 h2 w
    · rcases (show (0 ≤ a2 ∧ a2 ≤ 9) ∨ (10 ≤ a2 ∧ a2 ≤ 99) ∨ (100 ≤ a2 ∧ a2 ≤ 127) ∨ (1 ≤ (-a2) ∧ (-a2) ≤ 9) ∨ (10 ≤ (-a2) ∧ (-a2) ≤ 99) ∨ (100 ≤ (-a2) ∧ (-a2) ≤ 128) by omega) with h2 | h2 | h2 | h2 | h2 | h2
      · exact case102 a0 a1 a2 a3 r0 r1 r2 r3 h0 h1 h2 w
      · exact case103 a0 a1 a2 a3 r0 r1 r2 r3 h0 h1 h2 w
      · exact case104 a0 a1 a2 a3 r0 r1 r2 r3 h0 h1 h2 w
      · exact case105 a0 a1 a2 a3 r0 r1 r2 r3 h0 h1 h2 w
      · exact case106 a0 a1 a2 a3 r0 r1 r2 r3 h0 h1 h2 w
      · exact case107 a0 a1 a2 a3 r0 r1 r2 r3 h0 h1 h2 w
  · rcases (show (0 ≤ a1 ∧ a1 ≤ 9) ∨ (10 ≤ a1 ∧ a1 ≤ 99) ∨ (100 ≤ a1 ∧ a1 ≤ 127) ∨ (1 ≤ (-a1) ∧ (-a1) ≤ 9) ∨ (10 ≤ (-a1) ∧ (-a1) ≤ 99) ∨ (100 ≤ (-a1) ∧ (-a1) ≤ 128) by omega) with h1 | h1 | h1 | h1 | h1 | h1
    · rcases (show (0 ≤ a2 ∧ a2 ≤ 9) ∨ (10 ≤ a2 ∧ a2 ≤ 99) ∨ (100 ≤ a2 ∧ a2 ≤ 127) ∨ (1 ≤ (-a2) ∧ (-a2) ≤ 9) ∨ (10 ≤ (-a2) ∧ (-a2) ≤ 99) ∨ (100 ≤ (-a2) ∧ (-a2) ≤ 128) by omega) with h2 | h2 | h2 | h2 | h2 | h2
      · exact case108 a0 a1 a2 a3 r0 r1 r2 r3 h0 h1 h2 w
      · exact case109 a0 a1 a2 a3 r0 r1 r2 r3 h0 h1 h2 w
      · exact case110 a0 a1 a2 a3 r0 r1 r2 r3 h0 h1 h2 w
      · exact case111 a0 a1 a2 a3 r0 r1 r2 r3 h0 h1 h2 w
      · exact case112 a0 a1 a2 a3 r0 r1 r2 r3 h0 h1 h2 w
      · exact case113 a0 a1 a2 a3 r0 r1 r2 r3 h0 h1 h2 w
    · rcases (show (0 ≤ a2 ∧ a2 ≤ 9) ∨ (10 ≤ a2 ∧ a2 ≤ 99) ∨ (100 ≤ a2 ∧ a2 ≤ 127) ∨ (1 ≤ (-a2) ∧ (-a2) ≤ 9) ∨ (10 ≤ (-a2) ∧ (-a2) ≤ 99) ∨ (100 ≤ (-a2) ∧ (-a2) ≤ 128) by omega) with h2 | h2 | h2 | h2 | h2 | h2
      · exact case114 a0 a1 a2 a3 r0 r1 r2 r3 h0 h1 h2 w
      · exact case115 a0 a1 a2 a3 r0 r1 r2 r3 h0 h1 h2 w
      · exact case116 a0 a1 a2 a3 r0 r1 r2 r3 h0 h1 h2 w
      · exact case117 a0 a1 a2 a3 r0 r1 r2 r3 h0 h1 h2 w
      · exact case118 a0 a1 a2 a3 r0 r1 r2 r3 h0 h1 h2 w
      · exact case119 a0 a1 a2 a3 r0 r1 r2 r3 h0 h1 h2 w
    · rcases (show (0 ≤ a2 ∧ a2 ≤ 9) ∨ (10 ≤ a2 ∧ a2 ≤ 99) ∨ (100 ≤ a2 ∧ a2 ≤ 127) ∨ (1 ≤ (-a2) ∧ (-a2) ≤ 9) ∨ (10 ≤ (-a2) ∧ (-a2) ≤ 99) ∨ (100 ≤ (-a2) ∧ (-a2) ≤ 128) by omega) with h2 | h2 | h2 | h2 | h2 | h2
      · exact case120 a0 a1 a2 a3 r0 r1 r2 r3 h0 h1 h2 w
      · exact case121 a0 a1 a2 a3 r0 r1 r2 r3 h0 h1 h2 w
      · exact case122 a0 a1 a2 a3 r0 r1 r2 r3 h0 h1 h2 w
      · exact case123 a0 a1 a2 a3 r0 r1 r2 r3 h0 h1 h2 w
      · exact case124 a0 a1 a2 a3 r0 r1 r2 r3 h0 h1 h2 w
      · exact case125 a0 a1 a2 a3 r0 r1 r2 r3 h0 h1 h2 w
    · rcases (show (0 ≤ a2 ∧ a2 ≤ 9) ∨ (10 ≤ a2 ∧ a2 ≤ 99) ∨ (100 ≤ a2 ∧ a2 ≤ 127) ∨ (1 ≤ (-a2) ∧ (-a2) ≤ 9) ∨ (10 ≤ (-a2) ∧ (-a2) ≤ 99) ∨ (100 ≤ (-a2) ∧ (-a2) ≤ 128) by omega) with h2 | h2 | h2 | h2 | h2 | h2
      · exact case126 a0 a1 a2 a3 r0 r1 r2 r3 h0 h1 h2 w
      · exact case127 a0 a1 a2 a3 r0 r1 r2 r3 h0 h1 h2 w
      · exact case128 a0 a1 a2 a3 r0 r1 r2 r3 h0 h1 h2 w
      · exact case129 a0 a1 a2 a3 r0 r1 r2 r3 h0 h1 h2 w
      · exact case130 a0 a1 a2 a3 r0 r1 r2 r3 h0 h1 h2 w
      · exact case131 a0 a1 a2 a3 r0 r1 r2 r3 h0 h1 h2 w
    · rcases (show (0 ≤ a2 ∧ a2 ≤ 9) ∨ (10 ≤ a2 ∧ a2 ≤ 99) ∨ (100 ≤ a2 ∧ a2 ≤ 127) ∨ (1 ≤ (-a2) ∧ (-a2) ≤ 9) ∨ (10 ≤ (-a2) ∧ (-a2) ≤ 99) ∨ (100 ≤ (-a2) ∧ (-a2) ≤ 128) by omega) with h2 | h2 | h2 | h2 | h2 | h2
      · exact case132 a0 a1 a2 a3 r0 r1 r2 r3 h0 h1 h2 w
      · exact case133 a0 a1 a2 a3 r0 r1 r2 r3 h0 h1 h2 w
      · exact case134 a0 a1 a2 a3 r0 r1 r2 r3 h0 h1 h2 w
      · exact case135 a0 a1 a2 a3 r0 r1 r2 r3 h0 h1 h2 w
      · exact case136 a0 a1 a2 a3 r0 r1 r2 r3 h0 h1 h2 w
      · exact case137 a0 a1 a2 a3 r0 r1 r2 r3 h0 h1 h2 w
    · rcases (show (0 ≤ a2 ∧ a2 ≤ 9) ∨ (10 ≤ a2 ∧ a2 ≤ 99) ∨ (100 ≤ a2 ∧ a2 ≤ 127) ∨ (1 ≤ (-a2) ∧ (-a2) ≤ 9) ∨ (10 ≤ (-a2) ∧ (-a2) ≤ 99) ∨ (100 ≤ (-a2) ∧ (-a2) ≤ 128) by omega) with h2 | h2 | h2 | h2 | h2 | h2
      · exact case138 a0 a1 a2 a3 r0 r1 r2 r3 h0 h1 h2 w
      · exact case139 a0 a1 a2 a3 r0 r1 r2 r3 h0 h1 h2 w
      · exact case140 a0 a1 a2 a3 r0 r1 r2 r3 h0 h1 h2 w
      · exact case141 a0 a1 a2 a3 r0 r1 r2 r3 h0 h1 h2 w
      · exact case142 a0 a1 a2 a3 r0 r1 r2 r3 h0 h1 h2 w
      · exact case143 a0 a1 a2 a3 r0 r1 r2 r3 h0 h1 h2 w
  · rcases (show (0 ≤ a1 ∧ a1 ≤ 9) ∨ (10 ≤ a1 ∧ a1 ≤ 99) ∨ (100 ≤ a1 ∧ a1 ≤ 127) ∨ (1 ≤ (-a1) ∧ (-a1) ≤ 9) ∨ (10 ≤ (-a1) ∧ (-a1) ≤ 99) ∨ (100 ≤ (-a1) ∧ (-a1) ≤ 128) by omega) with h1 | h1 | h1 | h1 | h1 | h1
    · rcases (show (0 ≤ a2 ∧ a2 ≤ 9) ∨ (10 ≤ a2 ∧ a2 ≤ 99) ∨ (100 ≤ a2 ∧ a2 ≤ 127) ∨ (1 ≤ (-a2) ∧ (-a2) ≤ 9) ∨ (10 ≤ (-a2) ∧ (-a2) ≤ 99) ∨ (100 ≤ (-a2) ∧ (-a2) ≤ 128) by omega) with h2 | h2 | h2 | h2 | h2 | h2
      · exact case144 a0 a1 a2 a3 r0 r1 r2 r3 h0 h1 h2 w
      · exact case145 a0 a1 a2 a3 r0 r1 r2 r3 h0 h1 h2 w
      · exact case146 a0 a1 a2 a3 r0 r1 r2 r3 h0 h1 h2 w
      · exact case147 a0 a1 a2 a3 r0 r1 r2 r3 h0 h1 h2 w
      · exact case148 a0 a1 a2 a3 r0 r1 r2 r3 h0 h1 h2 w
      · exact case149 a0 a1 a2 a3 r0 r1 r2 r3 h0 h1 h2 w
    · rcases (show (0 ≤ a2 ∧ a2 ≤ 9) ∨ (10 ≤ a2 ∧ a2 ≤ 99) ∨ (100 ≤ a2 ∧ a2 ≤ 127) ∨ (1 ≤ (-a2) ∧ (-a2) ≤ 9) ∨ (10 ≤ (-a2) ∧ (-a2) ≤ 99) ∨ (100 ≤ (-a2) ∧ (-a2) ≤ 128) by omega) with h2 | h2 | h2 | h2 | h2 | h2
      · exact case150 a0 a1 a2 a3 r0 r1 r2 r3 h0 h1 h2 w
      · exact case151 a0 a1 a2 a3 r0 r1 r2 r3 h0 h1 h2 w
      · exact case152 a0 a1 a2 a3 r0 r1 r2 r3 h0 h1 h2 w
      · exact case153 a0 a1 a2 a3 r0 r1 r2 r3 h0 h1 h2 w
      · exact case154 a0 a1 a2 a3 r0 r1 r2 r3 h0 h1 h2 w
      · exact case155 a0 a1 a2 a3 r0 r1 r2 r3 h0 h1 h2 w
    · rcases (show (0 ≤ a2 ∧ a2 ≤ 9) ∨ (10 ≤ a2 ∧ a2 ≤ 99) ∨ (100 ≤ a2 ∧ a2 ≤ 127) ∨ (1 ≤ (-a2) ∧ (-a2) ≤ 9) ∨ (10 ≤ (-a2) ∧ (-a2) ≤ 99) ∨ (100 ≤ (-a2) ∧ (-a2) ≤ 128) by omega) with h2 | h2 | h2 | h2 | h2 | h2
      · exact case156 a0 a1 a2 a3 r0 r1 r2 r3 h0 h1 h2 w
      · exact case157 a0 a1 a2 a3 r0 r1 r2 r3 h0 h1 h2 w
      · exact case158 a0 a1 a2 a3 r0 r1 r2 r3 h0 h1 h2 w
      · exact case159 a0 a1 a2 a3 r0 r1 r2 r3 h0 h1 h2 w
      · exact case160 a0 a1 a2 a3 r0 r1 r2 r3 h0 h1 h2 w
      · exact case161 a0 a1 a2 a3 r0 r1 r2 r3 h0 h1 h2 w
    · rcases (show (0 ≤ a2 ∧ a2 ≤ 9) ∨ (10 ≤ a2 ∧ a2 ≤ 99) ∨ (100 ≤ a2 ∧ a2 ≤ 127) ∨ (1 ≤ (-a2) ∧ (-a2) ≤ 9) ∨ (10 ≤ (-a2) ∧ (-a2) ≤ 99) ∨ (100 ≤ (-a2) ∧ (-a2) ≤ 128) by omega) with h2 | h2 | h2 | h2 | h2 | h2
      · exact case162 a0 a1 a2 a3 r0 r1 r2 r3 h0 h1 h2 w
      · exact case163 a0 a1 a2 a3 r0 r1 r2 r3 h0 h1 h2 w
      · exact case164 a0 a1 a2 a3 r0 r1 r2 r3 h0 h1 h2 w
      · exact case165 a0 a1 a2 a3 r0 r1 r2 r3 h0 h1 h2 w
      · exact case166 a0 a1 a2 a3 r0 r1 r2 r3 h0 h1 h2 w
      · exact case167 a0 a1 a2 a3 r0 r1 r2 r3 h0 h1 h2 w
    · rcases (show (0 ≤ a2 ∧ a2 ≤ 9) ∨ (10 ≤ a2 ∧ a2 ≤ 99) ∨ (100 ≤ a2 ∧ a2 ≤ 127) ∨ (1 ≤ (-a2) ∧ (-a2) ≤ 9) ∨ (10 ≤ (-a2) ∧ (-a2) ≤ 99) ∨ (100 ≤ (-a2) ∧ (-a2) ≤ 128) by omega) with h2 | h2 | h2 | h2 | h2 | h2
      · exact case168 a0 a1 a2 a3 r0 r1 r2 r3 h0 h1 h2 w
      · exact case169 a0 a1 a2 a3 r0 r1 r2 r3 h0 h1 h2 w
      · exact case170 a0 a1 a2 a3 r0 r1 r2 r3 h0 h1 h2 w
      · exact case171 a0 a1 a2 a3 r0 r1 r2 r3 h0 h1 h2 w
      · exact case172 a0 a1 a2 a3 r0 r1 r2 r3 h0 h1 h2 w
      · exact case173 a0 a1 a2 a3 r0 r1 r2 r3 h0 h1 h2 w
    · rcases (show (0 ≤ a2 ∧ a2 ≤ 9) ∨ (10 ≤ a2 ∧ a2 ≤ 99) ∨ (100 ≤ a2 ∧ a2 ≤ 127) ∨ (1 ≤ (-a2) ∧ (-a2) ≤ 9) ∨ (10 ≤ (-a2) ∧ (-a2) ≤ 99) ∨ (100 ≤ (-a2) ∧ (-a2) ≤ 128) by omega) with h2 | h2 | h2 | h2 | h2 | h2
      · exact case174 a0 a1 a2 a3 r0 r1 r2 r3 h0 h1 h2 w
      · exact case175 a0 a1 a2 a3 r0 r1 r2 r3 h0 h1 h2 w
      · exact case176 a0 a1 a2 a3 r0 r1 r2 r3 h0 h1 h2 w
      · exact case177 a0 a1 a2 a3 r0 r1 r2 r3 h0 h1 h2 w
      · exact case178 a0 a1 a2 a3 r0 r1 r2 r3 h0 h1 h2 w
      · exact case179 a0 a1 a2 a3 r0 r1 r2 r3 h0 h1 h2 w
  · rcases (show (0 ≤ a1 ∧ a1 ≤ 9) ∨ (10 ≤ a1 ∧ a1 ≤ 99) ∨ (100 ≤ a1 ∧ a1 ≤ 127) ∨ (1 ≤ (-a1) ∧ (-a1) ≤ 9) ∨ (10 ≤ (-a1) ∧ (-a1) ≤ 99) ∨ (100 ≤ (-a1) ∧ (-a1) ≤ 128) by omega) with h1 | h1 | h1 | h1 | h1 | h1
    · rcases (show (0 ≤ a2 ∧ a2 ≤ 9) ∨ (10 ≤ a2 ∧ a2 ≤ 99) ∨ (100 ≤ a2 ∧ a2 ≤ 127) ∨ (1 ≤ (-a2) ∧ (-a2) ≤ 9) ∨ (10 ≤ (-a2) ∧ (-a2) ≤ 99) ∨ (100 ≤ (-a2) ∧ (-a2) ≤ 128) by omega) with h2 | h2 | h2 | h2 | h2 | h2
      · exact case180 a0 a1 a2 a3 r0 r1 r2 r3 h0 h1 h2 w
      · exact case181 a0 a1 a2 a3 r0 r1 r2 r3 h0 h1 h2 w
      · exact case182 a0 a1 a2 a3 r0 r1 r2 r3 h0 h1 h2 w
      · exact case183 a0 a1 a2 a3 r0 r1 r2 r3 h0 h1 h2 w
      · exact case184 a0 a1 a2 a3 r0 r1 r2 r3 h0 h1 h2 w
      · exact case185 a0 a1 a2 a3 r0 r1 r2 r3 h0 h1 h2 w
    · rcases (show (0 ≤ a2 ∧ a2 ≤ 9) ∨ (10 ≤ a2 ∧ a2 ≤ 99) ∨ (100 ≤ a2 ∧ a2 ≤ 127) ∨ (1 ≤ (-a2) ∧ (-a2) ≤ 9) ∨ (10 ≤ (-a2) ∧ (-a2) ≤ 99) ∨ (100 ≤ (-a2) ∧ (-a2) ≤ 128) by omega) with h2 | h2 | h2 | h2 | h2 | h2
      · exact case186 a0 a1 a2 a3 r0 r1 r2 r3 h0 h1 h2 w
      · exact case187 a0 a1 a2 a3 r0 r1 r2 r3 h0 h1 h2 w
      · exact case188 a0 a1 a2 a3 r0 r1 r2 r3 h0 h1 h2 w
      · exact case189 a0 a1 a2 a3 r0 r1 r2 r3 h0 h1 h2 w
      · exact case190 a0 a1 a2 a3 r0 r1 r2 r3 h0 h1 h2 w
      · exact case191 a0 a1 a2 a3 r0 r1 r2 r3 h0 h1 h2 w
    · rcases (show (0 ≤ a2 ∧ a2 ≤ 9) ∨ (10 ≤ a2 ∧ a2 ≤ 99) ∨ (100 ≤ a2 ∧ a2 ≤ 127) ∨ (1 ≤ (-a2) ∧ (-a2) ≤ 9) ∨ (10 ≤ (-a2) ∧ (-a2) ≤ 99) ∨ (100 ≤ (-a2) ∧ (-a2) ≤ 128) by omega) with h2 | h2 | h2 | h2 | h2 | h2
      · exact case192 a0 a1 a2 a3 r0 r1 r2 r3 h0 h1 h2 w
      · exact case193 a0 a1 a2 a3 r0 r1 r2 r3 h0 h1 h2 w
      · exact case194 a0 a1 a2 a3 r0 r1 r2 r3 h0 h1 h2 w
      · exact case195 a0 a1 a2 a3 r0 r1 r2 r3 h0 h1 h2 w
      · exact case196 a0 a1 a2 a3 r0 r1 r2 r3 h0 h1 h2 w
      · exact case197 a0 a1 a2 a3 r0 r1 r2 r3 h0 h1 h2 w
    · rcases (show (0 ≤ a2 ∧ a2 ≤ 9) ∨ (10 ≤ a2 ∧ a2 ≤ 99) ∨ (100 ≤ a2 ∧ a2 ≤ 127) ∨ (1 ≤ (-a2) ∧ (-a2) ≤ 9) ∨ (10 ≤ (-a2) ∧ (-a2) ≤ 99) ∨ (100 ≤ (-a2) ∧ (-a2) ≤ 128) by omega) with h2 | h2 | h2 | h2 | h2 | h2
      · exact case198 a0 a1 a2 a3 r0 r1 r2 r3 h0 h1 h2 w
      · exact case199 a0 a1 a2 a3 r0 r1 r2 r3 h0 h1 h2 w
      · exact case200 a0 a1 a2 a3 r0 r1 r2 r3 h0 h1 h2 w
      · exact case201 a0 a1 a2 a3 r0 r1 r2 r3 h0 h1 h2 w
      · exact case202 a0 a1 a2 a3 r0 r1 r2 r3 h0 h1 h2 w
      · exact case203 a0 a1 a2 a3 r0 r1 r2 r3 h0 h1 h2 w
    · rcases (show (0 ≤ a2 ∧ a2 ≤ 9) ∨ (10 ≤ a2 ∧ a2 ≤ 99) ∨ (100 ≤ a2 ∧ a2 ≤ 127) ∨ (1 ≤ (-a2) ∧ (-a2) ≤ 9) ∨ (10 ≤ (-a2) ∧ (-a2) ≤ 99) ∨ (100 ≤ (-a2) ∧ (-a2) ≤ 128) by omega) with h2 | h2 | h2 | h2 | h2 | h2
      · exact case204 a0 a1 a2 a3 r0 r1 r2 r3 h0 h1 h2 w
      · exact case205 a0 a1 a2 a3 r0 r1 r2 r3 h0 h1 h2 w
      · exact case206 a0 a1 a2 a3 r0 r1 r2 r3 h0 h1 h2 w
      · exact case207 a0 a1 a2 a3 r0 r1 r2 r3 h0 h1 h2 w
      · exact case208 a0 a1 a2 a3 r0 r1 r2 r3 h0 h1 h2 w
      · exact case209 a0 a1 a2 a3 r0 r1 r2 r3 h0 h1 h2 w
    · rcases (show (0 ≤ a2 ∧ a2 ≤ 9) ∨ (10 ≤ a2 ∧ a2 ≤ 99) ∨ (100 ≤ a2 ∧ a2 ≤ 127) ∨ (1 ≤ (-a2) ∧ (-a2) ≤ 9) ∨ (10 ≤ (-a2) ∧ (-a2) ≤ 99) ∨ (100 ≤ (-a2) ∧ (-a2) ≤ 128) by omega) with h2 | h2 | h2 | h2 | h2 | h2
      · exact case210 a0 a1 a2 a3 r0 r1 r2 r3 h0 h1 h2 w
      · exact case211 a0 a1 a2 a3 r0 r1 r2 r3 h0 h1 h2 w
      · exact case212 a0 a1 a2 a3 r0 r1 r2 r3 h0 h1 h2 w
      · exact case213 a0 a1 a2 a3 r0 r1 r2 r3 h0 h1 h2 w
      · exact case214 a0 a1 a2 a3 r0 r1 r2 r3 h0 h1 h2 w
      · exact case215 a0 a1 a2 a3 r0 r1 r2 r3 h0 h1 h2 w

/-! ### THE ROW's STEP: WRITTEN OUT: LEAVE IT -/
set_option maxRecDepth 100000 in
theorem lifted (os : Os) (started : os.Started) (H : Type) (enc : TypeId × Value → H) :
    ReturnsInHanded {} Tryz.checked os 6 .any (Rows.guardExactSpec.pre6 enc Tryz.prog Tryz.f6 Rows.guardExactRow.domain false) (Rows.guardExactSpec.post enc Tryz.prog Tryz.f6 false true false false) := by
  refine returnsInHanded_of_change (C := Tryz.checked) own started (by kernel_rfl) Tryz.func6
    (ChangeSpec.witness6 (enc := enc) (C := Tryz.checked) false ⟨#[], #[.int .i8 0, .int .i8 0, .int .i8 0, .int .u8 0], []⟩ 8 (by kernel_rfl) (by kernel_rfl) (by kernel_rfl) (by kernel_rfl)) ?_
  intro W base args ds gs before hval0 hW hcnd _
  have hval : ∀ (j : Nat) t v, Tryz.f6.params[j]? = some t → args[j]? = some v → Value.okWide Tryz.prog W .any base t v := hval0
  have hW' := hW
  obtain ⟨p, q, hA0, hV, rfl, hfz, hnd⟩ := hW
  have hA : DataW.TrodAll enc Tryz.prog W 0 (fun _ => true) true Tryz.f6.params.toList args.toList ds p := hA0
  rw [Tryz.params6] at hA hval
  obtain ⟨v0, vs0, d0, ds0, p0, q0, hargs, rfl, rfl, h0, r0⟩ := trodAll_cons hA
  obtain ⟨v1, vs1, d1, ds1, p1, q1, rfl, rfl, rfl, h1, r1⟩ := trodAll_cons r0
  obtain ⟨v2, vs2, d2, ds2, p2, q2, rfl, rfl, rfl, h2, r2⟩ := trodAll_cons r1
  obtain ⟨v3, vs3, d3, ds3, p3, q3, rfl, rfl, rfl, h3, r3⟩ := trodAll_cons r2
  obtain ⟨rfl, rfl, rfl⟩ := trodAll_nil r3
  obtain rfl : args = #[v0, v1, v2, v3] := by cases args; simp_all
  obtain ⟨rfl, rfl⟩ := trodVars_none hV
  obtain ⟨a0, rfl, rfl, rfl, w0⟩ := open_int Tryz.underlying56 (hval 0 56 v0 rfl rfl) h0
  obtain ⟨a1, rfl, rfl, rfl, w1⟩ := open_int Tryz.underlying56 (hval 1 56 v1 rfl rfl) h1
  obtain ⟨a2, rfl, rfl, rfl, w2⟩ := open_int Tryz.underlying56 (hval 2 56 v2 rfl rfl) h2
  obtain ⟨a3, rfl, rfl, rfl, w3⟩ := open_int Tryz.underlying5 (hval 3 5 v3 rfl rfl) h3
  clear hA0 hval0
  simp only [List.append_nil] at hW'
  refine (walk a0 a1 a2 a3 w0 w1 w2 w3 W).mono fun e W' ⟨he, hg⟩ => ?_
  subst he
  exact ⟨_, rfl, post_of_same (pa := []) (pv := []) hW' (fun _ _ _ => (trodAll_cons_mk (shut_bool Tryz.underlying4 _) trodAll_mk0)) (fun sp _ => (trodAll_cons_mk (shut_int Tryz.underlying56 w0) (trodAll_cons_mk (shut_int Tryz.underlying56 w1) (trodAll_cons_mk (shut_int Tryz.underlying56 w2) (trodAll_cons_mk (shut_int Tryz.underlying5 w3) trodAll_mk0))))) (fun _ _ => rfl) rfl
    (hg.frame _) hg.2.1 (ok_one (by kernel_rfl) rfl (okWide_bool_mk Tryz.underlying4 _))⟩

theorem over : Rows.guardExactRow.holds Tryz.pinned (OpenSpec.ofChange Rows.guardExactSpec) :=
  OpenClaim.holds_of_wide 6 Tryz.f6 rfl rfl rfl rfl rfl rfl rfl ⟨rfl, rfl, rfl, rfl, rfl⟩ rfl rfl rfl rfl rfl (by kernel_rfl) Tryz.func6 (by kernel_rfl)
    (of_decide_eq_true (by kernel_rfl)) (by unfold Func.isWrapper; first | (rw [if_pos (by decide +kernel)]; kernel_rfl) | (rw [if_neg (by decide +kernel)]; exact ⟨rfl, rfl⟩))
    (fun os started H enc _ => lifted os started H enc)

/-- ████ THE STATEMENT ████ -/
theorem proved : Rows.GuardExactSaid :=
  over
#print axioms proved
end Go.Proofs.YtieolffpgjcnbaaGreat.guardExact
