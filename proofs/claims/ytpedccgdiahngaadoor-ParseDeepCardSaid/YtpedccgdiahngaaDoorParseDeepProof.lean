/- ParseDeep answers true at all inputs, and leaves them as they were: the tied card. No condition but the card's own: the listed variables read as the program's text lays them. -/
import Derived.Test.YtpedccgdiahngaaDoorRows
import Derived.Test.YtpedccgdiahngaaDoorCards
import Derived.Test.YtpedccgdiahngaaDoorTie
import Derived.Test.YtpedccgdiahngaaDoorParseDeepR0
import Derived.Test.YtpedccgdiahngaaDoorParseDeepR1
import Derived.Test.YtpedccgdiahngaaDoorParseDeepR2
import Derived.Test.YtpedccgdiahngaaDoorParseDeepR3
import Derived.Test.YtpedccgdiahngaaDoorParseDeepR4
import Derived.Test.YtpedccgdiahngaaDoorParseDeepR5
import Derived.Test.YtpedccgdiahngaaDoorParseDeepR6
import Derived.Test.YtpedccgdiahngaaDoorParseDeepR7
import Derived.Test.YtpedccgdiahngaaDoorParseDeepR8
import Derived.Test.YtpedccgdiahngaaDoorParseDeepR9
import Derived.Test.YtpedccgdiahngaaDoorParseDeepR10
import Derived.Test.YtpedccgdiahngaaDoorParseDeepR11
import Derived.Test.YtpedccgdiahngaaDoorParseDeepR12
import Derived.Test.YtpedccgdiahngaaDoorParseDeepR13
import Derived.Test.YtpedccgdiahngaaDoorParseDeepR14
import Derived.Test.YtpedccgdiahngaaDoorParseDeepR15
import Derived.Test.YtpedccgdiahngaaDoorParseDeepR16
import Derived.Test.YtpedccgdiahngaaDoorParseDeepR17
import Derived.Test.YtpedccgdiahngaaDoorParseDeepR18
import Derived.Test.YtpedccgdiahngaaDoorParseDeepR19
import Derived.Test.YtpedccgdiahngaaDoorParseDeepR20
import Derived.Test.YtpedccgdiahngaaDoorParseDeepR21
import Derived.Test.YtpedccgdiahngaaDoorParseDeepR22
import Derived.Test.YtpedccgdiahngaaDoorParseDeepR23
import Derived.Test.YtpedccgdiahngaaDoorParseDeepR24
import Derived.Test.YtpedccgdiahngaaDoorParseDeepR25
import Derived.Test.YtpedccgdiahngaaDoorParseDeepR26
import Derived.Test.YtpedccgdiahngaaDoorParseDeepR27
import Derived.Test.YtpedccgdiahngaaDoorParseDeepR28
import Derived.Test.YtpedccgdiahngaaDoorParseDeepR29
import Derived.Test.YtpedccgdiahngaaDoorParseDeepR30
import Derived.Test.YtpedccgdiahngaaDoorParseDeepR31
import Derived.Test.YtpedccgdiahngaaDoorParseDeepR32
import Derived.Test.YtpedccgdiahngaaDoorParseDeepR33
import Derived.WalkKit
import Derived.ProofKit
import Derived.LaidMore
import Derived.OpenShut
import Derived.Stop.Joined
import Derived.Stop.LaidErr
import Derived.LaidHandle
import Derived.LaidLaws
import Derived.LaidSub
import Derived.SevenTiedAt
namespace Go.Proofs.YtpedccgdiahngaaDoor.parseDeep
open Go.Sx Go.ChangeShapes Go.WideShapes Go.ChangeAt Go.RowKit
set_option linter.unusedVariables false
set_option linter.unusedSimpArgs false

theorem own : ownKnob Tryd.prog.godebug = none := by kernel_rfl

/-- The door's own heap meets the condition. -/
theorem door_met (os : Os) (args : Array Value) : laidMetH Tryd.prog Rows.parseDeepRow.laid ((World.doorLaid Tryd.prog 400 os).forCall (fun _ _ => 0) ⟨#[], args, []⟩).memory :=
  laidMetH_of_parts3 (fuel := 8) (laidMet_of_run' 8 (by kernel_rfl) (by kernel_rfl)) (by kernel_rfl) (by kernel_rfl)

/-! ### The walk: by the runs of the kernel. -/
theorem walk (a0 : Int) (a1 : Int) (w0 : (Lit.int .u8 a0).wf = true) (w1 : (Lit.int .u8 a1).wf = true) (w : World) (hin : ∀ ρ, GlobIn ρ kd.gl w) :
    Calls Tryd.prog 3 #[.int .u8 a0, .int .u8 a1] w fun e w' => e = .returned (.bool true) ∧ Grown w w' := by
  have r0 : (0 ≤ a0 ∧ a0 ≤ 255) := by simpa [Lit.wf, IntKind.min, IntKind.max, IntKind.signed, IntKind.bits] using w0
  have r1 : (0 ≤ a1 ∧ a1 ≤ 255) := by simpa [Lit.wf, IntKind.min, IntKind.max, IntKind.signed, IntKind.bits] using w1
  rcases (show (a0 % 45 = 0) ∨ (a0 % 45 = 1) ∨ (a0 % 45 = 2) ∨ (a0 % 45 = 3) ∨ (a0 % 45 = 4) ∨ (a0 % 45 = 5) ∨ (a0 % 45 = 6) ∨ (a0 % 45 = 7) ∨ (a0 % 45 = 8) ∨ (a0 % 45 = 9) ∨ (a0 % 45 = 10) ∨ (a0 % 45 = 11) ∨ (a0 % 45 = 12) ∨ (a0 % 45 = 13) ∨ (a0 % 45 = 14) ∨ (a0 % 45 = 15) ∨ (a0 % 45 = 16) ∨ (a0 % 45 = 17) ∨ (a0 % 45 = 18) ∨ (a0 % 45 = 19) ∨ (a0 % 45 = 20) ∨ (a0 % 45 = 21) ∨ (a0 % 45 = 22) ∨ (a0 % 45 = 23) ∨ (a0 % 45 = 24) ∨ (a0 % 45 = 25) ∨ (a0 % 45 = 26) ∨ (a0 % 45 = 27) ∨ (a0 % 45 = 28) ∨ (a0 % 45 = 29) ∨ (a0 % 45 = 30) ∨ (a0 % 45 = 31) ∨ (a0 % 45 = 32) ∨ (a0 % 45 = 33) ∨ (a0 % 45 = 34) ∨ (a0 % 45 = 35) ∨ (a0 % 45 = 36) ∨ (a0 % 45 = 37) ∨ (a0 % 45 = 38) ∨ (a0 % 45 = 39) ∨ (a0 % 45 = 40) ∨ (a0 % 45 = 41) ∨ (a0 % 45 = 42) ∨ (a0 % 45 = 43) ∨ (a0 % 45 = 44) by omega) with h0 | h0 | h0 | h0 | h0 | h0 | h0 | h0 | h0 | h0 | h0 | h0 | h0 | h0 | h0 | h0 | h0 | h0 | h0 | h0 | h0 | h0 | h0 | h0 | h0 | h0 | h0 | h0 | h0 | h0 | h0 | h0 | h0 | h0 | h0 | h0 | h0 | h0 | h0 | h0 | h0 | h0 | h0 | h0 | h0
  · rcases (show (a1 % 6 = 0) ∨ (a1 % 6 = 1) ∨ (a1 % 6 = 2) ∨ (a1 % 6 = 3) ∨ (a1 % 6 = 4) ∨ (a1 % 6 = 5) by omega) with h1 | h1 | h1 | h1 | h1 | h1
    · exact case0 a0 a1 r0 r1 h0 h1 w hin
    · exact case1 a0 a1 r0 r1 h0 h1 w hin
    · exact case2 a0 a1 r0 r1 h0 h1 w hin
    · exact case3 a0 a1 r0 r1 h0 h1 w hin
    · exact case4 a0 a1 r0 r1 h0 h1 w hin
    · exact case5 a0 a1 r0 r1 h0 h1 w hin
  · rcases (show (a1 % 6 = 0) ∨ (a1 % 6 = 1) ∨ (a1 % 6 = 2) ∨ (a1 % 6 = 3) ∨ (a1 % 6 = 4) ∨ (a1 % 6 = 5) by omega) with h1 | h1 | h1 | h1 | h1 | h1
    · exact case6 a0 a1 r0 r1 h0 h1 w hin
    · exact case7 a0 a1 r0 r1 h0 h1 w hin
    · exact case8 a0 a1 r0 r1 h0 h1 w hin
    · exact case9 a0 a1 r0 r1 h0 h1 w hin
    · exact case10 a0 a1 r0 r1 h0 h1 w hin
    · exact case11 a0 a1 r0 r1 h0 h1 w hin
  · rcases (show (a1 % 6 = 0) ∨ (a1 % 6 = 1) ∨ (a1 % 6 = 2) ∨ (a1 % 6 = 3) ∨ (a1 % 6 = 4) ∨ (a1 % 6 = 5) by omega) with h1 | h1 | h1 | h1 | h1 | h1
    · exact case12 a0 a1 r0 r1 h0 h1 w hin
    · exact case13 a0 a1 r0 r1 h0 h1 w hin
    · exact case14 a0 a1 r0 r1 h0 h1 w hin
    · exact case15 a0 a1 r0 r1 h0 h1 w hin
    · exact case16 a0 a1 r0 r1 h0 h1 w hin
    · exact case17 a0 a1 r0 r1 h0 h1 w hin
  · rcases (show (a1 % 6 = 0) ∨ (a1 % 6 = 1) ∨ (a1 % 6 = 2) ∨ (a1 % 6 = 3) ∨ (a1 % 6 = 4) ∨ (a1 % 6 = 5) by omega) with h1 | h1 | h1 | h1 | h1 | h1
    · exact case18 a0 a1 r0 r1 h0 h1 w hin
    · exact case19 a0 a1 r0 r1 h0 h1 w hin
    · exact case20 a0 a1 r0 r1 h0 h1 w hin
    · exact case21 a0 a1 r0 r1 h0 h1 w hin
    · exact case22 a0 a1 r0 r1 h0 h1 w hin
    · exact case23 a0 a1 r0 r1 h0 h1 w hin
  · rcases (show (a1 % 6 = 0) ∨ (a1 % 6 = 1) ∨ (a1 % 6 = 2) ∨ (a1 % 6 = 3) ∨ (a1 % 6 = 4) ∨ (a1 % 6 = 5) by omega) with h1 | h1 | h1 | h1 | h1 | h1
    · exact case24 a0 a1 r0 r1 h0 h1 w hin
    · exact case25 a0 a1 r0 r1 h0 h1 w hin
    · exact case26 a0 a1 r0 r1 h0 h1 w hin
    · exact case27 a0 a1 r0 r1 h0 h1 w hin
    · exact case28 a0 a1 r0 r1 h0 h1 w hin
    · exact case29 a0 a1 r0 r1 h0 h1 w hin
  · rcases (show (a1 % 6 = 0) ∨ (a1 % 6 = 1) ∨ (a1 % 6 = 2) ∨ (a1 % 6 = 3) ∨ (a1 % 6 = 4) ∨ (a1 % 6 = 5) by omega) with h1 | h1 | h1 | h1 | h1 | h1
    · exact case30 a0 a1 r0 r1 h0 h1 w hin
    · exact case31 a0 a1 r0 r1 h0 h1 w hin
    · exact case32 a0 a1 r0 r1 h0 h1 w hin
    · exact case33 a0 a1 r0 r1 h0 h1 w hin
    · exact case34 a0 a1 r0 r1 h0 h1 w hin
    · exact case35 a0 a1 r0 r1 h0 h1 w hin
  · rcases (show (a1 % 6 = 0) ∨ (a1 % 6 = 1) ∨ (a1 % 6 = 2) ∨ (a1 % 6 = 3) ∨ (a1 % 6 = 4) ∨ (a1 % 6 = 5) by omega) with h1 | h1 | h1 | h1 | h1 | h1
    · exact case36 a0 a1 r0 r1 h0 h1 w hin
    · exact case37 a0 a1 r0 r1 h0 h1 w hin
    · exact case38 a0 a1 r0 r1 h0 h1 w hin
    · exact case39 a0 a1 r0 r1 h0 h1 w hin
    · exact case40 a0 a1 r0 r1 h0 h1 w hin
    · exact case41 a0 a1 r0 r1 h0 h1 w hin
  · rcases (show (a1 % 6 = 0) ∨ (a1 % 6 = 1) ∨ (a1 % 6 = 2) ∨ (a1 % 6 = 3) ∨ (a1 % 6 = 4) ∨ (a1 % 6 = 5) by omega) with h1 | h1 | h1 | h1 | h1 | h1
    · exact case42 a0 a1 r0 r1 h0 h1 w hin
    · exact case43 a0 a1 r0 r1 h0 h1 w hin
    · exact case44 a0 a1 r0 r1 h0 h1 w hin
    · exact case45 a0 a1 r0 r1 h0 h1 w hin
    · exact case46 a0 a1 r0 r1 h0 h1 w hin
    · exact case47 a0 a1 r0 r1 h0 h1 w hin
  · rcases (show (a1 % 6 = 0) ∨ (a1 % 6 = 1) ∨ (a1 % 6 = 2) ∨ (a1 % 6 = 3) ∨ (a1 % 6 = 4) ∨ (a1 % 6 = 5) by omega) with h1 | h1 | h1 | h1 | h1 | h1
    · exact case48 a0 a1 r0 r1 h0 h1 w hin
    · exact case49 a0 a1 r0 r1 h0 h1 w hin
    · exact case50 a0 a1 r0 r1 h0 h1 w hin
    · exact case51 a0 a1 r0 r1 h0 h1 w hin
    · exact case52 a0 a1 r0 r1 h0 h1 w hin
    · exact case53 a0 a1 r0 r1 h0 h1 w hin
  · rcases (show (a1 % 6 = 0) ∨ (a1 % 6 = 1) ∨ (a1 % 6 = 2) ∨ (a1 % 6 = 3) ∨ (a1 % 6 = 4) ∨ (a1 % 6 = 5) by omega) with h1 | h1 | h1 | h1 | h1 | h1
    · exact case54 a0 a1 r0 r1 h0 h1 w hin
    · exact case55 a0 a1 r0 r1 h0 h1 w hin
    · exact case56 a0 a1 r0 r1 h0 h1 w hin
    · exact case57 a0 a1 r0 r1 h0 h1 w hin
    · exact case58 a0 a1 r0 r1 h0 h1 w hin
    · exact case59 a0 a1 r0 r1 h0 h1 w hin
  · rcases (show (a1 % 6 = 0) ∨ (a1 % 6 = 1) ∨ (a1 % 6 = 2) ∨ (a1 % 6 = 3) ∨ (a1 % 6 = 4) ∨ (a1 % 6 = 5) by omega) with h1 | h1 | h1 | h1 | h1 | h1
    · exact case60 a0 a1 r0 r1 h0 h1 w hin
    · exact case61 a0 a1 r0 r1 h0 h1 w hin
    · exact case62 a0 a1 r0 r1 h0 h1 w hin
    · exact case63 a0 a1 r0 r1 h0 h1 w hin
    · exact case64 a0 a1 r0 r1 h0 h1 w hin
    · exact case65 a0 a1 r0 r1 h0 h1 w hin
  · rcases (show (a1 % 6 = 0) ∨ (a1 % 6 = 1) ∨ (a1 % 6 = 2) ∨ (a1 % 6 = 3) ∨ (a1 % 6 = 4) ∨ (a1 % 6 = 5) by omega) with h1 | h1 | h1 | h1 | h1 | h1
    · exact case66 a0 a1 r0 r1 h0 h1 w hin
    · exact case67 a0 a1 r0 r1 h0 h1 w hin
    · exact case68 a0 a1 r0 r1 h0 h1 w hin
    · exact case69 a0 a1 r0 r1 h0 h1 w hin
    · exact case70 a0 a1 r0 r1 h0 h1 w hin
    · exact case71 a0 a1 r0 r1 h0 h1 w hin
  · rcases (show (a1 % 6 = 0) ∨ (a1 % 6 = 1) ∨ (a1 % 6 = 2) ∨ (a1 % 6 = 3) ∨ (a1 % 6 = 4) ∨ (a1 % 6 = 5) by omega) with h1 | h1 | h1 | h1 | h1 | h1
    · exact case72 a0 a1 r0 r1 h0 h1 w hin
    · exact case73 a0 a1 r0 r1 h0 h1 w hin
    · exact case74 a0 a1 r0 r1 h0 h1 w hin
    · exact case75 a0 a1 r0 r1 h0 h1 w hin
    · exact case76 a0 a1 r0 r1 h0 h1 w hin
    · exact case77 a0 a1 r0 r1 h0 h1 w hin
  · rcases (show (a1 % 6 = 0) ∨ (a1 % 6 = 1) ∨ (a1 % 6 = 2) ∨ (a1 % 6 = 3) ∨ (a1 % 6 = 4) ∨ (a1 % 6 = 5) by omega) with h1 | h1 | h1 | h1 | h1 | h1
    · exact case78 a0 a1 r0 r1 h0 h1 w hin
    · exact case79 a0 a1 r0 r1 h0 h1 w hin
    · exact case80 a0 a1 r0 r1 h0 h1 w hin
    · exact case81 a0 a1 r0 r1 h0 h1 w hin
    · exact case82 a0 a1 r0 r1 h0 h1 w hin
    · exact case83 a0 a1 r0 r1 h0 h1 w hin
  · rcases (show (a1 % 6 = 0) ∨ (a1 % 6 = 1) ∨ (a1 % 6 = 2) ∨ (a1 % 6 = 3) ∨ (a1 % 6 = 4) ∨ (a1 % 6 = 5) by omega) with h1 | h1 | h1 | h1 | h1 | h1
    · exact case84 a0 a1 r0 r1 h0 h1 w hin
    · exact case85 a0 a1 r0 r1 h0 h1 w hin
    · exact case86 a0 a1 r0 r1 h0 h1 w hin
    · exact case87 a0 a1 r0 r1 h0 h1 w hin
    · exact case88 a0 a1 r0 r1 h0 h1 w hin
    · exact case89 a0 a1 r0 r1 h0 h1 w hin
  · rcases (show (a1 % 6 = 0) ∨ (a1 % 6 = 1) ∨ (a1 % 6 = 2) ∨ (a1 % 6 = 3) ∨ (a1 % 6 = 4) ∨ (a1 % 6 = 5) by omega) with h1 | h1 | h1 | h1 | h1 | h1
    · exact case90 a0 a1 r0 r1 h0 h1 w hin
    · exact case91 a0 a1 r0 r1 h0 h1 w hin
    · exact case92 a0 a1 r0 r1 h0 h1 w hin
    · exact case93 a0 a1 r0 r1 h0 h1 w hin
    · exact case94 a0 a1 r0 r1 h0 h1 w hin
    · exact case95 a0 a1 r0 r1 h0 h1 w hin
  · rcases (show (a1 % 6 = 0) ∨ (a1 % 6 = 1) ∨ (a1 % 6 = 2) ∨ (a1 % 6 = 3) ∨ (a1 % 6 = 4) ∨ (a1 % 6 = 5) by omega) with h1 | h1 | h1 | h1 | h1 | h1
    · exact case96 a0 a1 r0 r1 h0 h1 w hin
    · exact case97 a0 a1 r0 r1 h0 h1 w hin
    · exact case98 a0 a1 r0 r1 h0 h1 w hin
    · exact case99 a0 a1 r0 r1 h0 h1 w hin
    · exact case100 a0 a1 r0 r1 h0 h1 w hin
    · exact case101 a0 a1 r0 r1 h0 h1 w hin
  · rcases (show (a1 % 6 = 0) ∨ (a1 % 6 = 1) ∨ (a1 % 6 = 2) ∨ (a1 % 6 = 3) ∨ (a1 % 6 = 4) ∨ (a1 % 6 = 5) by omega) with h1 | h1 | h1 | h1 | h1 | h1
    · exact case102 a0 a1 r0 r1 h0 h1 w hin
    · exact case103 a0 a1 r0 r1 h0 h1 w hin
    · exact case104 a0 a1 r0 r1 h0 h1 w hin
    · exact case105 a0 a1 r0 r1 h0 h1 w hin
    · exact case106 a0 a1 r0 r1 h0 h1 w hin
    · exact case107 a0 a1 r0 r1 h0 h1 w hin
  · rcases (show (a1 % 6 = 0) ∨ (a1 % 6 = 1) ∨ (a1 % 6 = 2) ∨ (a1 % 6 = 3) ∨ (a1 % 6 = 4) ∨ (a1 % 6 = 5) by omega) with h1 | h1 | h1 | h1 | h1 | h1
    · exact case108 a0 a1 r0 r1 h0 h1 w hin
    · exact case109 a0 a1 r0 r1 h0 h1 w hin
    · exact case110 a0 a1 r0 r1 h0 h1 w hin
    · exact case111 a0 a1 r0 r1 h0 h1 w hin
    · exact case112 a0 a1 r0 r1 h0 h1 w hin
    · exact case113 a0 a1 r0 r1 h0 h1 w hin
  · rcases (show (a1 % 6 = 0) ∨ (a1 % 6 = 1) ∨ (a1 % 6 = 2) ∨ (a1 % 6 = 3) ∨ (a1 % 6 = 4) ∨ (a1 % 6 = 5) by omega) with h1 | h1 | h1 | h1 | h1 | h1
    · exact case114 a0 a1 r0 r1 h0 h1 w hin
    · exact case115 a0 a1 r0 r1 h0 h1 w hin
    · exact case116 a0 a1 r0 r1 h0 h1 w hin
    · exact case117 a0 a1 r0 r1 h0 h1 w hin
    · exact case118 a0 a1 r0 r1 h0 h1 w hin
    · exact case119 a0 a1 r0 r1 h0 h1 w hin
  · rcases (show (a1 % 6 = 0) ∨ (a1 % 6 = 1) ∨ (a1 % 6 = 2) ∨ (a1 % 6 = 3) ∨ (a1 % 6 = 4) ∨ (a1 % 6 = 5) by omega) with h1 | h1 | h1 | h1 | h1 | h1
    · exact case120 a0 a1 r0 r1 h0 h1 w hin
    · exact case121 a0 a1 r0 r1 h0 h1 w hin
    · exact case122 a0 a1 r0 r1 h0 h1 w hin
    · exact case123 a0 a1 r0 r1 h0 h1 w hin
    · exact case124 a0 a1 r0 r1 h0 h1 w hin
    · exact case125 a0 a1 r0 r1 h0 h1 w hin
  · rcases (show (a1 % 6 = 0) ∨ (a1 % 6 = 1) ∨ (a1 % 6 = 2) ∨ (a1 % 6 = 3) ∨ (a1 % 6 = 4) ∨ (a1 % 6 = 5) by omega) with h1 | h1 | h1 | h1 | h1 | h1
    · exact case126 a0 a1 r0 r1 h0 h1 w hin
    · exact case127 a0 a1 r0 r1 h0 h1 w hin
    · exact case128 a0 a1 r0 r1 h0 h1 w hin
    · exact case129 a0 a1 r0 r1 h0 h1 w hin
    · exact case130 a0 a1 r0 r1 h0 h1 w hin
    · exact case131 a0 a1 r0 r1 h0 h1 w hin
  · rcases (show (a1 % 6 = 0) ∨ (a1 % 6 = 1) ∨ (a1 % 6 = 2) ∨ (a1 % 6 = 3) ∨ (a1 % 6 = 4) ∨ (a1 % 6 = 5) by omega) with h1 | h1 | h1 | h1 | h1 | h1
    · exact case132 a0 a1 r0 r1 h0 h1 w hin
    · exact case133 a0 a1 r0 r1 h0 h1 w hin
    · exact case134 a0 a1 r0 r1 h0 h1 w hin
    · exact case135 a0 a1 r0 r1 h0 h1 w hin
    · exact case136 a0 a1 r0 r1 h0 h1 w hin
    · exact case137 a0 a1 r0 r1 h0 h1 w hin
  · rcases (show (a1 % 6 = 0) ∨ (a1 % 6 = 1) ∨ (a1 % 6 = 2) ∨ (a1 % 6 = 3) ∨ (a1 % 6 = 4) ∨ (a1 % 6 = 5) by omega) with h1 | h1 | h1 | h1 | h1 | h1
    · exact case138 a0 a1 r0 r1 h0 h1 w hin
    · exact case139 a0 a1 r0 r1 h0 h1 w hin
    · exact case140 a0 a1 r0 r1 h0 h1 w hin
    · exact case141 a0 a1 r0 r1 h0 h1 w hin
    · exact case142 a0 a1 r0 r1 h0 h1 w hin
    · exact case143 a0 a1 r0 r1 h0 h1 w hin
  · rcases (show (a1 % 6 = 0) ∨ (a1 % 6 = 1) ∨ (a1 % 6 = 2) ∨ (a1 % 6 = 3) ∨ (a1 % 6 = 4) ∨ (a1 % 6 = 5) by omega) with h1 | h1 | h1 | h1 | h1 | h1
    · exact case144 a0 a1 r0 r1 h0 h1 w hin
    · exact case145 a0 a1 r0 r1 h0 h1 w hin
    · exact case146 a0 a1 r0 r1 h0 h1 w hin
    · exact case147 a0 a1 r0 r1 h0 h1 w hin
    · exact case148 a0 a1 r0 r1 h0 h1 w hin
    · exact case149 a0 a1 r0 r1 h0 h1 w hin
  · rcases (show (a1 % 6 = 0) ∨ (a1 % 6 = 1) ∨ (a1 % 6 = 2) ∨ (a1 % 6 = 3) ∨ (a1 % 6 = 4) ∨ (a1 % 6 = 5) by omega) with h1 | h1 | h1 | h1 | h1 | h1
    · exact case150 a0 a1 r0 r1 h0 h1 w hin
    · exact case151 a0 a1 r0 r1 h0 h1 w hin
    · exact case152 a0 a1 r0 r1 h0 h1 w hin
    · exact case153 a0 a1 r0 r1 h0 h1 w hin
    · exact case154 a0 a1 r0 r1 h0 h1 w hin
    · exact case155 a0 a1 r0 r1 h0 h1 w hin
  · rcases (show (a1 % 6 = 0) ∨ (a1 % 6 = 1) ∨ (a1 % 6 = 2) ∨ (a1 % 6 = 3) ∨ (a1 % 6 = 4) ∨ (a1 % 6 = 5) by omega) with h1 | h1 | h1 | h1 | h1 | h1
    · exact case156 a0 a1 r0 r1 h0 h1 w hin
    · exact case157 a0 a1 r0 r1 h0 h1 w hin
    · exact case158 a0 a1 r0 r1 h0 h1 w hin
    · exact case159 a0 a1 r0 r1 h0 h1 w hin
    · exact case160 a0 a1 r0 r1 h0 h1 w hin
    · exact case161 a0 a1 r0 r1 h0 h1 w hin
  · rcases (show (a1 % 6 = 0) ∨ (a1 % 6 = 1) ∨ (a1 % 6 = 2) ∨ (a1 % 6 = 3) ∨ (a1 % 6 = 4) ∨ (a1 % 6 = 5) by omega) with h1 | h1 | h1 | h1 | h1 | h1
    · exact case162 a0 a1 r0 r1 h0 h1 w hin
    · exact case163 a0 a1 r0 r1 h0 h1 w hin
    · exact case164 a0 a1 r0 r1 h0 h1 w hin
    · exact case165 a0 a1 r0 r1 h0 h1 w hin
    · exact case166 a0 a1 r0 r1 h0 h1 w hin
    · exact case167 a0 a1 r0 r1 h0 h1 w hin
  · rcases (show (a1 % 6 = 0) ∨ (a1 % 6 = 1) ∨ (a1 % 6 = 2) ∨ (a1 % 6 = 3) ∨ (a1 % 6 = 4) ∨ (a1 % 6 = 5) by omega) with h1 | h1 | h1 | h1 | h1 | h1
    · exact case168 a0 a1 r0 r1 h0 h1 w hin
    · exact case169 a0 a1 r0 r1 h0 h1 w hin
    · exact case170 a0 a1 r0 r1 h0 h1 w hin
    · exact case171 a0 a1 r0 r1 h0 h1 w hin
    · exact case172 a0 a1 r0 r1 h0 h1 w hin
    · exact case173 a0 a1 r0 r1 h0 h1 w hin
  · rcases (show (a1 % 6 = 0) ∨ (a1 % 6 = 1) ∨ (a1 % 6 = 2) ∨ (a1 % 6 = 3) ∨ (a1 % 6 = 4) ∨ (a1 % 6 = 5) by omega) with h1 | h1 | h1 | h1 | h1 | h1
    · exact case174 a0 a1 r0 r1 h0 h1 w hin
    · exact case175 a0 a1 r0 r1 h0 h1 w hin
    · exact case176 a0 a1 r0 r1 h0 h1 w hin
    · exact case177 a0 a1 r0 r1 h0 h1 w hin
    · exact case178 a0 a1 r0 r1 h0 h1 w hin
    · exact case179 a0 a1 r0 r1 h0 h1 w hin
  · rcases (show (a1 % 6 = 0) ∨ (a1 % 6 = 1) ∨ (a1 % 6 = 2) ∨ (a1 % 6 = 3) ∨ (a1 % 6 = 4) ∨ (a1 % 6 = 5) by omega) with h1 | h1 | h1 | h1 | h1 | h1
    · exact case180 a0 a1 r0 r1 h0 h1 w hin
    · exact case181 a0 a1 r0 r1 h0 h1 w hin
    · exact case182 a0 a1 r0 r1 h0 h1 w hin
    · exact case183 a0 a1 r0 r1 h0 h1 w hin
    · exact case184 a0 a1 r0 r1 h0 h1 w hin
    · exact case185 a0 a1 r0 r1 h0 h1 w hin
  · rcases (show (a1 % 6 = 0) ∨ (a1 % 6 = 1) ∨ (a1 % 6 = 2) ∨ (a1 % 6 = 3) ∨ (a1 % 6 = 4) ∨ (a1 % 6 = 5) by omega) with h1 | h1 | h1 | h1 | h1 | h1
    · exact case186 a0 a1 r0 r1 h0 h1 w hin
    · exact case187 a0 a1 r0 r1 h0 h1 w hin
    · exact case188 a0 a1 r0 r1 h0 h1 w hin
    · exact case189 a0 a1 r0 r1 h0 h1 w hin
    · exact case190 a0 a1 r0 r1 h0 h1 w hin
    · exact case191 a0 a1 r0 r1 h0 h1 w hin
  · rcases (show (a1 % 6 = 0) ∨ (a1 % 6 = 1) ∨ (a1 % 6 = 2) ∨ (a1 % 6 = 3) ∨ (a1 % 6 = 4) ∨ (a1 % 6 = 5) by omega) with h1 | h1 | h1 | h1 | h1 | h1
    · exact case192 a0 a1 r0 r1 h0 h1 w hin
    · exact case193 a0 a1 r0 r1 h0 h1 w hin
    · exact case194 a0 a1 r0 r1 h0 h1 w hin
    · exact case195 a0 a1 r0 r1 h0 h1 w hin
    · exact case196 a0 a1 r0 r1 h0 h1 w hin
    · exact case197 a0 a1 r0 r1 h0 h1 w hin
  · rcases (show (a1 % 6 = 0) ∨ (a1 % 6 = 1) ∨ (a1 % 6 = 2) ∨ (a1 % 6 = 3) ∨ (a1 % 6 = 4) ∨ (a1 % 6 = 5) by omega) with h1 | h1 | h1 | h1 | h1 | h1
    · exact case198 a0 a1 r0 r1 h0 h1 w hin
    · exact case199 a0 a1 r0 r1 h0 h1 w hin
    · exact case200 a0 a1 r0 r1 h0 h1 w hin
    · exact case201 a0 a1 r0 r1 h0 h1 w hin
    · exact case202 a0 a1 r0 r1 h0 h1 w hin
    · exact case203 a0 a1 r0 r1 h0 h1 w hin
  · rcases (show (a1 % 6 = 0) ∨ (a1 % 6 = 1) ∨ (a1 % 6 = 2) ∨ (a1 % 6 = 3) ∨ (a1 % 6 = 4) ∨ (a1 % 6 = 5) by omega) with h1 | h1 | h1 | h1 | h1 | h1
    · exact case204 a0 a1 r0 r1 h0 h1 w hin
    · exact case205 a0 a1 r0 r1 h0 h1 w hin
    · exact case206 a0 a1 r0 r1 h0 h1 w hin
    · exact case207 a0 a1 r0 r1 h0 h1 w hin
    · exact case208 a0 a1 r0 r1 h0 h1 w hin
    · exact case209 a0 a1 r0 r1 h0 h1 w hin
  · rcases (show (a1 % 6 = 0) ∨ (a1 % 6 = 1) ∨ (a1 % 6 = 2) ∨ (a1 % 6 = 3) ∨ (a1 % 6 = 4) ∨ (a1 % 6 = 5) by omega) with h1 | h1 | h1 | h1 | h1 | h1
    · exact case210 a0 a1 r0 r1 h0 h1 w hin
    · exact case211 a0 a1 r0 r1 h0 h1 w hin
    · exact case212 a0 a1 r0 r1 h0 h1 w hin
    · exact case213 a0 a1 r0 r1 h0 h1 w hin
    · exact case214 a0 a1 r0 r1 h0 h1 w hin
    · exact case215 a0 a1 r0 r1 h0 h1 w hin
  · rcases (show (a1 % 6 = 0) ∨ (a1 % 6 = 1) ∨ (a1 % 6 = 2) ∨ (a1 % 6 = 3) ∨ (a1 % 6 = 4) ∨ (a1 % 6 = 5) by omega) with h1 | h1 | h1 | h1 | h1 | h1
    · exact case216 a0 a1 r0 r1 h0 h1 w hin
    · exact case217 a0 a1 r0 r1 h0 h1 w hin
    · exact case218 a0 a1 r0 r1 h0 h1 w hin
    · exact case219 a0 a1 r0 r1 h0 h1 w hin
    · exact case220 a0 a1 r0 r1 h0 h1 w hin
    · exact case221 a0 a1 r0 r1 h0 h1 w hin
  · rcases (show (a1 % 6 = 0) ∨ (a1 % 6 = 1) ∨ (a1 % 6 = 2) ∨ (a1 % 6 = 3) ∨ (a1 % 6 = 4) ∨ (a1 % 6 = 5) by omega) with h1 | h1 | h1 | h1 | h1 | h1
    · exact case222 a0 a1 r0 r1 h0 h1 w hin
    · exact case223 a0 a1 r0 r1 h0 h1 w hin
    · exact case224 a0 a1 r0 r1 h0 h1 w hin
    · exact case225 a0 a1 r0 r1 h0 h1 w hin
    · exact case226 a0 a1 r0 r1 h0 h1 w hin
    · exact case227 a0 a1 r0 r1 h0 h1 w hin
  · rcases (show (a1 % 6 = 0) ∨ (a1 % 6 = 1) ∨ (a1 % 6 = 2) ∨ (a1 % 6 = 3) ∨ (a1 % 6 = 4) ∨ (a1 % 6 = 5) by omega) with h1 | h1 | h1 | h1 | h1 | h1
    · exact case228 a0 a1 r0 r1 h0 h1 w hin
    · exact case229 a0 a1 r0 r1 h0 h1 w hin
    · exact case230 a0 a1 r0 r1 h0 h1 w hin
    · exact case231 a0 a1 r0 r1 h0 h1 w hin
    · exact case232 a0 a1 r0 r1 h0 h1 w hin
    · exact case233 a0 a1 r0 r1 h0 h1 w hin
  · rcases (show (a1 % 6 = 0) ∨ (a1 % 6 = 1) ∨ (a1 % 6 = 2) ∨ (a1 % 6 = 3) ∨ (a1 % 6 = 4) ∨ (a1 % 6 = 5) by omega) with h1 | h1 | h1 | h1 | h1 | h1
    · exact case234 a0 a1 r0 r1 h0 h1 w hin
    · exact case235 a0 a1 r0 r1 h0 h1 w hin
    · exact case236 a0 a1 r0 r1 h0 h1 w hin
    · exact case237 a0 a1 r0 r1 h0 h1 w hin
    · exact case238 a0 a1 r0 r1 h0 h1 w hin
    · exact case239 a0 a1 r0 r1 h0 h1 w hin
  · rcases (show (a1 % 6 = 0) ∨ (a1 % 6 = 1) ∨ (a1 % 6 = 2) ∨ (a1 % 6 = 3) ∨ (a1 % 6 = 4) ∨ (a1 % 6 = 5) by omega) with h1 | h1 | h1 | h1 | h1 | h1
    · exact case240 a0 a1 r0 r1 h0 h1 w hin
    · exact case241 a0 a1 r0 r1 h0 h1 w hin
    · exact case242 a0 a1 r0 r1 h0 h1 w hin
    · exact case243 a0 a1 r0 r1 h0 h1 w hin
    · exact case244 a0 a1 r0 r1 h0 h1 w hin
    · exact case245 a0 a1 r0 r1 h0 h1 w hin
  · rcases (show (a1 % 6 = 0) ∨ (a1 % 6 = 1) ∨ (a1 % 6 = 2) ∨ (a1 % 6 = 3) ∨ (a1 % 6 = 4) ∨ (a1 % 6 = 5) by omega) with h1 | h1 | h1 | h1 | h1 | h1
    · exact case246 a0 a1 r0 r1 h0 h1 w hin
    · exact case247 a0 a1 r0 r1 h0 h1 w hin
    · exact case248 a0 a1 r0 r1 h0 h1 w hin
    · exact case249 a0 a1 r0 r1 h0 h1 w hin
    · exact case250 a0 a1 r0 r1 h0 h1 w hin
    · exact case251 a0 a1 r0 r1 h0 h1 w hin
  · rcases (show (a1 % 6 = 0) ∨ (a1 % 6 = 1) ∨ (a1 % 6 = 2) ∨ (a1 % 6 = 3) ∨ (a1 % 6 = 4) ∨ (a1 % 6 = 5) by omega) with h1 | h1 | h1 | h1 | h1 | h1
    · exact case252 a0 a1 r0 r1 h0 h1 w hin
    · exact case253 a0 a1 r0 r1 h0 h1 w hin
    · exact case254 a0 a1 r0 r1 h0 h1 w hin
    · exact case255 a0 a1 r0 r1 h0 h1 w hin
    · exact case256 a0 a1 r0 r1 h0 h1 w hin
    · exact case257 a0 a1 r0 r1 h0 h1 w hin
  · rcases (show (a1 % 6 = 0) ∨ (a1 % 6 = 1) ∨ (a1 % 6 = 2) ∨ (a1 % 6 = 3) ∨ (a1 % 6 = 4) ∨ (a1 % 6 = 5) by omega) with h1 | h1 | h1 | h1 | h1 | h1
    · exact case258 a0 a1 r0 r1 h0 h1 w hin
    · exact case259 a0 a1 r0 r1 h0 h1 w hin
    · exact case260 a0 a1 r0 r1 h0 h1 w hin
    · exact case261 a0 a1 r0 r1 h0 h1 w hin
    · exact case262 a0 a1 r0 r1 h0 h1 w hin
    · exact case263 a0 a1 r0 r1 h0 h1 w hin
  · rcases (show (a1 % 6 = 0) ∨ (a1 % 6 = 1) ∨ (a1 % 6 = 2) ∨ (a1 % 6 = 3) ∨ (a1 % 6 = 4) ∨ (a1 % 6 = 5) by omega) with h1 | h1 | h1 | h1 | h1 | h1
    · exact case264 a0 a1 r0 r1 h0 h1 w hin
    · exact case265 a0 a1 r0 r1 h0 h1 w hin
    · exact case266 a0 a1 r0 r1 h0 h1 w hin
    · exact case267 a0 a1 r0 r1 h0 h1 w hin
    · exact case268 a0 a1 r0 r1 h0 h1 w hin
    · exact case269 a0 a1 r0 r1 h0 h1 w hin

/-! ### THE ROW -/
theorem sentinel_block {P : Program} {n nm : String} {text : List UInt8} {r : List (String × DataW Unit)} {W : World} {g : Nat} {ti tp te ts : TypeId} {ms : Array (String × TypeId)} {f : Field}
    (h : laidMet P ((n, .iface nm (.ptr (.agg [.lit (.string text)]))) :: r) W)
    (hg : P.globalNamed n = some g) (ht : (P.globals[g]?).map (·.type) = some ti) (hi : P.underlying ti = some (.interface ms)) (hrow : ∀ u, P.typeName? 3 u = some nm → u = tp)
    (hp : P.underlying tp = some (.pointer te)) (he : P.underlying te = some (.struct #[f])) (hft : f.type = ts) (hfo : f.offset = 0) (hs : P.underlying ts = some .string) (hc : P.cellsOf te = 1) (hcs : P.cellsOf ts = 1) :
    ∃ (v : Value) (e : TypeId), W.heap[g]? = some (.cells #[.iface tp v] e (0, 0)) := by
  obtain ⟨a, s, h1, _⟩ := laid_sentinel h hg ht hi hrow hp he hft hfo hs hc hcs
  obtain ⟨ps, ⟨g0, t0, cs0, f0, p0, q0, hg0, ht0, hv0, hd0, _, e0⟩, _, hrows⟩ := h
  obtain rfl := Option.some.inj (hg.symm.trans hg0)
  obtain rfl := Option.some.inj (ht.symm.trans ht0)
  subst e0
  obtain rfl := Option.some.inj (h1.symm.trans hv0)
  obtain ⟨⟨c, t, hb⟩, _⟩ := hrows g 0 (by simp [MemPlace.row])
  have : c = #[.iface tp (.pointer (some a))] := by
    simp only [World.var?, hg, Option.bind_some, hb] at hv0
    exact (Option.some.inj hv0)
  exact ⟨_, t, by rw [hb, this]⟩
theorem star : "*errors.errorString" = "*" ++ "errors.errorString" := by decide
theorem rowP (u : TypeId) (h : Tryd.prog.typeName? 3 u = some "*errors.errorString") : u = 144 :=
  typeName_ptr_named (nm := "errors.errorString") (by rw [← star]; kernel_rfl) (by kernel_rfl) (by decide) u (by rw [← star]; exact h)
theorem globIn {W : World} (h0 : laidMetH Tryd.prog Rows.parseDeepRow.laid W) : ∀ ρ, GlobIn ρ kd.gl W := by
  have h : laidMet Tryd.prog Rows.parseDeepRow.laid W := by rw [MakeChecks.laidMetH_plain _ _ _ (by kernel_rfl)] at h0; exact h0
  obtain ⟨v0, e0, b0⟩ := sentinel_block h (show Tryd.prog.globalNamed "calliper/lex.errLong" = some 0 by kernel_rfl) (show (Tryd.prog.globals[0]?).map (·.type) = some 70 by kernel_rfl) Tryd.underlying70 rowP Tryd.underlying144 Tryd.underlying168 rfl rfl Tryd.underlying9 (by kernel_rfl) (by kernel_rfl)
  obtain ⟨v1, e1, b1⟩ := sentinel_block (laidMet.tail h) (show Tryd.prog.globalNamed "calliper/lex.errWord" = some 1 by kernel_rfl) (show (Tryd.prog.globals[1]?).map (·.type) = some 70 by kernel_rfl) Tryd.underlying70 rowP Tryd.underlying144 Tryd.underlying168 rfl rfl Tryd.underlying9 (by kernel_rfl) (by kernel_rfl)
  intro ρ b cs hb
  have key : ∀ (g : Nat) (v : Value) (e : TypeId), W.heap[g]? = some (.cells #[.iface 144 v] e (0, 0)) → cs = [.iface 144 .none] → ∃ (arr : Array Value) (e : TypeId), W.heap[g]? = some (.cells arr e (0, 0)) ∧ cs.length ≤ arr.size ∧ ∀ (i : Nat) (v : V), (absL ρ cs)[i]? = some v → ∃ v' : Value, arr[i]? = some v' ∧ VRel noMap v v' := by
    intro g v e h1 h2
    subst h2
    refine ⟨_, e, h1, by simp, fun i u hu => ?_⟩
    cases i with
    | zero =>
      simp only [absL, abs, List.getElem?_cons_zero, Option.some.injEq] at hu
      subst hu
      exact ⟨_, rfl, .iface _ _ _ (.any v)⟩
    | succ i => simp [absL] at hu
  simp only [gcAt, kd.gl] at hb
  cases q0 : Nat.beq 0 b with
  | true =>
    rw [q0] at hb
    have := Nat.eq_of_beq_eq_true q0
    subst this
    exact key _ v0 e0 b0 (Option.some.inj hb).symm
  | false =>
  rw [q0] at hb
  simp only [bcond_false] at hb
  cases q1 : Nat.beq 1 b with
  | true =>
    rw [q1] at hb
    have := Nat.eq_of_beq_eq_true q1
    subst this
    exact key _ v1 e1 b1 (Option.some.inj hb).symm
  | false =>
  rw [q1] at hb
  simp only [bcond_false] at hb
  cases hb

set_option maxRecDepth 100000 in
theorem lifted (os : Os) (started : os.Started) (H : Type) (enc : TypeId × Value → H) :
    ReturnsInHanded {} Tryd.checked os 3 .any (fun w args => (Rows.parseDeepSpec.pre enc Tryd.prog Tryd.f3 [] false w args ∧ laidMetH Tryd.prog Rows.parseDeepRow.laid w) ∧ sizedMet enc Tryd.prog Tryd.f3 (OpenSpec.ofChange Rows.parseDeepSpec) false w args)
      (Rows.parseDeepSpec.post enc Tryd.prog Tryd.f3 false true false false) := by
  refine returnsInHanded_of_change_and (C := Tryd.checked) (X := fun w _ => laidMetH Tryd.prog Rows.parseDeepRow.laid w) (fun _ _ _ hh h => h.of_heap hh) own started (by kernel_rfl) Tryd.func3
    (ChangeSpec.witness_shaped (enc := enc) (C := Tryd.checked) (os := os) (X := fun w _ => laidMetH Tryd.prog Rows.parseDeepRow.laid w) false (World.doorLaid Tryd.prog 400 os) #[.int .u8 0, .int .u8 0] 8 rfl (World.shaped_of_RefB (by kernel_rfl) (by kernel_rfl)) (by kernel_rfl) (by kernel_rfl) (by kernel_rfl) (door_met os _)) ?_
  intro W base args ds gs before hval0 hW _ _ hL _
  have hval : ∀ (j : Nat) t v, Tryd.f3.params[j]? = some t → args[j]? = some v → Value.okWide Tryd.prog W .any base t v := hval0
  have hW' := hW
  obtain ⟨p, q, hA0, hV, rfl, hfz, hnd⟩ := hW
  have hA : DataW.TrodAll enc Tryd.prog W 0 (fun _ => true) true Tryd.f3.params.toList args.toList ds p := hA0
  rw [Tryd.params3] at hA hval
  obtain ⟨v0, vs0, d0, ds0, p0, q0, hargs, rfl, rfl, h0, r0⟩ := trodAll_cons hA
  obtain ⟨v1, vs1, d1, ds1, p1, q1, rfl, rfl, rfl, h1, r1⟩ := trodAll_cons r0
  obtain ⟨rfl, rfl, rfl⟩ := trodAll_nil r1
  obtain rfl : args = #[v0, v1] := by cases args; simp_all
  obtain ⟨rfl, rfl⟩ := trodVars_none hV
  obtain ⟨a0, rfl, rfl, rfl, w0⟩ := open_int Tryd.underlying5 (hval 0 5 v0 rfl rfl) h0
  obtain ⟨a1, rfl, rfl, rfl, w1⟩ := open_int Tryd.underlying5 (hval 1 5 v1 rfl rfl) h1
  clear hA0 hval0
  simp only [List.append_nil] at hW'
  refine (walk a0 a1 w0 w1 W (globIn hL)).mono fun e W' ⟨he, hg⟩ => ?_
  subst he
  exact ⟨_, rfl, post_of_same (pa := []) (pv := []) hW' (fun _ _ _ => (trodAll_cons_mk (shut_bool Tryd.underlying4 _) trodAll_mk0)) (fun sp _ => (trodAll_cons_mk (shut_int Tryd.underlying5 w0) (trodAll_cons_mk (shut_int Tryd.underlying5 w1) trodAll_mk0))) (fun _ _ => rfl) rfl
    (hg.frame _) hg.2.1 (ok_one (by kernel_rfl) rfl (okWide_bool_mk Tryd.underlying4 _))⟩

set_option maxRecDepth 1000000 in
theorem clos : Tryd.prog.closure 3 = [3, 4, 9, 10, 15, 16, 29, 17, 18, 34, 21, 30, 31, 50, 66, 65, 32, 33, 51, 61, 68, 72, 78, 24, 46, 69, 73, 74, 19, 35, 36, 12, 22, 42, 59, 38, 58, 40, 67, 71, 77, 80, 81, 82, 79, 83, 76, 41, 37, 20, 39, 52, 53, 54, 55, 56, 57, 8, 13, 23, 25, 26, 43, 44, 45, 60, 47, 48, 62, 70, 75, 27, 49, 63, 64, 14, 28, 5, 6, 7, 11] := by kernel_rfl
theorem j1 : Tryd.prog.inPlace 3 = ["internal/bytealg.IndexByteString", "internal/reflectlite.TypeOf"] := by unfold Program.inPlace; rw [clos]; kernel_rfl
theorem j2 : Tryd.prog.unfollowed 3 = true := by unfold Program.unfollowed; rw [clos]; kernel_rfl
theorem j3 : Tryd.prog.recurses 3 = true := by unfold Program.recurses; rw [j2]; rfl
theorem j4 : Tryd.prog.varsNamed 3 = ["calliper/lex.errLong", "calliper/lex.errWord"] := by unfold Program.varsNamed; rw [clos]; kernel_rfl
theorem closed : joinedFacts Tryd.prog 3 Tryd.f3 Rows.parseDeepSpec Rows.parseDeepRow = true := by
  unfold joinedFacts
  rw [j1, j2, j3, j4]
  kernel_rfl

theorem over : Rows.ParseDeepSaid :=
  OpenClaim.holds_of_wide 3 Tryd.f3 rfl rfl rfl rfl rfl rfl rfl ⟨rfl, rfl, rfl, rfl, rfl⟩ rfl rfl rfl rfl rfl (by kernel_rfl) Tryd.func3 closed
    (of_decide_eq_true (by kernel_rfl)) (by unfold Func.isWrapper; first | (rw [if_pos (by decide +kernel)]; kernel_rfl) | (rw [if_neg (by decide +kernel)]; exact ⟨rfl, rfl⟩))
    (fun os started H enc _ => lifted os started H enc)

/-- ████ THE STATEMENT: the tied card ████ -/
theorem proved : Rows.ParseDeepCardSaid :=
  Claim7.holds_tied_plain_at .later [] [.sentinel, .sentinel] true (true, "9d2d955e6cfce78a754ea729fa042148daba5450f5d310ee224538dc48058668") true
    over (fun _ h => by cases h) (by kernel_rfl) (fun _ h => by cases h) parseDeep_row_tie rfl ⟨rfl, rfl⟩ (by kernel_rfl) rfl
    (fun f fn hf hfn => by
      obtain rfl : f = 3 := Option.some.inj ((show Tryd.prog.funcNamed "calliper/calliperlaw3.ParseDeep" = some 3 by kernel_rfl).symm.trans hf) |>.symm
      obtain rfl : fn = Tryd.f3 := (Option.some.inj (Tryd.func3.symm.trans hfn)).symm
      exact ⟨by kernel_rfl, fun j t ht => by
        rw [Tryd.params3] at ht
        have hm : t ∈ [5, 5] := by simpa using Array.mem_of_getElem? ht
        have hall : ([5, 5].all fun u => !Tryd.prog.wantsStandIn u) = true := by kernel_rfl
        exact (show Tryd.prog.wantsStandIn t = false by simpa using List.all_eq_true.1 hall t hm)⟩)
    (by kernel_rfl)
#print axioms proved
end Go.Proofs.YtpedccgdiahngaaDoor.parseDeep
