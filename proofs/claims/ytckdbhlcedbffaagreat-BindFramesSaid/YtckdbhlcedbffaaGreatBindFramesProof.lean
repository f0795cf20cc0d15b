/- BindFrames answers true at all inputs, and leaves them as they were. No condition. -/
import Derived.Test.YtckdbhlcedbffaaGreatRows
import Derived.Test.YtckdbhlcedbffaaGreatBindFramesR0
import Derived.Test.YtckdbhlcedbffaaGreatBindFramesR1
import Derived.Test.YtckdbhlcedbffaaGreatBindFramesR2
import Derived.Test.YtckdbhlcedbffaaGreatBindFramesR3
import Derived.Test.YtckdbhlcedbffaaGreatBindFramesR4
import Derived.Test.YtckdbhlcedbffaaGreatBindFramesR5
import Derived.Test.YtckdbhlcedbffaaGreatBindFramesR6
import Derived.Test.YtckdbhlcedbffaaGreatBindFramesR7
import Derived.Test.YtckdbhlcedbffaaGreatBindFramesR8
import Derived.Test.YtckdbhlcedbffaaGreatBindFramesR9
import Derived.Test.YtckdbhlcedbffaaGreatBindFramesR10
import Derived.Test.YtckdbhlcedbffaaGreatBindFramesR11
import Derived.Test.YtckdbhlcedbffaaGreatBindFramesR12
import Derived.Test.YtckdbhlcedbffaaGreatBindFramesR13
import Derived.Test.YtckdbhlcedbffaaGreatBindFramesR14
import Derived.Test.YtckdbhlcedbffaaGreatBindFramesR15
import Derived.Test.YtckdbhlcedbffaaGreatBindFramesR16
import Derived.Test.YtckdbhlcedbffaaGreatBindFramesR17
import Derived.Test.YtckdbhlcedbffaaGreatBindFramesR18
import Derived.Test.YtckdbhlcedbffaaGreatBindFramesR19
import Derived.Test.YtckdbhlcedbffaaGreatBindFramesR20
import Derived.Test.YtckdbhlcedbffaaGreatBindFramesR21
import Derived.Test.YtckdbhlcedbffaaGreatBindFramesR22
import Derived.Test.YtckdbhlcedbffaaGreatBindFramesR23
import Derived.Test.YtckdbhlcedbffaaGreatBindFramesR24
import Derived.Test.YtckdbhlcedbffaaGreatBindFramesR25
import Derived.Test.YtckdbhlcedbffaaGreatBindFramesR26
import Derived.Test.YtckdbhlcedbffaaGreatBindFramesR27
import Derived.Test.YtckdbhlcedbffaaGreatBindFramesR28
import Derived.Test.YtckdbhlcedbffaaGreatBindFramesR29
import Derived.Test.YtckdbhlcedbffaaGreatBindFramesR30
import Derived.Test.YtckdbhlcedbffaaGreatBindFramesR31
import Derived.Test.YtckdbhlcedbffaaGreatBindFramesR32
import Derived.Test.YtckdbhlcedbffaaGreatBindFramesR33
import Derived.Test.YtckdbhlcedbffaaGreatBindFramesR34
import Derived.Test.YtckdbhlcedbffaaGreatBindFramesR35
import Derived.Test.YtckdbhlcedbffaaGreatBindFramesR36
import Derived.Test.YtckdbhlcedbffaaGreatBindFramesR37
import Derived.Test.YtckdbhlcedbffaaGreatBindFramesR38
import Derived.Test.YtckdbhlcedbffaaGreatBindFramesR39
import Derived.Test.YtckdbhlcedbffaaGreatBindFramesR40
import Derived.Test.YtckdbhlcedbffaaGreatBindFramesR41
import Derived.Test.YtckdbhlcedbffaaGreatBindFramesR42
import Derived.Test.YtckdbhlcedbffaaGreatBindFramesR43
import Derived.WalkKit
import Derived.ProofKit
import Derived.OpenShut
namespace Go.Proofs.YtckdbhlcedbffaaGreat.bindFrames
open Go.Sx Go.ChangeShapes Go.WideShapes Go.ChangeAt Go.RowKit
set_option linter.unusedVariables false

theorem own : ownKnob Tryz.prog.godebug = none := by kernel_rfl

/-! ### The walk: by the runs of the kernel. -/
theorem walk (a0 : Int) (a1 : Int) (a2 : Int) (a3 : Bool) (w0 : (Lit.int .i8 a0).wf = true) (w1 : (Lit.int .i8 a1).wf = true) (w2 : (Lit.int .i16 a2).wf = true) (w : World) :
    Calls Tryz.prog 3 #[.int .i8 a0, .int .i8 a1, .int .i16 a2, .bool a3] w fun e w' => e = .returned (.bool true) ∧ Grown w w' := by
  have r0 : ((-128) ≤ a0 ∧ a0 ≤ 127) := by simpa [Lit.wf, IntKind.min, IntKind.max, IntKind.signed, IntKind.bits] using w0
  have r1 : ((-128) ≤ a1 ∧ a1 ≤ 127) := by simpa [Lit.wf, IntKind.min, IntKind.max, IntKind.signed, IntKind.bits] using w1
  have r2 : ((-32768) ≤ a2 ∧ a2 ≤ 32767) := by simpa [Lit.wf, IntKind.min, IntKind.max, IntKind.signed, IntKind.bits] using w2
  rcases (show (0 ≤ a0 ∧ a0 ≤ 9) ∨ (10 ≤ a0 ∧ a0 ≤ 99) ∨ (100 ≤ a0 ∧ a0 ≤ 127) ∨ (1 ≤ (-a0) ∧ (-a0) ≤ 9) ∨ (10 ≤ (-a0) ∧ (-a0) ≤ 99) ∨ (100 ≤ (-a0) ∧ (-a0) ≤ 128) by omega) with h0 | h0 | h0 | h0 | h0 | h0
  · rcases (show (0 ≤ a1 ∧ a1 ≤ 9) ∨ (10 ≤ a1 ∧ a1 ≤ 99) ∨ (100 ≤ a1 ∧ a1 ≤ 127) ∨ (1 ≤ (-a1) ∧ (-a1) ≤ 9) ∨ (10 ≤ (-a1) ∧ (-a1) ≤ 99) ∨ (100 ≤ (-a1) ∧ (-a1) ≤ 128) by omega) with h1 | h1 | h1 | h1 | h1 | h1
    · cases a3 with
      | true =>
        rcases (show ((a0 - a1) ≤ 0) ∨ (1 ≤ (a0 - a1)) by omega) with hr | hr
        · exact case0 a0 a1 a2 r0 r1 r2 h0 h1 hr w
        · exact case1 a0 a1 a2 r0 r1 r2 h0 h1 hr w
      | false =>
        rcases (show ((a0 - a1) ≤ 0) ∨ (1 ≤ (a0 - a1)) by omega) with hr | hr
        · exact case2 a0 a1 a2 r0 r1 r2 h0 h1 hr w
        · exact case3 a0 a1 a2 r0 r1 r2 h0 h1 hr w
    · cases a3 with
      | true =>
        rcases (show ((a0 - a1) ≤ 0) ∨ (1 ≤ (a0 - a1)) by omega) with hr | hr
        · exact case4 a0 a1 a2 r0 r1 r2 h0 h1 hr w
        · exfalso; omega
      | false =>
        rcases (show ((a0 - a1) ≤ 0) ∨ (1 ≤ (a0 - a1)) by omega) with hr | hr
        · exact case5 a0 a1 a2 r0 r1 r2 h0 h1 hr w
        · exfalso; omega
    · cases a3 with
      | true =>
        rcases (show ((a0 - a1) ≤ 0) ∨ (1 ≤ (a0 - a1)) by omega) with hr | hr
        · exact case6 a0 a1 a2 r0 r1 r2 h0 h1 hr w
        · exfalso; omega
      | false =>
        rcases (show ((a0 - a1) ≤ 0) ∨ (1 ≤ (a0 - a1)) by omega) with hr | hr
        · exact case7 a0 a1 a2 r0 r1 r2 h0 h1 hr w
        · exfalso; omega
    · cases a3 with
      | true =>
        rcases (show ((a0 - a1) ≤ 0) ∨ (1 ≤ (a0 - a1)) by omega) with hr | hr
        · exfalso; omega
        · exact case8 a0 a1 a2 r0 r1 r2 h0 h1 hr w
      | false =>
        rcases (show ((a0 - a1) ≤ 0) ∨ (1 ≤ (a0 - a1)) by omega) with hr | hr
        · exfalso; omega
        · exact case9 a0 a1 a2 r0 r1 r2 h0 h1 hr w
    · cases a3 with
      | true =>
        rcases (show ((a0 - a1) ≤ 0) ∨ (1 ≤ (a0 - a1)) by omega) with hr | hr
        · exfalso; omega
        · exact case10 a0 a1 a2 r0 r1 r2 h0 h1 hr w
      | false =>
        rcases (show ((a0 - a1) ≤ 0) ∨ (1 ≤ (a0 - a1)) by omega) with hr | hr
        · exfalso; omega
        · exact case11 a0 a1 a2 r0 r1 r2 h0 h1 hr w
    · cases a3 with
      | true =>
        rcases (show ((a0 - a1) ≤ 0) ∨ (1 ≤ (a0 - a1)) by omega) with hr | hr
        · exfalso; omega
        · exact case12 a0 a1 a2 r0 r1 r2 h0 h1 hr w
      | false =>
        rcases (show ((a0 - a1) ≤ 0) ∨ (1 ≤ (a0 - a1)) by omega) with hr | hr
        · exfalso; omega
        · exact case13 a0 a1 a2 r0 r1 r2 h0 h1 hr w
  · rcases (show (0 ≤ a1 ∧ a1 ≤ 9) ∨ (10 ≤ a1 ∧ a1 ≤ 99) ∨ (100 ≤ a1 ∧ a1 ≤ 127) ∨ (1 ≤ (-a1) ∧ (-a1) ≤ 9) ∨ (10 ≤ (-a1) ∧ (-a1) ≤ 99) ∨ (100 ≤ (-a1) ∧ (-a1) ≤ 128) by omega) with h1 | h1 | h1 | h1 | h1 | h1
    · cases a3 with
      | true =>
        rcases (show ((a0 - a1) ≤ 0) ∨ (1 ≤ (a0 - a1)) by omega) with hr | hr
        · exfalso; omega
        · exact case14 a0 a1 a2 r0 r1 r2 h0 h1 hr w
      | false =>
        rcases (show ((a0 - a1) ≤ 0) ∨ (1 ≤ (a0 - a1)) by omega) with hr | hr
        · exfalso; omega
        · exact case15 a0 a1 a2 r0 r1 r2 h0 h1 hr w
    · cases a3 with
      | true =>
        rcases (show ((a0 - a1) ≤ 0) ∨ (1 ≤ (a0 - a1)) by omega) with hr | hr
        · exact case16 a0 a1 a2 r0 r1 r2 h0 h1 hr w
        · exact case17 a0 a1 a2 r0 r1 r2 h0 h1 hr w
      | false =>
        rcases (show ((a0 - a1) ≤ 0) ∨ (1 ≤ (a0 - a1)) by omega) with hr | hr
        · exact case18 a0 a1 a2 r0 r1 r2 h0 h1 hr w
        · exact case19 a0 a1 a2 r0 r1 r2 h0 h1 hr w
    · cases a3 with
      | true =>
        rcases (show ((a0 - a1) ≤ 0) ∨ (1 ≤ (a0 - a1)) by omega) with hr | hr
        · exact case20 a0 a1 a2 r0 r1 r2 h0 h1 hr w
        · exfalso; omega
      | false =>
        rcases (show ((a0 - a1) ≤ 0) ∨ (1 ≤ (a0 - a1)) by omega) with hr | hr
        · exact case21 a0 a1 a2 r0 r1 r2 h0 h1 hr w
        · exfalso; omega
    · cases a3 with
      | true =>
        rcases (show ((a0 - a1) ≤ 0) ∨ (1 ≤ (a0 - a1)) by omega) with hr | hr
        · exfalso; omega
        · exact case22 a0 a1 a2 r0 r1 r2 h0 h1 hr w
      | false =>
        rcases (show ((a0 - a1) ≤ 0) ∨ (1 ≤ (a0 - a1)) by omega) with hr | hr
        · exfalso; omega
        · exact case23 a0 a1 a2 r0 r1 r2 h0 h1 hr w
    · cases a3 with
      | true =>
        rcases (show ((a0 - a1) ≤ 0) ∨ (1 ≤ (a0 - a1)) by omega) with hr | hr
        · exfalso; omega
        · exact case24 a0 a1 a2 r0 r1 r2 h0 h1 hr w
      | false =>
        rcases (show ((a0 - a1) ≤ 0) ∨ (1 ≤ (a0 - a1)) by omega) with hr | hr
        · exfalso; omega
        · exact case25 a0 a1 a2 r0 r1 r2 h0 h1 hr w
    · cases a3 with
      | true =>
        rcases (show ((a0 - a1) ≤ 0) ∨ (1 ≤ (a0 - a1)) by omega) with hr | hr
        · exfalso; omega
        · exact case26 a0 a1 a2 r0 r1 r2 h0 h1 hr w
      | false =>
        rcases (show ((a0 - a1) ≤ 0) ∨ (1 ≤ (a0 - a1)) by omega) with hr | hr
        · exfalso; omega
        · exact case27 a0 a1 a2 r0 r1 r2 h0 h1 hr w
  · rcases (show (0 ≤ a1 ∧ a1 ≤ 9) ∨ (10 ≤ a1 ∧ a1 ≤ 99) ∨ (100 ≤ a1 ∧ a1 ≤ 127) ∨ (1 ≤ (-a1) ∧ (-a1) ≤ 9) ∨ (10 ≤ (-a1) ∧ (-a1) ≤ 99) ∨ (100 ≤ (-a1) ∧ (-a1) ≤ 128) by omega) with h1 | h1 | h1 | h1 | h1 | h1
    · cases a3 with
      | true =>
        rcases (show ((a0 - a1) ≤ 0) ∨ (1 ≤ (a0 - a1)) by omega) with hr | hr
        · exfalso; omega
        · exact case28 a0 a1 a2 r0 r1 r2 h0 h1 hr w
      | false =>
        rcases (show ((a0 - a1) ≤ 0) ∨ (1 ≤ (a0 - a1)) by omega) with hr | hr
        · exfalso; omega
        · exact case29 a0 a1 a2 r0 r1 r2 h0 h1 hr w
    · cases a3 with
      | true =>
        rcases (show ((a0 - a1) ≤ 0) ∨ (1 ≤ (a0 - a1)) by omega) with hr | hr
        · exfalso; omega
        · exact case30 a0 a1 a2 r0 r1 r2 h0 h1 hr w
      | false =>
        rcases (show ((a0 - a1) ≤ 0) ∨ (1 ≤ (a0 - a1)) by omega) with hr | hr
        · exfalso; omega
        · exact case31 a0 a1 a2 r0 r1 r2 h0 h1 hr w
    · cases a3 with
      | true =>
        rcases (show ((a0 - a1) ≤ 0) ∨ (1 ≤ (a0 - a1)) by omega) with hr | hr
        · exact case32 a0 a1 a2 r0 r1 r2 h0 h1 hr w
        · exact case33 a0 a1 a2 r0 r1 r2 h0 h1 hr w
      | false =>
        rcases (show ((a0 - a1) ≤ 0) ∨ (1 ≤ (a0 - a1)) by omega) with hr | hr
        · exact case34 a0 a1 a2 r0 r1 r2 h0 h1 hr w
        · exact case35 a0 a1 a2 r0 r1 r2 h0 h1 hr w
    · cases a3 with
      | true =>
        rcases (show ((a0 - a1) ≤ 0) ∨ (1 ≤ (a0 - a1)) by omega) with hr | hr
        · exfalso; omega
        · exact case36 a0 a1 a2 r0 r1 r2 h0 h1 hr w
      | false =>
        rcases (show ((a0 - a1) ≤ 0) ∨ (1 ≤ (a0 - a1)) by omega) with hr | hr
        · exfalso; omega
        · exact case37 a0 a1 a2 r0 r1 r2 h0 h1 hr w
    · cases a3 with
      | true =>
        rcases (show ((a0 - a1) ≤ 0) ∨ (1 ≤ (a0 - a1)) by omega) with hr | hr
        · exfalso; omega
        · exact case38 a0 a1 a2 r0 r1 r2 h0 h1 hr w
      | false =>
        rcases (show ((a0 - a1) ≤ 0) ∨ (1 ≤ (a0 - a1)) by omega) with hr | hr
        · exfalso; omega
        · exact case39 a0 a1 a2 r0 r1 r2 h0 h1 hr w
    · cases a3 with
      | true =>
        rcases (show ((a0 - a1) ≤ 0) ∨ (1 ≤ (a0 - a1)) by omega) with hr | hr
        · exfalso; omega
        · exact case40 a0 a1 a2 r0 r1 r2 h0 h1 hr w
      | false =>
        rcases (show ((a0 - a1) ≤ 0) ∨ (1 ≤ (a0 - a1)) by omega) with hr | hr
        · exfalso; omega
        · exact case41 a0 a1 a2 r0 r1 r2 h0 h1 hr w
  · rcases (show (0 ≤ a1 ∧ a1 ≤ 9) ∨ (10 ≤ a1 ∧ a1 ≤ 99) ∨ (100 ≤ a1 ∧ a1 ≤ 127) ∨ (1 ≤ (-a1) ∧ (-a1) ≤ 9) ∨ (10 ≤ (-a1) ∧ (-a1) ≤ 99) ∨ (100 ≤ (-a1) ∧ (-a1) ≤ 128) by omega) with h1 | h1 | h1 | h1 | h1 | h1
    · cases a3 with
      | true =>
        rcases (show ((a0 - a1) ≤ 0) ∨ (1 ≤ (a0 - a1)) by omega) with hr | hr
        · exact case42 a0 a1 a2 r0 r1 r2 h0 h1 hr w
        · exfalso; omega
      | false =>
        rcases (show ((a0 - a1) ≤ 0) ∨ (1 ≤ (a0 - a1)) by omega) with hr | hr
        · exact case43 a0 a1 a2 r0 r1 r2 h0 h1 hr w
        · exfalso; omega
    · cases a3 with
      | true =>
        rcases (show ((a0 - a1) ≤ 0) ∨ (1 ≤ (a0 - a1)) by omega) with hr | hr
        · exact case44 a0 a1 a2 r0 r1 r2 h0 h1 hr w
        · exfalso; omega
      | false =>
        rcases (show ((a0 - a1) ≤ 0) ∨ (1 ≤ (a0 - a1)) by omega) with hr | hr
        · exact case45 a0 a1 a2 r0 r1 r2 h0 h1 hr w
        · exfalso; omega
    · cases a3 with
      | true =>
        rcases (show ((a0 - a1) ≤ 0) ∨ (1 ≤ (a0 - a1)) by omega) with hr | hr
        · exact case46 a0 a1 a2 r0 r1 r2 h0 h1 hr w
        · exfalso; omega
      | false =>
        rcases (show ((a0 - a1) ≤ 0) ∨ (1 ≤ (a0 - a1)) by omega) with hr | hr
        · exact case47 a0 a1 a2 r0 r1 r2 h0 h1 hr w
        · exfalso; omega
    · cases a3 with
      | true =>
        rcases (show ((a0 - a1) ≤ 0) ∨ (1 ≤ (a0 - a1)) by omega) with hr | hr
        · exact case48 a0 a1 a2 r0 r1 r2 h0 h1 hr w
        · exact case49 a0 a1 a2 r0 r1 r2 h0 h1 hr w
      | false =>
        rcases (show ((a0 - a1) ≤ 0) ∨ (1 ≤ (a0 - a1)) by omega) with hr | hr
        · exact case50 a0 a1 a2 r0 r1 r2 h0 h1 hr w
        · exact case51 a0 a1 a2 r0 r1 r2 h0 h1 hr w
    · cases a3 with
      | true =>
        rcases (show ((a0 - a1) ≤ 0) ∨ (1 ≤ (a0 - a1)) by omega) with hr | hr
        · exfalso; omega
        · exact case52 a0 a1 a2 r0 r1 r2 h0 h1 hr w
      | false =>
        rcases (show ((a0 - a1) ≤ 0) ∨ (1 ≤ (a0 - a1)) by omega) with hr | hr
        · exfalso; omega
        · exact case53 a0 a1 a2 r0 r1 r2 h0 h1 hr w
    · cases a3 with
      | true =>
        rcases (show ((a0 - a1) ≤ 0) ∨ (1 ≤ (a0 - a1)) by omega) with hr | hr
        · exfalso; omega
        · exact case54 a0 a1 a2 r0 r1 r2 h0 h1 hr w
      | false =>
        rcases (show ((a0 - a1) ≤ 0) ∨ (1 ≤ (a0 - a1)) by omega) with hr | hr
        · exfalso; omega
        · exact case55 a0 a1 a2 r0 r1 r2 h0 h1 hr w
  · rcases (show (0 ≤ a1 ∧ a1 ≤ 9) ∨ (10 ≤ a1 ∧ a1 ≤ 99) ∨ (100 ≤ a1 ∧ a1 ≤ 127) ∨ (1 ≤ (-a1) ∧ (-a1) ≤ 9) ∨ (10 ≤ (-a1) ∧ (-a1) ≤ 99) ∨ (100 ≤ (-a1) ∧ (-a1) ≤ 128) by omega) with h1 | h1 | h1 | h1 | h1 | h1
    · cases a3 with
      | true =>
        rcases (show ((a0 - a1) ≤ 0) ∨ (1 ≤ (a0 - a1)) by omega) with hr | hr
        · exact case56 a0 a1 a2 r0 r1 r2 h0 h1 hr w
        · exfalso; omega
      | false =>
        rcases (show ((a0 - a1) ≤ 0) ∨ (1 ≤ (a0 - a1)) by omega) with hr | hr
        · exact case57 a0 a1 a2 r0 r1 r2 h0 h1 hr w
        · exfalso; omega
    · cases a3 with
      | true =>
        rcases (show ((a0 - a1) ≤ 0) ∨ (1 ≤ (a0 - a1)) by omega) with hr | hr
        · exact case58 a0 a1 a2 r0 r1 r2 h0 h1 hr w
        · exfalso; omega
      | false =>
        rcases (show ((a0 - a1) ≤ 0) ∨ (1 ≤ (a0 - a1)) by omega) with hr | hr
        · exact case59 a0 a1 a2 r0 r1 r2 h0 h1 hr w
        · exfalso; omega
    · cases a3 with
      | true =>
        rcases (show ((a0 - a1) ≤ 0) ∨ (1 ≤ (a0 - a1)) by omega) with hr | hr
        · exact case60 a0 a1 a2 r0 r1 r2 h0 h1 hr w
        · exfalso; omega
      | false =>
        rcases (show ((a0 - a1) ≤ 0) ∨ (1 ≤ (a0 - a1)) by omega) with hr | hr
        · exact case61 a0 a1 a2 r0 r1 r2 h0 h1 hr w
        · exfalso; omega
    · cases a3 with
      | true =>
        rcases (show ((a0 - a1) ≤ 0) ∨ (1 ≤ (a0 - a1)) by omega) with hr | hr
        · exact case62 a0 a1 a2 r0 r1 r2 h0 h1 hr w
        · exfalso; omega
      | false =>
        rcases (show ((a0 - a1) ≤ 0) ∨ (1 ≤ (a0 - a1)) by omega) with hr | hr
        · exact case63 a0 a1 a2 r0 r1 r2 h0 h1 hr w
        · exfalso; omega
    · cases a3 with
      | true =>
        rcases (show ((a0 - a1) ≤ 0) ∨ (1 ≤ (a0 - a1)) by omega) with hr | hr
        · exact case64 a0 a1 a2 r0 r1 r2 h0 h1 hr w
        · exact case65 a0 a1 a2 r0 r1 r2 h0 h1 hr w
      | false =>
        rcases (show ((a0 - a1) ≤ 0) ∨ (1 ≤ (a0 - a1)) by omega) with hr | hr
        · exact case66 a0 a1 a2 r0 r1 r2 h0 h1 hr w
        · exact case67 a0 a1 a2 r0 r1 r2 h0 h1 hr w
    · cases a3 with
      | true =>
        rcases (show ((a0 - a1) ≤ 0) ∨ (1 ≤ (a0 - a1)) by omega) with hr | hr
        · exfalso; omega
        · exact case68 a0 a1 a2 r0 r1 r2 h0 h1 hr w
      | false =>
        rcases (show ((a0 - a1) ≤ 0) ∨ (1 ≤ (a0 - a1)) by omega) with hr | hr
        · exfalso; omega
        · exact case69 a0 a1 a2 r0 r1 r2 h0 h1 hr w
  · rcases (show (0 ≤ a1 ∧ a1 ≤ 9) ∨ (10 ≤ a1 ∧ a1 ≤ 99) ∨ (100 ≤ a1 ∧ a1 ≤ 127) ∨ (1 ≤ (-a1) ∧ (-a1) ≤ 9) ∨ (10 ≤ (-a1) ∧ (-a1) ≤ 99) ∨ (100 ≤ (-a1) ∧ (-a1) ≤ 128) by omega) with h1 | h1 | h1 | h1 | h1 | h1
    · cases a3 with
      | true =>
        rcases (show ((a0 - a1) ≤ 0) ∨ (1 ≤ (a0 - a1)) by omega) with hr | hr
        · exact case70 a0 a1 a2 r0 r1 r2 h0 h1 hr w
        · exfalso; omega
      | false =>
        rcases (show ((a0 - a1) ≤ 0) ∨ (1 ≤ (a0 - a1)) by omega) with hr | hr
        · exact case71 a0 a1 a2 r0 r1 r2 h0 h1 hr w
        · exfalso; omega
    · cases a3 with
      | true =>
        rcases (show ((a0 - a1) ≤ 0) ∨ (1 ≤ (a0 - a1)) by omega) with hr | hr
        · exact case72 a0 a1 a2 r0 r1 r2 h0 h1 hr w
        · exfalso; omega
      | false =>
        rcases (show ((a0 - a1) ≤ 0) ∨ (1 ≤ (a0 - a1)) by omega) with hr | hr
        · exact case73 a0 a1 a2 r0 r1 r2 h0 h1 hr w
        · exfalso; omega
    · cases a3 with
      | true =>
        rcases (show ((a0 - a1) ≤ 0) ∨ (1 ≤ (a0 - a1)) by omega) with hr | hr
        · exact case74 a0 a1 a2 r0 r1 r2 h0 h1 hr w
        · exfalso; omega
      | false =>
        rcases (show ((a0 - a1) ≤ 0) ∨ (1 ≤ (a0 - a1)) by omega) with hr | hr
        · exact case75 a0 a1 a2 r0 r1 r2 h0 h1 hr w
        · exfalso; omega
    · cases a3 with
      | true =>
        rcases (show ((a0 - a1) ≤ 0) ∨ (1 ≤ (a0 - a1)) by omega) with hr | hr
        · exact case76 a0 a1 a2 r0 r1 r2 h0 h1 hr w
        · exfalso; omega
      | false =>
        rcases (show ((a0 - a1) ≤ 0) ∨ (1 ≤ (a0 - a1)) by omega) with hr | hr
        · exact case77 a0 a1 a2 r0 r1 r2 h0 h1 hr w
        · exfalso; omega
    · cases a3 with
      | true =>
        rcases (show ((a0 - a1) ≤ 0) ∨ (1 ≤ (a0 - a1)) by omega) with hr | hr
        · exact case78 a0 a1 a2 r0 r1 r2 h0 h1 hr w
        · exfalso; omega
      | false =>
        rcases (show ((a0 - a1) ≤ 0) ∨ (1 ≤ (a0 - a1)) by omega) with hr | hr
        · exact case79 a0 a1 a2 r0 r1 r2 h0 h1 hr w
        · exfalso; omega
    · cases a3 with
      | true =>
        rcases (show ((a0 - a1) ≤ 0) ∨ (1 ≤ (a0 - a1)) by omega) with hr | hr
        · exact case80 a0 a1 a2 r0 r1 r2 h0 h1 hr w
        · exact case81 a0 a1 a2 r0 r1 r2 h0 h1 hr w
      | false =>
        rcases (show ((a0 - a1) ≤ 0) ∨ (1 ≤ (a0 - a1)) by omega) with hr | hr
        · exact case82 a0 a1 a2 r0 r1 r2 h0 h1 hr w
        · exact case83 a0 a1 a2 r0 r1 r2 h0 h1 hr w

/-! ### THE ROW's STEP: WRITTEN OUT: LEAVE IT -/
set_option maxRecDepth 100000 in
theorem lifted (os : Os) (started : os.Started) (H : Type) (enc : TypeId × Value → H) :
    ReturnsInHanded {} Tryz.checked os 3 .any (Rows.bindFramesSpec.pre6 enc Tryz.prog Tryz.f3 Rows.bindFramesRow.domain false) (Rows.bindFramesSpec.post enc Tryz.prog Tryz.f3 false true false false) := by
  refine returnsInHanded_of_change (C := Tryz.checked) own started (by kernel_rfl) Tryz.func3
    (ChangeSpec.witness6 (enc := enc) (C := Tryz.checked) false ⟨#[], #[.int .i8 0, .int .i8 0, .int .i16 0, .bool false], []⟩ 8 (by kernel_rfl) (by kernel_rfl) (by kernel_rfl) (by kernel_rfl)) ?_
  intro W base args ds gs before hval0 hW hcnd _
  have hval : ∀ (j : Nat) t v, Tryz.f3.params[j]? = some t → args[j]? = some v → Value.okWide Tryz.prog W .any base t v := hval0
  have hW' := hW
  obtain ⟨p, q, hA0, hV, rfl, hfz, hnd⟩ := hW
  have hA : DataW.TrodAll enc Tryz.prog W 0 (fun _ => true) true Tryz.f3.params.toList args.toList ds p := hA0
  rw [Tryz.params3] at hA hval
  obtain ⟨v0, vs0, d0, ds0, p0, q0, hargs, rfl, rfl, h0, r0⟩ := trodAll_cons hA
  obtain ⟨v1, vs1, d1, ds1, p1, q1, rfl, rfl, rfl, h1, r1⟩ := trodAll_cons r0
  obtain ⟨v2, vs2, d2, ds2, p2, q2, rfl, rfl, rfl, h2, r2⟩ := trodAll_cons r1
  obtain ⟨v3, vs3, d3, ds3, p3, q3, rfl, rfl, rfl, h3, r3⟩ := trodAll_cons r2
  obtain ⟨rfl, rfl, rfl⟩ := trodAll_nil r3
  obtain rfl : args = #[v0, v1, v2, v3] := by cases args; simp_all
  obtain ⟨rfl, rfl⟩ := trodVars_none hV
  obtain ⟨a0, rfl, rfl, rfl, w0⟩ := open_int Tryz.underlying22 (hval 0 22 v0 rfl rfl) h0
  obtain ⟨a1, rfl, rfl, rfl, w1⟩ := open_int Tryz.underlying22 (hval 1 22 v1 rfl rfl) h1
  obtain ⟨a2, rfl, rfl, rfl, w2⟩ := open_int Tryz.underlying23 (hval 2 23 v2 rfl rfl) h2
  obtain ⟨a3, rfl, rfl, rfl⟩ := open_bool Tryz.underlying4 (hval 3 4 v3 rfl rfl) h3
  clear hA0 hval0
  simp only [List.append_nil] at hW'
  refine (walk a0 a1 a2 a3 w0 w1 w2 W).mono fun e W' ⟨he, hg⟩ => ?_
  subst he
  exact ⟨_, rfl, post_of_same (pa := []) (pv := []) hW' (fun _ _ _ => (trodAll_cons_mk (shut_bool Tryz.underlying4 _) trodAll_mk0)) (fun sp _ => (trodAll_cons_mk (shut_int Tryz.underlying22 w0) (trodAll_cons_mk (shut_int Tryz.underlying22 w1) (trodAll_cons_mk (shut_int Tryz.underlying23 w2) (trodAll_cons_mk (shut_bool Tryz.underlying4 _) trodAll_mk0))))) (fun _ _ => rfl) rfl
    (hg.frame _) hg.2.1 (ok_one (by kernel_rfl) rfl (okWide_bool_mk Tryz.underlying4 _))⟩

set_option maxRecDepth 1000000 in
theorem clos : Tryz.prog.closure 3 = [3, 5, 16, 4, 14, 41, 42, 43, 87, 137, 86, 44, 88, 40, 45, 15, 46, 89, 47, 90, 91, 49, 92, 93, 94, 95, 48, 96, 97, 138, 181, 217, 140, 186, 219, 244, 218, 245, 246, 243, 139, 98, 141, 182, 183, 184, 185, 6, 17, 50, 99, 100, 51, 102, 101, 142, 39, 61, 58, 111, 53, 13, 38, 36, 52, 103, 21, 25, 20, 22, 62, 24, 7, 23, 59, 60, 54, 18, 55, 104, 105, 143, 85, 56, 57, 106, 144, 145, 149, 12, 11, 37, 187, 147, 152, 190, 224, 188, 220, 247, 107, 146, 221, 248, 249, 263, 250, 225, 251, 264, 273, 274, 265, 252, 222, 223, 253, 108, 148, 109, 150, 110, 151, 189, 19, 9, 8, 26, 27, 64, 63, 28, 65, 66, 112, 29, 67, 113, 153, 114, 155, 73, 119, 118, 154, 72, 116, 117, 159, 156, 68, 124, 191, 226, 193, 192, 227, 228, 69, 77, 129, 158, 171, 130, 172, 131, 115, 157, 194, 229, 230, 195, 231, 254, 266, 255, 267, 256, 268, 257, 258, 269, 242, 270, 275, 276, 277, 278, 279, 259, 271, 272, 196, 197, 216, 30, 71, 70, 74, 120, 160, 161, 162, 121, 163, 122, 79, 133, 176, 203, 204, 165, 164, 198, 232, 170, 200, 132, 173, 201, 174, 175, 202, 123, 125, 166, 168, 126, 76, 128, 169, 78, 127, 167, 199, 32, 81, 135, 180, 210, 215, 212, 238, 260, 261, 80, 134, 177, 205, 206, 233, 234, 207, 208, 209, 235, 178, 179, 211, 236, 237, 214, 239, 241, 240, 262, 213, 31, 75, 33, 10, 34, 82, 35, 83, 84, 136] := by kernel_rfl
theorem j1 : Tryz.prog.inPlace 3 = [] := by unfold Program.inPlace; rw [clos]; kernel_rfl
theorem j2 : Tryz.prog.unfollowed 3 = true := by unfold Program.unfollowed; rw [clos]; kernel_rfl
theorem j3 : Tryz.prog.recurses 3 = true := by unfold Program.recurses; rw [j2]; rfl
theorem j4 : Tryz.prog.varsNamed 3 = [] := by unfold Program.varsNamed; rw [clos]; kernel_rfl
theorem closed : joinedFacts Tryz.prog 3 Tryz.f3 Rows.bindFramesSpec Rows.bindFramesRow = true := by
  unfold joinedFacts
  rw [j1, j2, j3, j4]
  kernel_rfl

theorem over : Rows.bindFramesRow.holds Tryz.pinned (OpenSpec.ofChange Rows.bindFramesSpec) :=
  OpenClaim.holds_of_wide 3 Tryz.f3 rfl rfl rfl rfl rfl rfl rfl ⟨rfl, rfl, rfl, rfl, rfl⟩ rfl rfl rfl rfl rfl (by kernel_rfl) Tryz.func3 closed
    (of_decide_eq_true (by kernel_rfl)) (by unfold Func.isWrapper; first | (rw [if_pos (by decide +kernel)]; kernel_rfl) | (rw [if_neg (by decide +kernel)]; exact ⟨rfl, rfl⟩))
    (fun os started H enc _ => lifted os started H enc)

/-- ████ THE STATEMENT ████ -/
theorem proved : Rows.BindFramesSaid :=
  over
#print axioms proved
end Go.Proofs.YtckdbhlcedbffaaGreat.bindFrames
