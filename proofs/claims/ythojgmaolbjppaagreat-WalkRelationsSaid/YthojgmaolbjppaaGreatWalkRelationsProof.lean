/- WalkRelations answers true at all inputs, and leaves them as they were. No condition. -/
import Derived.Test.YthojgmaolbjppaaGreatRows
import Derived.Test.YthojgmaolbjppaaGreatWalkRelationsR0
import Derived.Test.YthojgmaolbjppaaGreatWalkRelationsR1
import Derived.Test.YthojgmaolbjppaaGreatWalkRelationsR2
import Derived.Test.YthojgmaolbjppaaGreatWalkRelationsR3
import Derived.Test.YthojgmaolbjppaaGreatWalkRelationsR4
import Derived.Test.YthojgmaolbjppaaGreatWalkRelationsR5
import Derived.Test.YthojgmaolbjppaaGreatWalkRelationsR6
import Derived.Test.YthojgmaolbjppaaGreatWalkRelationsR7
import Derived.Test.YthojgmaolbjppaaGreatWalkRelationsR8
import Derived.Test.YthojgmaolbjppaaGreatWalkRelationsR9
import Derived.Test.YthojgmaolbjppaaGreatWalkRelationsR10
import Derived.Test.YthojgmaolbjppaaGreatWalkRelationsR11
import Derived.Test.YthojgmaolbjppaaGreatWalkRelationsR12
import Derived.Test.YthojgmaolbjppaaGreatWalkRelationsR13
import Derived.Test.YthojgmaolbjppaaGreatWalkRelationsR14
import Derived.Test.YthojgmaolbjppaaGreatWalkRelationsR15
import Derived.Test.YthojgmaolbjppaaGreatWalkRelationsR16
import Derived.Test.YthojgmaolbjppaaGreatWalkRelationsR17
import Derived.Test.YthojgmaolbjppaaGreatWalkRelationsR18
import Derived.Test.YthojgmaolbjppaaGreatWalkRelationsR19
import Derived.Test.YthojgmaolbjppaaGreatWalkRelationsR20
import Derived.Test.YthojgmaolbjppaaGreatWalkRelationsR21
import Derived.Test.YthojgmaolbjppaaGreatWalkRelationsR22
import Derived.Test.YthojgmaolbjppaaGreatWalkRelationsR23
import Derived.Test.YthojgmaolbjppaaGreatWalkRelationsR24
import Derived.Test.YthojgmaolbjppaaGreatWalkRelationsR25
import Derived.Test.YthojgmaolbjppaaGreatWalkRelationsR26
import Derived.WalkKit
import Derived.ProofKit
import Derived.OpenShut
namespace Go.Proofs.YthojgmaolbjppaaGreat.walkRelations
open Go.Sx Go.ChangeShapes Go.WideShapes Go.ChangeAt Go.RowKit
set_option linter.unusedVariables false

theorem own : ownKnob Tryz.prog.godebug = none := by kernel_rfl

/-! ### The walk: by the runs of the kernel. -/
theorem walk (a0 : Int) (a1 : Int) (w0 : (Lit.int .u8 a0).wf = true) (w1 : (Lit.int .u8 a1).wf = true) (w : World) :
    Calls Tryz.prog 9 #[.int .u8 a0, .int .u8 a1] w fun e w' => e = .returned (.bool true) ∧ Grown w w' := by
  have r0 : (0 ≤ a0 ∧ a0 ≤ 255) := by simpa [Lit.wf, IntKind.min, IntKind.max, IntKind.signed, IntKind.bits] using w0
  have r1 : (0 ≤ a1 ∧ a1 ≤ 255) := by simpa [Lit.wf, IntKind.min, IntKind.max, IntKind.signed, IntKind.bits] using w1
  rcases (show (0 ≤ a0 ∧ a0 ≤ 9) ∨ (10 ≤ a0 ∧ a0 ≤ 99) ∨ (100 ≤ a0 ∧ a0 ≤ 255) by omega) with h0 | h0 | h0
  · rcases (show (1 ≤ (a1 + 1) ∧ (a1 + 1) ≤ 1) ∨ (2 ≤ (a1 + 1) ∧ (a1 + 1) ≤ 2) ∨ (3 ≤ (a1 + 1) ∧ (a1 + 1) ≤ 3) ∨ (4 ≤ (a1 + 1) ∧ (a1 + 1) ≤ 9) ∨ (10 ≤ (a1 + 1) ∧ (a1 + 1) ≤ 99) ∨ (100 ≤ (a1 + 1) ∧ (a1 + 1) ≤ 256) by omega) with h1 | h1 | h1 | h1 | h1 | h1
    · rcases (show ((a0 + 1) ≤ 9) ∨ (10 ≤ (a0 + 1)) by omega) with hc | hc
      · exact case0 a0 a1 r0 r1 h0 h1 hc w
      · exact case1 a0 a1 r0 r1 h0 h1 hc w
    · rcases (show ((a0 + 2) ≤ 9) ∨ (10 ≤ (a0 + 2)) by omega) with hc | hc
      · exact case2 a0 a1 r0 r1 h0 h1 hc w
      · exact case3 a0 a1 r0 r1 h0 h1 hc w
    · rcases (show ((a0 + 3) ≤ 9) ∨ (10 ≤ (a0 + 3)) by omega) with hc | hc
      · exact case4 a0 a1 r0 r1 h0 h1 hc w
      · exact case5 a0 a1 r0 r1 h0 h1 hc w
    · rcases (show ((a0 + (a1 + 1)) ≤ 9) ∨ (10 ≤ (a0 + (a1 + 1))) by omega) with hc | hc
      · exact case6 a0 a1 r0 r1 h0 h1 hc w
      · exact case7 a0 a1 r0 r1 h0 h1 hc w
    · rcases (show ((a0 + (a1 + 1) % 10) ≤ 9) ∨ (10 ≤ (a0 + (a1 + 1) % 10)) by omega) with hc | hc
      · rcases (show (((a1 + 1) / 10 + 0) ≤ 9) ∨ (10 ≤ ((a1 + 1) / 10 + 0)) by omega) with hd | hd
        · exact case8 a0 a1 r0 r1 h0 h1 hc hd w
        · exfalso; omega
      · rcases (show (((a1 + 1) / 10 + 1) ≤ 9) ∨ (10 ≤ ((a1 + 1) / 10 + 1)) by omega) with hd | hd
        · exact case9 a0 a1 r0 r1 h0 h1 hc hd w
        · exact case10 a0 a1 r0 r1 h0 h1 hc hd w
    · rcases (show ((a0 + (a1 + 1) % 10) ≤ 9) ∨ (10 ≤ (a0 + (a1 + 1) % 10)) by omega) with hc | hc
      · rcases (show (((a1 + 1) / 10 % 10 + 0) ≤ 9) ∨ (10 ≤ ((a1 + 1) / 10 % 10 + 0)) by omega) with hd | hd
        · exact case11 a0 a1 r0 r1 h0 h1 hc hd w
        · exfalso; omega
      · rcases (show (((a1 + 1) / 10 % 10 + 1) ≤ 9) ∨ (10 ≤ ((a1 + 1) / 10 % 10 + 1)) by omega) with hd | hd
        · exact case12 a0 a1 r0 r1 h0 h1 hc hd w
        · exact case13 a0 a1 r0 r1 h0 h1 hc hd w
  · rcases (show (1 ≤ (a1 + 1) ∧ (a1 + 1) ≤ 1) ∨ (2 ≤ (a1 + 1) ∧ (a1 + 1) ≤ 2) ∨ (3 ≤ (a1 + 1) ∧ (a1 + 1) ≤ 3) ∨ (4 ≤ (a1 + 1) ∧ (a1 + 1) ≤ 9) ∨ (10 ≤ (a1 + 1) ∧ (a1 + 1) ≤ 99) ∨ (100 ≤ (a1 + 1) ∧ (a1 + 1) ≤ 256) by omega) with h1 | h1 | h1 | h1 | h1 | h1
    · rcases (show ((a0 % 10 + 1) ≤ 9) ∨ (10 ≤ (a0 % 10 + 1)) by omega) with hc | hc
      · rcases (show ((a0 / 10 + 0) ≤ 9) ∨ (10 ≤ (a0 / 10 + 0)) by omega) with hd | hd
        · exact case14 a0 a1 r0 r1 h0 h1 hc hd w
        · exfalso; omega
      · rcases (show ((a0 / 10 + 1) ≤ 9) ∨ (10 ≤ (a0 / 10 + 1)) by omega) with hd | hd
        · exact case15 a0 a1 r0 r1 h0 h1 hc hd w
        · exact case16 a0 a1 r0 r1 h0 h1 hc hd w
    · rcases (show ((a0 % 10 + 2) ≤ 9) ∨ (10 ≤ (a0 % 10 + 2)) by omega) with hc | hc
      · rcases (show ((a0 / 10 + 0) ≤ 9) ∨ (10 ≤ (a0 / 10 + 0)) by omega) with hd | hd
        · exact case17 a0 a1 r0 r1 h0 h1 hc hd w
        · exfalso; omega
      · rcases (show ((a0 / 10 + 1) ≤ 9) ∨ (10 ≤ (a0 / 10 + 1)) by omega) with hd | hd
        · exact case18 a0 a1 r0 r1 h0 h1 hc hd w
        · exact case19 a0 a1 r0 r1 h0 h1 hc hd w
    · rcases (show ((a0 % 10 + 3) ≤ 9) ∨ (10 ≤ (a0 % 10 + 3)) by omega) with hc | hc
      · rcases (show ((a0 / 10 + 0) ≤ 9) ∨ (10 ≤ (a0 / 10 + 0)) by omega) with hd | hd
        · exact case20 a0 a1 r0 r1 h0 h1 hc hd w
        · exfalso; omega
      · rcases (show ((a0 / 10 + 1) ≤ 9) ∨ (10 ≤ (a0 / 10 + 1)) by omega) with hd | hd
        · exact case21 a0 a1 r0 r1 h0 h1 hc hd w
        · exact case22 a0 a1 r0 r1 h0 h1 hc hd w
    · rcases (show ((a0 % 10 + (a1 + 1)) ≤ 9) ∨ (10 ≤ (a0 % 10 + (a1 + 1))) by omega) with hc | hc
      · rcases (show ((a0 / 10 + 0) ≤ 9) ∨ (10 ≤ (a0 / 10 + 0)) by omega) with hd | hd
        · exact case23 a0 a1 r0 r1 h0 h1 hc hd w
        · exfalso; omega
      · rcases (show ((a0 / 10 + 1) ≤ 9) ∨ (10 ≤ (a0 / 10 + 1)) by omega) with hd | hd
        · exact case24 a0 a1 r0 r1 h0 h1 hc hd w
        · exact case25 a0 a1 r0 r1 h0 h1 hc hd w
    · rcases (show ((a0 % 10 + (a1 + 1) % 10) ≤ 9) ∨ (10 ≤ (a0 % 10 + (a1 + 1) % 10)) by omega) with hc | hc
      · rcases (show ((a0 / 10 + (a1 + 1) / 10 + 0) ≤ 9) ∨ (10 ≤ (a0 / 10 + (a1 + 1) / 10 + 0)) by omega) with hd | hd
        · exact case26 a0 a1 r0 r1 h0 h1 hc hd w
        · exact case27 a0 a1 r0 r1 h0 h1 hc hd w
      · rcases (show ((a0 / 10 + (a1 + 1) / 10 + 1) ≤ 9) ∨ (10 ≤ (a0 / 10 + (a1 + 1) / 10 + 1)) by omega) with hd | hd
        · exact case28 a0 a1 r0 r1 h0 h1 hc hd w
        · exact case29 a0 a1 r0 r1 h0 h1 hc hd w
    · rcases (show ((a0 % 10 + (a1 + 1) % 10) ≤ 9) ∨ (10 ≤ (a0 % 10 + (a1 + 1) % 10)) by omega) with hc | hc
      · rcases (show ((a0 / 10 + (a1 + 1) / 10 % 10 + 0) ≤ 9) ∨ (10 ≤ (a0 / 10 + (a1 + 1) / 10 % 10 + 0)) by omega) with hd | hd
        · exact case30 a0 a1 r0 r1 h0 h1 hc hd w
        · exact case31 a0 a1 r0 r1 h0 h1 hc hd w
      · rcases (show ((a0 / 10 + (a1 + 1) / 10 % 10 + 1) ≤ 9) ∨ (10 ≤ (a0 / 10 + (a1 + 1) / 10 % 10 + 1)) by omega) with hd | hd
        · exact case32 a0 a1 r0 r1 h0 h1 hc hd w
        · exact case33 a0 a1 r0 r1 h0 h1 hc hd w
  · rcases (show (1 ≤ (a1 + 1) ∧ (a1 + 1) ≤ 1) ∨ (2 ≤ (a1 + 1) ∧ (a1 + 1) ≤ 2) ∨ (3 ≤ (a1 + 1) ∧ (a1 + 1) ≤ 3) ∨ (4 ≤ (a1 + 1) ∧ (a1 + 1) ≤ 9) ∨ (10 ≤ (a1 + 1) ∧ (a1 + 1) ≤ 99) ∨ (100 ≤ (a1 + 1) ∧ (a1 + 1) ≤ 256) by omega) with h1 | h1 | h1 | h1 | h1 | h1
    · rcases (show ((a0 % 10 + 1) ≤ 9) ∨ (10 ≤ (a0 % 10 + 1)) by omega) with hc | hc
      · rcases (show ((a0 / 10 % 10 + 0) ≤ 9) ∨ (10 ≤ (a0 / 10 % 10 + 0)) by omega) with hd | hd
        · exact case34 a0 a1 r0 r1 h0 h1 hc hd w
        · exfalso; omega
      · rcases (show ((a0 / 10 % 10 + 1) ≤ 9) ∨ (10 ≤ (a0 / 10 % 10 + 1)) by omega) with hd | hd
        · exact case35 a0 a1 r0 r1 h0 h1 hc hd w
        · exact case36 a0 a1 r0 r1 h0 h1 hc hd w
    · rcases (show ((a0 % 10 + 2) ≤ 9) ∨ (10 ≤ (a0 % 10 + 2)) by omega) with hc | hc
      · rcases (show ((a0 / 10 % 10 + 0) ≤ 9) ∨ (10 ≤ (a0 / 10 % 10 + 0)) by omega) with hd | hd
        · exact case37 a0 a1 r0 r1 h0 h1 hc hd w
        · exfalso; omega
      · rcases (show ((a0 / 10 % 10 + 1) ≤ 9) ∨ (10 ≤ (a0 / 10 % 10 + 1)) by omega) with hd | hd
        · exact case38 a0 a1 r0 r1 h0 h1 hc hd w
        · exact case39 a0 a1 r0 r1 h0 h1 hc hd w
    · rcases (show ((a0 % 10 + 3) ≤ 9) ∨ (10 ≤ (a0 % 10 + 3)) by omega) with hc | hc
      · rcases (show ((a0 / 10 % 10 + 0) ≤ 9) ∨ (10 ≤ (a0 / 10 % 10 + 0)) by omega) with hd | hd
        · exact case40 a0 a1 r0 r1 h0 h1 hc hd w
        · exfalso; omega
      · rcases (show ((a0 / 10 % 10 + 1) ≤ 9) ∨ (10 ≤ (a0 / 10 % 10 + 1)) by omega) with hd | hd
        · exact case41 a0 a1 r0 r1 h0 h1 hc hd w
        · exact case42 a0 a1 r0 r1 h0 h1 hc hd w
    · rcases (show ((a0 % 10 + (a1 + 1)) ≤ 9) ∨ (10 ≤ (a0 % 10 + (a1 + 1))) by omega) with hc | hc
      · rcases (show ((a0 / 10 % 10 + 0) ≤ 9) ∨ (10 ≤ (a0 / 10 % 10 + 0)) by omega) with hd | hd
        · exact case43 a0 a1 r0 r1 h0 h1 hc hd w
        · exfalso; omega
      · rcases (show ((a0 / 10 % 10 + 1) ≤ 9) ∨ (10 ≤ (a0 / 10 % 10 + 1)) by omega) with hd | hd
        · exact case44 a0 a1 r0 r1 h0 h1 hc hd w
        · exact case45 a0 a1 r0 r1 h0 h1 hc hd w
    · rcases (show ((a0 % 10 + (a1 + 1) % 10) ≤ 9) ∨ (10 ≤ (a0 % 10 + (a1 + 1) % 10)) by omega) with hc | hc
      · rcases (show ((a0 / 10 % 10 + (a1 + 1) / 10 + 0) ≤ 9) ∨ (10 ≤ (a0 / 10 % 10 + (a1 + 1) / 10 + 0)) by omega) with hd | hd
        · exact case46 a0 a1 r0 r1 h0 h1 hc hd w
        · exact case47 a0 a1 r0 r1 h0 h1 hc hd w
      · rcases (show ((a0 / 10 % 10 + (a1 + 1) / 10 + 1) ≤ 9) ∨ (10 ≤ (a0 / 10 % 10 + (a1 + 1) / 10 + 1)) by omega) with hd | hd
        · exact case48 a0 a1 r0 r1 h0 h1 hc hd w
        · exact case49 a0 a1 r0 r1 h0 h1 hc hd w
    · rcases (show ((a0 % 10 + (a1 + 1) % 10) ≤ 9) ∨ (10 ≤ (a0 % 10 + (a1 + 1) % 10)) by omega) with hc | hc
      · rcases (show ((a0 / 10 % 10 + (a1 + 1) / 10 % 10 + 0) ≤ 9) ∨ (10 ≤ (a0 / 10 % 10 + (a1 + 1) / 10 % 10 + 0)) by omega) with hd | hd
        · exact case50 a0 a1 r0 r1 h0 h1 hc hd w
        · exact case51 a0 a1 r0 r1 h0 h1 hc hd w
      · rcases (show ((a0 / 10 % 10 + (a1 + 1) / 10 % 10 + 1) ≤ 9) ∨ (10 ≤ (a0 / 10 % 10 + (a1 + 1) / 10 % 10 + 1)) by omega) with hd | hd
        · exact case52 a0 a1 r0 r1 h0 h1 hc hd w
        · exact case53 a0 a1 r0 r1 h0 h1 hc hd w

/-! ### THE ROW's STEP: WRITTEN OUT: LEAVE IT -/
set_option maxRecDepth 100000 in
theorem lifted (os : Os) (started : os.Started) (H : Type) (enc : TypeId × Value → H) :
    ReturnsInHanded {} Tryz.checked os 9 .any (Rows.walkRelationsSpec.pre6 enc Tryz.prog Tryz.f9 Rows.walkRelationsRow.domain false) (Rows.walkRelationsSpec.post enc Tryz.prog Tryz.f9 false true false false) := by
  refine returnsInHanded_of_change (C := Tryz.checked) own started (by kernel_rfl) Tryz.func9
    (ChangeSpec.witness6 (enc := enc) (C := Tryz.checked) false ⟨#[], #[.int .u8 0, .int .u8 0], []⟩ 8 (by kernel_rfl) (by kernel_rfl) (by kernel_rfl) (by kernel_rfl)) ?_
  intro W base args ds gs before hval0 hW hcnd _
  have hval : ∀ (j : Nat) t v, Tryz.f9.params[j]? = some t → args[j]? = some v → Value.okWide Tryz.prog W .any base t v := hval0
  have hW' := hW
  obtain ⟨p, q, hA0, hV, rfl, hfz, hnd⟩ := hW
  have hA : DataW.TrodAll enc Tryz.prog W 0 (fun _ => true) true Tryz.f9.params.toList args.toList ds p := hA0
  rw [Tryz.params9] at hA hval
  obtain ⟨v0, vs0, d0, ds0, p0, q0, hargs, rfl, rfl, h0, r0⟩ := trodAll_cons hA
  obtain ⟨v1, vs1, d1, ds1, p1, q1, rfl, rfl, rfl, h1, r1⟩ := trodAll_cons r0
  obtain ⟨rfl, rfl, rfl⟩ := trodAll_nil r1
  obtain rfl : args = #[v0, v1] := by cases args; simp_all
  obtain ⟨rfl, rfl⟩ := trodVars_none hV
  obtain ⟨a0, rfl, rfl, rfl, w0⟩ := open_int Tryz.underlying5 (hval 0 5 v0 rfl rfl) h0
  obtain ⟨a1, rfl, rfl, rfl, w1⟩ := open_int Tryz.underlying5 (hval 1 5 v1 rfl rfl) h1
  clear hA0 hval0
  simp only [List.append_nil] at hW'
  refine (walk a0 a1 w0 w1 W).mono fun e W' ⟨he, hg⟩ => ?_
  subst he
  exact ⟨_, rfl, post_of_same (pa := []) (pv := []) hW' (fun _ _ _ => (trodAll_cons_mk (shut_bool Tryz.underlying4 _) trodAll_mk0)) (fun sp _ => (trodAll_cons_mk (shut_int Tryz.underlying5 w0) (trodAll_cons_mk (shut_int Tryz.underlying5 w1) trodAll_mk0))) (fun _ _ => rfl) rfl
    (hg.frame _) hg.2.1 (ok_one (by kernel_rfl) rfl (okWide_bool_mk Tryz.underlying4 _))⟩

set_option maxRecDepth 1000000 in
theorem clos : Tryz.prog.closure 9 = [9, 21, 23, 10, 29, 59, 60, 61, 114, 170, 102, 62, 115, 53, 63, 30, 64, 116, 65, 117, 118, 67, 119, 120, 121, 122, 66, 123, 124, 171, 223, 271, 173, 228, 273, 299, 272, 300, 301, 298, 172, 125, 174, 224, 225, 226, 227, 57, 107, 110, 163, 52, 164, 109, 108, 165, 212, 217, 258, 259, 111, 166, 213, 260, 261, 215, 216, 262, 214, 218, 68, 126, 127, 12, 31, 69, 129, 128, 175, 79, 76, 138, 71, 19, 51, 49, 70, 130, 35, 39, 34, 36, 80, 38, 13, 37, 77, 78, 72, 32, 73, 131, 132, 106, 101, 74, 75, 133, 176, 177, 181, 18, 17, 50, 229, 179, 183, 231, 104, 230, 274, 302, 134, 178, 275, 303, 304, 325, 305, 105, 306, 326, 341, 327, 307, 276, 277, 308, 135, 180, 136, 182, 137, 22, 56, 33, 15, 24, 40, 58, 112, 113, 167, 168, 219, 263, 85, 140, 184, 141, 186, 91, 146, 145, 185, 90, 143, 144, 190, 187, 86, 151, 232, 278, 234, 233, 279, 280, 87, 95, 156, 189, 202, 157, 203, 158, 142, 188, 235, 281, 282, 236, 283, 309, 328, 310, 329, 311, 330, 312, 313, 331, 294, 332, 342, 343, 344, 345, 346, 314, 333, 334, 237, 238, 257, 253, 290, 315, 316, 251, 295, 42, 83, 84, 139, 318, 199, 200, 201, 241, 159, 204, 242, 205, 206, 243, 94, 155, 152, 197, 264, 148, 194, 268, 99, 162, 211, 256, 98, 161, 208, 246, 247, 285, 286, 248, 249, 250, 287, 209, 210, 252, 288, 289, 255, 153, 291, 293, 292, 317, 254, 266, 220, 265, 169, 221, 267, 269, 296, 319, 335, 336, 337, 338, 320, 198, 240, 297, 196, 321, 322, 195, 239, 284, 207, 244, 245, 323, 324, 339, 340, 149, 97, 160, 222, 96, 270, 14, 41, 82, 81, 43, 44, 89, 88, 92, 147, 191, 192, 193, 150, 154, 46, 45, 93, 47, 25, 26, 20, 54, 55, 103] := by kernel_rfl
theorem j1 : Tryz.prog.inPlace 9 = [] := by unfold Program.inPlace; rw [clos]; kernel_rfl
theorem j2 : Tryz.prog.unfollowed 9 = true := by unfold Program.unfollowed; rw [clos]; kernel_rfl
theorem j3 : Tryz.prog.recurses 9 = true := by unfold Program.recurses; rw [j2]; rfl
theorem j4 : Tryz.prog.varsNamed 9 = [] := by unfold Program.varsNamed; rw [clos]; kernel_rfl
theorem closed : joinedFacts Tryz.prog 9 Tryz.f9 Rows.walkRelationsSpec Rows.walkRelationsRow = true := by
  unfold joinedFacts
  rw [j1, j2, j3, j4]
  kernel_rfl

theorem over : Rows.walkRelationsRow.holds Tryz.pinned (OpenSpec.ofChange Rows.walkRelationsSpec) :=
  OpenClaim.holds_of_wide 9 Tryz.f9 rfl rfl rfl rfl rfl rfl rfl ⟨rfl, rfl, rfl, rfl, rfl⟩ rfl rfl rfl rfl rfl (by kernel_rfl) Tryz.func9 closed
    (of_decide_eq_true (by kernel_rfl)) (by unfold Func.isWrapper; first | (rw [if_pos (by decide +kernel)]; kernel_rfl) | (rw [if_neg (by decide +kernel)]; exact ⟨rfl, rfl⟩))
    (fun os started H enc _ => lifted os started H enc)

/-- ████ THE STATEMENT ████ -/
theorem proved : Rows.WalkRelationsSaid :=
  over
#print axioms proved
end Go.Proofs.YthojgmaolbjppaaGreat.walkRelations
