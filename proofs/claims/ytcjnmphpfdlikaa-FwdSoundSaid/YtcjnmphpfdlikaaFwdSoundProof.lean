/- FwdSound answers true at all inputs, and leaves them as they were. No condition. -/
import Derived.Test.YtcjnmphpfdlikaaRows
import Derived.Test.YtcjnmphpfdlikaaSumsSD
import Derived.Test.YtcjnmphpfdlikaaFwdSoundR0
import Derived.Test.YtcjnmphpfdlikaaFwdSoundR1
import Derived.Test.YtcjnmphpfdlikaaFwdSoundR2
import Derived.Test.YtcjnmphpfdlikaaFwdSoundR3
import Derived.Test.YtcjnmphpfdlikaaFwdSoundR4
import Derived.Test.YtcjnmphpfdlikaaFwdSoundR5
import Derived.Test.YtcjnmphpfdlikaaFwdSoundR6
import Derived.Test.YtcjnmphpfdlikaaFwdSoundR7
import Derived.Test.YtcjnmphpfdlikaaFwdSoundR8
import Derived.Test.YtcjnmphpfdlikaaFwdSoundR9
import Derived.Test.YtcjnmphpfdlikaaFwdSoundR10
import Derived.Test.YtcjnmphpfdlikaaFwdSoundR11
import Derived.WalkKit
import Derived.ProofKit
import Derived.OpenShut
namespace Go.Proofs.Ytcjnmphpfdlikaa.fwdSound
open Go.Sx Go.ChangeShapes Go.WideShapes Go.ChangeAt Go.RowKit
set_option linter.unusedVariables false

theorem own : ownKnob Try.prog.godebug = none := by kernel_rfl

/-! ### The walk: by the runs of the kernel. -/
theorem walk (a0 : Int) (a1 : Bool) (a2 : Int) (a3 : Int) (a4 : Int) (a5 : Int) (a6 : Int) (a7 : Int) (a8 : Int) (a9 : Int) (w0 : (Lit.int .u8 a0).wf = true) (w2 : (Lit.int .u32 a2).wf = true) (w3 : (Lit.int .u32 a3).wf = true) (w4 : (Lit.int .u32 a4).wf = true) (w5 : (Lit.int .u32 a5).wf = true) (w6 : (Lit.int .u8 a6).wf = true) (w7 : (Lit.int .u8 a7).wf = true) (w8 : (Lit.int .u32 a8).wf = true) (w9 : (Lit.int .u32 a9).wf = true) (w : World) :
    Calls Try.prog 3 #[.int .u8 a0, .bool a1, .int .u32 a2, .int .u32 a3, .int .u32 a4, .int .u32 a5, .int .u8 a6, .int .u8 a7, .int .u32 a8, .int .u32 a9] w fun e w' => e = .returned (.bool true) ∧ Grown w w' := by
  have r0 : (0 ≤ a0 ∧ a0 ≤ 255) := by simpa [Lit.wf, IntKind.min, IntKind.max, IntKind.signed, IntKind.bits] using w0
  have r2 : (0 ≤ a2 ∧ a2 ≤ 4294967295) := by simpa [Lit.wf, IntKind.min, IntKind.max, IntKind.signed, IntKind.bits] using w2
  have r3 : (0 ≤ a3 ∧ a3 ≤ 4294967295) := by simpa [Lit.wf, IntKind.min, IntKind.max, IntKind.signed, IntKind.bits] using w3
  have r4 : (0 ≤ a4 ∧ a4 ≤ 4294967295) := by simpa [Lit.wf, IntKind.min, IntKind.max, IntKind.signed, IntKind.bits] using w4
  have r5 : (0 ≤ a5 ∧ a5 ≤ 4294967295) := by simpa [Lit.wf, IntKind.min, IntKind.max, IntKind.signed, IntKind.bits] using w5
  have r6 : (0 ≤ a6 ∧ a6 ≤ 255) := by simpa [Lit.wf, IntKind.min, IntKind.max, IntKind.signed, IntKind.bits] using w6
  have r7 : (0 ≤ a7 ∧ a7 ≤ 255) := by simpa [Lit.wf, IntKind.min, IntKind.max, IntKind.signed, IntKind.bits] using w7
  have r8 : (0 ≤ a8 ∧ a8 ≤ 4294967295) := by simpa [Lit.wf, IntKind.min, IntKind.max, IntKind.signed, IntKind.bits] using w8
  have r9 : (0 ≤ a9 ∧ a9 ≤ 4294967295) := by simpa [Lit.wf, IntKind.min, IntKind.max, IntKind.signed, IntKind.bits] using w9
  rcases (show (a0 % 12 = 0) ∨ (a0 % 12 = 1) ∨ (a0 % 12 = 2) ∨ (a0 % 12 = 3) ∨ (a0 % 12 = 4) ∨ (a0 % 12 = 5) ∨ (a0 % 12 = 6) ∨ (a0 % 12 = 7) ∨ (a0 % 12 = 8) ∨ (a0 % 12 = 9) ∨ (a0 % 12 = 10) ∨ (a0 % 12 = 11) by omega) with hk | hk | hk | hk | hk | hk | hk | hk | hk | hk | hk | hk
  · exact op0 r0 r2 r3 r4 r5 r6 r7 r8 r9 a1 hk w
  · exact op1 r0 r2 r3 r4 r5 r6 r7 r8 r9 a1 hk w
  · exact op2 r0 r2 r3 r4 r5 r6 r7 r8 r9 a1 hk w
  · exact op3 r0 r2 r3 r4 r5 r6 r7 r8 r9 a1 hk w
  · exact op4 r0 r2 r3 r4 r5 r6 r7 r8 r9 a1 hk w
  · exact op5 r0 r2 r3 r4 r5 r6 r7 r8 r9 a1 hk w
  · exact op6 r0 r2 r3 r4 r5 r6 r7 r8 r9 a1 hk w
  · exact op7 r0 r2 r3 r4 r5 r6 r7 r8 r9 a1 hk w
  · exact op8 r0 r2 r3 r4 r5 r6 r7 r8 r9 a1 hk w
  · exact op9 r0 r2 r3 r4 r5 r6 r7 r8 r9 a1 hk w
  · exact op10 r0 r2 r3 r4 r5 r6 r7 r8 r9 a1 hk w
  · exact op11 r0 r2 r3 r4 r5 r6 r7 r8 r9 a1 hk w

/-! ### THE ROW's STEP: WRITTEN OUT: LEAVE IT -/
set_option maxRecDepth 100000 in
theorem lifted (os : Os) (started : os.Started) (H : Type) (enc : TypeId × Value → H) :
    ReturnsInHanded {} Try.checked os 3 .any (Rows.fwdSoundSpec.pre6 enc Try.prog Try.f3 Rows.fwdSoundRow.domain false) (Rows.fwdSoundSpec.post enc Try.prog Try.f3 false true false false) := by
  refine returnsInHanded_of_change (C := Try.checked) own started (by kernel_rfl) Try.func3
    (ChangeSpec.witness6 (enc := enc) (C := Try.checked) false ⟨#[], #[.int .u8 0, .bool false, .int .u32 0, .int .u32 0, .int .u32 0, .int .u32 0, .int .u8 0, .int .u8 0, .int .u32 0, .int .u32 0], []⟩ 8 (by kernel_rfl) (by kernel_rfl) (by kernel_rfl) (by kernel_rfl)) ?_
  intro W base args ds gs before hval0 hW hcnd _
  have hval : ∀ (j : Nat) t v, Try.f3.params[j]? = some t → args[j]? = some v → Value.okWide Try.prog W .any base t v := hval0
  have hW' := hW
  obtain ⟨p, q, hA0, hV, rfl, hfz, hnd⟩ := hW
  have hA : DataW.TrodAll enc Try.prog W 0 (fun _ => true) true Try.f3.params.toList args.toList ds p := hA0
  rw [Try.params3] at hA hval
  obtain ⟨v0, vs0, d0, ds0, p0, q0, hargs, rfl, rfl, h0, r0⟩ := trodAll_cons hA
  obtain ⟨v1, vs1, d1, ds1, p1, q1, rfl, rfl, rfl, h1, r1⟩ := trodAll_cons r0
  obtain ⟨v2, vs2, d2, ds2, p2, q2, rfl, rfl, rfl, h2, r2⟩ := trodAll_cons r1
  obtain ⟨v3, vs3, d3, ds3, p3, q3, rfl, rfl, rfl, h3, r3⟩ := trodAll_cons r2
  obtain ⟨v4, vs4, d4, ds4, p4, q4, rfl, rfl, rfl, h4, r4⟩ := trodAll_cons r3
  obtain ⟨v5, vs5, d5, ds5, p5, q5, rfl, rfl, rfl, h5, r5⟩ := trodAll_cons r4
  obtain ⟨v6, vs6, d6, ds6, p6, q6, rfl, rfl, rfl, h6, r6⟩ := trodAll_cons r5
  obtain ⟨v7, vs7, d7, ds7, p7, q7, rfl, rfl, rfl, h7, r7⟩ := trodAll_cons r6
  obtain ⟨v8, vs8, d8, ds8, p8, q8, rfl, rfl, rfl, h8, r8⟩ := trodAll_cons r7
  obtain ⟨v9, vs9, d9, ds9, p9, q9, rfl, rfl, rfl, h9, r9⟩ := trodAll_cons r8
  obtain ⟨rfl, rfl, rfl⟩ := trodAll_nil r9
  obtain rfl : args = #[v0, v1, v2, v3, v4, v5, v6, v7, v8, v9] := by cases args; simp_all
  obtain ⟨rfl, rfl⟩ := trodVars_none hV
  obtain ⟨a0, rfl, rfl, rfl, w0⟩ := open_int Try.underlying5 (hval 0 5 v0 rfl rfl) h0
  obtain ⟨a1, rfl, rfl, rfl⟩ := open_bool Try.underlying4 (hval 1 4 v1 rfl rfl) h1
  obtain ⟨a2, rfl, rfl, rfl, w2⟩ := open_int Try.underlying22 (hval 2 22 v2 rfl rfl) h2
  obtain ⟨a3, rfl, rfl, rfl, w3⟩ := open_int Try.underlying22 (hval 3 22 v3 rfl rfl) h3
  obtain ⟨a4, rfl, rfl, rfl, w4⟩ := open_int Try.underlying22 (hval 4 22 v4 rfl rfl) h4
  obtain ⟨a5, rfl, rfl, rfl, w5⟩ := open_int Try.underlying22 (hval 5 22 v5 rfl rfl) h5
  obtain ⟨a6, rfl, rfl, rfl, w6⟩ := open_int Try.underlying5 (hval 6 5 v6 rfl rfl) h6
  obtain ⟨a7, rfl, rfl, rfl, w7⟩ := open_int Try.underlying5 (hval 7 5 v7 rfl rfl) h7
  obtain ⟨a8, rfl, rfl, rfl, w8⟩ := open_int Try.underlying22 (hval 8 22 v8 rfl rfl) h8
  obtain ⟨a9, rfl, rfl, rfl, w9⟩ := open_int Try.underlying22 (hval 9 22 v9 rfl rfl) h9
  clear hA0 hval0
  simp only [List.append_nil] at hW'
  refine (walk a0 a1 a2 a3 a4 a5 a6 a7 a8 a9 w0 w2 w3 w4 w5 w6 w7 w8 w9 W).mono fun e W' ⟨he, hg⟩ => ?_
  subst he
  exact ⟨_, rfl, post_of_same (pa := []) (pv := []) hW' (fun _ _ _ => (trodAll_cons_mk (shut_bool Try.underlying4 _) trodAll_mk0)) (fun sp _ => (trodAll_cons_mk (shut_int Try.underlying5 w0) (trodAll_cons_mk (shut_bool Try.underlying4 _) (trodAll_cons_mk (shut_int Try.underlying22 w2) (trodAll_cons_mk (shut_int Try.underlying22 w3) (trodAll_cons_mk (shut_int Try.underlying22 w4) (trodAll_cons_mk (shut_int Try.underlying22 w5) (trodAll_cons_mk (shut_int Try.underlying5 w6) (trodAll_cons_mk (shut_int Try.underlying5 w7) (trodAll_cons_mk (shut_int Try.underlying22 w8) (trodAll_cons_mk (shut_int Try.underlying22 w9) trodAll_mk0))))))))))) (fun _ _ => rfl) rfl
    (hg.frame _) hg.2.1 (ok_one (by kernel_rfl) rfl (okWide_bool_mk Try.underlying4 _))⟩

set_option maxRecDepth 1000000 in
theorem clos : Try.prog.closure 3 = [3, 6, 7, 17, 8, 9, 18, 28, 33, 34, 52, 65, 73, 59, 74, 38, 58, 39, 66, 53, 29, 50, 54, 35, 55, 36, 56, 67, 57, 37, 40, 60, 30, 61, 68, 69, 70, 71, 72, 41, 62, 63, 10, 19, 42, 43, 22, 20, 11] := by kernel_rfl
theorem j1 : Try.prog.inPlace 3 = [] := by unfold Program.inPlace; rw [clos]; kernel_rfl
theorem j2 : Try.prog.unfollowed 3 = false := by unfold Program.unfollowed; rw [clos]; kernel_rfl
theorem j3 : Try.prog.recurses 3 = false := by unfold Program.recurses; rw [j2]; rw [clos]; kernel_rfl
theorem j4 : Try.prog.varsNamed 3 = [] := by unfold Program.varsNamed; rw [clos]; kernel_rfl
theorem closed : joinedFacts Try.prog 3 Try.f3 Rows.fwdSoundSpec Rows.fwdSoundRow = true := by
  unfold joinedFacts
  rw [j1, j2, j3, j4]
  kernel_rfl

theorem over : Rows.fwdSoundRow.holds Try.pinned (OpenSpec.ofChange Rows.fwdSoundSpec) :=
  OpenClaim.holds_of_wide 3 Try.f3 rfl rfl rfl rfl rfl rfl rfl ⟨rfl, rfl, rfl, rfl, rfl⟩ rfl rfl rfl rfl rfl (by kernel_rfl) Try.func3 closed
    (of_decide_eq_true (by kernel_rfl)) (by unfold Func.isWrapper; first | (rw [if_pos (by decide +kernel)]; kernel_rfl) | (rw [if_neg (by decide +kernel)]; exact ⟨rfl, rfl⟩))
    (fun os started H enc _ => lifted os started H enc)

/-- ████ THE STATEMENT ████ -/
theorem proved : Rows.FwdSoundSaid :=
  over
#print axioms proved
end Go.Proofs.Ytcjnmphpfdlikaa.fwdSound
