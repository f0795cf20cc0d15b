/- ProveBounds answers true at all inputs, and leaves them as they were. No condition. -/
import Derived.Test.YtieolffpgjcnbaaGreatRows
import Derived.Test.YtieolffpgjcnbaaGreatProveBoundsR0
import Derived.Test.YtieolffpgjcnbaaGreatProveBoundsR1
import Derived.Test.YtieolffpgjcnbaaGreatProveBoundsR2
import Derived.Test.YtieolffpgjcnbaaGreatProveBoundsR3
import Derived.Test.YtieolffpgjcnbaaGreatProveBoundsR4
import Derived.Test.YtieolffpgjcnbaaGreatProveBoundsR5
import Derived.WalkKit
import Derived.ProofKit
import Derived.OpenShut
namespace Go.Proofs.YtieolffpgjcnbaaGreat.proveBounds
open Go.Sx Go.ChangeShapes Go.WideShapes Go.ChangeAt Go.RowKit
set_option linter.unusedVariables false

theorem own : ownKnob Tryz.prog.godebug = none := by kernel_rfl

/-! ### The walk: by the runs of the kernel. -/
theorem walk (a0 : Int) (a1 : Int) (a2 : Int) (a3 : Int) (a4 : Int) (w0 : (Lit.int .i8 a0).wf = true) (w1 : (Lit.int .u8 a1).wf = true) (w2 : (Lit.int .i8 a2).wf = true) (w3 : (Lit.int .u8 a3).wf = true) (w4 : (Lit.int .u8 a4).wf = true) (w : World) :
    Calls Tryz.prog 7 #[.int .i8 a0, .int .u8 a1, .int .i8 a2, .int .u8 a3, .int .u8 a4] w fun e w' => e = .returned (.bool true) ∧ Grown w w' := by
  have r0 : ((-128) ≤ a0 ∧ a0 ≤ 127) := by simpa [Lit.wf, IntKind.min, IntKind.max, IntKind.signed, IntKind.bits] using w0
  have r1 : (0 ≤ a1 ∧ a1 ≤ 255) := by simpa [Lit.wf, IntKind.min, IntKind.max, IntKind.signed, IntKind.bits] using w1
  have r2 : ((-128) ≤ a2 ∧ a2 ≤ 127) := by simpa [Lit.wf, IntKind.min, IntKind.max, IntKind.signed, IntKind.bits] using w2
  have r3 : (0 ≤ a3 ∧ a3 ≤ 255) := by simpa [Lit.wf, IntKind.min, IntKind.max, IntKind.signed, IntKind.bits] using w3
  have r4 : (0 ≤ a4 ∧ a4 ≤ 255) := by simpa [Lit.wf, IntKind.min, IntKind.max, IntKind.signed, IntKind.bits] using w4
  rcases (show (0 ≤ a2 ∧ a2 ≤ 9) ∨ (10 ≤ a2 ∧ a2 ≤ 99) ∨ (100 ≤ a2 ∧ a2 ≤ 127) ∨ (1 ≤ (-a2) ∧ (-a2) ≤ 9) ∨ (10 ≤ (-a2) ∧ (-a2) ≤ 99) ∨ (100 ≤ (-a2) ∧ (-a2) ≤ 128) by omega) with h2 | h2 | h2 | h2 | h2 | h2
  · rcases (show (0 ≤ a4 ∧ a4 ≤ 9) ∨ (10 ≤ a4 ∧ a4 ≤ 99) ∨ (100 ≤ a4 ∧ a4 ≤ 255) by omega) with h4 | h4 | h4
    · exact case0 a0 a1 a2 a3 a4 r0 r1 r2 r3 r4 h2 h4 w
    · exact case1 a0 a1 a2 a3 a4 r0 r1 r2 r3 r4 h2 h4 w
    · exact case2 a0 a1 a2 a3 a4 r0 r1 r2 r3 r4 h2 h4 w
  · rcases (show (0 ≤ a4 ∧ a4 ≤ 9) ∨ (10 ≤ a4 ∧ a4 ≤ 99) ∨ (100 ≤ a4 ∧ a4 ≤ 255) by omega) with h4 | h4 | h4
    · exact case3 a0 a1 a2 a3 a4 r0 r1 r2 r3 r4 h2 h4 w
    · exact case4 a0 a1 a2 a3 a4 r0 r1 r2 r3 r4 h2 h4 w
    · exact case5 a0 a1 a2 a3 a4 r0 r1 r2 r3 r4 h2 h4 w
  · rcases (show (0 ≤ a4 ∧ a4 ≤ 9) ∨ (10 ≤ a4 ∧ a4 ≤ 99) ∨ (100 ≤ a4 ∧ a4 ≤ 255) by omega) with h4 | h4 | h4
    · exact case6 a0 a1 a2 a3 a4 r0 r1 r2 r3 r4 h2 h4 w
    · exact case7 a0 a1 a2 a3 a4 r0 r1 r2 r3 r4 h2 h4 w
    · exact case8 a0 a1 a2 a3 a4 r0 r1 r2 r3 r4 h2 h4 w
  · rcases (show (0 ≤ a4 ∧ a4 ≤ 9) ∨ (10 ≤ a4 ∧ a4 ≤ 99) ∨ (100 ≤ a4 ∧ a4 ≤ 255) by omega) with h4 | h4 | h4
    · exact case9 a0 a1 a2 a3 a4 r0 r1 r2 r3 r4 h2 h4 w
    · exact case10 a0 a1 a2 a3 a4 r0 r1 r2 r3 r4 h2 h4 w
    · exact case11 a0 a1 a2 a3 a4 r0 r1 r2 r3 r4 h2 h4 w
  · rcases (show (0 ≤ a4 ∧ a4 ≤ 9) ∨ (10 ≤ a4 ∧ a4 ≤ 99) ∨ (100 ≤ a4 ∧ a4 ≤ 255) by omega) with h4 | h4 | h4
    · exact case12 a0 a1 a2 a3 a4 r0 r1 r2 r3 r4 h2 h4 w
    · exact case13 a0 a1 a2 a3 a4 r0 r1 r2 r3 r4 h2 h4 w
    · exact case14 a0 a1 a2 a3 a4 r0 r1 r2 r3 r4 h2 h4 w
  · rcases (show (0 ≤ a4 ∧ a4 ≤ 9) ∨ (10 ≤ a4 ∧ a4 ≤ 99) ∨ (100 ≤ a4 ∧ a4 ≤ 255) by omega) with h4 | h4 | h4
    · exact case15 a0 a1 a2 a3 a4 r0 r1 r2 r3 r4 h2 h4 w
    · exact case16 a0 a1 a2 a3 a4 r0 r1 r2 r3 r4 h2 h4 w
    · exact case17 a0 a1 a2 a3 a4 r0 r1 r2 r3 r4 h2 h4 w

/-! ### THE ROW's STEP: WRITTEN OUT: LEAVE IT -/
set_option maxRecDepth 100000 in
theorem lifted (os : Os) (started : os.Started) (H : Type) (enc : TypeId × Value → H) :
    ReturnsInHanded {} Tryz.checked os 7 .any (Rows.proveBoundsSpec.pre6 enc Tryz.prog Tryz.f7 Rows.proveBoundsRow.domain false) (Rows.proveBoundsSpec.post enc Tryz.prog Tryz.f7 false true false false) := by
  refine returnsInHanded_of_change (C := Tryz.checked) own started (by kernel_rfl) Tryz.func7
    (ChangeSpec.witness6 (enc := enc) (C := Tryz.checked) false ⟨#[], #[.int .i8 0, .int .u8 0, .int .i8 0, .int .u8 0, .int .u8 0], []⟩ 8 (by kernel_rfl) (by kernel_rfl) (by kernel_rfl) (by kernel_rfl)) ?_
  intro W base args ds gs before hval0 hW hcnd _
  have hval : ∀ (j : Nat) t v, Tryz.f7.params[j]? = some t → args[j]? = some v → Value.okWide Tryz.prog W .any base t v := hval0
  have hW' := hW
  obtain ⟨p, q, hA0, hV, rfl, hfz, hnd⟩ := hW
  have hA : DataW.TrodAll enc Tryz.prog W 0 (fun _ => true) true Tryz.f7.params.toList args.toList ds p := hA0
  rw [Tryz.params7] at hA hval
  obtain ⟨v0, vs0, d0, ds0, p0, q0, hargs, rfl, rfl, h0, r0⟩ := trodAll_cons hA
  obtain ⟨v1, vs1, d1, ds1, p1, q1, rfl, rfl, rfl, h1, r1⟩ := trodAll_cons r0
  obtain ⟨v2, vs2, d2, ds2, p2, q2, rfl, rfl, rfl, h2, r2⟩ := trodAll_cons r1
  obtain ⟨v3, vs3, d3, ds3, p3, q3, rfl, rfl, rfl, h3, r3⟩ := trodAll_cons r2
  obtain ⟨v4, vs4, d4, ds4, p4, q4, rfl, rfl, rfl, h4, r4⟩ := trodAll_cons r3
  obtain ⟨rfl, rfl, rfl⟩ := trodAll_nil r4
  obtain rfl : args = #[v0, v1, v2, v3, v4] := by cases args; simp_all
  obtain ⟨rfl, rfl⟩ := trodVars_none hV
  obtain ⟨a0, rfl, rfl, rfl, w0⟩ := open_int Tryz.underlying56 (hval 0 56 v0 rfl rfl) h0
  obtain ⟨a1, rfl, rfl, rfl, w1⟩ := open_int Tryz.underlying5 (hval 1 5 v1 rfl rfl) h1
  obtain ⟨a2, rfl, rfl, rfl, w2⟩ := open_int Tryz.underlying56 (hval 2 56 v2 rfl rfl) h2
  obtain ⟨a3, rfl, rfl, rfl, w3⟩ := open_int Tryz.underlying5 (hval 3 5 v3 rfl rfl) h3
  obtain ⟨a4, rfl, rfl, rfl, w4⟩ := open_int Tryz.underlying5 (hval 4 5 v4 rfl rfl) h4
  clear hA0 hval0
  simp only [List.append_nil] at hW'
  refine (walk a0 a1 a2 a3 a4 w0 w1 w2 w3 w4 W).mono fun e W' ⟨he, hg⟩ => ?_
  subst he
  exact ⟨_, rfl, post_of_same (pa := []) (pv := []) hW' (fun _ _ _ => (trodAll_cons_mk (shut_bool Tryz.underlying4 _) trodAll_mk0)) (fun sp _ => (trodAll_cons_mk (shut_int Tryz.underlying56 w0) (trodAll_cons_mk (shut_int Tryz.underlying5 w1) (trodAll_cons_mk (shut_int Tryz.underlying56 w2) (trodAll_cons_mk (shut_int Tryz.underlying5 w3) (trodAll_cons_mk (shut_int Tryz.underlying5 w4) trodAll_mk0)))))) (fun _ _ => rfl) rfl
    (hg.frame _) hg.2.1 (ok_one (by kernel_rfl) rfl (okWide_bool_mk Tryz.underlying4 _))⟩

theorem over : Rows.proveBoundsRow.holds Tryz.pinned (OpenSpec.ofChange Rows.proveBoundsSpec) :=
  OpenClaim.holds_of_wide 7 Tryz.f7 rfl rfl rfl rfl rfl rfl rfl ⟨rfl, rfl, rfl, rfl, rfl⟩ rfl rfl rfl rfl rfl (by kernel_rfl) Tryz.func7 (by kernel_rfl)
    (of_decide_eq_true (by kernel_rfl)) (by unfold Func.isWrapper; first | (rw [if_pos (by decide +kernel)]; kernel_rfl) | (rw [if_neg (by decide +kernel)]; exact ⟨rfl, rfl⟩))
    (fun os started H enc _ => lifted os started H enc)

/-- ████ THE STATEMENT ████ -/
theorem proved : Rows.ProveBoundsSaid :=
  over
#print axioms proved
end Go.Proofs.YtieolffpgjcnbaaGreat.proveBounds
