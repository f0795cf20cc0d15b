/- CheckSpaces answers true at all inputs, and leaves them as they were: the tied card. No condition but the card's own: the listed variables read as the program's text lays them. -/
import Derived.Test.YtfjpbjjniojbfaaGreatDoorRows
import Derived.Test.YtfjpbjjniojbfaaGreatDoorCards
import Derived.Test.YtfjpbjjniojbfaaGreatDoorTie
import Derived.Test.YtfjpbjjniojbfaaGreatDoorCheckSpacesR0
import Derived.Test.YtfjpbjjniojbfaaGreatDoorCheckSpacesR1
import Derived.Test.YtfjpbjjniojbfaaGreatDoorCheckSpacesR2
import Derived.Test.YtfjpbjjniojbfaaGreatDoorCheckSpacesR3
import Derived.Test.YtfjpbjjniojbfaaGreatDoorCheckSpacesR4
import Derived.Test.YtfjpbjjniojbfaaGreatDoorCheckSpacesR5
import Derived.Test.YtfjpbjjniojbfaaGreatDoorCheckSpacesR6
import Derived.Test.YtfjpbjjniojbfaaGreatDoorCheckSpacesR7
import Derived.Test.YtfjpbjjniojbfaaGreatDoorCheckSpacesR8
import Derived.Test.YtfjpbjjniojbfaaGreatDoorCheckSpacesR9
import Derived.Test.YtfjpbjjniojbfaaGreatDoorCheckSpacesR10
import Derived.Test.YtfjpbjjniojbfaaGreatDoorCheckSpacesR11
import Derived.Test.YtfjpbjjniojbfaaGreatDoorCheckSpacesR12
import Derived.Test.YtfjpbjjniojbfaaGreatDoorCheckSpacesR13
import Derived.Test.YtfjpbjjniojbfaaGreatDoorCheckSpacesR14
import Derived.Test.YtfjpbjjniojbfaaGreatDoorCheckSpacesR15
import Derived.Test.YtfjpbjjniojbfaaGreatDoorCheckSpacesR16
import Derived.Test.YtfjpbjjniojbfaaGreatDoorCheckSpacesR17
import Derived.Test.YtfjpbjjniojbfaaGreatDoorCheckSpacesR18
import Derived.Test.YtfjpbjjniojbfaaGreatDoorCheckSpacesR19
import Derived.WalkKit
import Derived.ProofKit
import Derived.LaidMore
import Derived.OpenShut
import Derived.Stop.Joined
import Derived.Stop.LaidErr
import Derived.LaidHandle
import Derived.LaidLaws
import Derived.LaidSub
import Derived.SevenTiedAt
namespace Go.Proofs.YtfjpbjjniojbfaaGreatDoor.checkSpaces
open Go.Sx Go.ChangeShapes Go.WideShapes Go.ChangeAt Go.RowKit
set_option linter.unusedVariables false
set_option linter.unusedSimpArgs false

theorem own : ownKnob Tryz.prog.godebug = none := by kernel_rfl

/-- The door's own heap meets the condition. -/
theorem door_met (os : Os) (args : Array Value) : laidMetH Tryz.prog Rows.checkSpacesRow.laid ((World.doorLaid Tryz.prog 400 os).forCall (fun _ _ => 0) ⟨#[], args, []⟩).memory :=
  laidMetH_of_parts3 (fuel := 8) (laidMet_of_run' 8 (by kernel_rfl) (by kernel_rfl)) (by kernel_rfl) (by kernel_rfl)

/-! ### The walk: by the runs of the kernel. -/
theorem walk (a0 : Int) (a1 : Int) (w0 : (Lit.int .u8 a0).wf = true) (w1 : (Lit.int .u8 a1).wf = true) (w : World) (hin : ∀ ρ, GlobIn ρ kd.gl w) :
    Calls Tryz.prog 4 #[.int .u8 a0, .int .u8 a1] w fun e w' => e = .returned (.bool true) ∧ Grown w w' := by
  have r0 : (0 ≤ a0 ∧ a0 ≤ 255) := by simpa [Lit.wf, IntKind.min, IntKind.max, IntKind.signed, IntKind.bits] using w0
  have r1 : (0 ≤ a1 ∧ a1 ≤ 255) := by simpa [Lit.wf, IntKind.min, IntKind.max, IntKind.signed, IntKind.bits] using w1
  rcases (show (a0 % 20 = 0) ∨ (a0 % 20 = 1) ∨ (a0 % 20 = 2) ∨ (a0 % 20 = 3) ∨ (a0 % 20 = 4) ∨ (a0 % 20 = 5) ∨ (a0 % 20 = 6) ∨ (a0 % 20 = 7) ∨ (a0 % 20 = 8) ∨ (a0 % 20 = 9) ∨ (a0 % 20 = 10) ∨ (a0 % 20 = 11) ∨ (a0 % 20 = 12) ∨ (a0 % 20 = 13) ∨ (a0 % 20 = 14) ∨ (a0 % 20 = 15) ∨ (a0 % 20 = 16) ∨ (a0 % 20 = 17) ∨ (a0 % 20 = 18) ∨ (a0 % 20 = 19) by omega) with h0 | h0 | h0 | h0 | h0 | h0 | h0 | h0 | h0 | h0 | h0 | h0 | h0 | h0 | h0 | h0 | h0 | h0 | h0 | h0
  · rcases (show (a1 % 4 = 0) ∨ (a1 % 4 = 1) ∨ (a1 % 4 = 2) ∨ (a1 % 4 = 3) by omega) with h1 | h1 | h1 | h1
    · exact case0 a0 a1 r0 r1 h0 h1 w hin
    · exact case1 a0 a1 r0 r1 h0 h1 w hin
    · exact case2 a0 a1 r0 r1 h0 h1 w hin
    · exact case3 a0 a1 r0 r1 h0 h1 w hin
  · rcases (show (a1 % 4 = 0) ∨ (a1 % 4 = 1) ∨ (a1 % 4 = 2) ∨ (a1 % 4 = 3) by omega) with h1 | h1 | h1 | h1
    · exact case4 a0 a1 r0 r1 h0 h1 w hin
    · exact case5 a0 a1 r0 r1 h0 h1 w hin
    · exact case6 a0 a1 r0 r1 h0 h1 w hin
    · exact case7 a0 a1 r0 r1 h0 h1 w hin
  · rcases (show (a1 % 4 = 0) ∨ (a1 % 4 = 1) ∨ (a1 % 4 = 2) ∨ (a1 % 4 = 3) by omega) with h1 | h1 | h1 | h1
    · exact case8 a0 a1 r0 r1 h0 h1 w hin
    · exact case9 a0 a1 r0 r1 h0 h1 w hin
    · exact case10 a0 a1 r0 r1 h0 h1 w hin
    · exact case11 a0 a1 r0 r1 h0 h1 w hin
  · rcases (show (a1 % 4 = 0) ∨ (a1 % 4 = 1) ∨ (a1 % 4 = 2) ∨ (a1 % 4 = 3) by omega) with h1 | h1 | h1 | h1
    · exact case12 a0 a1 r0 r1 h0 h1 w hin
    · exact case13 a0 a1 r0 r1 h0 h1 w hin
    · exact case14 a0 a1 r0 r1 h0 h1 w hin
    · exact case15 a0 a1 r0 r1 h0 h1 w hin
  · rcases (show (a1 % 4 = 0) ∨ (a1 % 4 = 1) ∨ (a1 % 4 = 2) ∨ (a1 % 4 = 3) by omega) with h1 | h1 | h1 | h1
    · exact case16 a0 a1 r0 r1 h0 h1 w hin
    · exact case17 a0 a1 r0 r1 h0 h1 w hin
    · exact case18 a0 a1 r0 r1 h0 h1 w hin
    · exact case19 a0 a1 r0 r1 h0 h1 w hin
  · rcases (show (a1 % 4 = 0) ∨ (a1 % 4 = 1) ∨ (a1 % 4 = 2) ∨ (a1 % 4 = 3) by omega) with h1 | h1 | h1 | h1
    · exact case20 a0 a1 r0 r1 h0 h1 w hin
    · exact case21 a0 a1 r0 r1 h0 h1 w hin
    · exact case22 a0 a1 r0 r1 h0 h1 w hin
    · exact case23 a0 a1 r0 r1 h0 h1 w hin
  · rcases (show (a1 % 4 = 0) ∨ (a1 % 4 = 1) ∨ (a1 % 4 = 2) ∨ (a1 % 4 = 3) by omega) with h1 | h1 | h1 | h1
    · exact case24 a0 a1 r0 r1 h0 h1 w hin
    · exact case25 a0 a1 r0 r1 h0 h1 w hin
    · exact case26 a0 a1 r0 r1 h0 h1 w hin
    · exact case27 a0 a1 r0 r1 h0 h1 w hin
  · rcases (show (a1 % 4 = 0) ∨ (a1 % 4 = 1) ∨ (a1 % 4 = 2) ∨ (a1 % 4 = 3) by omega) with h1 | h1 | h1 | h1
    · exact case28 a0 a1 r0 r1 h0 h1 w hin
    · exact case29 a0 a1 r0 r1 h0 h1 w hin
    · exact case30 a0 a1 r0 r1 h0 h1 w hin
    · exact case31 a0 a1 r0 r1 h0 h1 w hin
  · rcases (show (a1 % 4 = 0) ∨ (a1 % 4 = 1) ∨ (a1 % 4 = 2) ∨ (a1 % 4 = 3) by omega) with h1 | h1 | h1 | h1
    · exact case32 a0 a1 r0 r1 h0 h1 w hin
    · exact case33 a0 a1 r0 r1 h0 h1 w hin
    · exact case34 a0 a1 r0 r1 h0 h1 w hin
    · exact case35 a0 a1 r0 r1 h0 h1 w hin
  · rcases (show (a1 % 4 = 0) ∨ (a1 % 4 = 1) ∨ (a1 % 4 = 2) ∨ (a1 % 4 = 3) by omega) with h1 | h1 | h1 | h1
    · exact case36 a0 a1 r0 r1 h0 h1 w hin
    · exact case37 a0 a1 r0 r1 h0 h1 w hin
    · exact case38 a0 a1 r0 r1 h0 h1 w hin
    · exact case39 a0 a1 r0 r1 h0 h1 w hin
  · rcases (show (a1 % 4 = 0) ∨ (a1 % 4 = 1) ∨ (a1 % 4 = 2) ∨ (a1 % 4 = 3) by omega) with h1 | h1 | h1 | h1
    · exact case40 a0 a1 r0 r1 h0 h1 w hin
    · exact case41 a0 a1 r0 r1 h0 h1 w hin
    · exact case42 a0 a1 r0 r1 h0 h1 w hin
    · exact case43 a0 a1 r0 r1 h0 h1 w hin
  · rcases (show (a1 % 4 = 0) ∨ (a1 % 4 = 1) ∨ (a1 % 4 = 2) ∨ (a1 % 4 = 3) by omega) with h1 | h1 | h1 | h1
    · exact case44 a0 a1 r0 r1 h0 h1 w hin
    · exact case45 a0 a1 r0 r1 h0 h1 w hin
    · exact case46 a0 a1 r0 r1 h0 h1 w hin
    · exact case47 a0 a1 r0 r1 h0 h1 w hin
  · rcases (show (a1 % 4 = 0) ∨ (a1 % 4 = 1) ∨ (a1 % 4 = 2) ∨ (a1 % 4 = 3) by omega) with h1 | h1 | h1 | h1
    · exact case48 a0 a1 r0 r1 h0 h1 w hin
    · exact case49 a0 a1 r0 r1 h0 h1 w hin
    · exact case50 a0 a1 r0 r1 h0 h1 w hin
    · exact case51 a0 a1 r0 r1 h0 h1 w hin
  · rcases (show (a1 % 4 = 0) ∨ (a1 % 4 = 1) ∨ (a1 % 4 = 2) ∨ (a1 % 4 = 3) by omega) with h1 | h1 | h1 | h1
    · exact case52 a0 a1 r0 r1 h0 h1 w hin
    · exact case53 a0 a1 r0 r1 h0 h1 w hin
    · exact case54 a0 a1 r0 r1 h0 h1 w hin
    · exact case55 a0 a1 r0 r1 h0 h1 w hin
  · rcases (show (a1 % 4 = 0) ∨ (a1 % 4 = 1) ∨ (a1 % 4 = 2) ∨ (a1 % 4 = 3) by omega) with h1 | h1 | h1 | h1
    · exact case56 a0 a1 r0 r1 h0 h1 w hin
    · exact case57 a0 a1 r0 r1 h0 h1 w hin
    · exact case58 a0 a1 r0 r1 h0 h1 w hin
    · exact case59 a0 a1 r0 r1 h0 h1 w hin
  · rcases (show (a1 % 4 = 0) ∨ (a1 % 4 = 1) ∨ (a1 % 4 = 2) ∨ (a1 % 4 = 3) by omega) with h1 | h1 | h1 | h1
    · exact case60 a0 a1 r0 r1 h0 h1 w hin
    · exact case61 a0 a1 r0 r1 h0 h1 w hin
    · exact case62 a0 a1 r0 r1 h0 h1 w hin
    · exact case63 a0 a1 r0 r1 h0 h1 w hin
  · rcases (show (a1 % 4 = 0) ∨ (a1 % 4 = 1) ∨ (a1 % 4 = 2) ∨ (a1 % 4 = 3) by omega) with h1 | h1 | h1 | h1
    · exact case64 a0 a1 r0 r1 h0 h1 w hin
    · exact case65 a0 a1 r0 r1 h0 h1 w hin
    · exact case66 a0 a1 r0 r1 h0 h1 w hin
    · exact case67 a0 a1 r0 r1 h0 h1 w hin
  · rcases (show (a1 % 4 = 0) ∨ (a1 % 4 = 1) ∨ (a1 % 4 = 2) ∨ (a1 % 4 = 3) by omega) with h1 | h1 | h1 | h1
    · exact case68 a0 a1 r0 r1 h0 h1 w hin
    · exact case69 a0 a1 r0 r1 h0 h1 w hin
    · exact case70 a0 a1 r0 r1 h0 h1 w hin
    · exact case71 a0 a1 r0 r1 h0 h1 w hin
  · rcases (show (a1 % 4 = 0) ∨ (a1 % 4 = 1) ∨ (a1 % 4 = 2) ∨ (a1 % 4 = 3) by omega) with h1 | h1 | h1 | h1
    · exact case72 a0 a1 r0 r1 h0 h1 w hin
    · exact case73 a0 a1 r0 r1 h0 h1 w hin
    · exact case74 a0 a1 r0 r1 h0 h1 w hin
    · exact case75 a0 a1 r0 r1 h0 h1 w hin
  · rcases (show (a1 % 4 = 0) ∨ (a1 % 4 = 1) ∨ (a1 % 4 = 2) ∨ (a1 % 4 = 3) by omega) with h1 | h1 | h1 | h1
    · exact case76 a0 a1 r0 r1 h0 h1 w hin
    · exact case77 a0 a1 r0 r1 h0 h1 w hin
    · exact case78 a0 a1 r0 r1 h0 h1 w hin
    · exact case79 a0 a1 r0 r1 h0 h1 w hin

/-! ### THE ROW -/
theorem sentinel_block {P : Program} {n nm : String} {text : List UInt8} {r : List (String × DataW Unit)} {W : World} {g : Nat} {ti tp te ts : TypeId} {ms : Array (String × TypeId)} {f : Field}
    (h : laidMet P ((n, .iface nm (.ptr (.agg [.lit (.string text)]))) :: r) W)
    (hg : P.globalNamed n = some g) (ht : (P.globals[g]?).map (·.type) = some ti) (hi : P.underlying ti = some (.interface ms)) (hrow : ∀ u, P.typeName? 3 u = some nm → u = tp)
    (hp : P.underlying tp = some (.pointer te)) (he : P.underlying te = some (.struct #[f])) (hft : f.type = ts) (hfo : f.offset = 0) (hs : P.underlying ts = some .string) (hc : P.cellsOf te = 1) (hcs : P.cellsOf ts = 1) :
    ∃ (v : Value) (e : TypeId), W.heap[g]? = some (.cells #[.iface tp v] e (0, 0)) := by
  obtain ⟨a, s, h1, _⟩ := laid_sentinel h hg ht hi hrow hp he hft hfo hs hc hcs
  obtain ⟨ps, ⟨g0, t0, cs0, f0, p0, q0, hg0, ht0, hv0, hd0, _, e0⟩, _, hrows⟩ := h
  obtain rfl := Option.some.inj (hg.symm.trans hg0)
  obtain rfl := Option.some.inj (ht.symm.trans ht0)
  subst e0
  obtain rfl := Option.some.inj (h1.symm.trans hv0)
  obtain ⟨⟨c, t, hb⟩, _⟩ := hrows g 0 (by simp [MemPlace.row])
  have : c = #[.iface tp (.pointer (some a))] := by
    simp only [World.var?, hg, Option.bind_some, hb] at hv0
    exact (Option.some.inj hv0)
  exact ⟨_, t, by rw [hb, this]⟩
theorem star : "*errors.errorString" = "*" ++ "errors.errorString" := by decide
theorem rowP (u : TypeId) (h : Tryz.prog.typeName? 3 u = some "*errors.errorString") : u = 455 :=
  typeName_ptr_named (nm := "errors.errorString") (by rw [← star]; kernel_rfl) (by kernel_rfl) (by decide) u (by rw [← star]; exact h)
theorem globIn {W : World} (h0 : laidMetH Tryz.prog Rows.checkSpacesRow.laid W) : ∀ ρ, GlobIn ρ kd.gl W := by
  have h := (laidMetH_iff.1 h0).1
  rw [show (Rows.checkSpacesRow.laid.filter fun x => x.2.handleName?.isNone) = [("calliper/fn.errOut", Rows.laid_calliper_fn_errOut), ("calliper/lex.errLong", Rows.laid_calliper_lex_errLong), ("calliper/lex.errWord", Rows.laid_calliper_lex_errWord), ("calliper/check.errOut", Rows.laid_calliper_check_errOut)] by kernel_rfl] at h
  obtain ⟨v2, e2, b2⟩ := sentinel_block h (show Tryz.prog.globalNamed "calliper/fn.errOut" = some 2 by kernel_rfl) (show (Tryz.prog.globals[2]?).map (·.type) = some 43 by kernel_rfl) Tryz.underlying43 rowP Tryz.underlying455 Tryz.underlying474 rfl rfl Tryz.underlying9 (by kernel_rfl) (by kernel_rfl)
  obtain ⟨v3, e3, b3⟩ := sentinel_block (laidMet.tail h) (show Tryz.prog.globalNamed "calliper/lex.errLong" = some 3 by kernel_rfl) (show (Tryz.prog.globals[3]?).map (·.type) = some 43 by kernel_rfl) Tryz.underlying43 rowP Tryz.underlying455 Tryz.underlying474 rfl rfl Tryz.underlying9 (by kernel_rfl) (by kernel_rfl)
  obtain ⟨v4, e4, b4⟩ := sentinel_block (laidMet.tail (laidMet.tail h)) (show Tryz.prog.globalNamed "calliper/lex.errWord" = some 4 by kernel_rfl) (show (Tryz.prog.globals[4]?).map (·.type) = some 43 by kernel_rfl) Tryz.underlying43 rowP Tryz.underlying455 Tryz.underlying474 rfl rfl Tryz.underlying9 (by kernel_rfl) (by kernel_rfl)
  obtain ⟨v0, e0, b0⟩ := sentinel_block (laidMet.tail (laidMet.tail (laidMet.tail h))) (show Tryz.prog.globalNamed "calliper/check.errOut" = some 0 by kernel_rfl) (show (Tryz.prog.globals[0]?).map (·.type) = some 43 by kernel_rfl) Tryz.underlying43 rowP Tryz.underlying455 Tryz.underlying474 rfl rfl Tryz.underlying9 (by kernel_rfl) (by kernel_rfl)
  intro ρ b cs hb
  have key : ∀ (g : Nat) (v : Value) (e : TypeId), W.heap[g]? = some (.cells #[.iface 455 v] e (0, 0)) → cs = [.iface 455 .none] → ∃ (arr : Array Value) (e : TypeId), W.heap[g]? = some (.cells arr e (0, 0)) ∧ cs.length ≤ arr.size ∧ ∀ (i : Nat) (v : V), (absL ρ cs)[i]? = some v → ∃ v' : Value, arr[i]? = some v' ∧ VRel noMap v v' := by
    intro g v e h1 h2
    subst h2
    refine ⟨_, e, h1, by simp, fun i u hu => ?_⟩
    cases i with
    | zero =>
      simp only [absL, abs, List.getElem?_cons_zero, Option.some.injEq] at hu
      subst hu
      exact ⟨_, rfl, .iface _ _ _ (.any v)⟩
    | succ i => simp [absL] at hu
  simp only [gcAt, kd.gl] at hb
  cases q0 : Nat.beq 0 b with
  | true =>
    rw [q0] at hb
    have := Nat.eq_of_beq_eq_true q0
    subst this
    exact key _ v0 e0 b0 (Option.some.inj hb).symm
  | false =>
  rw [q0] at hb
  simp only [bcond_false] at hb
  cases q2 : Nat.beq 2 b with
  | true =>
    rw [q2] at hb
    have := Nat.eq_of_beq_eq_true q2
    subst this
    exact key _ v2 e2 b2 (Option.some.inj hb).symm
  | false =>
  rw [q2] at hb
  simp only [bcond_false] at hb
  cases q3 : Nat.beq 3 b with
  | true =>
    rw [q3] at hb
    have := Nat.eq_of_beq_eq_true q3
    subst this
    exact key _ v3 e3 b3 (Option.some.inj hb).symm
  | false =>
  rw [q3] at hb
  simp only [bcond_false] at hb
  cases q4 : Nat.beq 4 b with
  | true =>
    rw [q4] at hb
    have := Nat.eq_of_beq_eq_true q4
    subst this
    exact key _ v4 e4 b4 (Option.some.inj hb).symm
  | false =>
  rw [q4] at hb
  simp only [bcond_false] at hb
  cases hb

set_option maxRecDepth 100000 in
theorem lifted (os : Os) (started : os.Started) (H : Type) (enc : TypeId × Value → H) :
    ReturnsInHanded {} Tryz.checked os 4 .any (fun w args => (Rows.checkSpacesSpec.pre enc Tryz.prog Tryz.f4 [] false w args ∧ laidMetH Tryz.prog Rows.checkSpacesRow.laid w) ∧ sizedMet enc Tryz.prog Tryz.f4 (OpenSpec.ofChange Rows.checkSpacesSpec) false w args)
      (Rows.checkSpacesSpec.post enc Tryz.prog Tryz.f4 false true false false) := by
  refine returnsInHanded_of_change_and (C := Tryz.checked) (X := fun w _ => laidMetH Tryz.prog Rows.checkSpacesRow.laid w) (fun _ _ _ hh h => h.of_heap hh) own started (by kernel_rfl) Tryz.func4
    (ChangeSpec.witness_shaped (enc := enc) (C := Tryz.checked) (os := os) (X := fun w _ => laidMetH Tryz.prog Rows.checkSpacesRow.laid w) false (World.doorLaid Tryz.prog 400 os) #[.int .u8 0, .int .u8 0] 8 rfl (World.shaped_of_RefB (by kernel_rfl) (by kernel_rfl)) (by kernel_rfl) (by kernel_rfl) (by kernel_rfl) (door_met os _)) ?_
  intro W base args ds gs before hval0 hW _ _ hL _
  have hval : ∀ (j : Nat) t v, Tryz.f4.params[j]? = some t → args[j]? = some v → Value.okWide Tryz.prog W .any base t v := hval0
  have hW' := hW
  obtain ⟨p, q, hA0, hV, rfl, hfz, hnd⟩ := hW
  have hA : DataW.TrodAll enc Tryz.prog W 0 (fun _ => true) true Tryz.f4.params.toList args.toList ds p := hA0
  rw [Tryz.params4] at hA hval
  obtain ⟨v0, vs0, d0, ds0, p0, q0, hargs, rfl, rfl, h0, r0⟩ := trodAll_cons hA
  obtain ⟨v1, vs1, d1, ds1, p1, q1, rfl, rfl, rfl, h1, r1⟩ := trodAll_cons r0
  obtain ⟨rfl, rfl, rfl⟩ := trodAll_nil r1
  obtain rfl : args = #[v0, v1] := by cases args; simp_all
  obtain ⟨rfl, rfl⟩ := trodVars_none hV
  obtain ⟨a0, rfl, rfl, rfl, w0⟩ := open_int Tryz.underlying5 (hval 0 5 v0 rfl rfl) h0
  obtain ⟨a1, rfl, rfl, rfl, w1⟩ := open_int Tryz.underlying5 (hval 1 5 v1 rfl rfl) h1
  clear hA0 hval0
  simp only [List.append_nil] at hW'
  refine (walk a0 a1 w0 w1 W (globIn hL)).mono fun e W' ⟨he, hg⟩ => ?_
  subst he
  exact ⟨_, rfl, post_of_same (pa := []) (pv := []) hW' (fun _ _ _ => (trodAll_cons_mk (shut_bool Tryz.underlying4 _) trodAll_mk0)) (fun sp _ => (trodAll_cons_mk (shut_int Tryz.underlying5 w0) (trodAll_cons_mk (shut_int Tryz.underlying5 w1) trodAll_mk0))) (fun _ _ => rfl) rfl
    (hg.frame _) hg.2.1 (ok_one (by kernel_rfl) rfl (okWide_bool_mk Tryz.underlying4 _))⟩

set_option maxRecDepth 1000000 in
theorem clos : Tryz.prog.closure 4 = [4, 8, 10, 11, 15, 26, 27, 37, 38, 70, 39, 40, 75, 43, 71, 72, 108, 147, 82, 73, 74, 109, 145, 180, 219, 253, 65, 105, 85, 83, 117, 41, 76, 77, 110, 148, 183, 222, 79, 221, 81, 149, 184, 224, 255, 279, 297, 254, 305, 223, 182, 78, 42, 80, 111, 112, 113, 114, 115, 116, 25, 35, 64, 66, 67, 102, 103, 104, 45, 106, 107, 146, 181, 220, 68, 14, 23, 24, 36, 69, 16, 28, 44, 47, 46, 12, 17, 18, 19, 20, 30, 31, 48, 49, 50, 84, 51, 29, 52, 86, 118, 150, 185, 225, 151, 53, 87, 119, 186, 54, 88, 120, 121, 122, 123, 152, 188, 187, 153, 156, 155, 154, 189, 124, 55, 89, 90, 91, 13, 21, 32, 56, 92, 125, 157, 126, 133, 129, 162, 163, 167, 198, 229, 230, 160, 159, 193, 228, 194, 216, 158, 190, 226, 191, 192, 227, 161, 95, 140, 168, 127, 128, 130, 164, 97, 139, 165, 195, 196, 131, 132, 166, 197, 134, 135, 169, 199, 93, 136, 170, 200, 201, 231, 232, 202, 203, 204, 233, 234, 256, 171, 172, 205, 235, 257, 259, 249, 271, 270, 258, 260, 280, 261, 238, 281, 267, 286, 262, 282, 263, 206, 236, 237, 283, 298, 306, 312, 307, 313, 308, 314, 309, 310, 315, 296, 316, 319, 320, 321, 322, 311, 317, 318, 284, 285, 278, 207, 208, 239, 240, 209, 241, 264, 265, 211, 242, 244, 243, 266, 210, 94, 57, 96, 137, 138, 173, 174, 212, 245, 141, 176, 98, 142, 177, 217, 252, 277, 178, 213, 246, 175, 214, 247, 248, 268, 287, 299, 300, 301, 302, 288, 269, 289, 290, 291, 292, 303, 304, 215, 250, 251, 272, 273, 294, 293, 275, 274, 295, 276, 58, 22, 33, 59, 60, 99, 143, 144, 179, 218, 34, 62, 100, 63, 101, 61, 7, 9] := by kernel_rfl
theorem j1 : Tryz.prog.inPlace 4 = ["internal/bytealg.IndexByteString", "internal/reflectlite.TypeOf", "internal/reflectlite.ValueOf", "(internal/reflectlite.Value).Type", "(internal/reflectlite.Value).IsNil", "(internal/reflectlite.Value).Elem", "(internal/reflectlite.Value).Set"] := by unfold Program.inPlace; rw [clos]; kernel_rfl
theorem j2 : Tryz.prog.unfollowed 4 = true := by unfold Program.unfollowed; rw [clos]; kernel_rfl
theorem j3 : Tryz.prog.recurses 4 = true := by unfold Program.recurses; rw [j2]; rfl
theorem j4 : Tryz.prog.varsNamed 4 = ["calliper/check.errOut", "calliper/lex.errLong", "calliper/lex.errWord", "errors.errorType", "calliper/fn.errOut"] := by unfold Program.varsNamed; rw [clos]; kernel_rfl
theorem closed : joinedFacts Tryz.prog 4 Tryz.f4 Rows.checkSpacesSpec Rows.checkSpacesRow = true := by
  unfold joinedFacts
  rw [j1, j2, j3, j4]
  kernel_rfl

theorem over : Rows.CheckSpacesSaid :=
  OpenClaim.holds_of_wide 4 Tryz.f4 rfl rfl rfl rfl rfl rfl rfl ⟨rfl, rfl, rfl, rfl, rfl⟩ rfl rfl rfl rfl rfl (by kernel_rfl) Tryz.func4 closed
    (of_decide_eq_true (by kernel_rfl)) (by unfold Func.isWrapper; first | (rw [if_pos (by decide +kernel)]; kernel_rfl) | (rw [if_neg (by decide +kernel)]; exact ⟨rfl, rfl⟩))
    (fun os started H enc _ => lifted os started H enc)

/-- ████ THE STATEMENT: the tied card ████ -/
theorem proved : Rows.CheckSpacesCardSaid :=
  Claim7.holds_tied_plain_at .later [] [.handle, .sentinel, .sentinel, .sentinel, .sentinel] true (true, "f5d6c0ebdfa36b52c9833feea9373d68b133dd3563e5572ab5043551453f688c") true
    over (fun _ h => by cases h) (by kernel_rfl) (fun _ h => by cases h) checkSpaces_row_tie rfl ⟨rfl, rfl⟩ (by kernel_rfl) rfl
    (fun f fn hf hfn => by
      obtain rfl : f = 4 := Option.some.inj ((show Tryz.prog.funcNamed "calliper/calliperlaw27.CheckSpaces" = some 4 by kernel_rfl).symm.trans hf) |>.symm
      obtain rfl : fn = Tryz.f4 := (Option.some.inj (Tryz.func4.symm.trans hfn)).symm
      exact ⟨by kernel_rfl, fun j t ht => by
        rw [Tryz.params4] at ht
        have hm : t ∈ [5, 5] := by simpa using Array.mem_of_getElem? ht
        have hall : ([5, 5].all fun u => !Tryz.prog.wantsStandIn u) = true := by kernel_rfl
        exact (show Tryz.prog.wantsStandIn t = false by simpa using List.all_eq_true.1 hall t hm)⟩)
    (by kernel_rfl)
#print axioms proved
end Go.Proofs.YtfjpbjjniojbfaaGreatDoor.checkSpaces
