/- FnEnsures answers true at all inputs, and leaves them as they were: the tied card. No condition but the card's own: the listed variables read as the program's text lays them. -/
import Derived.Test.YtbinlkbpbpanoaaGreatDoorRows
import Derived.Test.YtbinlkbpbpanoaaGreatDoorCards
import Derived.Test.YtbinlkbpbpanoaaGreatDoorTie
import Derived.Test.YtbinlkbpbpanoaaGreatDoorFnEnsuresR0
import Derived.Test.YtbinlkbpbpanoaaGreatDoorFnEnsuresR1
import Derived.Test.YtbinlkbpbpanoaaGreatDoorFnEnsuresR2
import Derived.Test.YtbinlkbpbpanoaaGreatDoorFnEnsuresR3
import Derived.Test.YtbinlkbpbpanoaaGreatDoorFnEnsuresR4
import Derived.Test.YtbinlkbpbpanoaaGreatDoorFnEnsuresR5
import Derived.Test.YtbinlkbpbpanoaaGreatDoorFnEnsuresR6
import Derived.Test.YtbinlkbpbpanoaaGreatDoorFnEnsuresR7
import Derived.Test.YtbinlkbpbpanoaaGreatDoorFnEnsuresR8
import Derived.Test.YtbinlkbpbpanoaaGreatDoorFnEnsuresR9
import Derived.Test.YtbinlkbpbpanoaaGreatDoorFnEnsuresR10
import Derived.Test.YtbinlkbpbpanoaaGreatDoorFnEnsuresR11
import Derived.Test.YtbinlkbpbpanoaaGreatDoorFnEnsuresR12
import Derived.Test.YtbinlkbpbpanoaaGreatDoorFnEnsuresR13
import Derived.Test.YtbinlkbpbpanoaaGreatDoorFnEnsuresR14
import Derived.Test.YtbinlkbpbpanoaaGreatDoorFnEnsuresR15
import Derived.Test.YtbinlkbpbpanoaaGreatDoorFnEnsuresR16
import Derived.Test.YtbinlkbpbpanoaaGreatDoorFnEnsuresR17
import Derived.Test.YtbinlkbpbpanoaaGreatDoorFnEnsuresR18
import Derived.Test.YtbinlkbpbpanoaaGreatDoorFnEnsuresR19
import Derived.Test.YtbinlkbpbpanoaaGreatDoorFnEnsuresR20
import Derived.Test.YtbinlkbpbpanoaaGreatDoorFnEnsuresR21
import Derived.Test.YtbinlkbpbpanoaaGreatDoorFnEnsuresR22
import Derived.Test.YtbinlkbpbpanoaaGreatDoorFnEnsuresR23
import Derived.Test.YtbinlkbpbpanoaaGreatDoorFnEnsuresR24
import Derived.Test.YtbinlkbpbpanoaaGreatDoorFnEnsuresR25
import Derived.Test.YtbinlkbpbpanoaaGreatDoorFnEnsuresR26
import Derived.Test.YtbinlkbpbpanoaaGreatDoorFnEnsuresR27
import Derived.Test.YtbinlkbpbpanoaaGreatDoorFnEnsuresR28
import Derived.Test.YtbinlkbpbpanoaaGreatDoorFnEnsuresR29
import Derived.Test.YtbinlkbpbpanoaaGreatDoorFnEnsuresR30
import Derived.Test.YtbinlkbpbpanoaaGreatDoorFnEnsuresR31
import Derived.WalkKit
import Derived.ProofKit
import Derived.LaidMore
import Derived.OpenShut
import Derived.Stop.Joined
import Derived.Stop.LaidErr
import Derived.SevenTiedAt
namespace Go.Proofs.YtbinlkbpbpanoaaGreatDoor.fnEnsures
open Go.Sx Go.ChangeShapes Go.WideShapes Go.ChangeAt Go.RowKit
set_option linter.unusedVariables false
set_option linter.unusedSimpArgs false

theorem own : ownKnob Tryz.prog.godebug = none := by kernel_rfl

/-- The door's own heap meets the condition. -/
theorem door_met (os : Os) (args : Array Value) : laidMetH Tryz.prog Rows.fnEnsuresRow.laid ((World.doorLaid Tryz.prog 400 os).forCall (fun _ _ => 0) ⟨#[], args, []⟩).memory :=
  laidMetH_of_parts3 (fuel := 8) (laidMet_of_run' 8 (by kernel_rfl) (by kernel_rfl)) (by kernel_rfl) (by kernel_rfl)

/-! ### The walk: by the runs of the kernel. -/
theorem walk (a0 : Int) (a1 : Int) (a2 : Int) (w0 : (Lit.int .i8 a0).wf = true) (w1 : (Lit.int .i8 a1).wf = true) (w2 : (Lit.int .u8 a2).wf = true) (w : World) (hin : ∀ ρ, GlobIn ρ kdH.gl w) :
    Calls Tryz.prog 3 #[.int .i8 a0, .int .i8 a1, .int .u8 a2] w fun e w' => e = .returned (.bool true) ∧ Grown w w' := by
  have r0 : ((-128) ≤ a0 ∧ a0 ≤ 127) := by simpa [Lit.wf, IntKind.min, IntKind.max, IntKind.signed, IntKind.bits] using w0
  have r1 : ((-128) ≤ a1 ∧ a1 ≤ 127) := by simpa [Lit.wf, IntKind.min, IntKind.max, IntKind.signed, IntKind.bits] using w1
  have r2 : (0 ≤ a2 ∧ a2 ≤ 255) := by simpa [Lit.wf, IntKind.min, IntKind.max, IntKind.signed, IntKind.bits] using w2
  rcases (show (72 ≤ (a0 + 200) ∧ (a0 + 200) ≤ 99) ∨ (100 ≤ (a0 + 200) ∧ (a0 + 200) ≤ 327) by omega) with h0 | h0
  · rcases (show (72 ≤ (a1 + 200) ∧ (a1 + 200) ≤ 99) ∨ (100 ≤ (a1 + 200) ∧ (a1 + 200) ≤ 327) by omega) with h1 | h1
    · rcases (show (a2 % 4 = 0) ∨ (a2 % 4 = 1) ∨ (a2 % 4 = 2) ∨ (a2 % 4 = 3) by omega) with h2 | h2 | h2 | h2
      · rcases (show ((a0 - a1) ≤ (-1)) ∨ (0 ≤ (a0 - a1) ∧ (a0 - a1) ≤ 0) ∨ (1 ≤ (a0 - a1)) by omega) with hr | hr | hr
        · exact case0 a0 a1 a2 r0 r1 r2 h0 h1 h2 hr w hin
        · exact case1 a0 a1 a2 r0 r1 r2 h0 h1 h2 hr w hin
        · exact case2 a0 a1 a2 r0 r1 r2 h0 h1 h2 hr w hin
      · rcases (show ((a0 - a1) ≤ (-1)) ∨ (0 ≤ (a0 - a1) ∧ (a0 - a1) ≤ 0) ∨ (1 ≤ (a0 - a1)) by omega) with hr | hr | hr
        · exact case3 a0 a1 a2 r0 r1 r2 h0 h1 h2 hr w hin
        · exact case4 a0 a1 a2 r0 r1 r2 h0 h1 h2 hr w hin
        · exact case5 a0 a1 a2 r0 r1 r2 h0 h1 h2 hr w hin
      · rcases (show ((a0 - a1) ≤ (-1)) ∨ (0 ≤ (a0 - a1) ∧ (a0 - a1) ≤ 0) ∨ (1 ≤ (a0 - a1)) by omega) with hr | hr | hr
        · exact case6 a0 a1 a2 r0 r1 r2 h0 h1 h2 hr w hin
        · exact case7 a0 a1 a2 r0 r1 r2 h0 h1 h2 hr w hin
        · exact case8 a0 a1 a2 r0 r1 r2 h0 h1 h2 hr w hin
      · rcases (show ((a0 - a1) ≤ (-1)) ∨ (0 ≤ (a0 - a1) ∧ (a0 - a1) ≤ 0) ∨ (1 ≤ (a0 - a1)) by omega) with hr | hr | hr
        · exact case9 a0 a1 a2 r0 r1 r2 h0 h1 h2 hr w hin
        · exact case10 a0 a1 a2 r0 r1 r2 h0 h1 h2 hr w hin
        · exact case11 a0 a1 a2 r0 r1 r2 h0 h1 h2 hr w hin
    · rcases (show (a2 % 4 = 0) ∨ (a2 % 4 = 1) ∨ (a2 % 4 = 2) ∨ (a2 % 4 = 3) by omega) with h2 | h2 | h2 | h2
      · rcases (show ((a0 - a1) ≤ (-1)) ∨ (0 ≤ (a0 - a1) ∧ (a0 - a1) ≤ 0) ∨ (1 ≤ (a0 - a1)) by omega) with hr | hr | hr
        · exact case12 a0 a1 a2 r0 r1 r2 h0 h1 h2 hr w hin
        · exfalso; omega
        · exfalso; omega
      · rcases (show ((a0 - a1) ≤ (-1)) ∨ (0 ≤ (a0 - a1) ∧ (a0 - a1) ≤ 0) ∨ (1 ≤ (a0 - a1)) by omega) with hr | hr | hr
        · exact case13 a0 a1 a2 r0 r1 r2 h0 h1 h2 hr w hin
        · exfalso; omega
        · exfalso; omega
      · rcases (show ((a0 - a1) ≤ (-1)) ∨ (0 ≤ (a0 - a1) ∧ (a0 - a1) ≤ 0) ∨ (1 ≤ (a0 - a1)) by omega) with hr | hr | hr
        · exact case14 a0 a1 a2 r0 r1 r2 h0 h1 h2 hr w hin
        · exfalso; omega
        · exfalso; omega
      · rcases (show ((a0 - a1) ≤ (-1)) ∨ (0 ≤ (a0 - a1) ∧ (a0 - a1) ≤ 0) ∨ (1 ≤ (a0 - a1)) by omega) with hr | hr | hr
        · exact case15 a0 a1 a2 r0 r1 r2 h0 h1 h2 hr w hin
        · exfalso; omega
        · exfalso; omega
  · rcases (show (72 ≤ (a1 + 200) ∧ (a1 + 200) ≤ 99) ∨ (100 ≤ (a1 + 200) ∧ (a1 + 200) ≤ 327) by omega) with h1 | h1
    · rcases (show (a2 % 4 = 0) ∨ (a2 % 4 = 1) ∨ (a2 % 4 = 2) ∨ (a2 % 4 = 3) by omega) with h2 | h2 | h2 | h2
      · rcases (show ((a0 - a1) ≤ (-1)) ∨ (0 ≤ (a0 - a1) ∧ (a0 - a1) ≤ 0) ∨ (1 ≤ (a0 - a1)) by omega) with hr | hr | hr
        · exfalso; omega
        · exfalso; omega
        · exact case16 a0 a1 a2 r0 r1 r2 h0 h1 h2 hr w hin
      · rcases (show ((a0 - a1) ≤ (-1)) ∨ (0 ≤ (a0 - a1) ∧ (a0 - a1) ≤ 0) ∨ (1 ≤ (a0 - a1)) by omega) with hr | hr | hr
        · exfalso; omega
        · exfalso; omega
        · exact case17 a0 a1 a2 r0 r1 r2 h0 h1 h2 hr w hin
      · rcases (show ((a0 - a1) ≤ (-1)) ∨ (0 ≤ (a0 - a1) ∧ (a0 - a1) ≤ 0) ∨ (1 ≤ (a0 - a1)) by omega) with hr | hr | hr
        · exfalso; omega
        · exfalso; omega
        · exact case18 a0 a1 a2 r0 r1 r2 h0 h1 h2 hr w hin
      · rcases (show ((a0 - a1) ≤ (-1)) ∨ (0 ≤ (a0 - a1) ∧ (a0 - a1) ≤ 0) ∨ (1 ≤ (a0 - a1)) by omega) with hr | hr | hr
        · exfalso; omega
        · exfalso; omega
        · exact case19 a0 a1 a2 r0 r1 r2 h0 h1 h2 hr w hin
    · rcases (show (a2 % 4 = 0) ∨ (a2 % 4 = 1) ∨ (a2 % 4 = 2) ∨ (a2 % 4 = 3) by omega) with h2 | h2 | h2 | h2
      · rcases (show ((a0 - a1) ≤ (-1)) ∨ (0 ≤ (a0 - a1) ∧ (a0 - a1) ≤ 0) ∨ (1 ≤ (a0 - a1)) by omega) with hr | hr | hr
        · exact case20 a0 a1 a2 r0 r1 r2 h0 h1 h2 hr w hin
        · exact case21 a0 a1 a2 r0 r1 r2 h0 h1 h2 hr w hin
        · exact case22 a0 a1 a2 r0 r1 r2 h0 h1 h2 hr w hin
      · rcases (show ((a0 - a1) ≤ (-1)) ∨ (0 ≤ (a0 - a1) ∧ (a0 - a1) ≤ 0) ∨ (1 ≤ (a0 - a1)) by omega) with hr | hr | hr
        · exact case23 a0 a1 a2 r0 r1 r2 h0 h1 h2 hr w hin
        · exact case24 a0 a1 a2 r0 r1 r2 h0 h1 h2 hr w hin
        · exact case25 a0 a1 a2 r0 r1 r2 h0 h1 h2 hr w hin
      · rcases (show ((a0 - a1) ≤ (-1)) ∨ (0 ≤ (a0 - a1) ∧ (a0 - a1) ≤ 0) ∨ (1 ≤ (a0 - a1)) by omega) with hr | hr | hr
        · exact case26 a0 a1 a2 r0 r1 r2 h0 h1 h2 hr w hin
        · exact case27 a0 a1 a2 r0 r1 r2 h0 h1 h2 hr w hin
        · exact case28 a0 a1 a2 r0 r1 r2 h0 h1 h2 hr w hin
      · rcases (show ((a0 - a1) ≤ (-1)) ∨ (0 ≤ (a0 - a1) ∧ (a0 - a1) ≤ 0) ∨ (1 ≤ (a0 - a1)) by omega) with hr | hr | hr
        · exact case29 a0 a1 a2 r0 r1 r2 h0 h1 h2 hr w hin
        · exact case30 a0 a1 a2 r0 r1 r2 h0 h1 h2 hr w hin
        · exact case31 a0 a1 a2 r0 r1 r2 h0 h1 h2 hr w hin

/-! ### THE ROW -/
theorem sentinel_block {P : Program} {n nm : String} {text : List UInt8} {r : List (String × DataW Unit)} {W : World} {g : Nat} {ti tp te ts : TypeId} {ms : Array (String × TypeId)} {f : Field}
    (h : laidMet P ((n, .iface nm (.ptr (.agg [.lit (.string text)]))) :: r) W)
    (hg : P.globalNamed n = some g) (ht : (P.globals[g]?).map (·.type) = some ti) (hi : P.underlying ti = some (.interface ms)) (hrow : ∀ u, P.typeName? 3 u = some nm → u = tp)
    (hp : P.underlying tp = some (.pointer te)) (he : P.underlying te = some (.struct #[f])) (hft : f.type = ts) (hfo : f.offset = 0) (hs : P.underlying ts = some .string) (hc : P.cellsOf te = 1) (hcs : P.cellsOf ts = 1) :
    ∃ (v : Value) (e : TypeId), W.heap[g]? = some (.cells #[.iface tp v] e (0, 0)) := by
  obtain ⟨a, s, h1, _⟩ := laid_sentinel h hg ht hi hrow hp he hft hfo hs hc hcs
  obtain ⟨ps, ⟨g0, t0, cs0, f0, p0, q0, hg0, ht0, hv0, hd0, _, e0⟩, _, hrows⟩ := h
  obtain rfl := Option.some.inj (hg.symm.trans hg0)
  obtain rfl := Option.some.inj (ht.symm.trans ht0)
  subst e0
  obtain rfl := Option.some.inj (h1.symm.trans hv0)
  obtain ⟨⟨c, t, hb⟩, _⟩ := hrows g 0 (by simp [MemPlace.row])
  have : c = #[.iface tp (.pointer (some a))] := by
    simp only [World.var?, hg, Option.bind_some, hb] at hv0
    exact (Option.some.inj hv0)
  exact ⟨_, t, by rw [hb, this]⟩
theorem star : "*errors.errorString" = "*" ++ "errors.errorString" := by decide
theorem rowP (u : TypeId) (h : Tryz.prog.typeName? 3 u = some "*errors.errorString") : u = 367 :=
  typeName_ptr_named (nm := "errors.errorString") (by rw [← star]; kernel_rfl) (by kernel_rfl) (by decide) u (by rw [← star]; exact h)
theorem globIn {W : World} (h0 : laidMetH Tryz.prog Rows.fnEnsuresRow.laid W) : ∀ ρ, GlobIn ρ kdH.gl W := by
  have h : laidMet Tryz.prog Rows.fnEnsuresRow.laid W := by rw [MakeChecks.laidMetH_plain _ _ _ (by kernel_rfl)] at h0; exact h0
  obtain ⟨v0, e0, b0⟩ := sentinel_block h (show Tryz.prog.globalNamed "calliper/fn.errOut" = some 0 by kernel_rfl) (show (Tryz.prog.globals[0]?).map (·.type) = some 53 by kernel_rfl) Tryz.underlying53 rowP Tryz.underlying367 Tryz.underlying390 rfl rfl Tryz.underlying9 (by kernel_rfl) (by kernel_rfl)
  intro ρ b cs hb
  have key : ∀ (g : Nat) (v : Value) (e : TypeId), W.heap[g]? = some (.cells #[.iface 367 v] e (0, 0)) → cs = [.iface 367 .none] → ∃ (arr : Array Value) (e : TypeId), W.heap[g]? = some (.cells arr e (0, 0)) ∧ cs.length ≤ arr.size ∧ ∀ (i : Nat) (v : V), (absL ρ cs)[i]? = some v → ∃ v' : Value, arr[i]? = some v' ∧ VRel noMap v v' := by
    intro g v e h1 h2
    subst h2
    refine ⟨_, e, h1, by simp, fun i u hu => ?_⟩
    cases i with
    | zero =>
      simp only [absL, abs, List.getElem?_cons_zero, Option.some.injEq] at hu
      subst hu
      exact ⟨_, rfl, .iface _ _ _ (.any v)⟩
    | succ i => simp [absL] at hu
  simp only [gcAt, kdH.gl] at hb
  cases q0 : Nat.beq 0 b with
  | true =>
    rw [q0] at hb
    have := Nat.eq_of_beq_eq_true q0
    subst this
    exact key _ v0 e0 b0 (Option.some.inj hb).symm
  | false =>
  rw [q0] at hb
  simp only [bcond_false] at hb
  cases hb

set_option maxRecDepth 100000 in
theorem lifted (os : Os) (started : os.Started) (H : Type) (enc : TypeId × Value → H) :
    ReturnsInHanded {} Tryz.checked os 3 .any (fun w args => (Rows.fnEnsuresSpec.pre enc Tryz.prog Tryz.f3 [] false w args ∧ laidMetH Tryz.prog Rows.fnEnsuresRow.laid w) ∧ sizedMet enc Tryz.prog Tryz.f3 (OpenSpec.ofChange Rows.fnEnsuresSpec) false w args)
      (Rows.fnEnsuresSpec.post enc Tryz.prog Tryz.f3 false true false false) := by
  refine returnsInHanded_of_change_and (C := Tryz.checked) (X := fun w _ => laidMetH Tryz.prog Rows.fnEnsuresRow.laid w) (fun _ _ _ hh h => h.of_heap hh) own started (by kernel_rfl) Tryz.func3
    (ChangeSpec.witness_shaped (enc := enc) (C := Tryz.checked) (os := os) (X := fun w _ => laidMetH Tryz.prog Rows.fnEnsuresRow.laid w) false (World.doorLaid Tryz.prog 400 os) #[.int .i8 0, .int .i8 0, .int .u8 0] 8 rfl (World.shaped_of_RefB (by kernel_rfl) (by kernel_rfl)) (by kernel_rfl) (by kernel_rfl) (by kernel_rfl) (door_met os _)) ?_
  intro W base args ds gs before hval0 hW _ _ hL _
  have hval : ∀ (j : Nat) t v, Tryz.f3.params[j]? = some t → args[j]? = some v → Value.okWide Tryz.prog W .any base t v := hval0
  have hW' := hW
  obtain ⟨p, q, hA0, hV, rfl, hfz, hnd⟩ := hW
  have hA : DataW.TrodAll enc Tryz.prog W 0 (fun _ => true) true Tryz.f3.params.toList args.toList ds p := hA0
  rw [Tryz.params3] at hA hval
  obtain ⟨v0, vs0, d0, ds0, p0, q0, hargs, rfl, rfl, h0, r0⟩ := trodAll_cons hA
  obtain ⟨v1, vs1, d1, ds1, p1, q1, rfl, rfl, rfl, h1, r1⟩ := trodAll_cons r0
  obtain ⟨v2, vs2, d2, ds2, p2, q2, rfl, rfl, rfl, h2, r2⟩ := trodAll_cons r1
  obtain ⟨rfl, rfl, rfl⟩ := trodAll_nil r2
  obtain rfl : args = #[v0, v1, v2] := by cases args; simp_all
  obtain ⟨rfl, rfl⟩ := trodVars_none hV
  obtain ⟨a0, rfl, rfl, rfl, w0⟩ := open_int Tryz.underlying22 (hval 0 22 v0 rfl rfl) h0
  obtain ⟨a1, rfl, rfl, rfl, w1⟩ := open_int Tryz.underlying22 (hval 1 22 v1 rfl rfl) h1
  obtain ⟨a2, rfl, rfl, rfl, w2⟩ := open_int Tryz.underlying5 (hval 2 5 v2 rfl rfl) h2
  clear hA0 hval0
  simp only [List.append_nil] at hW'
  refine (walk a0 a1 a2 w0 w1 w2 W (globIn hL)).mono fun e W' ⟨he, hg⟩ => ?_
  subst he
  exact ⟨_, rfl, post_of_same (pa := []) (pv := []) hW' (fun _ _ _ => (trodAll_cons_mk (shut_bool Tryz.underlying4 _) trodAll_mk0)) (fun sp _ => (trodAll_cons_mk (shut_int Tryz.underlying22 w0) (trodAll_cons_mk (shut_int Tryz.underlying22 w1) (trodAll_cons_mk (shut_int Tryz.underlying5 w2) trodAll_mk0)))) (fun _ _ => rfl) rfl
    (hg.frame _) hg.2.1 (ok_one (by kernel_rfl) rfl (okWide_bool_mk Tryz.underlying4 _))⟩

set_option maxRecDepth 1000000 in
theorem clos : Tryz.prog.closure 3 = [3, 5, 6, 10, 14, 28, 29, 30, 52, 98, 64, 31, 53, 66, 32, 15, 33, 54, 34, 55, 56, 36, 57, 58, 59, 60, 35, 61, 62, 99, 138, 177, 101, 143, 179, 209, 178, 210, 211, 208, 100, 63, 102, 139, 140, 141, 142, 11, 16, 19, 37, 65, 38, 18, 17, 39, 67, 72, 103, 104, 20, 40, 68, 105, 106, 70, 71, 107, 69, 73, 21, 41, 42, 7, 12, 22, 43, 74, 108, 109, 110, 75, 111, 76, 83, 79, 116, 149, 150, 117, 118, 151, 119, 123, 155, 183, 184, 114, 113, 147, 182, 148, 173, 112, 144, 180, 145, 146, 181, 115, 46, 90, 124, 77, 78, 80, 120, 48, 89, 121, 152, 153, 81, 82, 122, 154, 84, 85, 125, 156, 44, 86, 126, 157, 158, 185, 186, 159, 160, 161, 187, 188, 212, 127, 128, 162, 189, 213, 215, 203, 227, 226, 214, 216, 237, 217, 192, 238, 223, 243, 218, 239, 219, 163, 190, 191, 240, 256, 263, 269, 264, 270, 265, 271, 266, 267, 272, 255, 273, 276, 277, 278, 279, 280, 268, 274, 275, 241, 242, 235, 164, 165, 193, 194, 166, 195, 220, 221, 168, 196, 198, 197, 222, 167, 45, 23, 47, 87, 88, 129, 130, 169, 199, 91, 132, 49, 92, 133, 174, 206, 234, 134, 170, 200, 131, 171, 201, 202, 224, 244, 257, 258, 259, 260, 245, 225, 246, 247, 248, 249, 261, 262, 172, 204, 205, 228, 251, 250, 229, 230, 253, 252, 232, 231, 254, 233, 24, 25, 50, 93, 94, 135, 175, 176, 207, 236, 51, 96, 136, 97, 137, 95, 13, 26, 27, 8, 9] := by kernel_rfl
theorem j1 : Tryz.prog.inPlace 3 = ["internal/reflectlite.TypeOf"] := by unfold Program.inPlace; rw [clos]; kernel_rfl
theorem j2 : Tryz.prog.unfollowed 3 = true := by unfold Program.unfollowed; rw [clos]; kernel_rfl
theorem j3 : Tryz.prog.recurses 3 = true := by unfold Program.recurses; rw [j2]; rfl
theorem j4 : Tryz.prog.varsNamed 3 = ["calliper/fn.errOut"] := by unfold Program.varsNamed; rw [clos]; kernel_rfl
theorem closed : joinedFacts Tryz.prog 3 Tryz.f3 Rows.fnEnsuresSpec Rows.fnEnsuresRow = true := by
  unfold joinedFacts
  rw [j1, j2, j3, j4]
  kernel_rfl

theorem over : Rows.FnEnsuresSaid :=
  OpenClaim.holds_of_wide 3 Tryz.f3 rfl rfl rfl rfl rfl rfl rfl ⟨rfl, rfl, rfl, rfl, rfl⟩ rfl rfl rfl rfl rfl (by kernel_rfl) Tryz.func3 closed
    (of_decide_eq_true (by kernel_rfl)) (by unfold Func.isWrapper; first | (rw [if_pos (by decide +kernel)]; kernel_rfl) | (rw [if_neg (by decide +kernel)]; exact ⟨rfl, rfl⟩))
    (fun os started H enc _ => lifted os started H enc)

/-- ████ THE STATEMENT: the tied card ████ -/
theorem proved : Rows.FnEnsuresCardSaid :=
  Claim7.holds_tied_plain_at .later [] [.sentinel] true (true, "b297ee28ba78946b7cb0ce38e5aa5f7cb4c13d61c5991442cb4d674649229f2a") true
    over (fun _ h => by cases h) (by kernel_rfl) (fun _ h => by cases h) fnEnsures_row_tie rfl ⟨rfl, rfl⟩ (by kernel_rfl) rfl
    (fun f fn hf hfn => by
      obtain rfl : f = 3 := Option.some.inj ((show Tryz.prog.funcNamed "calliper/calliperlaw25.FnEnsures" = some 3 by kernel_rfl).symm.trans hf) |>.symm
      obtain rfl : fn = Tryz.f3 := (Option.some.inj (Tryz.func3.symm.trans hfn)).symm
      exact ⟨by kernel_rfl, fun j t ht => by
        rw [Tryz.params3] at ht
        have hm : t ∈ [22, 22, 5] := by simpa using Array.mem_of_getElem? ht
        have hall : ([22, 22, 5].all fun u => !Tryz.prog.wantsStandIn u) = true := by kernel_rfl
        exact (show Tryz.prog.wantsStandIn t = false by simpa using List.all_eq_true.1 hall t hm)⟩)
    (by kernel_rfl)
#print axioms proved
end Go.Proofs.YtbinlkbpbpanoaaGreatDoor.fnEnsures
