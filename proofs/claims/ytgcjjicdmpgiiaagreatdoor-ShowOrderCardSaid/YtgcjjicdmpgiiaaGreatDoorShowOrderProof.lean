/- ShowOrder answers true at all inputs, and leaves them as they were: the tied card. No condition but the card's own: the listed variables read as the program's text lays them. -/
import Derived.Test.YtgcjjicdmpgiiaaGreatDoorRows
import Derived.Test.YtgcjjicdmpgiiaaGreatDoorCards
import Derived.Test.YtgcjjicdmpgiiaaGreatDoorTie
import Derived.Test.YtgcjjicdmpgiiaaGreatDoorShowOrderR0
import Derived.Test.YtgcjjicdmpgiiaaGreatDoorShowOrderR1
import Derived.Test.YtgcjjicdmpgiiaaGreatDoorShowOrderR2
import Derived.Test.YtgcjjicdmpgiiaaGreatDoorShowOrderR3
import Derived.Test.YtgcjjicdmpgiiaaGreatDoorShowOrderR4
import Derived.Test.YtgcjjicdmpgiiaaGreatDoorShowOrderR5
import Derived.Test.YtgcjjicdmpgiiaaGreatDoorShowOrderR6
import Derived.Test.YtgcjjicdmpgiiaaGreatDoorShowOrderR7
import Derived.Test.YtgcjjicdmpgiiaaGreatDoorShowOrderR8
import Derived.Test.YtgcjjicdmpgiiaaGreatDoorShowOrderR9
import Derived.Test.YtgcjjicdmpgiiaaGreatDoorPost
import Derived.WalkKit
import Derived.ProofKit
import Derived.LaidMore
import Derived.OpenShut
import Derived.Stop.Joined
import Derived.Stop.LaidErr
import Derived.LaidHandle
import Derived.LaidLaws
import Derived.LaidSub
import Derived.SevenTiedAt
namespace Go.Proofs.YtgcjjicdmpgiiaaGreatDoor.showOrder
open Go.Sx Go.ChangeShapes Go.WideShapes Go.ChangeAt Go.RowKit
set_option linter.unusedVariables false
set_option linter.unusedSimpArgs false

theorem own : ownKnob Tryz.prog.godebug = none := by kernel_rfl

/-- The door's own heap meets the condition. -/
theorem door_met (os : Os) (args : Array Value) : laidMetH Tryz.prog Rows.showOrderRow.laid ((World.doorLaid Tryz.prog 400 os).forCall (fun _ _ => 0) ⟨#[], args, []⟩).memory :=
  laidMetH_of_parts3 (fuel := 8) (laidMet_of_run' 8 (by kernel_rfl) (by kernel_rfl)) (by kernel_rfl) (by kernel_rfl)

/-! ### The walk: by the runs of the kernel. -/
theorem walk (a0 : Int) (w0 : (Lit.int .u8 a0).wf = true) (w : World) (hin : ∀ ρ, GlobIn ρ kd.gl w) :
    Calls Tryz.prog 3 #[.int .u8 a0] w fun e w' => e = .returned (.bool true) ∧ Quiet w w' := by
  have r0 : (0 ≤ a0 ∧ a0 ≤ 255) := by simpa [Lit.wf, IntKind.min, IntKind.max, IntKind.signed, IntKind.bits] using w0
  rcases (show (a0 % 10 = 0) ∨ (a0 % 10 = 1) ∨ (a0 % 10 = 2) ∨ (a0 % 10 = 3) ∨ (a0 % 10 = 4) ∨ (a0 % 10 = 5) ∨ (a0 % 10 = 6) ∨ (a0 % 10 = 7) ∨ (a0 % 10 = 8) ∨ (a0 % 10 = 9) by omega) with h0 | h0 | h0 | h0 | h0 | h0 | h0 | h0 | h0 | h0
  · exact case0 a0 r0 h0 w hin
  · exact case1 a0 r0 h0 w hin
  · exact case2 a0 r0 h0 w hin
  · exact case3 a0 r0 h0 w hin
  · exact case4 a0 r0 h0 w hin
  · exact case5 a0 r0 h0 w hin
  · exact case6 a0 r0 h0 w hin
  · exact case7 a0 r0 h0 w hin
  · exact case8 a0 r0 h0 w hin
  · exact case9 a0 r0 h0 w hin

/-! ### THE ROW -/
theorem sentinel_block {P : Program} {n nm : String} {text : List UInt8} {r : List (String × DataW Unit)} {W : World} {g : Nat} {ti tp te ts : TypeId} {ms : Array (String × TypeId)} {f : Field}
    (h : laidMet P ((n, .iface nm (.ptr (.agg [.lit (.string text)]))) :: r) W)
    (hg : P.globalNamed n = some g) (ht : (P.globals[g]?).map (·.type) = some ti) (hi : P.underlying ti = some (.interface ms)) (hrow : ∀ u, P.typeName? 3 u = some nm → u = tp)
    (hp : P.underlying tp = some (.pointer te)) (he : P.underlying te = some (.struct #[f])) (hft : f.type = ts) (hfo : f.offset = 0) (hs : P.underlying ts = some .string) (hc : P.cellsOf te = 1) (hcs : P.cellsOf ts = 1) :
    ∃ (v : Value) (e : TypeId), W.heap[g]? = some (.cells #[.iface tp v] e (0, 0)) := by
  obtain ⟨a, s, h1, _⟩ := laid_sentinel h hg ht hi hrow hp he hft hfo hs hc hcs
  obtain ⟨ps, ⟨g0, t0, cs0, f0, p0, q0, hg0, ht0, hv0, hd0, _, e0⟩, _, hrows⟩ := h
  obtain rfl := Option.some.inj (hg.symm.trans hg0)
  obtain rfl := Option.some.inj (ht.symm.trans ht0)
  subst e0
  obtain rfl := Option.some.inj (h1.symm.trans hv0)
  obtain ⟨⟨c, t, hb⟩, _⟩ := hrows g 0 (by simp [MemPlace.row])
  have : c = #[.iface tp (.pointer (some a))] := by
    simp only [World.var?, hg, Option.bind_some, hb] at hv0
    exact (Option.some.inj hv0)
  exact ⟨_, t, by rw [hb, this]⟩
theorem star : "*errors.errorString" = "*" ++ "errors.errorString" := by decide
theorem rowP (u : TypeId) (h : Tryz.prog.typeName? 3 u = some "*errors.errorString") : u = 238 :=
  typeName_ptr_named (nm := "errors.errorString") (by rw [← star]; kernel_rfl) (by kernel_rfl) (by decide) u (by rw [← star]; exact h)
theorem globIn {W : World} (h0 : laidMetH Tryz.prog Rows.showOrderRow.laid W) : ∀ ρ, GlobIn ρ kd.gl W := by
  have h : laidMet Tryz.prog Rows.showOrderRow.laid W := by rw [MakeChecks.laidMetH_plain _ _ _ (by kernel_rfl)] at h0; exact h0
  obtain ⟨v0, e0, b0⟩ := sentinel_block (laidMet.tail (laidMet.tail (laidMet.tail h))) (show Tryz.prog.globalNamed "calliper/lex.errLong" = some 0 by kernel_rfl) (show (Tryz.prog.globals[0]?).map (·.type) = some 83 by kernel_rfl) Tryz.underlying83 rowP Tryz.underlying238 Tryz.underlying260 rfl rfl Tryz.underlying9 (by kernel_rfl) (by kernel_rfl)
  obtain ⟨v1, e1, b1⟩ := sentinel_block (laidMet.tail (laidMet.tail (laidMet.tail (laidMet.tail h)))) (show Tryz.prog.globalNamed "calliper/lex.errWord" = some 1 by kernel_rfl) (show (Tryz.prog.globals[1]?).map (·.type) = some 83 by kernel_rfl) Tryz.underlying83 rowP Tryz.underlying238 Tryz.underlying260 rfl rfl Tryz.underlying9 (by kernel_rfl) (by kernel_rfl)
  intro ρ b cs hb
  have key : ∀ (g : Nat) (v : Value) (e : TypeId), W.heap[g]? = some (.cells #[.iface 238 v] e (0, 0)) → cs = [.iface 238 .none] → ∃ (arr : Array Value) (e : TypeId), W.heap[g]? = some (.cells arr e (0, 0)) ∧ cs.length ≤ arr.size ∧ ∀ (i : Nat) (v : V), (absL ρ cs)[i]? = some v → ∃ v' : Value, arr[i]? = some v' ∧ VRel noMap v v' := by
    intro g v e h1 h2
    subst h2
    refine ⟨_, e, h1, by simp, fun i u hu => ?_⟩
    cases i with
    | zero =>
      simp only [absL, abs, List.getElem?_cons_zero, Option.some.injEq] at hu
      subst hu
      exact ⟨_, rfl, .iface _ _ _ (.any v)⟩
    | succ i => simp [absL] at hu
  simp only [gcAt, kd.gl] at hb
  cases q0 : Nat.beq 0 b with
  | true =>
    rw [q0] at hb
    have := Nat.eq_of_beq_eq_true q0
    subst this
    exact key _ v0 e0 b0 (Option.some.inj hb).symm
  | false =>
  rw [q0] at hb
  simp only [bcond_false] at hb
  cases q1 : Nat.beq 1 b with
  | true =>
    rw [q1] at hb
    have := Nat.eq_of_beq_eq_true q1
    subst this
    exact key _ v1 e1 b1 (Option.some.inj hb).symm
  | false =>
  rw [q1] at hb
  simp only [bcond_false] at hb
  cases hb

set_option maxRecDepth 100000 in
theorem lifted (os : Os) (started : os.Started) (H : Type) (enc : TypeId × Value → H) :
    ReturnsInHanded {} Tryz.checked os 3 .any (fun w args => (Rows.showOrderSpec.pre enc Tryz.prog Tryz.f3 [] false w args ∧ laidMetH Tryz.prog Rows.showOrderRow.laid w) ∧ sizedMet enc Tryz.prog Tryz.f3 (OpenSpec.ofChange Rows.showOrderSpec) false w args)
      (Rows.showOrderSpec.post enc Tryz.prog Tryz.f3 false true false false) := by
  refine returnsInHanded_of_change_and (C := Tryz.checked) (X := fun w _ => laidMetH Tryz.prog Rows.showOrderRow.laid w) (fun _ _ _ hh h => h.of_heap hh) own started (by kernel_rfl) Tryz.func3
    (ChangeSpec.witness_shaped (enc := enc) (C := Tryz.checked) (os := os) (X := fun w _ => laidMetH Tryz.prog Rows.showOrderRow.laid w) false (World.doorLaid Tryz.prog 400 os) #[.int .u8 0] 8 rfl (World.shaped_of_RefB (by kernel_rfl) (by kernel_rfl)) (by kernel_rfl) (by kernel_rfl) (by kernel_rfl) (door_met os _)) ?_
  intro W base args ds gs before hval0 hW _ _ hL _
  have hval : ∀ (j : Nat) t v, Tryz.f3.params[j]? = some t → args[j]? = some v → Value.okWide Tryz.prog W .any base t v := hval0
  have hW' := hW
  obtain ⟨p, q, hA0, hV, rfl, hfz, hnd⟩ := hW
  have hA : DataW.TrodAll enc Tryz.prog W 0 (fun _ => true) true Tryz.f3.params.toList args.toList ds p := hA0
  rw [Tryz.params3] at hA hval
  obtain ⟨v0, vs0, d0, ds0, p0, q0, hargs, rfl, rfl, h0, r0⟩ := trodAll_cons hA
  obtain ⟨rfl, rfl, rfl⟩ := trodAll_nil r0
  obtain rfl : args = #[v0] := by cases args; simp_all
  obtain ⟨rfl, rfl⟩ := trodVars_none hV
  obtain ⟨a0, rfl, rfl, rfl, w0⟩ := open_int Tryz.underlying5 (hval 0 5 v0 rfl rfl) h0
  clear hA0 hval0
  simp only [List.append_nil] at hW'
  refine (walk a0 w0 W (globIn hL)).mono fun e W' ⟨he, hg⟩ => ?_
  subst he
  exact ⟨_, rfl, Go.Fx.post_quiet hW' (fun _ _ _ => (trodAll_cons_mk (shut_bool Tryz.underlying4 _) trodAll_mk0)) (fun sp _ => (trodAll_cons_mk (shut_int Tryz.underlying5 w0) trodAll_mk0)) (fun _ _ => rfl) hg (ok_one (by kernel_rfl) rfl (okWide_bool_mk Tryz.underlying4 _))⟩

set_option maxRecDepth 1000000 in
theorem clos : Tryz.prog.closure 3 = [3, 4, 5, 9, 16, 17, 18, 46, 87, 123, 19, 47, 88, 20, 10, 21, 48, 22, 49, 50, 24, 51, 52, 53, 54, 23, 55, 56, 89, 124, 152, 91, 129, 154, 167, 153, 168, 169, 166, 90, 57, 92, 125, 126, 127, 128, 6, 11, 25, 12, 26, 58, 59, 27, 28, 60, 93, 61, 95, 131, 156, 170, 171, 185, 184, 186, 172, 173, 187, 188, 196, 197, 94, 130, 155, 29, 62, 96, 132, 157, 174, 178, 175, 189, 30, 65, 66, 67, 68, 98, 99, 101, 100, 138, 161, 139, 102, 140, 162, 179, 191, 103, 141, 163, 180, 69, 104, 142, 143, 190, 198, 158, 133, 134, 160, 176, 177, 159, 63, 64, 97, 135, 136, 137, 13, 32, 33, 71, 73, 105, 74, 75, 110, 72, 106, 107, 108, 109, 144, 76, 111, 112, 145, 164, 182, 193, 114, 192, 116, 165, 183, 195, 200, 201, 202, 199, 203, 194, 181, 113, 77, 115, 146, 147, 148, 149, 150, 151, 31, 70, 14, 34, 78, 117, 79, 118, 35, 36, 15, 37, 38, 39, 40, 41, 42, 43, 80, 81, 82, 119, 120, 85, 121, 122, 44, 45, 83, 84, 86, 7, 8] := by kernel_rfl
theorem j1 : Tryz.prog.inPlace 3 = ["internal/bytealg.IndexByteString", "internal/reflectlite.TypeOf", "internal/abi.NoEscape", "internal/bytealg.MakeNoZero"] := by unfold Program.inPlace; rw [clos]; kernel_rfl
theorem j2 : Tryz.prog.unfollowed 3 = true := by unfold Program.unfollowed; rw [clos]; kernel_rfl
theorem j3 : Tryz.prog.recurses 3 = true := by unfold Program.recurses; rw [j2]; rfl
theorem j4 : Tryz.prog.varsNamed 3 = ["internal/strconv.uint64pow10", "math/bits.deBruijn32tab", "math/bits.deBruijn64tab", "calliper/lex.errLong", "calliper/lex.errWord"] := by unfold Program.varsNamed; rw [clos]; kernel_rfl
theorem closed : joinedFacts Tryz.prog 3 Tryz.f3 Rows.showOrderSpec Rows.showOrderRow = true := by
  unfold joinedFacts
  rw [j1, j2, j3, j4]
  kernel_rfl

theorem over : Rows.ShowOrderSaid :=
  OpenClaim.holds_of_wide 3 Tryz.f3 rfl rfl rfl rfl rfl rfl rfl ⟨rfl, rfl, rfl, rfl, rfl⟩ rfl rfl rfl rfl rfl (by kernel_rfl) Tryz.func3 closed
    (of_decide_eq_true (by kernel_rfl)) (by unfold Func.isWrapper; first | (rw [if_pos (by decide +kernel)]; kernel_rfl) | (rw [if_neg (by decide +kernel)]; exact ⟨rfl, rfl⟩))
    (fun os started H enc _ => lifted os started H enc)

/-- ████ THE STATEMENT: the tied card ████ -/
theorem proved : Rows.ShowOrderCardSaid :=
  Claim7.holds_tied_plain_at .later [] [.data, .data, .data, .sentinel, .sentinel] true (true, "e3c1be70c181b22359acb7240cc4202956f06d03420778e024b06595ec32a80b") true
    over (fun _ h => by cases h) (by kernel_rfl) (fun _ h => by cases h) showOrder_row_tie rfl ⟨rfl, rfl⟩ (by kernel_rfl) rfl
    (fun f fn hf hfn => by
      obtain rfl : f = 3 := Option.some.inj ((show Tryz.prog.funcNamed "calliper/calliperlaw4.ShowOrder" = some 3 by kernel_rfl).symm.trans hf) |>.symm
      obtain rfl : fn = Tryz.f3 := (Option.some.inj (Tryz.func3.symm.trans hfn)).symm
      exact ⟨by kernel_rfl, fun j t ht => by
        rw [Tryz.params3] at ht
        have hm : t ∈ [5] := by simpa using Array.mem_of_getElem? ht
        have hall : ([5].all fun u => !Tryz.prog.wantsStandIn u) = true := by kernel_rfl
        exact (show Tryz.prog.wantsStandIn t = false by simpa using List.all_eq_true.1 hall t hm)⟩)
    (by kernel_rfl)
#print axioms proved
end Go.Proofs.YtgcjjicdmpgiiaaGreatDoor.showOrder
