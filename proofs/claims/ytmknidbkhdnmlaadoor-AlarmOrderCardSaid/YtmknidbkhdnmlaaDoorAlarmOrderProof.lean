/- AlarmOrder answers true at all inputs, and leaves them as they were: the tied card. No condition but the card's own: the listed variables read as the program's text lays them. -/
import Derived.Test.YtmknidbkhdnmlaaDoorRows
import Derived.Test.YtmknidbkhdnmlaaDoorCards
import Derived.Test.YtmknidbkhdnmlaaDoorTie
import Derived.Test.YtmknidbkhdnmlaaDoorAlarmOrderRuns
import Derived.WalkKit
import Derived.ProofKit
import Derived.LaidMore
import Derived.OpenShut
import Derived.Lib.SmallJoins
import Derived.Stop.Joined
import Derived.SevenTiedAt
namespace Go.Proofs.YtmknidbkhdnmlaaDoor.alarmOrder
open Go.Sx Go.ChangeShapes Go.WideShapes Go.ChangeAt Go.RowKit Go.Joins
set_option linter.unusedVariables false
set_option linter.unusedSimpArgs false

theorem own : ownKnob Tryd.prog.godebug = none := by kernel_rfl
theorem cells23 : Tryd.prog.cellsOf 23 = 4 := by kernel_rfl

/-- The door's own heap meets the condition. -/
theorem door_met (os : Os) (args : Array Value) : laidMetH Tryd.prog Rows.alarmOrderRow.laid ((World.doorLaid Tryd.prog 400 os).forCall (fun _ _ => 0) ⟨#[], args, []⟩).memory :=
  laidMetH_of_parts3 (fuel := 8) (laidMet_of_run' 8 (by kernel_rfl) (by kernel_rfl)) (by kernel_rfl) (by kernel_rfl)

theorem fit {a : Int} (w : (Lit.int .i64 a).wf = true) : (-9223372036854775808 : Int) ≤ a ∧ a ≤ 9223372036854775807 := by
  simpa [Lit.wf, IntKind.min, IntKind.max, IntKind.signed, IntKind.bits] using w

section
variable {H : Type} {enc : TypeId × Value → H}
theorem open_alarm {W W' : World} {base : Nat} {sp : Nat → Bool} {b0 : Nat} {v : Value} {d : DataW H} {p : List MemPlace} (hv : Value.okWide Tryd.prog W' .any b0 23 v) (h : DataW.Trod enc Tryd.prog W' base sp true 23 v d p) :
    ∃ (s : ByteArray) (x y : Int) (m : Bool), v = .agg #[.string s, .int .i64 x, .int .i64 y, .bool m] ∧ d = .agg [.lit (.string s.data.toList), .lit (.int .i64 x), .lit (.int .i64 y), .lit (.bool m)] ∧ p = [] ∧ (Lit.int .i64 x).wf = true ∧ (Lit.int .i64 y).wf = true ∧ s.size ≤ maxLen := by
  obtain ⟨c0, c1, c2, c3, y0, y1, y2, y3, n, rfl, rfl, rfl, h0, h1, h2, h3⟩ := open_agg4 Tryd.underlying23 (by kernel_rfl) cells23 hv h
  obtain ⟨s, e0, rfl, ws⟩ := DataW.trod_string Tryd.underlying9 h0
  obtain ⟨x, e1, rfl, wx⟩ := DataW.trod_int Tryd.underlying3 h1
  obtain ⟨y, e2, rfl, wy⟩ := DataW.trod_int Tryd.underlying3 h2
  obtain ⟨m, e3, rfl⟩ := DataW.trod_bool Tryd.underlying4 h3
  simp at e0 e1 e2 e3
  subst e0 e1 e2 e3
  exact ⟨s, x, y, m, rfl, rfl, rfl, wx, wy, ws⟩
theorem shut_alarm {W' : World} {sp : Nat → Bool} {s : ByteArray} {x y : Int} {m : Bool} (wx : (Lit.int .i64 x).wf = true) (wy : (Lit.int .i64 y).wf = true) (ws : s.size ≤ maxLen) :
    DataW.Trod enc Tryd.prog W' 0 sp true 23 (.agg #[.string s, .int .i64 x, .int .i64 y, .bool m]) (.agg [.lit (.string s.data.toList), .lit (.int .i64 x), .lit (.int .i64 y), .lit (.bool m)]) [] :=
  shut_agg4 (y0 := (.lit (.string s.data.toList), [])) (y1 := (.lit (.int .i64 x), [])) (y2 := (.lit (.int .i64 y), [])) (y3 := (.lit (.bool m), [])) Tryd.underlying23 (by kernel_rfl) cells23
    ⟨1, by simp [DataW.trod, Tryd.underlying9, ws]⟩ ⟨1, by simp [DataW.trod, Tryd.underlying3, wx]⟩ ⟨1, by simp [DataW.trod, Tryd.underlying3, wy]⟩ ⟨1, by simp [DataW.trod, Tryd.underlying4]⟩
end

set_option maxRecDepth 100000 in
theorem lifted (os : Os) (started : os.Started) (H : Type) (enc : TypeId × Value → H) :
    ReturnsInHanded {} Tryd.checked os 3 .any (fun w args => (Rows.alarmOrderSpec.pre enc Tryd.prog Tryd.f3 [] false w args ∧ laidMetH Tryd.prog Rows.alarmOrderRow.laid w) ∧ sizedMet enc Tryd.prog Tryd.f3 (OpenSpec.ofChange Rows.alarmOrderSpec) false w args)
      (Rows.alarmOrderSpec.post enc Tryd.prog Tryd.f3 false true false false) := by
  refine returnsInHanded_of_change_and (C := Tryd.checked) (X := fun w _ => laidMetH Tryd.prog Rows.alarmOrderRow.laid w) (fun _ _ _ hh h => h.of_heap hh) own started (by kernel_rfl) Tryd.func3
    (ChangeSpec.witness_shaped (enc := enc) (C := Tryd.checked) (os := os) (X := fun w _ => laidMetH Tryd.prog Rows.alarmOrderRow.laid w) false (World.doorLaid Tryd.prog 400 os)
      #[.agg #[.string ⟨#[]⟩, .int .i64 0, .int .i64 0, .bool false], .agg #[.string ⟨#[]⟩, .int .i64 0, .int .i64 0, .bool false], .agg #[.string ⟨#[]⟩, .int .i64 0, .int .i64 0, .bool false]] 8 rfl (World.shaped_of_RefB (by kernel_rfl) (by kernel_rfl)) (by kernel_rfl) (by kernel_rfl) (by kernel_rfl) (door_met os _)) ?_
  intro W base args ds gs before hval0 hW _ _ hL _
  have hval : ∀ (j : Nat) t v, Tryd.f3.params[j]? = some t → args[j]? = some v → Value.okWide Tryd.prog W .any base t v := hval0
  have hW' := hW
  obtain ⟨p, q, hA0, hV, rfl, hfz, hnd⟩ := hW
  have hA : DataW.TrodAll enc Tryd.prog W 0 (fun _ => true) true Tryd.f3.params.toList args.toList ds p := hA0
  rw [Tryd.params3] at hA hval
  obtain ⟨v0, vs0, d0, ds0, p0, q0, hargs, rfl, rfl, h0, r0⟩ := trodAll_cons hA
  obtain ⟨v1, vs1, d1, ds1, p1, q1, rfl, rfl, rfl, h1, r1⟩ := trodAll_cons r0
  obtain ⟨v2, vs2, d2, ds2, p2, q2, rfl, rfl, rfl, h2, r2⟩ := trodAll_cons r1
  obtain ⟨rfl, rfl, rfl⟩ := trodAll_nil r2
  obtain rfl : args = #[v0, v1, v2] := by cases args; simp_all
  obtain ⟨rfl, rfl⟩ := trodVars_none hV
  obtain ⟨s0, x0, y0, m0, rfl, rfl, rfl, wx0, wy0, ws0⟩ := open_alarm (W := W) (hval 0 23 v0 rfl rfl) h0
  obtain ⟨s1, x1, y1, m1, rfl, rfl, rfl, wx1, wy1, ws1⟩ := open_alarm (W := W) (hval 1 23 v1 rfl rfl) h1
  obtain ⟨s2, x2, y2, m2, rfl, rfl, rfl, wx2, wy2, ws2⟩ := open_alarm (W := W) (hval 2 23 v2 rfl rfl) h2
  clear hA0 hval0
  simp only [List.append_nil] at hW'
  refine (walk s0 s1 s2 x0 y0 x1 y1 x2 y2 m0 m1 m2 (fit wx0) (fit wy0) (fit wx1) (fit wy1) (fit wx2) (fit wy2) W).mono fun e W' ⟨he, hg⟩ => ?_
  subst he
  exact ⟨_, rfl, post_of_same (pa := []) (pv := []) hW' (fun _ _ _ => (trodAll_cons_mk (shut_bool Tryd.underlying4 _) trodAll_mk0)) (fun sp _ => (trodAll_cons_mk (shut_alarm wx0 wy0 ws0) (trodAll_cons_mk (shut_alarm wx1 wy1 ws1) (trodAll_cons_mk (shut_alarm wx2 wy2 ws2) trodAll_mk0)))) (fun _ _ => rfl) rfl
    (hg.frame _) hg.2.1 (ok_one (by kernel_rfl) rfl (okWide_bool_mk Tryd.underlying4 _))⟩

theorem over : Rows.AlarmOrderSaid :=
  OpenClaim.holds_of_wide 3 Tryd.f3 rfl rfl rfl rfl rfl rfl rfl ⟨rfl, rfl, rfl, rfl, rfl⟩ rfl rfl rfl rfl rfl (by kernel_rfl) Tryd.func3 (by kernel_rfl)
    (of_decide_eq_true (by kernel_rfl)) (by unfold Func.isWrapper; first | (rw [if_pos (by decide +kernel)]; kernel_rfl) | (rw [if_neg (by decide +kernel)]; exact ⟨rfl, rfl⟩))
    (fun os started H enc _ => lifted os started H enc)

/-- ████ THE STATEMENT: the tied card ████ -/
theorem proved : Rows.AlarmOrderCardSaid :=
  Claim7.holds_tied_plain_at .later [] [.data, .data, .data] true (true, "357b2dc5853a15ecc0cd1e11f71ce287c9b144ef75dc1fe1424d1ea1aaef8247") false
    over (fun _ h => by cases h) (by kernel_rfl) (fun _ h => by cases h) alarmOrder_row_tie rfl ⟨rfl, rfl⟩ (by kernel_rfl) rfl
    (fun f fn hf hfn => by
      obtain rfl : f = 3 := Option.some.inj ((show Tryd.prog.funcNamed "calliper/calliperlaw26.AlarmOrder" = some 3 by kernel_rfl).symm.trans hf) |>.symm
      obtain rfl : fn = Tryd.f3 := (Option.some.inj (Tryd.func3.symm.trans hfn)).symm
      exact ⟨by kernel_rfl, fun j t ht => by
        rw [Tryd.params3] at ht
        have hm : t ∈ [23, 23, 23] := by simpa using Array.mem_of_getElem? ht
        have hall : ([23, 23, 23].all fun u => !Tryd.prog.wantsStandIn u) = true := by kernel_rfl
        exact (show Tryd.prog.wantsStandIn t = false by simpa using List.all_eq_true.1 hall t hm)⟩)
    (by kernel_rfl)
#print axioms proved
end Go.Proofs.YtmknidbkhdnmlaaDoor.alarmOrder
