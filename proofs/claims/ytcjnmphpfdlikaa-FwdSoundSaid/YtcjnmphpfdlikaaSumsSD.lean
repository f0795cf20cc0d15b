/- What inner functions answer, by runs of the kernel: the intervals' ends, ones that reach so far, relations. No condition. Written by program. -/
import Derived.Test.YtcjnmphpfdlikaaDrawD
import Derived.Test.YtcjnmphpfdlikaaFwdD
import Derived.KernelRfl
set_option linter.unusedVariables false
set_option linter.unusedSimpArgs false
set_option maxRecDepth 1000000
set_option maxHeartbeats 100000000
namespace Go.Proofs.Ytcjnmphpfdlikaa.fs
open Go Go.Sx Go.RowKit Go.Fx
noncomputable abbrev rE (f : FuncId) (args : List KV) (cx : Cx) (R : KV) : Bool := runE Try.prog (tabK (fstF []) []) 100000 f args cx R
theorem tx {f : FuncId} {args : List KV} {cx : Cx} {R : KV} {xs : List Int} {args' : List Value} {v : V} (h : rE f args cx R = true) (hargs : VRels noMap (absL (rho xs) args) args') (hv : abs (rho xs) R = v) (hf : flatV v = true) (h4 : dfAll xs cx.df := by exact trivial) (h1 : boxAll xs cx.box := by simp only [boxAll, and_true] <;> omega) (h2 : csAll xs cx.cs := by first | exact trivial | (simp [csAll, evT, rho] <;> omega)) (h3 : noSv cx.box = true := by rfl) : Tells Try.prog f args' v := tells_tab kdD.progOK kdD.mixed (l := []) trivial trivial h h1 h2 h4 trivial hargs hv hf h3
/-- A number within a type: I32 (5), U32 (6). -/
noncomputable def wrapT (t x : Int) : Int := if t = 5 then IntKind.wrap .i32 x else IntKind.wrap .u32 x
noncomputable def endA (t a far : Int) : Int := if far % 3 = 0 then wrapT t (a % 40 - 20) else wrapT t a
noncomputable def endB (t a b far : Int) : Int := if far % 7 = 0 then endA t a far else endA t b far
noncomputable def endsF : List V → Option V
  | [.int .i64 t, .int .u32 a, .int .u32 b, .int .u8 far] => if (t = 5 ∨ t = 6) ∧ (0 ≤ a ∧ a ≤ 4294967295) ∧ (0 ≤ b ∧ b ≤ 4294967295) ∧ (0 ≤ far ∧ far ≤ 255) then some (.agg [.int .i64 (min (endA t a far) (endB t a b far)), .int .i64 (max (endA t a far) (endB t a b far))]) else none
  | _ => none
def onesGo : Nat → Int → Int → Int
  | 0, o, _ => o
  | f + 1, o, n => if o < n then onesGo f (2 * o + 1) n else o
/-- The least of 0, 1, 3, 7 .. that is at least a number. -/
def onesV (n : Int) : Int := onesGo 40 0 n
theorem ones_step {f : Nat} {o n : Int} (h : o < n) : onesGo (f + 1) o n = onesGo f (2 * o + 1) n := if_pos h
theorem ones_stop {f : Nat} {o n : Int} (h : n ≤ o) : onesGo (f + 1) o n = o := if_neg (by omega)
noncomputable def onesF : List V → Option V
  | [.int .i64 n] => if -2147483648 ≤ n ∧ n ≤ 4294967295 then some (.int .i64 (onesV n)) else none
  | _ => none
theorem rel_agg2 {μ : Map} {ρ : Nat → Int} {k k' : IntKind} {x y : KI} {a b : Int} (h : VRel μ (abs ρ (.int k x)) (.int k a)) (h' : VRel μ (abs ρ (.int k' y)) (.int k' b)) : VRel μ (abs ρ (.agg [.int k x, .int k' y])) (.agg #[.int k a, .int k' b]) := rel_agg (l' := [.int k a, .int k' b]) (args_cons h (args_cons h' args_nil))

theorem re0 : rE 7 [.int .i64 (.p 5), .int .u32 (.a 0 [(0, 1)]), .int .u32 (.a 0 [(1, 1)]), .int .u8 (.a 0 [(2, 1)])] ⟨[(0, 4294967295), (0, 4294967295), (0, 255), (0, 0), (0, 0), (0, 39), (0, 39), ((-2147483648), 2147483647), ((-2147483648), 2147483647)], [], [⟨2, .u8, .a 0 [(2, 1)], .p 3, 3⟩, ⟨2, .u8, .a 0 [(2, 1)], .p 7, 4⟩, ⟨2, .i64, .a 0 [(0, 1)], .p 40, 5⟩, ⟨2, .i64, .a 0 [(1, 1)], .p 40, 6⟩, ⟨7, .i32, .a 0 [(0, 1)], .p 0, 7⟩, ⟨7, .i32, .a 0 [(1, 1)], .p 0, 8⟩]⟩ (.agg [.int .i64 (.a (-20) [(5, 1)]), .int .i64 (.a (-20) [(5, 1)])]) = true := by kernel_rfl
theorem re1 : rE 7 [.int .i64 (.p 5), .int .u32 (.a 0 [(0, 1)]), .int .u32 (.a 0 [(1, 1)]), .int .u8 (.a 0 [(2, 1)])] ⟨[(0, 4294967295), (0, 4294967295), (0, 255), (0, 0), (1, 6), (0, 39), (0, 39), ((-2147483648), 2147483647), ((-2147483648), 2147483647)], [(0, [(5, 1), (6, (-1))])], [⟨2, .u8, .a 0 [(2, 1)], .p 3, 3⟩, ⟨2, .u8, .a 0 [(2, 1)], .p 7, 4⟩, ⟨2, .i64, .a 0 [(0, 1)], .p 40, 5⟩, ⟨2, .i64, .a 0 [(1, 1)], .p 40, 6⟩, ⟨7, .i32, .a 0 [(0, 1)], .p 0, 7⟩, ⟨7, .i32, .a 0 [(1, 1)], .p 0, 8⟩]⟩ (.agg [.int .i64 (.a (-20) [(5, 1)]), .int .i64 (.a (-20) [(6, 1)])]) = true := by kernel_rfl
theorem re2 : rE 7 [.int .i64 (.p 5), .int .u32 (.a 0 [(0, 1)]), .int .u32 (.a 0 [(1, 1)]), .int .u8 (.a 0 [(2, 1)])] ⟨[(0, 4294967295), (0, 4294967295), (0, 255), (0, 0), (1, 6), (0, 39), (0, 39), ((-2147483648), 2147483647), ((-2147483648), 2147483647)], [(0, [(5, (-1)), (6, 1)])], [⟨2, .u8, .a 0 [(2, 1)], .p 3, 3⟩, ⟨2, .u8, .a 0 [(2, 1)], .p 7, 4⟩, ⟨2, .i64, .a 0 [(0, 1)], .p 40, 5⟩, ⟨2, .i64, .a 0 [(1, 1)], .p 40, 6⟩, ⟨7, .i32, .a 0 [(0, 1)], .p 0, 7⟩, ⟨7, .i32, .a 0 [(1, 1)], .p 0, 8⟩]⟩ (.agg [.int .i64 (.a (-20) [(6, 1)]), .int .i64 (.a (-20) [(5, 1)])]) = true := by kernel_rfl
theorem re3 : rE 7 [.int .i64 (.p 5), .int .u32 (.a 0 [(0, 1)]), .int .u32 (.a 0 [(1, 1)]), .int .u8 (.a 0 [(2, 1)])] ⟨[(0, 4294967295), (0, 4294967295), (0, 255), (1, 2), (0, 0), (0, 39), (0, 39), ((-2147483648), 2147483647), ((-2147483648), 2147483647)], [], [⟨2, .u8, .a 0 [(2, 1)], .p 3, 3⟩, ⟨2, .u8, .a 0 [(2, 1)], .p 7, 4⟩, ⟨2, .i64, .a 0 [(0, 1)], .p 40, 5⟩, ⟨2, .i64, .a 0 [(1, 1)], .p 40, 6⟩, ⟨7, .i32, .a 0 [(0, 1)], .p 0, 7⟩, ⟨7, .i32, .a 0 [(1, 1)], .p 0, 8⟩]⟩ (.agg [.int .i64 (.a 0 [(7, 1)]), .int .i64 (.a 0 [(7, 1)])]) = true := by kernel_rfl
theorem re4 : rE 7 [.int .i64 (.p 5), .int .u32 (.a 0 [(0, 1)]), .int .u32 (.a 0 [(1, 1)]), .int .u8 (.a 0 [(2, 1)])] ⟨[(0, 4294967295), (0, 4294967295), (0, 255), (1, 2), (1, 6), (0, 39), (0, 39), ((-2147483648), 2147483647), ((-2147483648), 2147483647)], [(0, [(7, 1), (8, (-1))])], [⟨2, .u8, .a 0 [(2, 1)], .p 3, 3⟩, ⟨2, .u8, .a 0 [(2, 1)], .p 7, 4⟩, ⟨2, .i64, .a 0 [(0, 1)], .p 40, 5⟩, ⟨2, .i64, .a 0 [(1, 1)], .p 40, 6⟩, ⟨7, .i32, .a 0 [(0, 1)], .p 0, 7⟩, ⟨7, .i32, .a 0 [(1, 1)], .p 0, 8⟩]⟩ (.agg [.int .i64 (.a 0 [(7, 1)]), .int .i64 (.a 0 [(8, 1)])]) = true := by kernel_rfl
theorem re5 : rE 7 [.int .i64 (.p 5), .int .u32 (.a 0 [(0, 1)]), .int .u32 (.a 0 [(1, 1)]), .int .u8 (.a 0 [(2, 1)])] ⟨[(0, 4294967295), (0, 4294967295), (0, 255), (1, 2), (1, 6), (0, 39), (0, 39), ((-2147483648), 2147483647), ((-2147483648), 2147483647)], [(0, [(7, (-1)), (8, 1)])], [⟨2, .u8, .a 0 [(2, 1)], .p 3, 3⟩, ⟨2, .u8, .a 0 [(2, 1)], .p 7, 4⟩, ⟨2, .i64, .a 0 [(0, 1)], .p 40, 5⟩, ⟨2, .i64, .a 0 [(1, 1)], .p 40, 6⟩, ⟨7, .i32, .a 0 [(0, 1)], .p 0, 7⟩, ⟨7, .i32, .a 0 [(1, 1)], .p 0, 8⟩]⟩ (.agg [.int .i64 (.a 0 [(8, 1)]), .int .i64 (.a 0 [(7, 1)])]) = true := by kernel_rfl
theorem re6 : rE 7 [.int .i64 (.p 6), .int .u32 (.a 0 [(0, 1)]), .int .u32 (.a 0 [(1, 1)]), .int .u8 (.a 0 [(2, 1)])] ⟨[(0, 4294967295), (0, 4294967295), (0, 255), (0, 0), (0, 0), (0, 39), (0, 39), (0, 4294967295), (0, 4294967295)], [], [⟨2, .u8, .a 0 [(2, 1)], .p 3, 3⟩, ⟨2, .u8, .a 0 [(2, 1)], .p 7, 4⟩, ⟨2, .i64, .a 0 [(0, 1)], .p 40, 5⟩, ⟨2, .i64, .a 0 [(1, 1)], .p 40, 6⟩, ⟨7, .u32, .a (-20) [(5, 1)], .p 0, 7⟩, ⟨7, .u32, .a (-20) [(6, 1)], .p 0, 8⟩]⟩ (.agg [.int .i64 (.a 0 [(7, 1)]), .int .i64 (.a 0 [(7, 1)])]) = true := by kernel_rfl
theorem re7 : rE 7 [.int .i64 (.p 6), .int .u32 (.a 0 [(0, 1)]), .int .u32 (.a 0 [(1, 1)]), .int .u8 (.a 0 [(2, 1)])] ⟨[(0, 4294967295), (0, 4294967295), (0, 255), (0, 0), (1, 6), (0, 39), (0, 39), (0, 4294967295), (0, 4294967295)], [(0, [(7, 1), (8, (-1))])], [⟨2, .u8, .a 0 [(2, 1)], .p 3, 3⟩, ⟨2, .u8, .a 0 [(2, 1)], .p 7, 4⟩, ⟨2, .i64, .a 0 [(0, 1)], .p 40, 5⟩, ⟨2, .i64, .a 0 [(1, 1)], .p 40, 6⟩, ⟨7, .u32, .a (-20) [(5, 1)], .p 0, 7⟩, ⟨7, .u32, .a (-20) [(6, 1)], .p 0, 8⟩]⟩ (.agg [.int .i64 (.a 0 [(7, 1)]), .int .i64 (.a 0 [(8, 1)])]) = true := by kernel_rfl
theorem re8 : rE 7 [.int .i64 (.p 6), .int .u32 (.a 0 [(0, 1)]), .int .u32 (.a 0 [(1, 1)]), .int .u8 (.a 0 [(2, 1)])] ⟨[(0, 4294967295), (0, 4294967295), (0, 255), (0, 0), (1, 6), (0, 39), (0, 39), (0, 4294967295), (0, 4294967295)], [(0, [(7, (-1)), (8, 1)])], [⟨2, .u8, .a 0 [(2, 1)], .p 3, 3⟩, ⟨2, .u8, .a 0 [(2, 1)], .p 7, 4⟩, ⟨2, .i64, .a 0 [(0, 1)], .p 40, 5⟩, ⟨2, .i64, .a 0 [(1, 1)], .p 40, 6⟩, ⟨7, .u32, .a (-20) [(5, 1)], .p 0, 7⟩, ⟨7, .u32, .a (-20) [(6, 1)], .p 0, 8⟩]⟩ (.agg [.int .i64 (.a 0 [(8, 1)]), .int .i64 (.a 0 [(7, 1)])]) = true := by kernel_rfl
theorem re9 : rE 7 [.int .i64 (.p 6), .int .u32 (.a 0 [(0, 1)]), .int .u32 (.a 0 [(1, 1)]), .int .u8 (.a 0 [(2, 1)])] ⟨[(0, 4294967295), (0, 4294967295), (0, 255), (1, 2), (0, 0), (0, 39), (0, 39), (0, 4294967295), (0, 4294967295)], [], [⟨2, .u8, .a 0 [(2, 1)], .p 3, 3⟩, ⟨2, .u8, .a 0 [(2, 1)], .p 7, 4⟩, ⟨2, .i64, .a 0 [(0, 1)], .p 40, 5⟩, ⟨2, .i64, .a 0 [(1, 1)], .p 40, 6⟩, ⟨7, .u32, .a (-20) [(5, 1)], .p 0, 7⟩, ⟨7, .u32, .a (-20) [(6, 1)], .p 0, 8⟩]⟩ (.agg [.int .i64 (.a 0 [(0, 1)]), .int .i64 (.a 0 [(0, 1)])]) = true := by kernel_rfl
theorem re10 : rE 7 [.int .i64 (.p 6), .int .u32 (.a 0 [(0, 1)]), .int .u32 (.a 0 [(1, 1)]), .int .u8 (.a 0 [(2, 1)])] ⟨[(0, 4294967295), (0, 4294967295), (0, 255), (1, 2), (1, 6), (0, 39), (0, 39), (0, 4294967295), (0, 4294967295)], [(0, [(0, 1), (1, (-1))])], [⟨2, .u8, .a 0 [(2, 1)], .p 3, 3⟩, ⟨2, .u8, .a 0 [(2, 1)], .p 7, 4⟩, ⟨2, .i64, .a 0 [(0, 1)], .p 40, 5⟩, ⟨2, .i64, .a 0 [(1, 1)], .p 40, 6⟩, ⟨7, .u32, .a (-20) [(5, 1)], .p 0, 7⟩, ⟨7, .u32, .a (-20) [(6, 1)], .p 0, 8⟩]⟩ (.agg [.int .i64 (.a 0 [(0, 1)]), .int .i64 (.a 0 [(1, 1)])]) = true := by kernel_rfl
theorem re11 : rE 7 [.int .i64 (.p 6), .int .u32 (.a 0 [(0, 1)]), .int .u32 (.a 0 [(1, 1)]), .int .u8 (.a 0 [(2, 1)])] ⟨[(0, 4294967295), (0, 4294967295), (0, 255), (1, 2), (1, 6), (0, 39), (0, 39), (0, 4294967295), (0, 4294967295)], [(0, [(0, (-1)), (1, 1)])], [⟨2, .u8, .a 0 [(2, 1)], .p 3, 3⟩, ⟨2, .u8, .a 0 [(2, 1)], .p 7, 4⟩, ⟨2, .i64, .a 0 [(0, 1)], .p 40, 5⟩, ⟨2, .i64, .a 0 [(1, 1)], .p 40, 6⟩, ⟨7, .u32, .a (-20) [(5, 1)], .p 0, 7⟩, ⟨7, .u32, .a (-20) [(6, 1)], .p 0, 8⟩]⟩ (.agg [.int .i64 (.a 0 [(1, 1)]), .int .i64 (.a 0 [(0, 1)])]) = true := by kernel_rfl
theorem modU {x : Int} (m : Nat) (hm : m ≠ 0) (hx : 0 ≤ x) : dfV 2 .u8 x m = some (x % m) := by
  simp only [dfV, if_neg (show ¬ (m : Int) = 0 by omega)]
  rw [Int.tmod_eq_emod_of_nonneg hx]
theorem wrap5 (x : Int) : dfV 7 .i32 x 0 = some (wrapT 5 x) ∧ -2147483648 ≤ wrapT 5 x ∧ wrapT 5 x ≤ 2147483647 := by
  obtain ⟨w, h, b⟩ := convI x
  cases h
  exact ⟨rfl, b⟩
theorem wrap6 (x : Int) : dfV 7 .u32 x 0 = some (wrapT 6 x) ∧ 0 ≤ wrapT 6 x ∧ wrapT 6 x ≤ 4294967295 := by
  obtain ⟨w, h, b⟩ := conv32 x
  cases h
  exact ⟨rfl, b⟩
theorem wrap5_in {x : Int} (h : -20 ≤ x ∧ x ≤ 20) : wrapT 5 x = x := wrap_in .i32 x (by simp [kLo]; omega) (by simp [kMax]; omega)
theorem wrap6_in {x : Int} (h : 0 ≤ x ∧ x ≤ 4294967295) : wrapT 6 x = x := wrap_in .u32 x (by simp [kLo]; omega) (by simp [kMax]; omega)
theorem endA_in {t a far : Int} : (t = 5 → -2147483648 ≤ endA t a far ∧ endA t a far ≤ 2147483647) ∧ (t = 6 → 0 ≤ endA t a far ∧ endA t a far ≤ 4294967295) := by
  refine ⟨fun h => ?_, fun h => ?_⟩ <;> subst h <;> unfold endA <;> split <;> first | exact (wrap5 _).2 | exact (wrap6 _).2
theorem ends_tells {t a b far : Int} (ht : t = 5 ∨ t = 6) (ha : 0 ≤ a ∧ a ≤ 4294967295) (hb : 0 ≤ b ∧ b ≤ 4294967295) (hf : 0 ≤ far ∧ far ≤ 255) : Tells Try.prog 7 [.int .i64 t, .int .u32 a, .int .u32 b, .int .u8 far] (.agg [.int .i64 (min (endA t a far) (endB t a b far)), .int .i64 (max (endA t a far) (endB t a b far))]) := by
  have d3 := modU (x := far) 3 (by omega) hf.1
  have d7 := modU (x := far) 7 (by omega) hf.1
  have da := remAny (x := a) 40 (by omega) ha.1
  have db := remAny (x := b) 40 (by omega) hb.1
  rcases ht with rfl | rfl

  · obtain ⟨ea, ea1, ea2⟩ := wrap5 a
    obtain ⟨eb, eb1, eb2⟩ := wrap5 b
    rcases (show far % 3 = 0 ∨ 1 ≤ far % 3 by omega) with f3 | f3
    · have hA : endA 5 a far = -20 + a % 40 := by unfold endA; rw [if_pos f3, show a % 40 - 20 = -20 + a % 40 by omega]; exact wrap5_in (by omega)
      have hB : endA 5 b far = -20 + b % 40 := by unfold endA; rw [if_pos f3, show b % 40 - 20 = -20 + b % 40 by omega]; exact wrap5_in (by omega)
      rcases (show far % 7 = 0 ∨ 1 ≤ far % 7 by omega) with f7 | f7
      · have hC : endB 5 a b far = -20 + a % 40 := by unfold endB; rw [if_pos f7, hA]
        rw [hA, hC]
        exact tx (xs := [a, b, far, far % 3, far % 7, a % 40, b % 40, wrapT 5 a, wrapT 5 b]) re0 (args_cons ri (args_cons ri (args_cons ri (args_cons ri args_nil)))) (by simp [abs, absL, KI.ev, evT, rho] <;> omega) rfl (h4 := ⟨dO d3, dO d7, dO da, dO db, dO ea, dO eb, trivial⟩)
      · have hC : endB 5 a b far = -20 + b % 40 := by unfold endB; rw [if_neg (by omega), hB]
        rw [hA, hC]
        rcases Int.le_total (-20 + a % 40) (-20 + b % 40) with od | od
        · exact tx (xs := [a, b, far, far % 3, far % 7, a % 40, b % 40, wrapT 5 a, wrapT 5 b]) re1 (args_cons ri (args_cons ri (args_cons ri (args_cons ri args_nil)))) (by simp [abs, absL, KI.ev, evT, rho] <;> omega) rfl (h4 := ⟨dO d3, dO d7, dO da, dO db, dO ea, dO eb, trivial⟩)
        · exact tx (xs := [a, b, far, far % 3, far % 7, a % 40, b % 40, wrapT 5 a, wrapT 5 b]) re2 (args_cons ri (args_cons ri (args_cons ri (args_cons ri args_nil)))) (by simp [abs, absL, KI.ev, evT, rho] <;> omega) rfl (h4 := ⟨dO d3, dO d7, dO da, dO db, dO ea, dO eb, trivial⟩)
    · have hA : endA 5 a far = wrapT 5 a := by unfold endA; rw [if_neg (by omega)]
      have hB : endA 5 b far = wrapT 5 b := by unfold endA; rw [if_neg (by omega)]
      rcases (show far % 7 = 0 ∨ 1 ≤ far % 7 by omega) with f7 | f7
      · have hC : endB 5 a b far = wrapT 5 a := by unfold endB; rw [if_pos f7, hA]
        rw [hA, hC]
        exact tx (xs := [a, b, far, far % 3, far % 7, a % 40, b % 40, wrapT 5 a, wrapT 5 b]) re3 (args_cons ri (args_cons ri (args_cons ri (args_cons ri args_nil)))) (by simp [abs, absL, KI.ev, evT, rho] <;> omega) rfl (h4 := ⟨dO d3, dO d7, dO da, dO db, dO ea, dO eb, trivial⟩)
      · have hC : endB 5 a b far = wrapT 5 b := by unfold endB; rw [if_neg (by omega), hB]
        rw [hA, hC]
        rcases Int.le_total (wrapT 5 a) (wrapT 5 b) with od | od
        · exact tx (xs := [a, b, far, far % 3, far % 7, a % 40, b % 40, wrapT 5 a, wrapT 5 b]) re4 (args_cons ri (args_cons ri (args_cons ri (args_cons ri args_nil)))) (by simp [abs, absL, KI.ev, evT, rho] <;> omega) rfl (h4 := ⟨dO d3, dO d7, dO da, dO db, dO ea, dO eb, trivial⟩)
        · exact tx (xs := [a, b, far, far % 3, far % 7, a % 40, b % 40, wrapT 5 a, wrapT 5 b]) re5 (args_cons ri (args_cons ri (args_cons ri (args_cons ri args_nil)))) (by simp [abs, absL, KI.ev, evT, rho] <;> omega) rfl (h4 := ⟨dO d3, dO d7, dO da, dO db, dO ea, dO eb, trivial⟩)
  · obtain ⟨ea, ea1, ea2⟩ := wrap6 (-20 + a % 40)
    obtain ⟨eb, eb1, eb2⟩ := wrap6 (-20 + b % 40)
    rcases (show far % 3 = 0 ∨ 1 ≤ far % 3 by omega) with f3 | f3
    · have hA : endA 6 a far = wrapT 6 (-20 + a % 40) := by unfold endA; rw [if_pos f3, show a % 40 - 20 = -20 + a % 40 by omega]
      have hB : endA 6 b far = wrapT 6 (-20 + b % 40) := by unfold endA; rw [if_pos f3, show b % 40 - 20 = -20 + b % 40 by omega]
      rcases (show far % 7 = 0 ∨ 1 ≤ far % 7 by omega) with f7 | f7
      · have hC : endB 6 a b far = wrapT 6 (-20 + a % 40) := by unfold endB; rw [if_pos f7, hA]
        rw [hA, hC]
        exact tx (xs := [a, b, far, far % 3, far % 7, a % 40, b % 40, wrapT 6 (-20 + a % 40), wrapT 6 (-20 + b % 40)]) re6 (args_cons ri (args_cons ri (args_cons ri (args_cons ri args_nil)))) (by simp [abs, absL, KI.ev, evT, rho] <;> omega) rfl (h4 := ⟨dO d3, dO d7, dO da, dO db, dO ea, dO eb, trivial⟩)
      · have hC : endB 6 a b far = wrapT 6 (-20 + b % 40) := by unfold endB; rw [if_neg (by omega), hB]
        rw [hA, hC]
        rcases Int.le_total (wrapT 6 (-20 + a % 40)) (wrapT 6 (-20 + b % 40)) with od | od
        · exact tx (xs := [a, b, far, far % 3, far % 7, a % 40, b % 40, wrapT 6 (-20 + a % 40), wrapT 6 (-20 + b % 40)]) re7 (args_cons ri (args_cons ri (args_cons ri (args_cons ri args_nil)))) (by simp [abs, absL, KI.ev, evT, rho] <;> omega) rfl (h4 := ⟨dO d3, dO d7, dO da, dO db, dO ea, dO eb, trivial⟩)
        · exact tx (xs := [a, b, far, far % 3, far % 7, a % 40, b % 40, wrapT 6 (-20 + a % 40), wrapT 6 (-20 + b % 40)]) re8 (args_cons ri (args_cons ri (args_cons ri (args_cons ri args_nil)))) (by simp [abs, absL, KI.ev, evT, rho] <;> omega) rfl (h4 := ⟨dO d3, dO d7, dO da, dO db, dO ea, dO eb, trivial⟩)
    · have hA : endA 6 a far = a := by unfold endA; rw [if_neg (by omega)]; exact wrap6_in (by omega)
      have hB : endA 6 b far = b := by unfold endA; rw [if_neg (by omega)]; exact wrap6_in (by omega)
      rcases (show far % 7 = 0 ∨ 1 ≤ far % 7 by omega) with f7 | f7
      · have hC : endB 6 a b far = a := by unfold endB; rw [if_pos f7, hA]
        rw [hA, hC]
        exact tx (xs := [a, b, far, far % 3, far % 7, a % 40, b % 40, wrapT 6 (-20 + a % 40), wrapT 6 (-20 + b % 40)]) re9 (args_cons ri (args_cons ri (args_cons ri (args_cons ri args_nil)))) (by simp [abs, absL, KI.ev, evT, rho] <;> omega) rfl (h4 := ⟨dO d3, dO d7, dO da, dO db, dO ea, dO eb, trivial⟩)
      · have hC : endB 6 a b far = b := by unfold endB; rw [if_neg (by omega), hB]
        rw [hA, hC]
        rcases Int.le_total (a) (b) with od | od
        · exact tx (xs := [a, b, far, far % 3, far % 7, a % 40, b % 40, wrapT 6 (-20 + a % 40), wrapT 6 (-20 + b % 40)]) re10 (args_cons ri (args_cons ri (args_cons ri (args_cons ri args_nil)))) (by simp [abs, absL, KI.ev, evT, rho] <;> omega) rfl (h4 := ⟨dO d3, dO d7, dO da, dO db, dO ea, dO eb, trivial⟩)
        · exact tx (xs := [a, b, far, far % 3, far % 7, a % 40, b % 40, wrapT 6 (-20 + a % 40), wrapT 6 (-20 + b % 40)]) re11 (args_cons ri (args_cons ri (args_cons ri (args_cons ri args_nil)))) (by simp [abs, absL, KI.ev, evT, rho] <;> omega) rfl (h4 := ⟨dO d3, dO d7, dO da, dO db, dO ea, dO eb, trivial⟩)
theorem ends_ok : EntryOK Try.prog 7 endsF := by
  intro args v hv
  unfold endsF at hv
  split at hv
  · split at hv
    · rename_i h
      cases hv
      refine ⟨rfl, fun args' ha => ?_⟩
      cases ha with | cons _ _ _ _ h1 ha => cases h1; cases ha with | cons _ _ _ _ h1 ha => cases h1; cases ha with | cons _ _ _ _ h1 ha => cases h1; cases ha with | cons _ _ _ _ h1 ha => cases h1; cases ha; exact ends_tells h.1 h.2.1 h.2.2.1 h.2.2.2
    · cases hv
  · cases hv
theorem ro0 : rE 60 [.int .i64 (.a 0 [(0, 1)])] ⟨[((-2147483648), 0)], [], []⟩ (.int .i64 (.p 0)) = true := by kernel_rfl
theorem onesV0 {n : Int} (h : (-2147483648) ≤ n ∧ n ≤ 0) : onesV n = 0 := by
  unfold onesV
  rw [ones_stop (by omega)]
theorem ro1 : rE 60 [.int .i64 (.a 0 [(0, 1)])] ⟨[(1, 1)], [], []⟩ (.int .i64 (.p 1)) = true := by kernel_rfl
theorem onesV1 {n : Int} (h : 1 ≤ n ∧ n ≤ 1) : onesV n = 1 := by
  unfold onesV
  rw [ones_step (by omega), ones_stop (by omega)]
  try omega
theorem ro2 : rE 60 [.int .i64 (.a 0 [(0, 1)])] ⟨[(2, 3)], [], []⟩ (.int .i64 (.p 3)) = true := by kernel_rfl
theorem onesV2 {n : Int} (h : 2 ≤ n ∧ n ≤ 3) : onesV n = 3 := by
  unfold onesV
  rw [ones_step (by omega), ones_step (by omega), ones_stop (by omega)]
  try omega
theorem ro3 : rE 60 [.int .i64 (.a 0 [(0, 1)])] ⟨[(4, 7)], [], []⟩ (.int .i64 (.p 7)) = true := by kernel_rfl
theorem onesV3 {n : Int} (h : 4 ≤ n ∧ n ≤ 7) : onesV n = 7 := by
  unfold onesV
  rw [ones_step (by omega), ones_step (by omega), ones_step (by omega), ones_stop (by omega)]
  try omega
theorem ro4 : rE 60 [.int .i64 (.a 0 [(0, 1)])] ⟨[(8, 15)], [], []⟩ (.int .i64 (.p 15)) = true := by kernel_rfl
theorem onesV4 {n : Int} (h : 8 ≤ n ∧ n ≤ 15) : onesV n = 15 := by
  unfold onesV
  rw [ones_step (by omega), ones_step (by omega), ones_step (by omega), ones_step (by omega), ones_stop (by omega)]
  try omega
theorem ro5 : rE 60 [.int .i64 (.a 0 [(0, 1)])] ⟨[(16, 31)], [], []⟩ (.int .i64 (.p 31)) = true := by kernel_rfl
theorem onesV5 {n : Int} (h : 16 ≤ n ∧ n ≤ 31) : onesV n = 31 := by
  unfold onesV
  rw [ones_step (by omega), ones_step (by omega), ones_step (by omega), ones_step (by omega), ones_step (by omega), ones_stop (by omega)]
  try omega
theorem ro6 : rE 60 [.int .i64 (.a 0 [(0, 1)])] ⟨[(32, 63)], [], []⟩ (.int .i64 (.p 63)) = true := by kernel_rfl
theorem onesV6 {n : Int} (h : 32 ≤ n ∧ n ≤ 63) : onesV n = 63 := by
  unfold onesV
  rw [ones_step (by omega), ones_step (by omega), ones_step (by omega), ones_step (by omega), ones_step (by omega), ones_step (by omega), ones_stop (by omega)]
  try omega
theorem ro7 : rE 60 [.int .i64 (.a 0 [(0, 1)])] ⟨[(64, 127)], [], []⟩ (.int .i64 (.p 127)) = true := by kernel_rfl
theorem onesV7 {n : Int} (h : 64 ≤ n ∧ n ≤ 127) : onesV n = 127 := by
  unfold onesV
  rw [ones_step (by omega), ones_step (by omega), ones_step (by omega), ones_step (by omega), ones_step (by omega), ones_step (by omega), ones_step (by omega), ones_stop (by omega)]
  try omega
theorem ro8 : rE 60 [.int .i64 (.a 0 [(0, 1)])] ⟨[(128, 255)], [], []⟩ (.int .i64 (.p 255)) = true := by kernel_rfl
theorem onesV8 {n : Int} (h : 128 ≤ n ∧ n ≤ 255) : onesV n = 255 := by
  unfold onesV
  rw [ones_step (by omega), ones_step (by omega), ones_step (by omega), ones_step (by omega), ones_step (by omega), ones_step (by omega), ones_step (by omega), ones_step (by omega), ones_stop (by omega)]
  try omega
theorem ro9 : rE 60 [.int .i64 (.a 0 [(0, 1)])] ⟨[(256, 511)], [], []⟩ (.int .i64 (.p 511)) = true := by kernel_rfl
theorem onesV9 {n : Int} (h : 256 ≤ n ∧ n ≤ 511) : onesV n = 511 := by
  unfold onesV
  rw [ones_step (by omega), ones_step (by omega), ones_step (by omega), ones_step (by omega), ones_step (by omega), ones_step (by omega), ones_step (by omega), ones_step (by omega), ones_step (by omega), ones_stop (by omega)]
  try omega
theorem ro10 : rE 60 [.int .i64 (.a 0 [(0, 1)])] ⟨[(512, 1023)], [], []⟩ (.int .i64 (.p 1023)) = true := by kernel_rfl
theorem onesV10 {n : Int} (h : 512 ≤ n ∧ n ≤ 1023) : onesV n = 1023 := by
  unfold onesV
  rw [ones_step (by omega), ones_step (by omega), ones_step (by omega), ones_step (by omega), ones_step (by omega), ones_step (by omega), ones_step (by omega), ones_step (by omega), ones_step (by omega), ones_step (by omega), ones_stop (by omega)]
  try omega
theorem ro11 : rE 60 [.int .i64 (.a 0 [(0, 1)])] ⟨[(1024, 2047)], [], []⟩ (.int .i64 (.p 2047)) = true := by kernel_rfl
theorem onesV11 {n : Int} (h : 1024 ≤ n ∧ n ≤ 2047) : onesV n = 2047 := by
  unfold onesV
  rw [ones_step (by omega), ones_step (by omega), ones_step (by omega), ones_step (by omega), ones_step (by omega), ones_step (by omega), ones_step (by omega), ones_step (by omega), ones_step (by omega), ones_step (by omega), ones_step (by omega), ones_stop (by omega)]
  try omega
theorem ro12 : rE 60 [.int .i64 (.a 0 [(0, 1)])] ⟨[(2048, 4095)], [], []⟩ (.int .i64 (.p 4095)) = true := by kernel_rfl
theorem onesV12 {n : Int} (h : 2048 ≤ n ∧ n ≤ 4095) : onesV n = 4095 := by
  unfold onesV
  rw [ones_step (by omega), ones_step (by omega), ones_step (by omega), ones_step (by omega), ones_step (by omega), ones_step (by omega), ones_step (by omega), ones_step (by omega), ones_step (by omega), ones_step (by omega), ones_step (by omega), ones_step (by omega), ones_stop (by omega)]
  try omega
theorem ro13 : rE 60 [.int .i64 (.a 0 [(0, 1)])] ⟨[(4096, 8191)], [], []⟩ (.int .i64 (.p 8191)) = true := by kernel_rfl
theorem onesV13 {n : Int} (h : 4096 ≤ n ∧ n ≤ 8191) : onesV n = 8191 := by
  unfold onesV
  rw [ones_step (by omega), ones_step (by omega), ones_step (by omega), ones_step (by omega), ones_step (by omega), ones_step (by omega), ones_step (by omega), ones_step (by omega), ones_step (by omega), ones_step (by omega), ones_step (by omega), ones_step (by omega), ones_step (by omega), ones_stop (by omega)]
  try omega
theorem ro14 : rE 60 [.int .i64 (.a 0 [(0, 1)])] ⟨[(8192, 16383)], [], []⟩ (.int .i64 (.p 16383)) = true := by kernel_rfl
theorem onesV14 {n : Int} (h : 8192 ≤ n ∧ n ≤ 16383) : onesV n = 16383 := by
  unfold onesV
  rw [ones_step (by omega), ones_step (by omega), ones_step (by omega), ones_step (by omega), ones_step (by omega), ones_step (by omega), ones_step (by omega), ones_step (by omega), ones_step (by omega), ones_step (by omega), ones_step (by omega), ones_step (by omega), ones_step (by omega), ones_step (by omega), ones_stop (by omega)]
  try omega
theorem ro15 : rE 60 [.int .i64 (.a 0 [(0, 1)])] ⟨[(16384, 32767)], [], []⟩ (.int .i64 (.p 32767)) = true := by kernel_rfl
theorem onesV15 {n : Int} (h : 16384 ≤ n ∧ n ≤ 32767) : onesV n = 32767 := by
  unfold onesV
  rw [ones_step (by omega), ones_step (by omega), ones_step (by omega), ones_step (by omega), ones_step (by omega), ones_step (by omega), ones_step (by omega), ones_step (by omega), ones_step (by omega), ones_step (by omega), ones_step (by omega), ones_step (by omega), ones_step (by omega), ones_step (by omega), ones_step (by omega), ones_stop (by omega)]
  try omega
theorem ro16 : rE 60 [.int .i64 (.a 0 [(0, 1)])] ⟨[(32768, 65535)], [], []⟩ (.int .i64 (.p 65535)) = true := by kernel_rfl
theorem onesV16 {n : Int} (h : 32768 ≤ n ∧ n ≤ 65535) : onesV n = 65535 := by
  unfold onesV
  rw [ones_step (by omega), ones_step (by omega), ones_step (by omega), ones_step (by omega), ones_step (by omega), ones_step (by omega), ones_step (by omega), ones_step (by omega), ones_step (by omega), ones_step (by omega), ones_step (by omega), ones_step (by omega), ones_step (by omega), ones_step (by omega), ones_step (by omega), ones_step (by omega), ones_stop (by omega)]
  try omega
theorem ro17 : rE 60 [.int .i64 (.a 0 [(0, 1)])] ⟨[(65536, 131071)], [], []⟩ (.int .i64 (.p 131071)) = true := by kernel_rfl
theorem onesV17 {n : Int} (h : 65536 ≤ n ∧ n ≤ 131071) : onesV n = 131071 := by
  unfold onesV
  rw [ones_step (by omega), ones_step (by omega), ones_step (by omega), ones_step (by omega), ones_step (by omega), ones_step (by omega), ones_step (by omega), ones_step (by omega), ones_step (by omega), ones_step (by omega), ones_step (by omega), ones_step (by omega), ones_step (by omega), ones_step (by omega), ones_step (by omega), ones_step (by omega), ones_step (by omega), ones_stop (by omega)]
  try omega
theorem ro18 : rE 60 [.int .i64 (.a 0 [(0, 1)])] ⟨[(131072, 262143)], [], []⟩ (.int .i64 (.p 262143)) = true := by kernel_rfl
theorem onesV18 {n : Int} (h : 131072 ≤ n ∧ n ≤ 262143) : onesV n = 262143 := by
  unfold onesV
  rw [ones_step (by omega), ones_step (by omega), ones_step (by omega), ones_step (by omega), ones_step (by omega), ones_step (by omega), ones_step (by omega), ones_step (by omega), ones_step (by omega), ones_step (by omega), ones_step (by omega), ones_step (by omega), ones_step (by omega), ones_step (by omega), ones_step (by omega), ones_step (by omega), ones_step (by omega), ones_step (by omega), ones_stop (by omega)]
  try omega
theorem ro19 : rE 60 [.int .i64 (.a 0 [(0, 1)])] ⟨[(262144, 524287)], [], []⟩ (.int .i64 (.p 524287)) = true := by kernel_rfl
theorem onesV19 {n : Int} (h : 262144 ≤ n ∧ n ≤ 524287) : onesV n = 524287 := by
  unfold onesV
  rw [ones_step (by omega), ones_step (by omega), ones_step (by omega), ones_step (by omega), ones_step (by omega), ones_step (by omega), ones_step (by omega), ones_step (by omega), ones_step (by omega), ones_step (by omega), ones_step (by omega), ones_step (by omega), ones_step (by omega), ones_step (by omega), ones_step (by omega), ones_step (by omega), ones_step (by omega), ones_step (by omega), ones_step (by omega), ones_stop (by omega)]
  try omega
theorem ro20 : rE 60 [.int .i64 (.a 0 [(0, 1)])] ⟨[(524288, 1048575)], [], []⟩ (.int .i64 (.p 1048575)) = true := by kernel_rfl
theorem onesV20 {n : Int} (h : 524288 ≤ n ∧ n ≤ 1048575) : onesV n = 1048575 := by
  unfold onesV
  rw [ones_step (by omega), ones_step (by omega), ones_step (by omega), ones_step (by omega), ones_step (by omega), ones_step (by omega), ones_step (by omega), ones_step (by omega), ones_step (by omega), ones_step (by omega), ones_step (by omega), ones_step (by omega), ones_step (by omega), ones_step (by omega), ones_step (by omega), ones_step (by omega), ones_step (by omega), ones_step (by omega), ones_step (by omega), ones_step (by omega), ones_stop (by omega)]
  try omega
theorem ro21 : rE 60 [.int .i64 (.a 0 [(0, 1)])] ⟨[(1048576, 2097151)], [], []⟩ (.int .i64 (.p 2097151)) = true := by kernel_rfl
theorem onesV21 {n : Int} (h : 1048576 ≤ n ∧ n ≤ 2097151) : onesV n = 2097151 := by
  unfold onesV
  rw [ones_step (by omega), ones_step (by omega), ones_step (by omega), ones_step (by omega), ones_step (by omega), ones_step (by omega), ones_step (by omega), ones_step (by omega), ones_step (by omega), ones_step (by omega), ones_step (by omega), ones_step (by omega), ones_step (by omega), ones_step (by omega), ones_step (by omega), ones_step (by omega), ones_step (by omega), ones_step (by omega), ones_step (by omega), ones_step (by omega), ones_step (by omega), ones_stop (by omega)]
  try omega
theorem ro22 : rE 60 [.int .i64 (.a 0 [(0, 1)])] ⟨[(2097152, 4194303)], [], []⟩ (.int .i64 (.p 4194303)) = true := by kernel_rfl
theorem onesV22 {n : Int} (h : 2097152 ≤ n ∧ n ≤ 4194303) : onesV n = 4194303 := by
  unfold onesV
  rw [ones_step (by omega), ones_step (by omega), ones_step (by omega), ones_step (by omega), ones_step (by omega), ones_step (by omega), ones_step (by omega), ones_step (by omega), ones_step (by omega), ones_step (by omega), ones_step (by omega), ones_step (by omega), ones_step (by omega), ones_step (by omega), ones_step (by omega), ones_step (by omega), ones_step (by omega), ones_step (by omega), ones_step (by omega), ones_step (by omega), ones_step (by omega), ones_step (by omega), ones_stop (by omega)]
  try omega
theorem ro23 : rE 60 [.int .i64 (.a 0 [(0, 1)])] ⟨[(4194304, 8388607)], [], []⟩ (.int .i64 (.p 8388607)) = true := by kernel_rfl
theorem onesV23 {n : Int} (h : 4194304 ≤ n ∧ n ≤ 8388607) : onesV n = 8388607 := by
  unfold onesV
  rw [ones_step (by omega), ones_step (by omega), ones_step (by omega), ones_step (by omega), ones_step (by omega), ones_step (by omega), ones_step (by omega), ones_step (by omega), ones_step (by omega), ones_step (by omega), ones_step (by omega), ones_step (by omega), ones_step (by omega), ones_step (by omega), ones_step (by omega), ones_step (by omega), ones_step (by omega), ones_step (by omega), ones_step (by omega), ones_step (by omega), ones_step (by omega), ones_step (by omega), ones_step (by omega), ones_stop (by omega)]
  try omega
theorem ro24 : rE 60 [.int .i64 (.a 0 [(0, 1)])] ⟨[(8388608, 16777215)], [], []⟩ (.int .i64 (.p 16777215)) = true := by kernel_rfl
theorem onesV24 {n : Int} (h : 8388608 ≤ n ∧ n ≤ 16777215) : onesV n = 16777215 := by
  unfold onesV
  rw [ones_step (by omega), ones_step (by omega), ones_step (by omega), ones_step (by omega), ones_step (by omega), ones_step (by omega), ones_step (by omega), ones_step (by omega), ones_step (by omega), ones_step (by omega), ones_step (by omega), ones_step (by omega), ones_step (by omega), ones_step (by omega), ones_step (by omega), ones_step (by omega), ones_step (by omega), ones_step (by omega), ones_step (by omega), ones_step (by omega), ones_step (by omega), ones_step (by omega), ones_step (by omega), ones_step (by omega), ones_stop (by omega)]
  try omega
theorem ro25 : rE 60 [.int .i64 (.a 0 [(0, 1)])] ⟨[(16777216, 33554431)], [], []⟩ (.int .i64 (.p 33554431)) = true := by kernel_rfl
theorem onesV25 {n : Int} (h : 16777216 ≤ n ∧ n ≤ 33554431) : onesV n = 33554431 := by
  unfold onesV
  rw [ones_step (by omega), ones_step (by omega), ones_step (by omega), ones_step (by omega), ones_step (by omega), ones_step (by omega), ones_step (by omega), ones_step (by omega), ones_step (by omega), ones_step (by omega), ones_step (by omega), ones_step (by omega), ones_step (by omega), ones_step (by omega), ones_step (by omega), ones_step (by omega), ones_step (by omega), ones_step (by omega), ones_step (by omega), ones_step (by omega), ones_step (by omega), ones_step (by omega), ones_step (by omega), ones_step (by omega), ones_step (by omega), ones_stop (by omega)]
  try omega
theorem ro26 : rE 60 [.int .i64 (.a 0 [(0, 1)])] ⟨[(33554432, 67108863)], [], []⟩ (.int .i64 (.p 67108863)) = true := by kernel_rfl
theorem onesV26 {n : Int} (h : 33554432 ≤ n ∧ n ≤ 67108863) : onesV n = 67108863 := by
  unfold onesV
  rw [ones_step (by omega), ones_step (by omega), ones_step (by omega), ones_step (by omega), ones_step (by omega), ones_step (by omega), ones_step (by omega), ones_step (by omega), ones_step (by omega), ones_step (by omega), ones_step (by omega), ones_step (by omega), ones_step (by omega), ones_step (by omega), ones_step (by omega), ones_step (by omega), ones_step (by omega), ones_step (by omega), ones_step (by omega), ones_step (by omega), ones_step (by omega), ones_step (by omega), ones_step (by omega), ones_step (by omega), ones_step (by omega), ones_step (by omega), ones_stop (by omega)]
  try omega
theorem ro27 : rE 60 [.int .i64 (.a 0 [(0, 1)])] ⟨[(67108864, 134217727)], [], []⟩ (.int .i64 (.p 134217727)) = true := by kernel_rfl
theorem onesV27 {n : Int} (h : 67108864 ≤ n ∧ n ≤ 134217727) : onesV n = 134217727 := by
  unfold onesV
  rw [ones_step (by omega), ones_step (by omega), ones_step (by omega), ones_step (by omega), ones_step (by omega), ones_step (by omega), ones_step (by omega), ones_step (by omega), ones_step (by omega), ones_step (by omega), ones_step (by omega), ones_step (by omega), ones_step (by omega), ones_step (by omega), ones_step (by omega), ones_step (by omega), ones_step (by omega), ones_step (by omega), ones_step (by omega), ones_step (by omega), ones_step (by omega), ones_step (by omega), ones_step (by omega), ones_step (by omega), ones_step (by omega), ones_step (by omega), ones_step (by omega), ones_stop (by omega)]
  try omega
theorem ro28 : rE 60 [.int .i64 (.a 0 [(0, 1)])] ⟨[(134217728, 268435455)], [], []⟩ (.int .i64 (.p 268435455)) = true := by kernel_rfl
theorem onesV28 {n : Int} (h : 134217728 ≤ n ∧ n ≤ 268435455) : onesV n = 268435455 := by
  unfold onesV
  rw [ones_step (by omega), ones_step (by omega), ones_step (by omega), ones_step (by omega), ones_step (by omega), ones_step (by omega), ones_step (by omega), ones_step (by omega), ones_step (by omega), ones_step (by omega), ones_step (by omega), ones_step (by omega), ones_step (by omega), ones_step (by omega), ones_step (by omega), ones_step (by omega), ones_step (by omega), ones_step (by omega), ones_step (by omega), ones_step (by omega), ones_step (by omega), ones_step (by omega), ones_step (by omega), ones_step (by omega), ones_step (by omega), ones_step (by omega), ones_step (by omega), ones_step (by omega), ones_stop (by omega)]
  try omega
theorem ro29 : rE 60 [.int .i64 (.a 0 [(0, 1)])] ⟨[(268435456, 536870911)], [], []⟩ (.int .i64 (.p 536870911)) = true := by kernel_rfl
theorem onesV29 {n : Int} (h : 268435456 ≤ n ∧ n ≤ 536870911) : onesV n = 536870911 := by
  unfold onesV
  rw [ones_step (by omega), ones_step (by omega), ones_step (by omega), ones_step (by omega), ones_step (by omega), ones_step (by omega), ones_step (by omega), ones_step (by omega), ones_step (by omega), ones_step (by omega), ones_step (by omega), ones_step (by omega), ones_step (by omega), ones_step (by omega), ones_step (by omega), ones_step (by omega), ones_step (by omega), ones_step (by omega), ones_step (by omega), ones_step (by omega), ones_step (by omega), ones_step (by omega), ones_step (by omega), ones_step (by omega), ones_step (by omega), ones_step (by omega), ones_step (by omega), ones_step (by omega), ones_step (by omega), ones_stop (by omega)]
  try omega
theorem ro30 : rE 60 [.int .i64 (.a 0 [(0, 1)])] ⟨[(536870912, 1073741823)], [], []⟩ (.int .i64 (.p 1073741823)) = true := by kernel_rfl
theorem onesV30 {n : Int} (h : 536870912 ≤ n ∧ n ≤ 1073741823) : onesV n = 1073741823 := by
  unfold onesV
  rw [ones_step (by omega), ones_step (by omega), ones_step (by omega), ones_step (by omega), ones_step (by omega), ones_step (by omega), ones_step (by omega), ones_step (by omega), ones_step (by omega), ones_step (by omega), ones_step (by omega), ones_step (by omega), ones_step (by omega), ones_step (by omega), ones_step (by omega), ones_step (by omega), ones_step (by omega), ones_step (by omega), ones_step (by omega), ones_step (by omega), ones_step (by omega), ones_step (by omega), ones_step (by omega), ones_step (by omega), ones_step (by omega), ones_step (by omega), ones_step (by omega), ones_step (by omega), ones_step (by omega), ones_step (by omega), ones_stop (by omega)]
  try omega
theorem ro31 : rE 60 [.int .i64 (.a 0 [(0, 1)])] ⟨[(1073741824, 2147483647)], [], []⟩ (.int .i64 (.p 2147483647)) = true := by kernel_rfl
theorem onesV31 {n : Int} (h : 1073741824 ≤ n ∧ n ≤ 2147483647) : onesV n = 2147483647 := by
  unfold onesV
  rw [ones_step (by omega), ones_step (by omega), ones_step (by omega), ones_step (by omega), ones_step (by omega), ones_step (by omega), ones_step (by omega), ones_step (by omega), ones_step (by omega), ones_step (by omega), ones_step (by omega), ones_step (by omega), ones_step (by omega), ones_step (by omega), ones_step (by omega), ones_step (by omega), ones_step (by omega), ones_step (by omega), ones_step (by omega), ones_step (by omega), ones_step (by omega), ones_step (by omega), ones_step (by omega), ones_step (by omega), ones_step (by omega), ones_step (by omega), ones_step (by omega), ones_step (by omega), ones_step (by omega), ones_step (by omega), ones_step (by omega), ones_stop (by omega)]
  try omega
theorem ro32 : rE 60 [.int .i64 (.a 0 [(0, 1)])] ⟨[(2147483648, 4294967295)], [], []⟩ (.int .i64 (.p 4294967295)) = true := by kernel_rfl
theorem onesV32 {n : Int} (h : 2147483648 ≤ n ∧ n ≤ 4294967295) : onesV n = 4294967295 := by
  unfold onesV
  rw [ones_step (by omega), ones_step (by omega), ones_step (by omega), ones_step (by omega), ones_step (by omega), ones_step (by omega), ones_step (by omega), ones_step (by omega), ones_step (by omega), ones_step (by omega), ones_step (by omega), ones_step (by omega), ones_step (by omega), ones_step (by omega), ones_step (by omega), ones_step (by omega), ones_step (by omega), ones_step (by omega), ones_step (by omega), ones_step (by omega), ones_step (by omega), ones_step (by omega), ones_step (by omega), ones_step (by omega), ones_step (by omega), ones_step (by omega), ones_step (by omega), ones_step (by omega), ones_step (by omega), ones_step (by omega), ones_step (by omega), ones_step (by omega), ones_stop (by omega)]
  try omega
theorem ones_tells {n : Int} (h : -2147483648 ≤ n ∧ n ≤ 4294967295) : Tells Try.prog 60 [.int .i64 n] (.int .i64 (onesV n)) := by
  rcases (show (n ≤ 0) ∨ (1 ≤ n ∧ n ≤ 1) ∨ (2 ≤ n ∧ n ≤ 3) ∨ (4 ≤ n ∧ n ≤ 7) ∨ (8 ≤ n ∧ n ≤ 15) ∨ (16 ≤ n ∧ n ≤ 31) ∨ (32 ≤ n ∧ n ≤ 63) ∨ (64 ≤ n ∧ n ≤ 127) ∨ (128 ≤ n ∧ n ≤ 255) ∨ (256 ≤ n ∧ n ≤ 511) ∨ (512 ≤ n ∧ n ≤ 1023) ∨ (1024 ≤ n ∧ n ≤ 2047) ∨ (2048 ≤ n ∧ n ≤ 4095) ∨ (4096 ≤ n ∧ n ≤ 8191) ∨ (8192 ≤ n ∧ n ≤ 16383) ∨ (16384 ≤ n ∧ n ≤ 32767) ∨ (32768 ≤ n ∧ n ≤ 65535) ∨ (65536 ≤ n ∧ n ≤ 131071) ∨ (131072 ≤ n ∧ n ≤ 262143) ∨ (262144 ≤ n ∧ n ≤ 524287) ∨ (524288 ≤ n ∧ n ≤ 1048575) ∨ (1048576 ≤ n ∧ n ≤ 2097151) ∨ (2097152 ≤ n ∧ n ≤ 4194303) ∨ (4194304 ≤ n ∧ n ≤ 8388607) ∨ (8388608 ≤ n ∧ n ≤ 16777215) ∨ (16777216 ≤ n ∧ n ≤ 33554431) ∨ (33554432 ≤ n ∧ n ≤ 67108863) ∨ (67108864 ≤ n ∧ n ≤ 134217727) ∨ (134217728 ≤ n ∧ n ≤ 268435455) ∨ (268435456 ≤ n ∧ n ≤ 536870911) ∨ (536870912 ≤ n ∧ n ≤ 1073741823) ∨ (1073741824 ≤ n ∧ n ≤ 2147483647) ∨ (2147483648 ≤ n ∧ n ≤ 4294967295) by omega) with c | c | c | c | c | c | c | c | c | c | c | c | c | c | c | c | c | c | c | c | c | c | c | c | c | c | c | c | c | c | c | c | c
  · rw [onesV0 (by omega)]; exact tx (xs := [n]) ro0 (args_cons ri args_nil) rfl rfl
  · rw [onesV1 (by omega)]; exact tx (xs := [n]) ro1 (args_cons ri args_nil) rfl rfl
  · rw [onesV2 (by omega)]; exact tx (xs := [n]) ro2 (args_cons ri args_nil) rfl rfl
  · rw [onesV3 (by omega)]; exact tx (xs := [n]) ro3 (args_cons ri args_nil) rfl rfl
  · rw [onesV4 (by omega)]; exact tx (xs := [n]) ro4 (args_cons ri args_nil) rfl rfl
  · rw [onesV5 (by omega)]; exact tx (xs := [n]) ro5 (args_cons ri args_nil) rfl rfl
  · rw [onesV6 (by omega)]; exact tx (xs := [n]) ro6 (args_cons ri args_nil) rfl rfl
  · rw [onesV7 (by omega)]; exact tx (xs := [n]) ro7 (args_cons ri args_nil) rfl rfl
  · rw [onesV8 (by omega)]; exact tx (xs := [n]) ro8 (args_cons ri args_nil) rfl rfl
  · rw [onesV9 (by omega)]; exact tx (xs := [n]) ro9 (args_cons ri args_nil) rfl rfl
  · rw [onesV10 (by omega)]; exact tx (xs := [n]) ro10 (args_cons ri args_nil) rfl rfl
  · rw [onesV11 (by omega)]; exact tx (xs := [n]) ro11 (args_cons ri args_nil) rfl rfl
  · rw [onesV12 (by omega)]; exact tx (xs := [n]) ro12 (args_cons ri args_nil) rfl rfl
  · rw [onesV13 (by omega)]; exact tx (xs := [n]) ro13 (args_cons ri args_nil) rfl rfl
  · rw [onesV14 (by omega)]; exact tx (xs := [n]) ro14 (args_cons ri args_nil) rfl rfl
  · rw [onesV15 (by omega)]; exact tx (xs := [n]) ro15 (args_cons ri args_nil) rfl rfl
  · rw [onesV16 (by omega)]; exact tx (xs := [n]) ro16 (args_cons ri args_nil) rfl rfl
  · rw [onesV17 (by omega)]; exact tx (xs := [n]) ro17 (args_cons ri args_nil) rfl rfl
  · rw [onesV18 (by omega)]; exact tx (xs := [n]) ro18 (args_cons ri args_nil) rfl rfl
  · rw [onesV19 (by omega)]; exact tx (xs := [n]) ro19 (args_cons ri args_nil) rfl rfl
  · rw [onesV20 (by omega)]; exact tx (xs := [n]) ro20 (args_cons ri args_nil) rfl rfl
  · rw [onesV21 (by omega)]; exact tx (xs := [n]) ro21 (args_cons ri args_nil) rfl rfl
  · rw [onesV22 (by omega)]; exact tx (xs := [n]) ro22 (args_cons ri args_nil) rfl rfl
  · rw [onesV23 (by omega)]; exact tx (xs := [n]) ro23 (args_cons ri args_nil) rfl rfl
  · rw [onesV24 (by omega)]; exact tx (xs := [n]) ro24 (args_cons ri args_nil) rfl rfl
  · rw [onesV25 (by omega)]; exact tx (xs := [n]) ro25 (args_cons ri args_nil) rfl rfl
  · rw [onesV26 (by omega)]; exact tx (xs := [n]) ro26 (args_cons ri args_nil) rfl rfl
  · rw [onesV27 (by omega)]; exact tx (xs := [n]) ro27 (args_cons ri args_nil) rfl rfl
  · rw [onesV28 (by omega)]; exact tx (xs := [n]) ro28 (args_cons ri args_nil) rfl rfl
  · rw [onesV29 (by omega)]; exact tx (xs := [n]) ro29 (args_cons ri args_nil) rfl rfl
  · rw [onesV30 (by omega)]; exact tx (xs := [n]) ro30 (args_cons ri args_nil) rfl rfl
  · rw [onesV31 (by omega)]; exact tx (xs := [n]) ro31 (args_cons ri args_nil) rfl rfl
  · rw [onesV32 (by omega)]; exact tx (xs := [n]) ro32 (args_cons ri args_nil) rfl rfl
theorem ones_ok : EntryOK Try.prog 60 onesF := by
  intro args v hv
  unfold onesF at hv
  split at hv
  · split at hv
    · rename_i h
      cases hv
      refine ⟨rfl, fun args' ha => ?_⟩
      cases ha with | cons _ _ _ _ h1 ha => cases h1; cases ha; exact ones_tells h
    · cases hv
  · cases hv
noncomputable def rightF : List V → Option V
  | [.int .i64 k, .int .i64 t, .int .u32 a, .int .u32 b, .int .u8 far] => if (k = 16 ∨ k = 17) ∧ (t = 5 ∨ t = 6) ∧ (0 ≤ a ∧ a ≤ 4294967295) ∧ (0 ≤ b ∧ b ≤ 4294967295) ∧ (0 ≤ far ∧ far ≤ 255) then some (.agg [.int .i64 (min (-6 + a % 44) (-6 + b % 44)), .int .i64 (max (-6 + a % 44) (-6 + b % 44))]) else none
  | _ => none
theorem rr16t5o0 : rE 8 [.int .i64 (.p 16), .int .i64 (.p 5), .int .u32 (.a 0 [(0, 1)]), .int .u32 (.a 0 [(1, 1)]), .int .u8 (.a 0 [(4, 1)])] ⟨[(0, 4294967295), (0, 4294967295), (0, 43), (0, 43), (0, 255)], [(0, [(2, 1), (3, (-1))])], [⟨2, .i64, .a 0 [(0, 1)], .p 44, 2⟩, ⟨2, .i64, .a 0 [(1, 1)], .p 44, 3⟩]⟩ (.agg [.int .i64 (.a (-6) [(2, 1)]), .int .i64 (.a (-6) [(3, 1)])]) = true := by kernel_rfl
theorem rr16t5o1 : rE 8 [.int .i64 (.p 16), .int .i64 (.p 5), .int .u32 (.a 0 [(0, 1)]), .int .u32 (.a 0 [(1, 1)]), .int .u8 (.a 0 [(4, 1)])] ⟨[(0, 4294967295), (0, 4294967295), (0, 43), (0, 43), (0, 255)], [(0, [(2, (-1)), (3, 1)])], [⟨2, .i64, .a 0 [(0, 1)], .p 44, 2⟩, ⟨2, .i64, .a 0 [(1, 1)], .p 44, 3⟩]⟩ (.agg [.int .i64 (.a (-6) [(3, 1)]), .int .i64 (.a (-6) [(2, 1)])]) = true := by kernel_rfl
theorem rr16t6o0 : rE 8 [.int .i64 (.p 16), .int .i64 (.p 6), .int .u32 (.a 0 [(0, 1)]), .int .u32 (.a 0 [(1, 1)]), .int .u8 (.a 0 [(4, 1)])] ⟨[(0, 4294967295), (0, 4294967295), (0, 43), (0, 43), (0, 255)], [(0, [(2, 1), (3, (-1))])], [⟨2, .i64, .a 0 [(0, 1)], .p 44, 2⟩, ⟨2, .i64, .a 0 [(1, 1)], .p 44, 3⟩]⟩ (.agg [.int .i64 (.a (-6) [(2, 1)]), .int .i64 (.a (-6) [(3, 1)])]) = true := by kernel_rfl
theorem rr16t6o1 : rE 8 [.int .i64 (.p 16), .int .i64 (.p 6), .int .u32 (.a 0 [(0, 1)]), .int .u32 (.a 0 [(1, 1)]), .int .u8 (.a 0 [(4, 1)])] ⟨[(0, 4294967295), (0, 4294967295), (0, 43), (0, 43), (0, 255)], [(0, [(2, (-1)), (3, 1)])], [⟨2, .i64, .a 0 [(0, 1)], .p 44, 2⟩, ⟨2, .i64, .a 0 [(1, 1)], .p 44, 3⟩]⟩ (.agg [.int .i64 (.a (-6) [(3, 1)]), .int .i64 (.a (-6) [(2, 1)])]) = true := by kernel_rfl
theorem rr17t5o0 : rE 8 [.int .i64 (.p 17), .int .i64 (.p 5), .int .u32 (.a 0 [(0, 1)]), .int .u32 (.a 0 [(1, 1)]), .int .u8 (.a 0 [(4, 1)])] ⟨[(0, 4294967295), (0, 4294967295), (0, 43), (0, 43), (0, 255)], [(0, [(2, 1), (3, (-1))])], [⟨2, .i64, .a 0 [(0, 1)], .p 44, 2⟩, ⟨2, .i64, .a 0 [(1, 1)], .p 44, 3⟩]⟩ (.agg [.int .i64 (.a (-6) [(2, 1)]), .int .i64 (.a (-6) [(3, 1)])]) = true := by kernel_rfl
theorem rr17t5o1 : rE 8 [.int .i64 (.p 17), .int .i64 (.p 5), .int .u32 (.a 0 [(0, 1)]), .int .u32 (.a 0 [(1, 1)]), .int .u8 (.a 0 [(4, 1)])] ⟨[(0, 4294967295), (0, 4294967295), (0, 43), (0, 43), (0, 255)], [(0, [(2, (-1)), (3, 1)])], [⟨2, .i64, .a 0 [(0, 1)], .p 44, 2⟩, ⟨2, .i64, .a 0 [(1, 1)], .p 44, 3⟩]⟩ (.agg [.int .i64 (.a (-6) [(3, 1)]), .int .i64 (.a (-6) [(2, 1)])]) = true := by kernel_rfl
theorem rr17t6o0 : rE 8 [.int .i64 (.p 17), .int .i64 (.p 6), .int .u32 (.a 0 [(0, 1)]), .int .u32 (.a 0 [(1, 1)]), .int .u8 (.a 0 [(4, 1)])] ⟨[(0, 4294967295), (0, 4294967295), (0, 43), (0, 43), (0, 255)], [(0, [(2, 1), (3, (-1))])], [⟨2, .i64, .a 0 [(0, 1)], .p 44, 2⟩, ⟨2, .i64, .a 0 [(1, 1)], .p 44, 3⟩]⟩ (.agg [.int .i64 (.a (-6) [(2, 1)]), .int .i64 (.a (-6) [(3, 1)])]) = true := by kernel_rfl
theorem rr17t6o1 : rE 8 [.int .i64 (.p 17), .int .i64 (.p 6), .int .u32 (.a 0 [(0, 1)]), .int .u32 (.a 0 [(1, 1)]), .int .u8 (.a 0 [(4, 1)])] ⟨[(0, 4294967295), (0, 4294967295), (0, 43), (0, 43), (0, 255)], [(0, [(2, (-1)), (3, 1)])], [⟨2, .i64, .a 0 [(0, 1)], .p 44, 2⟩, ⟨2, .i64, .a 0 [(1, 1)], .p 44, 3⟩]⟩ (.agg [.int .i64 (.a (-6) [(3, 1)]), .int .i64 (.a (-6) [(2, 1)])]) = true := by kernel_rfl
theorem right_tells {k t a b far : Int} (h : (k = 16 ∨ k = 17) ∧ (t = 5 ∨ t = 6) ∧ (0 ≤ a ∧ a ≤ 4294967295) ∧ (0 ≤ b ∧ b ≤ 4294967295) ∧ (0 ≤ far ∧ far ≤ 255)) : Tells Try.prog 8 [.int .i64 k, .int .i64 t, .int .u32 a, .int .u32 b, .int .u8 far] (.agg [.int .i64 (min (-6 + a % 44) (-6 + b % 44)), .int .i64 (max (-6 + a % 44) (-6 + b % 44))]) := by
  obtain ⟨hk, ht, ha, hb, hf⟩ := h
  have da := remAny (x := a) 44 (by omega) ha.1
  have db := remAny (x := b) 44 (by omega) hb.1
  rcases hk with rfl | rfl <;> rcases ht with rfl | rfl <;> rcases Int.le_total (a % 44) (b % 44) with od | od
  · exact tx (xs := [a, b, a % 44, b % 44, far]) rr16t5o0 (args_cons ri (args_cons ri (args_cons ri (args_cons ri (args_cons ri args_nil))))) (by simp [abs, absL, KI.ev, evT, rho] <;> omega) rfl (h4 := ⟨dO da, dO db, trivial⟩)
  · exact tx (xs := [a, b, a % 44, b % 44, far]) rr16t5o1 (args_cons ri (args_cons ri (args_cons ri (args_cons ri (args_cons ri args_nil))))) (by simp [abs, absL, KI.ev, evT, rho] <;> omega) rfl (h4 := ⟨dO da, dO db, trivial⟩)
  · exact tx (xs := [a, b, a % 44, b % 44, far]) rr16t6o0 (args_cons ri (args_cons ri (args_cons ri (args_cons ri (args_cons ri args_nil))))) (by simp [abs, absL, KI.ev, evT, rho] <;> omega) rfl (h4 := ⟨dO da, dO db, trivial⟩)
  · exact tx (xs := [a, b, a % 44, b % 44, far]) rr16t6o1 (args_cons ri (args_cons ri (args_cons ri (args_cons ri (args_cons ri args_nil))))) (by simp [abs, absL, KI.ev, evT, rho] <;> omega) rfl (h4 := ⟨dO da, dO db, trivial⟩)
  · exact tx (xs := [a, b, a % 44, b % 44, far]) rr17t5o0 (args_cons ri (args_cons ri (args_cons ri (args_cons ri (args_cons ri args_nil))))) (by simp [abs, absL, KI.ev, evT, rho] <;> omega) rfl (h4 := ⟨dO da, dO db, trivial⟩)
  · exact tx (xs := [a, b, a % 44, b % 44, far]) rr17t5o1 (args_cons ri (args_cons ri (args_cons ri (args_cons ri (args_cons ri args_nil))))) (by simp [abs, absL, KI.ev, evT, rho] <;> omega) rfl (h4 := ⟨dO da, dO db, trivial⟩)
  · exact tx (xs := [a, b, a % 44, b % 44, far]) rr17t6o0 (args_cons ri (args_cons ri (args_cons ri (args_cons ri (args_cons ri args_nil))))) (by simp [abs, absL, KI.ev, evT, rho] <;> omega) rfl (h4 := ⟨dO da, dO db, trivial⟩)
  · exact tx (xs := [a, b, a % 44, b % 44, far]) rr17t6o1 (args_cons ri (args_cons ri (args_cons ri (args_cons ri (args_cons ri args_nil))))) (by simp [abs, absL, KI.ev, evT, rho] <;> omega) rfl (h4 := ⟨dO da, dO db, trivial⟩)
theorem right_ok : EntryOK Try.prog 8 rightF := by
  intro args v hv
  unfold rightF at hv
  split at hv
  · split at hv
    · rename_i h
      cases hv
      refine ⟨rfl, fun args' ha => ?_⟩
      cases ha with | cons _ _ _ _ h1 ha => cases h1; cases ha with | cons _ _ _ _ h1 ha => cases h1; cases ha with | cons _ _ _ _ h1 ha => cases h1; cases ha with | cons _ _ _ _ h1 ha => cases h1; cases ha with | cons _ _ _ _ h1 ha => cases h1; cases ha; exact right_tells h
    · cases hv
  · cases hv
theorem rightF_eq (k t a b far : Int) : rightF [.int .i64 k, .int .i64 t, .int .u32 a, .int .u32 b, .int .u8 far] = if (k = 16 ∨ k = 17) ∧ (t = 5 ∨ t = 6) ∧ (0 ≤ a ∧ a ≤ 4294967295) ∧ (0 ≤ b ∧ b ≤ 4294967295) ∧ (0 ≤ far ∧ far ≤ 255) then some (.agg [.int .i64 (min (-6 + a % 44) (-6 + b % 44)), .int .i64 (max (-6 + a % 44) (-6 + b % 44))]) else none := rfl
/-- All that is summed up; with right, too. -/
noncomputable def sums : List (FuncId × (List V → Option V)) := [(11, trueF), (7, endsF), (60, onesF)]
theorem sumsOK : entAll Try.prog sums := ⟨trueF_ok kdD.awake11, ends_ok, ones_ok, trivial⟩
theorem sumsBody : bodiedAll Try.prog (fstF sums) := ⟨kdD.has11, ⟨Try.f7, _, Try.func7, rfl⟩, ⟨Try.f60, _, Try.func60, rfl⟩, trivial⟩
noncomputable def sumsR : List (FuncId × (List V → Option V)) := [(11, trueF), (7, endsF), (8, rightF)]
theorem sumsROK : entAll Try.prog sumsR := ⟨trueF_ok kdD.awake11, ends_ok, right_ok, trivial⟩
theorem sumsRBody : bodiedAll Try.prog (fstF sumsR) := ⟨kdD.has11, ⟨Try.f7, _, Try.func7, rfl⟩, ⟨Try.f8, _, Try.func8, rfl⟩, trivial⟩
theorem endsF_eq (t a b far : Int) : endsF [.int .i64 t, .int .u32 a, .int .u32 b, .int .u8 far] = if (t = 5 ∨ t = 6) ∧ (0 ≤ a ∧ a ≤ 4294967295) ∧ (0 ≤ b ∧ b ≤ 4294967295) ∧ (0 ≤ far ∧ far ≤ 255) then some (.agg [.int .i64 (min (endA t a far) (endB t a b far)), .int .i64 (max (endA t a far) (endB t a b far))]) else none := rfl
theorem onesF_eq (n : Int) : onesF [.int .i64 n] = if -2147483648 ≤ n ∧ n ≤ 4294967295 then some (.int .i64 (onesV n)) else none := rfl
theorem entS_e (args : List V) : entS sums 7 args = endsF args := rfl
theorem entS_o (args : List V) : entS sums 60 args = onesF args := rfl
theorem entS_eR (args : List V) : entS sumsR 7 args = endsF args := rfl
theorem entS_r (args : List V) : entS sumsR 8 args = rightF args := rfl
theorem ends5 {a b far : Int} (ha : 0 ≤ a ∧ a ≤ 4294967295) (hb : 0 ≤ b ∧ b ≤ 4294967295) (hf : 0 ≤ far ∧ far ≤ 255) : ∃ p q, entS sums 7 [.int .i64 5, .int .u32 a, .int .u32 b, .int .u8 far] = some (.agg [.int .i64 p, .int .i64 q]) ∧ -2147483648 ≤ p ∧ p ≤ q ∧ q ≤ 2147483647 := by
  have h1 := (endA_in (t := 5) (a := a) (far := far)).1 rfl
  have h2 := (endA_in (t := 5) (a := b) (far := far)).1 rfl
  refine ⟨min (endA 5 a far) (endB 5 a b far), max (endA 5 a far) (endB 5 a b far), ?_, ?_⟩
  · rw [entS_e, endsF_eq, if_pos ⟨.inl rfl, ha, hb, hf⟩]
  · unfold endB; split <;> omega
theorem ends6 {a b far : Int} (ha : 0 ≤ a ∧ a ≤ 4294967295) (hb : 0 ≤ b ∧ b ≤ 4294967295) (hf : 0 ≤ far ∧ far ≤ 255) : ∃ p q, entS sums 7 [.int .i64 6, .int .u32 a, .int .u32 b, .int .u8 far] = some (.agg [.int .i64 p, .int .i64 q]) ∧ 0 ≤ p ∧ p ≤ q ∧ q ≤ 4294967295 := by
  have h1 := (endA_in (t := 6) (a := a) (far := far)).2 rfl
  have h2 := (endA_in (t := 6) (a := b) (far := far)).2 rfl
  refine ⟨min (endA 6 a far) (endB 6 a b far), max (endA 6 a far) (endB 6 a b far), ?_, ?_⟩
  · rw [entS_e, endsF_eq, if_pos ⟨.inr rfl, ha, hb, hf⟩]
  · unfold endB; split <;> omega
theorem onesS {n : Int} (h : -2147483648 ≤ n ∧ n ≤ 4294967295) : entS sums 60 [.int .i64 n] = some (.int .i64 (onesV n)) := by
  rw [entS_o, onesF_eq, if_pos h]
theorem ends5R {a b far : Int} (ha : 0 ≤ a ∧ a ≤ 4294967295) (hb : 0 ≤ b ∧ b ≤ 4294967295) (hf : 0 ≤ far ∧ far ≤ 255) : ∃ p q, entS sumsR 7 [.int .i64 5, .int .u32 a, .int .u32 b, .int .u8 far] = some (.agg [.int .i64 p, .int .i64 q]) ∧ -2147483648 ≤ p ∧ p ≤ q ∧ q ≤ 2147483647 := by
  have h1 := (endA_in (t := 5) (a := a) (far := far)).1 rfl
  have h2 := (endA_in (t := 5) (a := b) (far := far)).1 rfl
  refine ⟨min (endA 5 a far) (endB 5 a b far), max (endA 5 a far) (endB 5 a b far), ?_, ?_⟩
  · rw [entS_eR, endsF_eq, if_pos ⟨.inl rfl, ha, hb, hf⟩]
  · unfold endB; split <;> omega
theorem ends6R {a b far : Int} (ha : 0 ≤ a ∧ a ≤ 4294967295) (hb : 0 ≤ b ∧ b ≤ 4294967295) (hf : 0 ≤ far ∧ far ≤ 255) : ∃ p q, entS sumsR 7 [.int .i64 6, .int .u32 a, .int .u32 b, .int .u8 far] = some (.agg [.int .i64 p, .int .i64 q]) ∧ 0 ≤ p ∧ p ≤ q ∧ q ≤ 4294967295 := by
  have h1 := (endA_in (t := 6) (a := a) (far := far)).2 rfl
  have h2 := (endA_in (t := 6) (a := b) (far := far)).2 rfl
  refine ⟨min (endA 6 a far) (endB 6 a b far), max (endA 6 a far) (endB 6 a b far), ?_, ?_⟩
  · rw [entS_eR, endsF_eq, if_pos ⟨.inr rfl, ha, hb, hf⟩]
  · unfold endB; split <;> omega
theorem rightS {k : Int} (hk : k = 16 ∨ k = 17) {t a b far : Int} (ht : t = 5 ∨ t = 6 := by omega) (ha : 0 ≤ a ∧ a ≤ 4294967295 := by omega) (hb : 0 ≤ b ∧ b ≤ 4294967295 := by omega) (hf : 0 ≤ far ∧ far ≤ 255 := by omega) : ∃ p q, entS sumsR 8 [.int .i64 k, .int .i64 t, .int .u32 a, .int .u32 b, .int .u8 far] = some (.agg [.int .i64 p, .int .i64 q]) ∧ -6 ≤ p ∧ p ≤ q ∧ q ≤ 37 := by
  refine ⟨min (-6 + a % 44) (-6 + b % 44), max (-6 + a % 44) (-6 + b % 44), ?_, by omega⟩
  rw [entS_r, rightF_eq, if_pos ⟨hk, ht, ha, hb, hf⟩]
theorem awakeS : entS sums 11 [] = some (.bool true) := rfl
theorem awakeSR : entS sumsR 11 [] = some (.bool true) := rfl
abbrev n64 (i : Nat) : KV := .int .i64 (.a 0 [(i, 1)])
abbrev n32 (i : Nat) : KV := .int .u32 (.a 0 [(i, 1)])
abbrev n8 (i : Nat) : KV := .int .u8 (.a 0 [(i, 1)])
noncomputable def argE (r : Nat) (u : Bool) (k : Nat) : List KV := [.int .u8 (.a r [(k, 12)]), .bool u, n32 (k + 3), n32 (k + 4), n32 (k + 5), n32 (k + 6), n8 (k + 7), n8 (k + 8), n32 (k + 1), n32 (k + 2)]
noncomputable def tabE (t k : Nat) (x y : KV) (l : Tab) : Tab := (11, [], .bool true) :: (7, [.int .i64 (.p t), n32 (k + 3), n32 (k + 5), n8 (k + 7)], x) :: (7, [.int .i64 (.p t), n32 (k + 4), n32 (k + 6), n8 (k + 8)], y) :: l
noncomputable def tabR (o t k : Nat) (x y : KV) : Tab := [(11, [], .bool true), (7, [.int .i64 (.p t), n32 (k + 3), n32 (k + 5), n8 (k + 7)], x), (8, [.int .i64 (.p o), .int .i64 (.p t), n32 (k + 4), n32 (k + 6), n8 (k + 8)], y)]
noncomputable abbrev R1 (r : Nat) (u : Bool) (t k : Nat) (x y : KV) (l : Tab) (cx : Cx) : Bool := runK Try.prog (tabK (fstF sums) (tabE t k x y l)) 100000 3 (argE r u k) cx
noncomputable abbrev R2 (r : Nat) (u : Bool) (t k : Nat) (x y : KV) (cx : Cx) : Bool := runK Try.prog (tabK (fstF sumsR) (tabR (r + 6) t k x y)) 100000 3 (argE r u k) cx
theorem aR {ρ : Nat → Int} {r k : Nat} {u : Bool} {a0 a2 a3 a4 a5 a6 a7 a8 a9 : Int} (h0 : r + 12 * ρ k = a0 := by simp [rho] <;> omega) (h2 : ρ (k + 3) = a2 := by simp [rho]) (h3 : ρ (k + 4) = a3 := by simp [rho]) (h4 : ρ (k + 5) = a4 := by simp [rho]) (h5 : ρ (k + 6) = a5 := by simp [rho]) (h6 : ρ (k + 7) = a6 := by simp [rho]) (h7 : ρ (k + 8) = a7 := by simp [rho]) (h8 : ρ (k + 1) = a8 := by simp [rho]) (h9 : ρ (k + 2) = a9 := by simp [rho]) : VRels noMap (absL ρ (argE r u k)) [.int .u8 a0, .bool u, .int .u32 a2, .int .u32 a3, .int .u32 a4, .int .u32 a5, .int .u8 a6, .int .u8 a7, .int .u32 a8, .int .u32 a9] := by
  have e : ∀ (i : Nat) (a : Int), ρ i = a → KI.ev ρ (.a 0 [(i, 1)]) = a := fun i a h => by simp [KI.ev, evT, h]
  refine args_cons (rel_int ?_) (args_cons rel_bool (args_cons (rel_int (e _ _ h2)) (args_cons (rel_int (e _ _ h3)) (args_cons (rel_int (e _ _ h4)) (args_cons (rel_int (e _ _ h5)) (args_cons (rel_int (e _ _ h6)) (args_cons (rel_int (e _ _ h7)) (args_cons (rel_int (e _ _ h8)) (args_cons (rel_int (e _ _ h9)) args_nil)))))))))
  simp only [KI.ev, evT]; omega
theorem hS {l : List (FuncId × (List V → Option V))} {ρ : Nat → Int} {f : FuncId} {args : List KV} {R : KV} {args' : List V} {R' : V} (h : entS l f args' = some R') (h1 : absL ρ args = args' := by simp [absL, abs, KI.ev, evT, rho, n64, n32, n8]) (h2 : abs ρ R = R' := by simp [absL, abs, KI.ev, evT, rho, n64, n32, n8]) : entS l f (absL ρ args) = some (abs ρ R) := by rw [h1, h2]; exact h
theorem onesIn {n : Int} (h : -2147483648 ≤ n ∧ n ≤ 4294967295) : 0 ≤ onesV n ∧ n ≤ onesV n ∧ onesV n ≤ 4294967295 := by
  rcases (show (n ≤ 0) ∨ (1 ≤ n ∧ n ≤ 1) ∨ (2 ≤ n ∧ n ≤ 3) ∨ (4 ≤ n ∧ n ≤ 7) ∨ (8 ≤ n ∧ n ≤ 15) ∨ (16 ≤ n ∧ n ≤ 31) ∨ (32 ≤ n ∧ n ≤ 63) ∨ (64 ≤ n ∧ n ≤ 127) ∨ (128 ≤ n ∧ n ≤ 255) ∨ (256 ≤ n ∧ n ≤ 511) ∨ (512 ≤ n ∧ n ≤ 1023) ∨ (1024 ≤ n ∧ n ≤ 2047) ∨ (2048 ≤ n ∧ n ≤ 4095) ∨ (4096 ≤ n ∧ n ≤ 8191) ∨ (8192 ≤ n ∧ n ≤ 16383) ∨ (16384 ≤ n ∧ n ≤ 32767) ∨ (32768 ≤ n ∧ n ≤ 65535) ∨ (65536 ≤ n ∧ n ≤ 131071) ∨ (131072 ≤ n ∧ n ≤ 262143) ∨ (262144 ≤ n ∧ n ≤ 524287) ∨ (524288 ≤ n ∧ n ≤ 1048575) ∨ (1048576 ≤ n ∧ n ≤ 2097151) ∨ (2097152 ≤ n ∧ n ≤ 4194303) ∨ (4194304 ≤ n ∧ n ≤ 8388607) ∨ (8388608 ≤ n ∧ n ≤ 16777215) ∨ (16777216 ≤ n ∧ n ≤ 33554431) ∨ (33554432 ≤ n ∧ n ≤ 67108863) ∨ (67108864 ≤ n ∧ n ≤ 134217727) ∨ (134217728 ≤ n ∧ n ≤ 268435455) ∨ (268435456 ≤ n ∧ n ≤ 536870911) ∨ (536870912 ≤ n ∧ n ≤ 1073741823) ∨ (1073741824 ≤ n ∧ n ≤ 2147483647) ∨ (2147483648 ≤ n ∧ n ≤ 4294967295) by omega) with c | c | c | c | c | c | c | c | c | c | c | c | c | c | c | c | c | c | c | c | c | c | c | c | c | c | c | c | c | c | c | c | c
  · rw [onesV0 (by omega)]; omega
  · rw [onesV1 (by omega)]; omega
  · rw [onesV2 (by omega)]; omega
  · rw [onesV3 (by omega)]; omega
  · rw [onesV4 (by omega)]; omega
  · rw [onesV5 (by omega)]; omega
  · rw [onesV6 (by omega)]; omega
  · rw [onesV7 (by omega)]; omega
  · rw [onesV8 (by omega)]; omega
  · rw [onesV9 (by omega)]; omega
  · rw [onesV10 (by omega)]; omega
  · rw [onesV11 (by omega)]; omega
  · rw [onesV12 (by omega)]; omega
  · rw [onesV13 (by omega)]; omega
  · rw [onesV14 (by omega)]; omega
  · rw [onesV15 (by omega)]; omega
  · rw [onesV16 (by omega)]; omega
  · rw [onesV17 (by omega)]; omega
  · rw [onesV18 (by omega)]; omega
  · rw [onesV19 (by omega)]; omega
  · rw [onesV20 (by omega)]; omega
  · rw [onesV21 (by omega)]; omega
  · rw [onesV22 (by omega)]; omega
  · rw [onesV23 (by omega)]; omega
  · rw [onesV24 (by omega)]; omega
  · rw [onesV25 (by omega)]; omega
  · rw [onesV26 (by omega)]; omega
  · rw [onesV27 (by omega)]; omega
  · rw [onesV28 (by omega)]; omega
  · rw [onesV29 (by omega)]; omega
  · rw [onesV30 (by omega)]; omega
  · rw [onesV31 (by omega)]; omega
  · rw [onesV32 (by omega)]; omega
/-! Bits. -/
noncomputable def bV (n : Nat) (x y : Int) : Int := (dfV n .i64 x y).getD 0
theorem bV_U {n : Nat} (hn : n = 3 ∨ n = 4 ∨ n = 5) {x y : Int} (hx : 0 ≤ x ∧ x ≤ 4294967295) (hy : 0 ≤ y ∧ y ≤ 4294967295) : dfV n .i64 x y = some (bV n x y) ∧ 0 ≤ bV n x y ∧ bV n x y ≤ 4294967295 := by
  obtain ⟨z, h, b⟩ := bitU hn hx hy
  have e : bV n x y = z := by rw [bV, h]; rfl
  rw [e]; exact ⟨h, b⟩
theorem bV_I {n : Nat} (hn : n = 3 ∨ n = 4 ∨ n = 5) {x y : Int} (hx : -2147483648 ≤ x ∧ x ≤ 2147483647) (hy : -2147483648 ≤ y ∧ y ≤ 2147483647) : dfV n .i64 x y = some (bV n x y) ∧ -2147483648 ≤ bV n x y ∧ bV n x y ≤ 2147483647 := by
  obtain ⟨z, h, b⟩ := bitI hn hx hy
  have e : bV n x y = z := by rw [bV, h]; rfl
  rw [e]; exact ⟨h, b⟩
theorem bV_nat {x y : Int} (hx : 0 ≤ x ∧ x ≤ 4294967295) (hy : 0 ≤ y ∧ y ≤ 4294967295) : bV 3 x y = ((x.toNat &&& y.toNat : Nat) : Int) ∧ bV 4 x y = ((x.toNat ||| y.toNat : Nat) : Int) ∧ bV 5 x y = ((x.toNat ^^^ y.toNat : Nat) : Int) := by
  have a := ofI hx; have b := ofI hy
  have la : x.toNat < 2 ^ 32 := by omega
  have lb : y.toNat < 2 ^ 32 := by omega
  refine ⟨?_, ?_, ?_⟩
  · have e : ((BitVec.ofInt (IntKind.bits .i64) x &&& BitVec.ofInt (IntKind.bits .i64) y).toNat) = x.toNat &&& y.toNat := by rw [BitVec.toNat_and, a, b]
    have h := Nat.and_lt_two_pow x.toNat lb
    simp only [bV, dfV, e]; rw [w64 _ (by omega) (by omega)]; rfl
  · have e : ((BitVec.ofInt (IntKind.bits .i64) x ||| BitVec.ofInt (IntKind.bits .i64) y).toNat) = x.toNat ||| y.toNat := by rw [BitVec.toNat_or, a, b]
    have h := Nat.or_lt_two_pow la lb
    simp only [bV, dfV, e]; rw [w64 _ (by omega) (by omega)]; rfl
  · have e : ((BitVec.ofInt (IntKind.bits .i64) x ^^^ BitVec.ofInt (IntKind.bits .i64) y).toNat) = x.toNat ^^^ y.toNat := by rw [BitVec.toNat_xor, a, b]
    have h := Nat.xor_lt_two_pow la lb
    simp only [bV, dfV, e]; rw [w64 _ (by omega) (by omega)]; rfl
theorem bV_P3 {x y : Int} (hx : 0 ≤ x ∧ x ≤ 4294967295) (hy : 0 ≤ y ∧ y ≤ 4294967295) : 0 ≤ bV 3 x y ∧ bV 3 x y ≤ x ∧ bV 3 x y ≤ y := by
  have h1 := Nat.and_le_left (n := x.toNat) (m := y.toNat); have h2 := Nat.and_le_right (n := x.toNat) (m := y.toNat)
  rw [(bV_nat hx hy).1]; omega
theorem ones_pow {m : Int} (h : -2147483648 ≤ m ∧ m ≤ 4294967295) : ∃ k : Nat, onesV m = 2 ^ k - 1 ∧ (0 ≤ m → m < 2 ^ k) := by
  rcases (show (m ≤ 0) ∨ (1 ≤ m ∧ m ≤ 1) ∨ (2 ≤ m ∧ m ≤ 3) ∨ (4 ≤ m ∧ m ≤ 7) ∨ (8 ≤ m ∧ m ≤ 15) ∨ (16 ≤ m ∧ m ≤ 31) ∨ (32 ≤ m ∧ m ≤ 63) ∨ (64 ≤ m ∧ m ≤ 127) ∨ (128 ≤ m ∧ m ≤ 255) ∨ (256 ≤ m ∧ m ≤ 511) ∨ (512 ≤ m ∧ m ≤ 1023) ∨ (1024 ≤ m ∧ m ≤ 2047) ∨ (2048 ≤ m ∧ m ≤ 4095) ∨ (4096 ≤ m ∧ m ≤ 8191) ∨ (8192 ≤ m ∧ m ≤ 16383) ∨ (16384 ≤ m ∧ m ≤ 32767) ∨ (32768 ≤ m ∧ m ≤ 65535) ∨ (65536 ≤ m ∧ m ≤ 131071) ∨ (131072 ≤ m ∧ m ≤ 262143) ∨ (262144 ≤ m ∧ m ≤ 524287) ∨ (524288 ≤ m ∧ m ≤ 1048575) ∨ (1048576 ≤ m ∧ m ≤ 2097151) ∨ (2097152 ≤ m ∧ m ≤ 4194303) ∨ (4194304 ≤ m ∧ m ≤ 8388607) ∨ (8388608 ≤ m ∧ m ≤ 16777215) ∨ (16777216 ≤ m ∧ m ≤ 33554431) ∨ (33554432 ≤ m ∧ m ≤ 67108863) ∨ (67108864 ≤ m ∧ m ≤ 134217727) ∨ (134217728 ≤ m ∧ m ≤ 268435455) ∨ (268435456 ≤ m ∧ m ≤ 536870911) ∨ (536870912 ≤ m ∧ m ≤ 1073741823) ∨ (1073741824 ≤ m ∧ m ≤ 2147483647) ∨ (2147483648 ≤ m ∧ m ≤ 4294967295) by omega) with c | c | c | c | c | c | c | c | c | c | c | c | c | c | c | c | c | c | c | c | c | c | c | c | c | c | c | c | c | c | c | c | c
  · exact ⟨0, by rw [onesV0 (by omega)]; rfl, fun _ => by omega⟩
  · exact ⟨1, by rw [onesV1 (by omega)]; rfl, fun _ => by omega⟩
  · exact ⟨2, by rw [onesV2 (by omega)]; rfl, fun _ => by omega⟩
  · exact ⟨3, by rw [onesV3 (by omega)]; rfl, fun _ => by omega⟩
  · exact ⟨4, by rw [onesV4 (by omega)]; rfl, fun _ => by omega⟩
  · exact ⟨5, by rw [onesV5 (by omega)]; rfl, fun _ => by omega⟩
  · exact ⟨6, by rw [onesV6 (by omega)]; rfl, fun _ => by omega⟩
  · exact ⟨7, by rw [onesV7 (by omega)]; rfl, fun _ => by omega⟩
  · exact ⟨8, by rw [onesV8 (by omega)]; rfl, fun _ => by omega⟩
  · exact ⟨9, by rw [onesV9 (by omega)]; rfl, fun _ => by omega⟩
  · exact ⟨10, by rw [onesV10 (by omega)]; rfl, fun _ => by omega⟩
  · exact ⟨11, by rw [onesV11 (by omega)]; rfl, fun _ => by omega⟩
  · exact ⟨12, by rw [onesV12 (by omega)]; rfl, fun _ => by omega⟩
  · exact ⟨13, by rw [onesV13 (by omega)]; rfl, fun _ => by omega⟩
  · exact ⟨14, by rw [onesV14 (by omega)]; rfl, fun _ => by omega⟩
  · exact ⟨15, by rw [onesV15 (by omega)]; rfl, fun _ => by omega⟩
  · exact ⟨16, by rw [onesV16 (by omega)]; rfl, fun _ => by omega⟩
  · exact ⟨17, by rw [onesV17 (by omega)]; rfl, fun _ => by omega⟩
  · exact ⟨18, by rw [onesV18 (by omega)]; rfl, fun _ => by omega⟩
  · exact ⟨19, by rw [onesV19 (by omega)]; rfl, fun _ => by omega⟩
  · exact ⟨20, by rw [onesV20 (by omega)]; rfl, fun _ => by omega⟩
  · exact ⟨21, by rw [onesV21 (by omega)]; rfl, fun _ => by omega⟩
  · exact ⟨22, by rw [onesV22 (by omega)]; rfl, fun _ => by omega⟩
  · exact ⟨23, by rw [onesV23 (by omega)]; rfl, fun _ => by omega⟩
  · exact ⟨24, by rw [onesV24 (by omega)]; rfl, fun _ => by omega⟩
  · exact ⟨25, by rw [onesV25 (by omega)]; rfl, fun _ => by omega⟩
  · exact ⟨26, by rw [onesV26 (by omega)]; rfl, fun _ => by omega⟩
  · exact ⟨27, by rw [onesV27 (by omega)]; rfl, fun _ => by omega⟩
  · exact ⟨28, by rw [onesV28 (by omega)]; rfl, fun _ => by omega⟩
  · exact ⟨29, by rw [onesV29 (by omega)]; rfl, fun _ => by omega⟩
  · exact ⟨30, by rw [onesV30 (by omega)]; rfl, fun _ => by omega⟩
  · exact ⟨31, by rw [onesV31 (by omega)]; rfl, fun _ => by omega⟩
  · exact ⟨32, by rw [onesV32 (by omega)]; rfl, fun _ => by omega⟩

theorem bV_P4 {x y : Int} (hx : 0 ≤ x ∧ x ≤ 4294967295) (hy : 0 ≤ y ∧ y ≤ 4294967295) {m : Int} (h1 : x ≤ m) (h2 : y ≤ m) (h3 : m ≤ 4294967295) : 0 ≤ bV 4 x y ∧ x ≤ bV 4 x y ∧ y ≤ bV 4 x y ∧ bV 4 x y ≤ onesV m := by
  obtain ⟨k, e, hk⟩ := ones_pow (m := m) (by omega)
  have hk := hk (by omega)
  have c : ((2 ^ k : Nat) : Int) = 2 ^ k := by norm_cast
  have ha := Nat.left_le_or (n := x.toNat) (m := y.toNat); have hb := Nat.right_le_or (n := x.toNat) (m := y.toNat)
  have hl := Nat.or_lt_two_pow (x := x.toNat) (y := y.toNat) (n := k) (by omega) (by omega)
  rw [(bV_nat hx hy).2.1, e]; omega
theorem bV_P5 {x y : Int} (hx : 0 ≤ x ∧ x ≤ 4294967295) (hy : 0 ≤ y ∧ y ≤ 4294967295) {m : Int} (h1 : x ≤ m) (h2 : y ≤ m) (h3 : m ≤ 4294967295) : 0 ≤ bV 5 x y ∧ bV 5 x y ≤ onesV m := by
  obtain ⟨k, e, hk⟩ := ones_pow (m := m) (by omega)
  have hk := hk (by omega)
  have c : ((2 ^ k : Nat) : Int) = 2 ^ k := by norm_cast
  have hl := Nat.xor_lt_two_pow (x := x.toNat) (y := y.toNat) (n := k) (by omega) (by omega)
  rw [(bV_nat hx hy).2.2, e]; omega

end Go.Proofs.Ytcjnmphpfdlikaa.fs
