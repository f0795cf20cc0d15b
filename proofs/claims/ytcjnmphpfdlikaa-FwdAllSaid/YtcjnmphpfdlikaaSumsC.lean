/- What inner functions answer, by runs of the kernel: the intervals' ends, ones that reach so far, relations. No condition. Written by program. -/
import Derived.Test.YtcjnmphpfdlikaaDrawC
import Derived.Test.YtcjnmphpfdlikaaFwdC
import Derived.KernelRfl
set_option linter.unusedVariables false
set_option linter.unusedSimpArgs false
set_option maxRecDepth 1000000
set_option maxHeartbeats 100000000
namespace Go.Proofs.Ytcjnmphpfdlikaa.fs
open Go Go.Sx Go.RowKit Go.Fx
noncomputable abbrev rE (f : FuncId) (args : List KV) (cx : Cx) (R : KV) : Bool := runE Try.prog (tabK (fstF []) []) 100000 f args cx R
theorem tx {f : FuncId} {args : List KV} {cx : Cx} {R : KV} {xs : List Int} {args' : List Value} {v : V} (h : rE f args cx R = true) (hargs : VRels noMap (absL (rho xs) args) args') (hv : abs (rho xs) R = v) (hf : flatV v = true) (h4 : dfAll xs cx.df := by exact trivial) (h1 : boxAll xs cx.box := by simp only [boxAll, and_true] <;> omega) (h2 : csAll xs cx.cs := by first | exact trivial | (simp [csAll, evT, rho] <;> omega)) (h3 : noSv cx.box = true := by rfl) : Tells Try.prog f args' v := tells_tab kdC.progOK kdC.mixed (l := []) trivial trivial h h1 h2 h4 trivial hargs hv hf h3
/-- A number within a type: I32 (5), U32 (6). -/
noncomputable def wrapT (t x : Int) : Int := if t = 5 then IntKind.wrap .i32 x else IntKind.wrap .u32 x
noncomputable def endA (t a far : Int) : Int := if far % 3 = 0 then wrapT t (a % 40 - 20) else wrapT t a
noncomputable def endB (t a b far : Int) : Int := if far % 7 = 0 then endA t a far else endA t b far
noncomputable def endsF : List V → Option V
  | [.int .i64 t, .int .u32 a, .int .u32 b, .int .u8 far] => if (t = 5 ∨ t = 6) ∧ (0 ≤ a ∧ a ≤ 4294967295) ∧ (0 ≤ b ∧ b ≤ 4294967295) ∧ (0 ≤ far ∧ far ≤ 255) then some (.agg [.int .i64 (min (endA t a far) (endB t a b far)), .int .i64 (max (endA t a far) (endB t a b far))]) else none
  | _ => none
def onesGo : Nat → Int → Int → Int
  | 0, o, _ => o
  | f + 1, o, n => if o < n then onesGo f (2 * o + 1) n else o
/-- The least of 0, 1, 3, 7 .. that is at least a number. -/
def onesV (n : Int) : Int := onesGo 40 0 n
theorem ones_step {f : Nat} {o n : Int} (h : o < n) : onesGo (f + 1) o n = onesGo f (2 * o + 1) n := if_pos h
theorem ones_stop {f : Nat} {o n : Int} (h : n ≤ o) : onesGo (f + 1) o n = o := if_neg (by omega)
noncomputable def onesF : List V → Option V
  | [.int .i64 n] => if -2147483648 ≤ n ∧ n ≤ 4294967295 then some (.int .i64 (onesV n)) else none
  | _ => none
noncomputable def lowF : List V → Option V
  | [.int .i64 a, .int .i64 b] => if (0 ≤ a ∧ a ≤ 4294967295) ∧ (0 ≤ b ∧ b ≤ 4294967295) then some (.int .i64 (onesV (max a b))) else none
  | _ => none
/-- May a relation hold? -/
def relY (rel p q r s : Int) : Bool := if rel = 1 then decide (r ≤ q ∧ p ≤ s) else if rel = 2 then !decide (p = q ∧ r = s ∧ p = r) else if rel = 3 then decide (p < s) else if rel = 4 then decide (p ≤ s) else if rel = 5 then decide (r < q) else if rel = 6 then decide (r ≤ q) else false
/-- And may it not? -/
def relN (rel p q r s : Int) : Bool := if rel = 1 then !decide (p = q ∧ r = s ∧ p = r) else if rel = 2 then decide (r ≤ q ∧ p ≤ s) else if rel = 3 then decide (r ≤ q) else if rel = 4 then decide (r < q) else if rel = 5 then decide (p ≤ s) else if rel = 6 then decide (p < s) else false
noncomputable def relF : List V → Option V
  | [.int .i64 rel, .agg [.int .i64 p, .int .i64 q], .agg [.int .i64 r, .int .i64 s]] => if (-9223372036854775808 ≤ rel ∧ rel ≤ 9223372036854775807) ∧ (-2147483648 ≤ p ∧ p ≤ q ∧ q ≤ 4294967295) ∧ (-2147483648 ≤ r ∧ r ≤ s ∧ s ≤ 4294967295) then some (.tuple [.bool (relY rel p q r s), .bool (relN rel p q r s)]) else none
  | _ => none
theorem rel_agg2 {μ : Map} {ρ : Nat → Int} {k k' : IntKind} {x y : KI} {a b : Int} (h : VRel μ (abs ρ (.int k x)) (.int k a)) (h' : VRel μ (abs ρ (.int k' y)) (.int k' b)) : VRel μ (abs ρ (.agg [.int k x, .int k' y])) (.agg #[.int k a, .int k' b]) := rel_agg (l' := [.int k a, .int k' b]) (args_cons h (args_cons h' args_nil))

theorem re0 : rE 7 [.int .i64 (.p 5), .int .u32 (.a 0 [(0, 1)]), .int .u32 (.a 0 [(1, 1)]), .int .u8 (.a 0 [(2, 1)])] ⟨[(0, 4294967295), (0, 4294967295), (0, 255), (0, 0), (0, 0), (0, 39), (0, 39), ((-2147483648), 2147483647), ((-2147483648), 2147483647)], [], [⟨2, .u8, .a 0 [(2, 1)], .p 3, 3⟩, ⟨2, .u8, .a 0 [(2, 1)], .p 7, 4⟩, ⟨2, .i64, .a 0 [(0, 1)], .p 40, 5⟩, ⟨2, .i64, .a 0 [(1, 1)], .p 40, 6⟩, ⟨7, .i32, .a 0 [(0, 1)], .p 0, 7⟩, ⟨7, .i32, .a 0 [(1, 1)], .p 0, 8⟩]⟩ (.agg [.int .i64 (.a (-20) [(5, 1)]), .int .i64 (.a (-20) [(5, 1)])]) = true := by kernel_rfl
theorem re1 : rE 7 [.int .i64 (.p 5), .int .u32 (.a 0 [(0, 1)]), .int .u32 (.a 0 [(1, 1)]), .int .u8 (.a 0 [(2, 1)])] ⟨[(0, 4294967295), (0, 4294967295), (0, 255), (0, 0), (1, 6), (0, 39), (0, 39), ((-2147483648), 2147483647), ((-2147483648), 2147483647)], [(0, [(5, 1), (6, (-1))])], [⟨2, .u8, .a 0 [(2, 1)], .p 3, 3⟩, ⟨2, .u8, .a 0 [(2, 1)], .p 7, 4⟩, ⟨2, .i64, .a 0 [(0, 1)], .p 40, 5⟩, ⟨2, .i64, .a 0 [(1, 1)], .p 40, 6⟩, ⟨7, .i32, .a 0 [(0, 1)], .p 0, 7⟩, ⟨7, .i32, .a 0 [(1, 1)], .p 0, 8⟩]⟩ (.agg [.int .i64 (.a (-20) [(5, 1)]), .int .i64 (.a (-20) [(6, 1)])]) = true := by kernel_rfl
theorem re2 : rE 7 [.int .i64 (.p 5), .int .u32 (.a 0 [(0, 1)]), .int .u32 (.a 0 [(1, 1)]), .int .u8 (.a 0 [(2, 1)])] ⟨[(0, 4294967295), (0, 4294967295), (0, 255), (0, 0), (1, 6), (0, 39), (0, 39), ((-2147483648), 2147483647), ((-2147483648), 2147483647)], [(0, [(5, (-1)), (6, 1)])], [⟨2, .u8, .a 0 [(2, 1)], .p 3, 3⟩, ⟨2, .u8, .a 0 [(2, 1)], .p 7, 4⟩, ⟨2, .i64, .a 0 [(0, 1)], .p 40, 5⟩, ⟨2, .i64, .a 0 [(1, 1)], .p 40, 6⟩, ⟨7, .i32, .a 0 [(0, 1)], .p 0, 7⟩, ⟨7, .i32, .a 0 [(1, 1)], .p 0, 8⟩]⟩ (.agg [.int .i64 (.a (-20) [(6, 1)]), .int .i64 (.a (-20) [(5, 1)])]) = true := by kernel_rfl
theorem re3 : rE 7 [.int .i64 (.p 5), .int .u32 (.a 0 [(0, 1)]), .int .u32 (.a 0 [(1, 1)]), .int .u8 (.a 0 [(2, 1)])] ⟨[(0, 4294967295), (0, 4294967295), (0, 255), (1, 2), (0, 0), (0, 39), (0, 39), ((-2147483648), 2147483647), ((-2147483648), 2147483647)], [], [⟨2, .u8, .a 0 [(2, 1)], .p 3, 3⟩, ⟨2, .u8, .a 0 [(2, 1)], .p 7, 4⟩, ⟨2, .i64, .a 0 [(0, 1)], .p 40, 5⟩, ⟨2, .i64, .a 0 [(1, 1)], .p 40, 6⟩, ⟨7, .i32, .a 0 [(0, 1)], .p 0, 7⟩, ⟨7, .i32, .a 0 [(1, 1)], .p 0, 8⟩]⟩ (.agg [.int .i64 (.a 0 [(7, 1)]), .int .i64 (.a 0 [(7, 1)])]) = true := by kernel_rfl
theorem re4 : rE 7 [.int .i64 (.p 5), .int .u32 (.a 0 [(0, 1)]), .int .u32 (.a 0 [(1, 1)]), .int .u8 (.a 0 [(2, 1)])] ⟨[(0, 4294967295), (0, 4294967295), (0, 255), (1, 2), (1, 6), (0, 39), (0, 39), ((-2147483648), 2147483647), ((-2147483648), 2147483647)], [(0, [(7, 1), (8, (-1))])], [⟨2, .u8, .a 0 [(2, 1)], .p 3, 3⟩, ⟨2, .u8, .a 0 [(2, 1)], .p 7, 4⟩, ⟨2, .i64, .a 0 [(0, 1)], .p 40, 5⟩, ⟨2, .i64, .a 0 [(1, 1)], .p 40, 6⟩, ⟨7, .i32, .a 0 [(0, 1)], .p 0, 7⟩, ⟨7, .i32, .a 0 [(1, 1)], .p 0, 8⟩]⟩ (.agg [.int .i64 (.a 0 [(7, 1)]), .int .i64 (.a 0 [(8, 1)])]) = true := by kernel_rfl
theorem re5 : rE 7 [.int .i64 (.p 5), .int .u32 (.a 0 [(0, 1)]), .int .u32 (.a 0 [(1, 1)]), .int .u8 (.a 0 [(2, 1)])] ⟨[(0, 4294967295), (0, 4294967295), (0, 255), (1, 2), (1, 6), (0, 39), (0, 39), ((-2147483648), 2147483647), ((-2147483648), 2147483647)], [(0, [(7, (-1)), (8, 1)])], [⟨2, .u8, .a 0 [(2, 1)], .p 3, 3⟩, ⟨2, .u8, .a 0 [(2, 1)], .p 7, 4⟩, ⟨2, .i64, .a 0 [(0, 1)], .p 40, 5⟩, ⟨2, .i64, .a 0 [(1, 1)], .p 40, 6⟩, ⟨7, .i32, .a 0 [(0, 1)], .p 0, 7⟩, ⟨7, .i32, .a 0 [(1, 1)], .p 0, 8⟩]⟩ (.agg [.int .i64 (.a 0 [(8, 1)]), .int .i64 (.a 0 [(7, 1)])]) = true := by kernel_rfl
theorem re6 : rE 7 [.int .i64 (.p 6), .int .u32 (.a 0 [(0, 1)]), .int .u32 (.a 0 [(1, 1)]), .int .u8 (.a 0 [(2, 1)])] ⟨[(0, 4294967295), (0, 4294967295), (0, 255), (0, 0), (0, 0), (0, 39), (0, 39), (0, 4294967295), (0, 4294967295)], [], [⟨2, .u8, .a 0 [(2, 1)], .p 3, 3⟩, ⟨2, .u8, .a 0 [(2, 1)], .p 7, 4⟩, ⟨2, .i64, .a 0 [(0, 1)], .p 40, 5⟩, ⟨2, .i64, .a 0 [(1, 1)], .p 40, 6⟩, ⟨7, .u32, .a (-20) [(5, 1)], .p 0, 7⟩, ⟨7, .u32, .a (-20) [(6, 1)], .p 0, 8⟩]⟩ (.agg [.int .i64 (.a 0 [(7, 1)]), .int .i64 (.a 0 [(7, 1)])]) = true := by kernel_rfl
theorem re7 : rE 7 [.int .i64 (.p 6), .int .u32 (.a 0 [(0, 1)]), .int .u32 (.a 0 [(1, 1)]), .int .u8 (.a 0 [(2, 1)])] ⟨[(0, 4294967295), (0, 4294967295), (0, 255), (0, 0), (1, 6), (0, 39), (0, 39), (0, 4294967295), (0, 4294967295)], [(0, [(7, 1), (8, (-1))])], [⟨2, .u8, .a 0 [(2, 1)], .p 3, 3⟩, ⟨2, .u8, .a 0 [(2, 1)], .p 7, 4⟩, ⟨2, .i64, .a 0 [(0, 1)], .p 40, 5⟩, ⟨2, .i64, .a 0 [(1, 1)], .p 40, 6⟩, ⟨7, .u32, .a (-20) [(5, 1)], .p 0, 7⟩, ⟨7, .u32, .a (-20) [(6, 1)], .p 0, 8⟩]⟩ (.agg [.int .i64 (.a 0 [(7, 1)]), .int .i64 (.a 0 [(8, 1)])]) = true := by kernel_rfl
theorem re8 : rE 7 [.int .i64 (.p 6), .int .u32 (.a 0 [(0, 1)]), .int .u32 (.a 0 [(1, 1)]), .int .u8 (.a 0 [(2, 1)])] ⟨[(0, 4294967295), (0, 4294967295), (0, 255), (0, 0), (1, 6), (0, 39), (0, 39), (0, 4294967295), (0, 4294967295)], [(0, [(7, (-1)), (8, 1)])], [⟨2, .u8, .a 0 [(2, 1)], .p 3, 3⟩, ⟨2, .u8, .a 0 [(2, 1)], .p 7, 4⟩, ⟨2, .i64, .a 0 [(0, 1)], .p 40, 5⟩, ⟨2, .i64, .a 0 [(1, 1)], .p 40, 6⟩, ⟨7, .u32, .a (-20) [(5, 1)], .p 0, 7⟩, ⟨7, .u32, .a (-20) [(6, 1)], .p 0, 8⟩]⟩ (.agg [.int .i64 (.a 0 [(8, 1)]), .int .i64 (.a 0 [(7, 1)])]) = true := by kernel_rfl
theorem re9 : rE 7 [.int .i64 (.p 6), .int .u32 (.a 0 [(0, 1)]), .int .u32 (.a 0 [(1, 1)]), .int .u8 (.a 0 [(2, 1)])] ⟨[(0, 4294967295), (0, 4294967295), (0, 255), (1, 2), (0, 0), (0, 39), (0, 39), (0, 4294967295), (0, 4294967295)], [], [⟨2, .u8, .a 0 [(2, 1)], .p 3, 3⟩, ⟨2, .u8, .a 0 [(2, 1)], .p 7, 4⟩, ⟨2, .i64, .a 0 [(0, 1)], .p 40, 5⟩, ⟨2, .i64, .a 0 [(1, 1)], .p 40, 6⟩, ⟨7, .u32, .a (-20) [(5, 1)], .p 0, 7⟩, ⟨7, .u32, .a (-20) [(6, 1)], .p 0, 8⟩]⟩ (.agg [.int .i64 (.a 0 [(0, 1)]), .int .i64 (.a 0 [(0, 1)])]) = true := by kernel_rfl
theorem re10 : rE 7 [.int .i64 (.p 6), .int .u32 (.a 0 [(0, 1)]), .int .u32 (.a 0 [(1, 1)]), .int .u8 (.a 0 [(2, 1)])] ⟨[(0, 4294967295), (0, 4294967295), (0, 255), (1, 2), (1, 6), (0, 39), (0, 39), (0, 4294967295), (0, 4294967295)], [(0, [(0, 1), (1, (-1))])], [⟨2, .u8, .a 0 [(2, 1)], .p 3, 3⟩, ⟨2, .u8, .a 0 [(2, 1)], .p 7, 4⟩, ⟨2, .i64, .a 0 [(0, 1)], .p 40, 5⟩, ⟨2, .i64, .a 0 [(1, 1)], .p 40, 6⟩, ⟨7, .u32, .a (-20) [(5, 1)], .p 0, 7⟩, ⟨7, .u32, .a (-20) [(6, 1)], .p 0, 8⟩]⟩ (.agg [.int .i64 (.a 0 [(0, 1)]), .int .i64 (.a 0 [(1, 1)])]) = true := by kernel_rfl
theorem re11 : rE 7 [.int .i64 (.p 6), .int .u32 (.a 0 [(0, 1)]), .int .u32 (.a 0 [(1, 1)]), .int .u8 (.a 0 [(2, 1)])] ⟨[(0, 4294967295), (0, 4294967295), (0, 255), (1, 2), (1, 6), (0, 39), (0, 39), (0, 4294967295), (0, 4294967295)], [(0, [(0, (-1)), (1, 1)])], [⟨2, .u8, .a 0 [(2, 1)], .p 3, 3⟩, ⟨2, .u8, .a 0 [(2, 1)], .p 7, 4⟩, ⟨2, .i64, .a 0 [(0, 1)], .p 40, 5⟩, ⟨2, .i64, .a 0 [(1, 1)], .p 40, 6⟩, ⟨7, .u32, .a (-20) [(5, 1)], .p 0, 7⟩, ⟨7, .u32, .a (-20) [(6, 1)], .p 0, 8⟩]⟩ (.agg [.int .i64 (.a 0 [(1, 1)]), .int .i64 (.a 0 [(0, 1)])]) = true := by kernel_rfl
theorem modU {x : Int} (m : Nat) (hm : m ≠ 0) (hx : 0 ≤ x) : dfV 2 .u8 x m = some (x % m) := by
  simp only [dfV, if_neg (show ¬ (m : Int) = 0 by omega)]
  rw [Int.tmod_eq_emod_of_nonneg hx]
theorem wrap5 (x : Int) : dfV 7 .i32 x 0 = some (wrapT 5 x) ∧ -2147483648 ≤ wrapT 5 x ∧ wrapT 5 x ≤ 2147483647 := by
  obtain ⟨w, h, b⟩ := convI x
  cases h
  exact ⟨rfl, b⟩
theorem wrap6 (x : Int) : dfV 7 .u32 x 0 = some (wrapT 6 x) ∧ 0 ≤ wrapT 6 x ∧ wrapT 6 x ≤ 4294967295 := by
  obtain ⟨w, h, b⟩ := conv32 x
  cases h
  exact ⟨rfl, b⟩
theorem wrap5_in {x : Int} (h : -20 ≤ x ∧ x ≤ 20) : wrapT 5 x = x := wrap_in .i32 x (by simp [kLo]; omega) (by simp [kMax]; omega)
theorem wrap6_in {x : Int} (h : 0 ≤ x ∧ x ≤ 4294967295) : wrapT 6 x = x := wrap_in .u32 x (by simp [kLo]; omega) (by simp [kMax]; omega)
theorem endA_in {t a far : Int} : (t = 5 → -2147483648 ≤ endA t a far ∧ endA t a far ≤ 2147483647) ∧ (t = 6 → 0 ≤ endA t a far ∧ endA t a far ≤ 4294967295) := by
  refine ⟨fun h => ?_, fun h => ?_⟩ <;> subst h <;> unfold endA <;> split <;> first | exact (wrap5 _).2 | exact (wrap6 _).2
theorem ends_tells {t a b far : Int} (ht : t = 5 ∨ t = 6) (ha : 0 ≤ a ∧ a ≤ 4294967295) (hb : 0 ≤ b ∧ b ≤ 4294967295) (hf : 0 ≤ far ∧ far ≤ 255) : Tells Try.prog 7 [.int .i64 t, .int .u32 a, .int .u32 b, .int .u8 far] (.agg [.int .i64 (min (endA t a far) (endB t a b far)), .int .i64 (max (endA t a far) (endB t a b far))]) := by
  have d3 := modU (x := far) 3 (by omega) hf.1
  have d7 := modU (x := far) 7 (by omega) hf.1
  have da := remAny (x := a) 40 (by omega) ha.1
  have db := remAny (x := b) 40 (by omega) hb.1
  rcases ht with rfl | rfl

  · obtain ⟨ea, ea1, ea2⟩ := wrap5 a
    obtain ⟨eb, eb1, eb2⟩ := wrap5 b
    rcases (show far % 3 = 0 ∨ 1 ≤ far % 3 by omega) with f3 | f3
    · have hA : endA 5 a far = -20 + a % 40 := by unfold endA; rw [if_pos f3, show a % 40 - 20 = -20 + a % 40 by omega]; exact wrap5_in (by omega)
      have hB : endA 5 b far = -20 + b % 40 := by unfold endA; rw [if_pos f3, show b % 40 - 20 = -20 + b % 40 by omega]; exact wrap5_in (by omega)
      rcases (show far % 7 = 0 ∨ 1 ≤ far % 7 by omega) with f7 | f7
      · have hC : endB 5 a b far = -20 + a % 40 := by unfold endB; rw [if_pos f7, hA]
        rw [hA, hC]
        exact tx (xs := [a, b, far, far % 3, far % 7, a % 40, b % 40, wrapT 5 a, wrapT 5 b]) re0 (args_cons ri (args_cons ri (args_cons ri (args_cons ri args_nil)))) (by simp [abs, absL, KI.ev, evT, rho] <;> omega) rfl (h4 := ⟨dO d3, dO d7, dO da, dO db, dO ea, dO eb, trivial⟩)
      · have hC : endB 5 a b far = -20 + b % 40 := by unfold endB; rw [if_neg (by omega), hB]
        rw [hA, hC]
        rcases Int.le_total (-20 + a % 40) (-20 + b % 40) with od | od
        · exact tx (xs := [a, b, far, far % 3, far % 7, a % 40, b % 40, wrapT 5 a, wrapT 5 b]) re1 (args_cons ri (args_cons ri (args_cons ri (args_cons ri args_nil)))) (by simp [abs, absL, KI.ev, evT, rho] <;> omega) rfl (h4 := ⟨dO d3, dO d7, dO da, dO db, dO ea, dO eb, trivial⟩)
        · exact tx (xs := [a, b, far, far % 3, far % 7, a % 40, b % 40, wrapT 5 a, wrapT 5 b]) re2 (args_cons ri (args_cons ri (args_cons ri (args_cons ri args_nil)))) (by simp [abs, absL, KI.ev, evT, rho] <;> omega) rfl (h4 := ⟨dO d3, dO d7, dO da, dO db, dO ea, dO eb, trivial⟩)
    · have hA : endA 5 a far = wrapT 5 a := by unfold endA; rw [if_neg (by omega)]
      have hB : endA 5 b far = wrapT 5 b := by unfold endA; rw [if_neg (by omega)]
      rcases (show far % 7 = 0 ∨ 1 ≤ far % 7 by omega) with f7 | f7
      · have hC : endB 5 a b far = wrapT 5 a := by unfold endB; rw [if_pos f7, hA]
        rw [hA, hC]
        exact tx (xs := [a, b, far, far % 3, far % 7, a % 40, b % 40, wrapT 5 a, wrapT 5 b]) re3 (args_cons ri (args_cons ri (args_cons ri (args_cons ri args_nil)))) (by simp [abs, absL, KI.ev, evT, rho] <;> omega) rfl (h4 := ⟨dO d3, dO d7, dO da, dO db, dO ea, dO eb, trivial⟩)
      · have hC : endB 5 a b far = wrapT 5 b := by unfold endB; rw [if_neg (by omega), hB]
        rw [hA, hC]
        rcases Int.le_total (wrapT 5 a) (wrapT 5 b) with od | od
        · exact tx (xs := [a, b, far, far % 3, far % 7, a % 40, b % 40, wrapT 5 a, wrapT 5 b]) re4 (args_cons ri (args_cons ri (args_cons ri (args_cons ri args_nil)))) (by simp [abs, absL, KI.ev, evT, rho] <;> omega) rfl (h4 := ⟨dO d3, dO d7, dO da, dO db, dO ea, dO eb, trivial⟩)
        · exact tx (xs := [a, b, far, far % 3, far % 7, a % 40, b % 40, wrapT 5 a, wrapT 5 b]) re5 (args_cons ri (args_cons ri (args_cons ri (args_cons ri args_nil)))) (by simp [abs, absL, KI.ev, evT, rho] <;> omega) rfl (h4 := ⟨dO d3, dO d7, dO da, dO db, dO ea, dO eb, trivial⟩)
  · obtain ⟨ea, ea1, ea2⟩ := wrap6 (-20 + a % 40)
    obtain ⟨eb, eb1, eb2⟩ := wrap6 (-20 + b % 40)
    rcases (show far % 3 = 0 ∨ 1 ≤ far % 3 by omega) with f3 | f3
    · have hA : endA 6 a far = wrapT 6 (-20 + a % 40) := by unfold endA; rw [if_pos f3, show a % 40 - 20 = -20 + a % 40 by omega]
      have hB : endA 6 b far = wrapT 6 (-20 + b % 40) := by unfold endA; rw [if_pos f3, show b % 40 - 20 = -20 + b % 40 by omega]
      rcases (show far % 7 = 0 ∨ 1 ≤ far % 7 by omega) with f7 | f7
      · have hC : endB 6 a b far = wrapT 6 (-20 + a % 40) := by unfold endB; rw [if_pos f7, hA]
        rw [hA, hC]
        exact tx (xs := [a, b, far, far % 3, far % 7, a % 40, b % 40, wrapT 6 (-20 + a % 40), wrapT 6 (-20 + b % 40)]) re6 (args_cons ri (args_cons ri (args_cons ri (args_cons ri args_nil)))) (by simp [abs, absL, KI.ev, evT, rho] <;> omega) rfl (h4 := ⟨dO d3, dO d7, dO da, dO db, dO ea, dO eb, trivial⟩)
      · have hC : endB 6 a b far = wrapT 6 (-20 + b % 40) := by unfold endB; rw [if_neg (by omega), hB]
        rw [hA, hC]
        rcases Int.le_total (wrapT 6 (-20 + a % 40)) (wrapT 6 (-20 + b % 40)) with od | od
        · exact tx (xs := [a, b, far, far % 3, far % 7, a % 40, b % 40, wrapT 6 (-20 + a % 40), wrapT 6 (-20 + b % 40)]) re7 (args_cons ri (args_cons ri (args_cons ri (args_cons ri args_nil)))) (by simp [abs, absL, KI.ev, evT, rho] <;> omega) rfl (h4 := ⟨dO d3, dO d7, dO da, dO db, dO ea, dO eb, trivial⟩)
        · exact tx (xs := [a, b, far, far % 3, far % 7, a % 40, b % 40, wrapT 6 (-20 + a % 40), wrapT 6 (-20 + b % 40)]) re8 (args_cons ri (args_cons ri (args_cons ri (args_cons ri args_nil)))) (by simp [abs, absL, KI.ev, evT, rho] <;> omega) rfl (h4 := ⟨dO d3, dO d7, dO da, dO db, dO ea, dO eb, trivial⟩)
    · have hA : endA 6 a far = a := by unfold endA; rw [if_neg (by omega)]; exact wrap6_in (by omega)
      have hB : endA 6 b far = b := by unfold endA; rw [if_neg (by omega)]; exact wrap6_in (by omega)
      rcases (show far % 7 = 0 ∨ 1 ≤ far % 7 by omega) with f7 | f7
      · have hC : endB 6 a b far = a := by unfold endB; rw [if_pos f7, hA]
        rw [hA, hC]
        exact tx (xs := [a, b, far, far % 3, far % 7, a % 40, b % 40, wrapT 6 (-20 + a % 40), wrapT 6 (-20 + b % 40)]) re9 (args_cons ri (args_cons ri (args_cons ri (args_cons ri args_nil)))) (by simp [abs, absL, KI.ev, evT, rho] <;> omega) rfl (h4 := ⟨dO d3, dO d7, dO da, dO db, dO ea, dO eb, trivial⟩)
      · have hC : endB 6 a b far = b := by unfold endB; rw [if_neg (by omega), hB]
        rw [hA, hC]
        rcases Int.le_total (a) (b) with od | od
        · exact tx (xs := [a, b, far, far % 3, far % 7, a % 40, b % 40, wrapT 6 (-20 + a % 40), wrapT 6 (-20 + b % 40)]) re10 (args_cons ri (args_cons ri (args_cons ri (args_cons ri args_nil)))) (by simp [abs, absL, KI.ev, evT, rho] <;> omega) rfl (h4 := ⟨dO d3, dO d7, dO da, dO db, dO ea, dO eb, trivial⟩)
        · exact tx (xs := [a, b, far, far % 3, far % 7, a % 40, b % 40, wrapT 6 (-20 + a % 40), wrapT 6 (-20 + b % 40)]) re11 (args_cons ri (args_cons ri (args_cons ri (args_cons ri args_nil)))) (by simp [abs, absL, KI.ev, evT, rho] <;> omega) rfl (h4 := ⟨dO d3, dO d7, dO da, dO db, dO ea, dO eb, trivial⟩)
theorem ends_ok : EntryOK Try.prog 7 endsF := by
  intro args v hv
  unfold endsF at hv
  split at hv
  · split at hv
    · rename_i h
      cases hv
      refine ⟨rfl, fun args' ha => ?_⟩
      cases ha with | cons _ _ _ _ h1 ha => cases h1; cases ha with | cons _ _ _ _ h1 ha => cases h1; cases ha with | cons _ _ _ _ h1 ha => cases h1; cases ha with | cons _ _ _ _ h1 ha => cases h1; cases ha; exact ends_tells h.1 h.2.1 h.2.2.1 h.2.2.2
    · cases hv
  · cases hv
theorem ro0 : rE 60 [.int .i64 (.a 0 [(0, 1)])] ⟨[((-2147483648), 0)], [], []⟩ (.int .i64 (.p 0)) = true := by kernel_rfl
theorem onesV0 {n : Int} (h : (-2147483648) ≤ n ∧ n ≤ 0) : onesV n = 0 := by
  unfold onesV
  rw [ones_stop (by omega)]
theorem ro1 : rE 60 [.int .i64 (.a 0 [(0, 1)])] ⟨[(1, 1)], [], []⟩ (.int .i64 (.p 1)) = true := by kernel_rfl
theorem onesV1 {n : Int} (h : 1 ≤ n ∧ n ≤ 1) : onesV n = 1 := by
  unfold onesV
  rw [ones_step (by omega), ones_stop (by omega)]
  try omega
theorem ro2 : rE 60 [.int .i64 (.a 0 [(0, 1)])] ⟨[(2, 3)], [], []⟩ (.int .i64 (.p 3)) = true := by kernel_rfl
theorem onesV2 {n : Int} (h : 2 ≤ n ∧ n ≤ 3) : onesV n = 3 := by
  unfold onesV
  rw [ones_step (by omega), ones_step (by omega), ones_stop (by omega)]
  try omega
theorem ro3 : rE 60 [.int .i64 (.a 0 [(0, 1)])] ⟨[(4, 7)], [], []⟩ (.int .i64 (.p 7)) = true := by kernel_rfl
theorem onesV3 {n : Int} (h : 4 ≤ n ∧ n ≤ 7) : onesV n = 7 := by
  unfold onesV
  rw [ones_step (by omega), ones_step (by omega), ones_step (by omega), ones_stop (by omega)]
  try omega
theorem ro4 : rE 60 [.int .i64 (.a 0 [(0, 1)])] ⟨[(8, 15)], [], []⟩ (.int .i64 (.p 15)) = true := by kernel_rfl
theorem onesV4 {n : Int} (h : 8 ≤ n ∧ n ≤ 15) : onesV n = 15 := by
  unfold onesV
  rw [ones_step (by omega), ones_step (by omega), ones_step (by omega), ones_step (by omega), ones_stop (by omega)]
  try omega
theorem ro5 : rE 60 [.int .i64 (.a 0 [(0, 1)])] ⟨[(16, 31)], [], []⟩ (.int .i64 (.p 31)) = true := by kernel_rfl
theorem onesV5 {n : Int} (h : 16 ≤ n ∧ n ≤ 31) : onesV n = 31 := by
  unfold onesV
  rw [ones_step (by omega), ones_step (by omega), ones_step (by omega), ones_step (by omega), ones_step (by omega), ones_stop (by omega)]
  try omega
theorem ro6 : rE 60 [.int .i64 (.a 0 [(0, 1)])] ⟨[(32, 63)], [], []⟩ (.int .i64 (.p 63)) = true := by kernel_rfl
theorem onesV6 {n : Int} (h : 32 ≤ n ∧ n ≤ 63) : onesV n = 63 := by
  unfold onesV
  rw [ones_step (by omega), ones_step (by omega), ones_step (by omega), ones_step (by omega), ones_step (by omega), ones_step (by omega), ones_stop (by omega)]
  try omega
theorem ro7 : rE 60 [.int .i64 (.a 0 [(0, 1)])] ⟨[(64, 127)], [], []⟩ (.int .i64 (.p 127)) = true := by kernel_rfl
theorem onesV7 {n : Int} (h : 64 ≤ n ∧ n ≤ 127) : onesV n = 127 := by
  unfold onesV
  rw [ones_step (by omega), ones_step (by omega), ones_step (by omega), ones_step (by omega), ones_step (by omega), ones_step (by omega), ones_step (by omega), ones_stop (by omega)]
  try omega
theorem ro8 : rE 60 [.int .i64 (.a 0 [(0, 1)])] ⟨[(128, 255)], [], []⟩ (.int .i64 (.p 255)) = true := by kernel_rfl
theorem onesV8 {n : Int} (h : 128 ≤ n ∧ n ≤ 255) : onesV n = 255 := by
  unfold onesV
  rw [ones_step (by omega), ones_step (by omega), ones_step (by omega), ones_step (by omega), ones_step (by omega), ones_step (by omega), ones_step (by omega), ones_step (by omega), ones_stop (by omega)]
  try omega
theorem ro9 : rE 60 [.int .i64 (.a 0 [(0, 1)])] ⟨[(256, 511)], [], []⟩ (.int .i64 (.p 511)) = true := by kernel_rfl
theorem onesV9 {n : Int} (h : 256 ≤ n ∧ n ≤ 511) : onesV n = 511 := by
  unfold onesV
  rw [ones_step (by omega), ones_step (by omega), ones_step (by omega), ones_step (by omega), ones_step (by omega), ones_step (by omega), ones_step (by omega), ones_step (by omega), ones_step (by omega), ones_stop (by omega)]
  try omega
theorem ro10 : rE 60 [.int .i64 (.a 0 [(0, 1)])] ⟨[(512, 1023)], [], []⟩ (.int .i64 (.p 1023)) = true := by kernel_rfl
theorem onesV10 {n : Int} (h : 512 ≤ n ∧ n ≤ 1023) : onesV n = 1023 := by
  unfold onesV
  rw [ones_step (by omega), ones_step (by omega), ones_step (by omega), ones_step (by omega), ones_step (by omega), ones_step (by omega), ones_step (by omega), ones_step (by omega), ones_step (by omega), ones_step (by omega), ones_stop (by omega)]
  try omega
theorem ro11 : rE 60 [.int .i64 (.a 0 [(0, 1)])] ⟨[(1024, 2047)], [], []⟩ (.int .i64 (.p 2047)) = true := by kernel_rfl
theorem onesV11 {n : Int} (h : 1024 ≤ n ∧ n ≤ 2047) : onesV n = 2047 := by
  unfold onesV
  rw [ones_step (by omega), ones_step (by omega), ones_step (by omega), ones_step (by omega), ones_step (by omega), ones_step (by omega), ones_step (by omega), ones_step (by omega), ones_step (by omega), ones_step (by omega), ones_step (by omega), ones_stop (by omega)]
  try omega
theorem ro12 : rE 60 [.int .i64 (.a 0 [(0, 1)])] ⟨[(2048, 4095)], [], []⟩ (.int .i64 (.p 4095)) = true := by kernel_rfl
theorem onesV12 {n : Int} (h : 2048 ≤ n ∧ n ≤ 4095) : onesV n = 4095 := by
  unfold onesV
  rw [ones_step (by omega), ones_step (by omega), ones_step (by omega), ones_step (by omega), ones_step (by omega), ones_step (by omega), ones_step (by omega), ones_step (by omega), ones_step (by omega), ones_step (by omega), ones_step (by omega), ones_step (by omega), ones_stop (by omega)]
  try omega
theorem ro13 : rE 60 [.int .i64 (.a 0 [(0, 1)])] ⟨[(4096, 8191)], [], []⟩ (.int .i64 (.p 8191)) = true := by kernel_rfl
theorem onesV13 {n : Int} (h : 4096 ≤ n ∧ n ≤ 8191) : onesV n = 8191 := by
  unfold onesV
  rw [ones_step (by omega), ones_step (by omega), ones_step (by omega), ones_step (by omega), ones_step (by omega), ones_step (by omega), ones_step (by omega), ones_step (by omega), ones_step (by omega), ones_step (by omega), ones_step (by omega), ones_step (by omega), ones_step (by omega), ones_stop (by omega)]
  try omega
theorem ro14 : rE 60 [.int .i64 (.a 0 [(0, 1)])] ⟨[(8192, 16383)], [], []⟩ (.int .i64 (.p 16383)) = true := by kernel_rfl
theorem onesV14 {n : Int} (h : 8192 ≤ n ∧ n ≤ 16383) : onesV n = 16383 := by
  unfold onesV
  rw [ones_step (by omega), ones_step (by omega), ones_step (by omega), ones_step (by omega), ones_step (by omega), ones_step (by omega), ones_step (by omega), ones_step (by omega), ones_step (by omega), ones_step (by omega), ones_step (by omega), ones_step (by omega), ones_step (by omega), ones_step (by omega), ones_stop (by omega)]
  try omega
theorem ro15 : rE 60 [.int .i64 (.a 0 [(0, 1)])] ⟨[(16384, 32767)], [], []⟩ (.int .i64 (.p 32767)) = true := by kernel_rfl
theorem onesV15 {n : Int} (h : 16384 ≤ n ∧ n ≤ 32767) : onesV n = 32767 := by
  unfold onesV
  rw [ones_step (by omega), ones_step (by omega), ones_step (by omega), ones_step (by omega), ones_step (by omega), ones_step (by omega), ones_step (by omega), ones_step (by omega), ones_step (by omega), ones_step (by omega), ones_step (by omega), ones_step (by omega), ones_step (by omega), ones_step (by omega), ones_step (by omega), ones_stop (by omega)]
  try omega
theorem ro16 : rE 60 [.int .i64 (.a 0 [(0, 1)])] ⟨[(32768, 65535)], [], []⟩ (.int .i64 (.p 65535)) = true := by kernel_rfl
theorem onesV16 {n : Int} (h : 32768 ≤ n ∧ n ≤ 65535) : onesV n = 65535 := by
  unfold onesV
  rw [ones_step (by omega), ones_step (by omega), ones_step (by omega), ones_step (by omega), ones_step (by omega), ones_step (by omega), ones_step (by omega), ones_step (by omega), ones_step (by omega), ones_step (by omega), ones_step (by omega), ones_step (by omega), ones_step (by omega), ones_step (by omega), ones_step (by omega), ones_step (by omega), ones_stop (by omega)]
  try omega
theorem ro17 : rE 60 [.int .i64 (.a 0 [(0, 1)])] ⟨[(65536, 131071)], [], []⟩ (.int .i64 (.p 131071)) = true := by kernel_rfl
theorem onesV17 {n : Int} (h : 65536 ≤ n ∧ n ≤ 131071) : onesV n = 131071 := by
  unfold onesV
  rw [ones_step (by omega), ones_step (by omega), ones_step (by omega), ones_step (by omega), ones_step (by omega), ones_step (by omega), ones_step (by omega), ones_step (by omega), ones_step (by omega), ones_step (by omega), ones_step (by omega), ones_step (by omega), ones_step (by omega), ones_step (by omega), ones_step (by omega), ones_step (by omega), ones_step (by omega), ones_stop (by omega)]
  try omega
theorem ro18 : rE 60 [.int .i64 (.a 0 [(0, 1)])] ⟨[(131072, 262143)], [], []⟩ (.int .i64 (.p 262143)) = true := by kernel_rfl
theorem onesV18 {n : Int} (h : 131072 ≤ n ∧ n ≤ 262143) : onesV n = 262143 := by
  unfold onesV
  rw [ones_step (by omega), ones_step (by omega), ones_step (by omega), ones_step (by omega), ones_step (by omega), ones_step (by omega), ones_step (by omega), ones_step (by omega), ones_step (by omega), ones_step (by omega), ones_step (by omega), ones_step (by omega), ones_step (by omega), ones_step (by omega), ones_step (by omega), ones_step (by omega), ones_step (by omega), ones_step (by omega), ones_stop (by omega)]
  try omega
theorem ro19 : rE 60 [.int .i64 (.a 0 [(0, 1)])] ⟨[(262144, 524287)], [], []⟩ (.int .i64 (.p 524287)) = true := by kernel_rfl
theorem onesV19 {n : Int} (h : 262144 ≤ n ∧ n ≤ 524287) : onesV n = 524287 := by
  unfold onesV
  rw [ones_step (by omega), ones_step (by omega), ones_step (by omega), ones_step (by omega), ones_step (by omega), ones_step (by omega), ones_step (by omega), ones_step (by omega), ones_step (by omega), ones_step (by omega), ones_step (by omega), ones_step (by omega), ones_step (by omega), ones_step (by omega), ones_step (by omega), ones_step (by omega), ones_step (by omega), ones_step (by omega), ones_step (by omega), ones_stop (by omega)]
  try omega
theorem ro20 : rE 60 [.int .i64 (.a 0 [(0, 1)])] ⟨[(524288, 1048575)], [], []⟩ (.int .i64 (.p 1048575)) = true := by kernel_rfl
theorem onesV20 {n : Int} (h : 524288 ≤ n ∧ n ≤ 1048575) : onesV n = 1048575 := by
  unfold onesV
  rw [ones_step (by omega), ones_step (by omega), ones_step (by omega), ones_step (by omega), ones_step (by omega), ones_step (by omega), ones_step (by omega), ones_step (by omega), ones_step (by omega), ones_step (by omega), ones_step (by omega), ones_step (by omega), ones_step (by omega), ones_step (by omega), ones_step (by omega), ones_step (by omega), ones_step (by omega), ones_step (by omega), ones_step (by omega), ones_step (by omega), ones_stop (by omega)]
  try omega
theorem ro21 : rE 60 [.int .i64 (.a 0 [(0, 1)])] ⟨[(1048576, 2097151)], [], []⟩ (.int .i64 (.p 2097151)) = true := by kernel_rfl
theorem onesV21 {n : Int} (h : 1048576 ≤ n ∧ n ≤ 2097151) : onesV n = 2097151 := by
  unfold onesV
  rw [ones_step (by omega), ones_step (by omega), ones_step (by omega), ones_step (by omega), ones_step (by omega), ones_step (by omega), ones_step (by omega), ones_step (by omega), ones_step (by omega), ones_step (by omega), ones_step (by omega), ones_step (by omega), ones_step (by omega), ones_step (by omega), ones_step (by omega), ones_step (by omega), ones_step (by omega), ones_step (by omega), ones_step (by omega), ones_step (by omega), ones_step (by omega), ones_stop (by omega)]
  try omega
theorem ro22 : rE 60 [.int .i64 (.a 0 [(0, 1)])] ⟨[(2097152, 4194303)], [], []⟩ (.int .i64 (.p 4194303)) = true := by kernel_rfl
theorem onesV22 {n : Int} (h : 2097152 ≤ n ∧ n ≤ 4194303) : onesV n = 4194303 := by
  unfold onesV
  rw [ones_step (by omega), ones_step (by omega), ones_step (by omega), ones_step (by omega), ones_step (by omega), ones_step (by omega), ones_step (by omega), ones_step (by omega), ones_step (by omega), ones_step (by omega), ones_step (by omega), ones_step (by omega), ones_step (by omega), ones_step (by omega), ones_step (by omega), ones_step (by omega), ones_step (by omega), ones_step (by omega), ones_step (by omega), ones_step (by omega), ones_step (by omega), ones_step (by omega), ones_stop (by omega)]
  try omega
theorem ro23 : rE 60 [.int .i64 (.a 0 [(0, 1)])] ⟨[(4194304, 8388607)], [], []⟩ (.int .i64 (.p 8388607)) = true := by kernel_rfl
theorem onesV23 {n : Int} (h : 4194304 ≤ n ∧ n ≤ 8388607) : onesV n = 8388607 := by
  unfold onesV
  rw [ones_step (by omega), ones_step (by omega), ones_step (by omega), ones_step (by omega), ones_step (by omega), ones_step (by omega), ones_step (by omega), ones_step (by omega), ones_step (by omega), ones_step (by omega), ones_step (by omega), ones_step (by omega), ones_step (by omega), ones_step (by omega), ones_step (by omega), ones_step (by omega), ones_step (by omega), ones_step (by omega), ones_step (by omega), ones_step (by omega), ones_step (by omega), ones_step (by omega), ones_step (by omega), ones_stop (by omega)]
  try omega
theorem ro24 : rE 60 [.int .i64 (.a 0 [(0, 1)])] ⟨[(8388608, 16777215)], [], []⟩ (.int .i64 (.p 16777215)) = true := by kernel_rfl
theorem onesV24 {n : Int} (h : 8388608 ≤ n ∧ n ≤ 16777215) : onesV n = 16777215 := by
  unfold onesV
  rw [ones_step (by omega), ones_step (by omega), ones_step (by omega), ones_step (by omega), ones_step (by omega), ones_step (by omega), ones_step (by omega), ones_step (by omega), ones_step (by omega), ones_step (by omega), ones_step (by omega), ones_step (by omega), ones_step (by omega), ones_step (by omega), ones_step (by omega), ones_step (by omega), ones_step (by omega), ones_step (by omega), ones_step (by omega), ones_step (by omega), ones_step (by omega), ones_step (by omega), ones_step (by omega), ones_step (by omega), ones_stop (by omega)]
  try omega
theorem ro25 : rE 60 [.int .i64 (.a 0 [(0, 1)])] ⟨[(16777216, 33554431)], [], []⟩ (.int .i64 (.p 33554431)) = true := by kernel_rfl
theorem onesV25 {n : Int} (h : 16777216 ≤ n ∧ n ≤ 33554431) : onesV n = 33554431 := by
  unfold onesV
  rw [ones_step (by omega), ones_step (by omega), ones_step (by omega), ones_step (by omega), ones_step (by omega), ones_step (by omega), ones_step (by omega), ones_step (by omega), ones_step (by omega), ones_step (by omega), ones_step (by omega), ones_step (by omega), ones_step (by omega), ones_step (by omega), ones_step (by omega), ones_step (by omega), ones_step (by omega), ones_step (by omega), ones_step (by omega), ones_step (by omega), ones_step (by omega), ones_step (by omega), ones_step (by omega), ones_step (by omega), ones_step (by omega), ones_stop (by omega)]
  try omega
theorem ro26 : rE 60 [.int .i64 (.a 0 [(0, 1)])] ⟨[(33554432, 67108863)], [], []⟩ (.int .i64 (.p 67108863)) = true := by kernel_rfl
theorem onesV26 {n : Int} (h : 33554432 ≤ n ∧ n ≤ 67108863) : onesV n = 67108863 := by
  unfold onesV
  rw [ones_step (by omega), ones_step (by omega), ones_step (by omega), ones_step (by omega), ones_step (by omega), ones_step (by omega), ones_step (by omega), ones_step (by omega), ones_step (by omega), ones_step (by omega), ones_step (by omega), ones_step (by omega), ones_step (by omega), ones_step (by omega), ones_step (by omega), ones_step (by omega), ones_step (by omega), ones_step (by omega), ones_step (by omega), ones_step (by omega), ones_step (by omega), ones_step (by omega), ones_step (by omega), ones_step (by omega), ones_step (by omega), ones_step (by omega), ones_stop (by omega)]
  try omega
theorem ro27 : rE 60 [.int .i64 (.a 0 [(0, 1)])] ⟨[(67108864, 134217727)], [], []⟩ (.int .i64 (.p 134217727)) = true := by kernel_rfl
theorem onesV27 {n : Int} (h : 67108864 ≤ n ∧ n ≤ 134217727) : onesV n = 134217727 := by
  unfold onesV
  rw [ones_step (by omega), ones_step (by omega), ones_step (by omega), ones_step (by omega), ones_step (by omega), ones_step (by omega), ones_step (by omega), ones_step (by omega), ones_step (by omega), ones_step (by omega), ones_step (by omega), ones_step (by omega), ones_step (by omega), ones_step (by omega), ones_step (by omega), ones_step (by omega), ones_step (by omega), ones_step (by omega), ones_step (by omega), ones_step (by omega), ones_step (by omega), ones_step (by omega), ones_step (by omega), ones_step (by omega), ones_step (by omega), ones_step (by omega), ones_step (by omega), ones_stop (by omega)]
  try omega
theorem ro28 : rE 60 [.int .i64 (.a 0 [(0, 1)])] ⟨[(134217728, 268435455)], [], []⟩ (.int .i64 (.p 268435455)) = true := by kernel_rfl
theorem onesV28 {n : Int} (h : 134217728 ≤ n ∧ n ≤ 268435455) : onesV n = 268435455 := by
  unfold onesV
  rw [ones_step (by omega), ones_step (by omega), ones_step (by omega), ones_step (by omega), ones_step (by omega), ones_step (by omega), ones_step (by omega), ones_step (by omega), ones_step (by omega), ones_step (by omega), ones_step (by omega), ones_step (by omega), ones_step (by omega), ones_step (by omega), ones_step (by omega), ones_step (by omega), ones_step (by omega), ones_step (by omega), ones_step (by omega), ones_step (by omega), ones_step (by omega), ones_step (by omega), ones_step (by omega), ones_step (by omega), ones_step (by omega), ones_step (by omega), ones_step (by omega), ones_step (by omega), ones_stop (by omega)]
  try omega
theorem ro29 : rE 60 [.int .i64 (.a 0 [(0, 1)])] ⟨[(268435456, 536870911)], [], []⟩ (.int .i64 (.p 536870911)) = true := by kernel_rfl
theorem onesV29 {n : Int} (h : 268435456 ≤ n ∧ n ≤ 536870911) : onesV n = 536870911 := by
  unfold onesV
  rw [ones_step (by omega), ones_step (by omega), ones_step (by omega), ones_step (by omega), ones_step (by omega), ones_step (by omega), ones_step (by omega), ones_step (by omega), ones_step (by omega), ones_step (by omega), ones_step (by omega), ones_step (by omega), ones_step (by omega), ones_step (by omega), ones_step (by omega), ones_step (by omega), ones_step (by omega), ones_step (by omega), ones_step (by omega), ones_step (by omega), ones_step (by omega), ones_step (by omega), ones_step (by omega), ones_step (by omega), ones_step (by omega), ones_step (by omega), ones_step (by omega), ones_step (by omega), ones_step (by omega), ones_stop (by omega)]
  try omega
theorem ro30 : rE 60 [.int .i64 (.a 0 [(0, 1)])] ⟨[(536870912, 1073741823)], [], []⟩ (.int .i64 (.p 1073741823)) = true := by kernel_rfl
theorem onesV30 {n : Int} (h : 536870912 ≤ n ∧ n ≤ 1073741823) : onesV n = 1073741823 := by
  unfold onesV
  rw [ones_step (by omega), ones_step (by omega), ones_step (by omega), ones_step (by omega), ones_step (by omega), ones_step (by omega), ones_step (by omega), ones_step (by omega), ones_step (by omega), ones_step (by omega), ones_step (by omega), ones_step (by omega), ones_step (by omega), ones_step (by omega), ones_step (by omega), ones_step (by omega), ones_step (by omega), ones_step (by omega), ones_step (by omega), ones_step (by omega), ones_step (by omega), ones_step (by omega), ones_step (by omega), ones_step (by omega), ones_step (by omega), ones_step (by omega), ones_step (by omega), ones_step (by omega), ones_step (by omega), ones_step (by omega), ones_stop (by omega)]
  try omega
theorem ro31 : rE 60 [.int .i64 (.a 0 [(0, 1)])] ⟨[(1073741824, 2147483647)], [], []⟩ (.int .i64 (.p 2147483647)) = true := by kernel_rfl
theorem onesV31 {n : Int} (h : 1073741824 ≤ n ∧ n ≤ 2147483647) : onesV n = 2147483647 := by
  unfold onesV
  rw [ones_step (by omega), ones_step (by omega), ones_step (by omega), ones_step (by omega), ones_step (by omega), ones_step (by omega), ones_step (by omega), ones_step (by omega), ones_step (by omega), ones_step (by omega), ones_step (by omega), ones_step (by omega), ones_step (by omega), ones_step (by omega), ones_step (by omega), ones_step (by omega), ones_step (by omega), ones_step (by omega), ones_step (by omega), ones_step (by omega), ones_step (by omega), ones_step (by omega), ones_step (by omega), ones_step (by omega), ones_step (by omega), ones_step (by omega), ones_step (by omega), ones_step (by omega), ones_step (by omega), ones_step (by omega), ones_step (by omega), ones_stop (by omega)]
  try omega
theorem ro32 : rE 60 [.int .i64 (.a 0 [(0, 1)])] ⟨[(2147483648, 4294967295)], [], []⟩ (.int .i64 (.p 4294967295)) = true := by kernel_rfl
theorem onesV32 {n : Int} (h : 2147483648 ≤ n ∧ n ≤ 4294967295) : onesV n = 4294967295 := by
  unfold onesV
  rw [ones_step (by omega), ones_step (by omega), ones_step (by omega), ones_step (by omega), ones_step (by omega), ones_step (by omega), ones_step (by omega), ones_step (by omega), ones_step (by omega), ones_step (by omega), ones_step (by omega), ones_step (by omega), ones_step (by omega), ones_step (by omega), ones_step (by omega), ones_step (by omega), ones_step (by omega), ones_step (by omega), ones_step (by omega), ones_step (by omega), ones_step (by omega), ones_step (by omega), ones_step (by omega), ones_step (by omega), ones_step (by omega), ones_step (by omega), ones_step (by omega), ones_step (by omega), ones_step (by omega), ones_step (by omega), ones_step (by omega), ones_step (by omega), ones_stop (by omega)]
  try omega
theorem ones_tells {n : Int} (h : -2147483648 ≤ n ∧ n ≤ 4294967295) : Tells Try.prog 60 [.int .i64 n] (.int .i64 (onesV n)) := by
  rcases (show (n ≤ 0) ∨ (1 ≤ n ∧ n ≤ 1) ∨ (2 ≤ n ∧ n ≤ 3) ∨ (4 ≤ n ∧ n ≤ 7) ∨ (8 ≤ n ∧ n ≤ 15) ∨ (16 ≤ n ∧ n ≤ 31) ∨ (32 ≤ n ∧ n ≤ 63) ∨ (64 ≤ n ∧ n ≤ 127) ∨ (128 ≤ n ∧ n ≤ 255) ∨ (256 ≤ n ∧ n ≤ 511) ∨ (512 ≤ n ∧ n ≤ 1023) ∨ (1024 ≤ n ∧ n ≤ 2047) ∨ (2048 ≤ n ∧ n ≤ 4095) ∨ (4096 ≤ n ∧ n ≤ 8191) ∨ (8192 ≤ n ∧ n ≤ 16383) ∨ (16384 ≤ n ∧ n ≤ 32767) ∨ (32768 ≤ n ∧ n ≤ 65535) ∨ (65536 ≤ n ∧ n ≤ 131071) ∨ (131072 ≤ n ∧ n ≤ 262143) ∨ (262144 ≤ n ∧ n ≤ 524287) ∨ (524288 ≤ n ∧ n ≤ 1048575) ∨ (1048576 ≤ n ∧ n ≤ 2097151) ∨ (2097152 ≤ n ∧ n ≤ 4194303) ∨ (4194304 ≤ n ∧ n ≤ 8388607) ∨ (8388608 ≤ n ∧ n ≤ 16777215) ∨ (16777216 ≤ n ∧ n ≤ 33554431) ∨ (33554432 ≤ n ∧ n ≤ 67108863) ∨ (67108864 ≤ n ∧ n ≤ 134217727) ∨ (134217728 ≤ n ∧ n ≤ 268435455) ∨ (268435456 ≤ n ∧ n ≤ 536870911) ∨ (536870912 ≤ n ∧ n ≤ 1073741823) ∨ (1073741824 ≤ n ∧ n ≤ 2147483647) ∨ (2147483648 ≤ n ∧ n ≤ 4294967295) by omega) with c | c | c | c | c | c | c | c | c | c | c | c | c | c | c | c | c | c | c | c | c | c | c | c | c | c | c | c | c | c | c | c | c
  · rw [onesV0 (by omega)]; exact tx (xs := [n]) ro0 (args_cons ri args_nil) rfl rfl
  · rw [onesV1 (by omega)]; exact tx (xs := [n]) ro1 (args_cons ri args_nil) rfl rfl
  · rw [onesV2 (by omega)]; exact tx (xs := [n]) ro2 (args_cons ri args_nil) rfl rfl
  · rw [onesV3 (by omega)]; exact tx (xs := [n]) ro3 (args_cons ri args_nil) rfl rfl
  · rw [onesV4 (by omega)]; exact tx (xs := [n]) ro4 (args_cons ri args_nil) rfl rfl
  · rw [onesV5 (by omega)]; exact tx (xs := [n]) ro5 (args_cons ri args_nil) rfl rfl
  · rw [onesV6 (by omega)]; exact tx (xs := [n]) ro6 (args_cons ri args_nil) rfl rfl
  · rw [onesV7 (by omega)]; exact tx (xs := [n]) ro7 (args_cons ri args_nil) rfl rfl
  · rw [onesV8 (by omega)]; exact tx (xs := [n]) ro8 (args_cons ri args_nil) rfl rfl
  · rw [onesV9 (by omega)]; exact tx (xs := [n]) ro9 (args_cons ri args_nil) rfl rfl
  · rw [onesV10 (by omega)]; exact tx (xs := [n]) ro10 (args_cons ri args_nil) rfl rfl
  · rw [onesV11 (by omega)]; exact tx (xs := [n]) ro11 (args_cons ri args_nil) rfl rfl
  · rw [onesV12 (by omega)]; exact tx (xs := [n]) ro12 (args_cons ri args_nil) rfl rfl
  · rw [onesV13 (by omega)]; exact tx (xs := [n]) ro13 (args_cons ri args_nil) rfl rfl
  · rw [onesV14 (by omega)]; exact tx (xs := [n]) ro14 (args_cons ri args_nil) rfl rfl
  · rw [onesV15 (by omega)]; exact tx (xs := [n]) ro15 (args_cons ri args_nil) rfl rfl
  · rw [onesV16 (by omega)]; exact tx (xs := [n]) ro16 (args_cons ri args_nil) rfl rfl
  · rw [onesV17 (by omega)]; exact tx (xs := [n]) ro17 (args_cons ri args_nil) rfl rfl
  · rw [onesV18 (by omega)]; exact tx (xs := [n]) ro18 (args_cons ri args_nil) rfl rfl
  · rw [onesV19 (by omega)]; exact tx (xs := [n]) ro19 (args_cons ri args_nil) rfl rfl
  · rw [onesV20 (by omega)]; exact tx (xs := [n]) ro20 (args_cons ri args_nil) rfl rfl
  · rw [onesV21 (by omega)]; exact tx (xs := [n]) ro21 (args_cons ri args_nil) rfl rfl
  · rw [onesV22 (by omega)]; exact tx (xs := [n]) ro22 (args_cons ri args_nil) rfl rfl
  · rw [onesV23 (by omega)]; exact tx (xs := [n]) ro23 (args_cons ri args_nil) rfl rfl
  · rw [onesV24 (by omega)]; exact tx (xs := [n]) ro24 (args_cons ri args_nil) rfl rfl
  · rw [onesV25 (by omega)]; exact tx (xs := [n]) ro25 (args_cons ri args_nil) rfl rfl
  · rw [onesV26 (by omega)]; exact tx (xs := [n]) ro26 (args_cons ri args_nil) rfl rfl
  · rw [onesV27 (by omega)]; exact tx (xs := [n]) ro27 (args_cons ri args_nil) rfl rfl
  · rw [onesV28 (by omega)]; exact tx (xs := [n]) ro28 (args_cons ri args_nil) rfl rfl
  · rw [onesV29 (by omega)]; exact tx (xs := [n]) ro29 (args_cons ri args_nil) rfl rfl
  · rw [onesV30 (by omega)]; exact tx (xs := [n]) ro30 (args_cons ri args_nil) rfl rfl
  · rw [onesV31 (by omega)]; exact tx (xs := [n]) ro31 (args_cons ri args_nil) rfl rfl
  · rw [onesV32 (by omega)]; exact tx (xs := [n]) ro32 (args_cons ri args_nil) rfl rfl
theorem ones_ok : EntryOK Try.prog 60 onesF := by
  intro args v hv
  unfold onesF at hv
  split at hv
  · split at hv
    · rename_i h
      cases hv
      refine ⟨rfl, fun args' ha => ?_⟩
      cases ha with | cons _ _ _ _ h1 ha => cases h1; cases ha; exact ones_tells h
    · cases hv
  · cases hv
theorem rl000 : rE 49 [.int .i64 (.a 0 [(0, 1)]), .int .i64 (.a 0 [(1, 1)])] ⟨[(0, 0), (0, 0)], [(0, [(0, 1), (1, (-1))])], []⟩ (.int .i64 (.p 0)) = true := by kernel_rfl
theorem rl001 : rE 49 [.int .i64 (.a 0 [(0, 1)]), .int .i64 (.a 0 [(1, 1)])] ⟨[(0, 1), (1, 1)], [(0, [(0, 1), (1, (-1))])], []⟩ (.int .i64 (.p 1)) = true := by kernel_rfl
theorem rl002 : rE 49 [.int .i64 (.a 0 [(0, 1)]), .int .i64 (.a 0 [(1, 1)])] ⟨[(0, 3), (2, 3)], [(0, [(0, 1), (1, (-1))])], []⟩ (.int .i64 (.p 3)) = true := by kernel_rfl
theorem rl003 : rE 49 [.int .i64 (.a 0 [(0, 1)]), .int .i64 (.a 0 [(1, 1)])] ⟨[(0, 7), (4, 7)], [(0, [(0, 1), (1, (-1))])], []⟩ (.int .i64 (.p 7)) = true := by kernel_rfl
theorem rl004 : rE 49 [.int .i64 (.a 0 [(0, 1)]), .int .i64 (.a 0 [(1, 1)])] ⟨[(0, 15), (8, 15)], [(0, [(0, 1), (1, (-1))])], []⟩ (.int .i64 (.p 15)) = true := by kernel_rfl
theorem rl005 : rE 49 [.int .i64 (.a 0 [(0, 1)]), .int .i64 (.a 0 [(1, 1)])] ⟨[(0, 31), (16, 31)], [(0, [(0, 1), (1, (-1))])], []⟩ (.int .i64 (.p 31)) = true := by kernel_rfl
theorem rl006 : rE 49 [.int .i64 (.a 0 [(0, 1)]), .int .i64 (.a 0 [(1, 1)])] ⟨[(0, 63), (32, 63)], [(0, [(0, 1), (1, (-1))])], []⟩ (.int .i64 (.p 63)) = true := by kernel_rfl
theorem rl007 : rE 49 [.int .i64 (.a 0 [(0, 1)]), .int .i64 (.a 0 [(1, 1)])] ⟨[(0, 127), (64, 127)], [(0, [(0, 1), (1, (-1))])], []⟩ (.int .i64 (.p 127)) = true := by kernel_rfl
theorem rl008 : rE 49 [.int .i64 (.a 0 [(0, 1)]), .int .i64 (.a 0 [(1, 1)])] ⟨[(0, 255), (128, 255)], [(0, [(0, 1), (1, (-1))])], []⟩ (.int .i64 (.p 255)) = true := by kernel_rfl
theorem rl009 : rE 49 [.int .i64 (.a 0 [(0, 1)]), .int .i64 (.a 0 [(1, 1)])] ⟨[(0, 511), (256, 511)], [(0, [(0, 1), (1, (-1))])], []⟩ (.int .i64 (.p 511)) = true := by kernel_rfl
theorem rl010 : rE 49 [.int .i64 (.a 0 [(0, 1)]), .int .i64 (.a 0 [(1, 1)])] ⟨[(0, 1023), (512, 1023)], [(0, [(0, 1), (1, (-1))])], []⟩ (.int .i64 (.p 1023)) = true := by kernel_rfl
theorem rl011 : rE 49 [.int .i64 (.a 0 [(0, 1)]), .int .i64 (.a 0 [(1, 1)])] ⟨[(0, 2047), (1024, 2047)], [(0, [(0, 1), (1, (-1))])], []⟩ (.int .i64 (.p 2047)) = true := by kernel_rfl
theorem rl012 : rE 49 [.int .i64 (.a 0 [(0, 1)]), .int .i64 (.a 0 [(1, 1)])] ⟨[(0, 4095), (2048, 4095)], [(0, [(0, 1), (1, (-1))])], []⟩ (.int .i64 (.p 4095)) = true := by kernel_rfl
theorem rl013 : rE 49 [.int .i64 (.a 0 [(0, 1)]), .int .i64 (.a 0 [(1, 1)])] ⟨[(0, 8191), (4096, 8191)], [(0, [(0, 1), (1, (-1))])], []⟩ (.int .i64 (.p 8191)) = true := by kernel_rfl
theorem rl014 : rE 49 [.int .i64 (.a 0 [(0, 1)]), .int .i64 (.a 0 [(1, 1)])] ⟨[(0, 16383), (8192, 16383)], [(0, [(0, 1), (1, (-1))])], []⟩ (.int .i64 (.p 16383)) = true := by kernel_rfl
theorem rl015 : rE 49 [.int .i64 (.a 0 [(0, 1)]), .int .i64 (.a 0 [(1, 1)])] ⟨[(0, 32767), (16384, 32767)], [(0, [(0, 1), (1, (-1))])], []⟩ (.int .i64 (.p 32767)) = true := by kernel_rfl
theorem rl016 : rE 49 [.int .i64 (.a 0 [(0, 1)]), .int .i64 (.a 0 [(1, 1)])] ⟨[(0, 65535), (32768, 65535)], [(0, [(0, 1), (1, (-1))])], []⟩ (.int .i64 (.p 65535)) = true := by kernel_rfl
theorem rl017 : rE 49 [.int .i64 (.a 0 [(0, 1)]), .int .i64 (.a 0 [(1, 1)])] ⟨[(0, 131071), (65536, 131071)], [(0, [(0, 1), (1, (-1))])], []⟩ (.int .i64 (.p 131071)) = true := by kernel_rfl
theorem rl018 : rE 49 [.int .i64 (.a 0 [(0, 1)]), .int .i64 (.a 0 [(1, 1)])] ⟨[(0, 262143), (131072, 262143)], [(0, [(0, 1), (1, (-1))])], []⟩ (.int .i64 (.p 262143)) = true := by kernel_rfl
theorem rl019 : rE 49 [.int .i64 (.a 0 [(0, 1)]), .int .i64 (.a 0 [(1, 1)])] ⟨[(0, 524287), (262144, 524287)], [(0, [(0, 1), (1, (-1))])], []⟩ (.int .i64 (.p 524287)) = true := by kernel_rfl
theorem rl020 : rE 49 [.int .i64 (.a 0 [(0, 1)]), .int .i64 (.a 0 [(1, 1)])] ⟨[(0, 1048575), (524288, 1048575)], [(0, [(0, 1), (1, (-1))])], []⟩ (.int .i64 (.p 1048575)) = true := by kernel_rfl
theorem rl021 : rE 49 [.int .i64 (.a 0 [(0, 1)]), .int .i64 (.a 0 [(1, 1)])] ⟨[(0, 2097151), (1048576, 2097151)], [(0, [(0, 1), (1, (-1))])], []⟩ (.int .i64 (.p 2097151)) = true := by kernel_rfl
theorem rl022 : rE 49 [.int .i64 (.a 0 [(0, 1)]), .int .i64 (.a 0 [(1, 1)])] ⟨[(0, 4194303), (2097152, 4194303)], [(0, [(0, 1), (1, (-1))])], []⟩ (.int .i64 (.p 4194303)) = true := by kernel_rfl
theorem rl023 : rE 49 [.int .i64 (.a 0 [(0, 1)]), .int .i64 (.a 0 [(1, 1)])] ⟨[(0, 8388607), (4194304, 8388607)], [(0, [(0, 1), (1, (-1))])], []⟩ (.int .i64 (.p 8388607)) = true := by kernel_rfl
theorem rl024 : rE 49 [.int .i64 (.a 0 [(0, 1)]), .int .i64 (.a 0 [(1, 1)])] ⟨[(0, 16777215), (8388608, 16777215)], [(0, [(0, 1), (1, (-1))])], []⟩ (.int .i64 (.p 16777215)) = true := by kernel_rfl
theorem rl025 : rE 49 [.int .i64 (.a 0 [(0, 1)]), .int .i64 (.a 0 [(1, 1)])] ⟨[(0, 33554431), (16777216, 33554431)], [(0, [(0, 1), (1, (-1))])], []⟩ (.int .i64 (.p 33554431)) = true := by kernel_rfl
theorem rl026 : rE 49 [.int .i64 (.a 0 [(0, 1)]), .int .i64 (.a 0 [(1, 1)])] ⟨[(0, 67108863), (33554432, 67108863)], [(0, [(0, 1), (1, (-1))])], []⟩ (.int .i64 (.p 67108863)) = true := by kernel_rfl
theorem rl027 : rE 49 [.int .i64 (.a 0 [(0, 1)]), .int .i64 (.a 0 [(1, 1)])] ⟨[(0, 134217727), (67108864, 134217727)], [(0, [(0, 1), (1, (-1))])], []⟩ (.int .i64 (.p 134217727)) = true := by kernel_rfl
theorem rl028 : rE 49 [.int .i64 (.a 0 [(0, 1)]), .int .i64 (.a 0 [(1, 1)])] ⟨[(0, 268435455), (134217728, 268435455)], [(0, [(0, 1), (1, (-1))])], []⟩ (.int .i64 (.p 268435455)) = true := by kernel_rfl
theorem rl029 : rE 49 [.int .i64 (.a 0 [(0, 1)]), .int .i64 (.a 0 [(1, 1)])] ⟨[(0, 536870911), (268435456, 536870911)], [(0, [(0, 1), (1, (-1))])], []⟩ (.int .i64 (.p 536870911)) = true := by kernel_rfl
theorem rl030 : rE 49 [.int .i64 (.a 0 [(0, 1)]), .int .i64 (.a 0 [(1, 1)])] ⟨[(0, 1073741823), (536870912, 1073741823)], [(0, [(0, 1), (1, (-1))])], []⟩ (.int .i64 (.p 1073741823)) = true := by kernel_rfl
theorem rl031 : rE 49 [.int .i64 (.a 0 [(0, 1)]), .int .i64 (.a 0 [(1, 1)])] ⟨[(0, 2147483647), (1073741824, 2147483647)], [(0, [(0, 1), (1, (-1))])], []⟩ (.int .i64 (.p 2147483647)) = true := by kernel_rfl
theorem rl032 : rE 49 [.int .i64 (.a 0 [(0, 1)]), .int .i64 (.a 0 [(1, 1)])] ⟨[(0, 4294967295), (2147483648, 4294967295)], [(0, [(0, 1), (1, (-1))])], []⟩ (.int .i64 (.p 4294967295)) = true := by kernel_rfl
theorem rl100 : rE 49 [.int .i64 (.a 0 [(0, 1)]), .int .i64 (.a 0 [(1, 1)])] ⟨[(0, 0), (0, 0)], [(0, [(0, (-1)), (1, 1)])], []⟩ (.int .i64 (.p 0)) = true := by kernel_rfl
theorem rl101 : rE 49 [.int .i64 (.a 0 [(0, 1)]), .int .i64 (.a 0 [(1, 1)])] ⟨[(1, 1), (0, 1)], [(0, [(0, (-1)), (1, 1)])], []⟩ (.int .i64 (.p 1)) = true := by kernel_rfl
theorem rl102 : rE 49 [.int .i64 (.a 0 [(0, 1)]), .int .i64 (.a 0 [(1, 1)])] ⟨[(2, 3), (0, 3)], [(0, [(0, (-1)), (1, 1)])], []⟩ (.int .i64 (.p 3)) = true := by kernel_rfl
theorem rl103 : rE 49 [.int .i64 (.a 0 [(0, 1)]), .int .i64 (.a 0 [(1, 1)])] ⟨[(4, 7), (0, 7)], [(0, [(0, (-1)), (1, 1)])], []⟩ (.int .i64 (.p 7)) = true := by kernel_rfl
theorem rl104 : rE 49 [.int .i64 (.a 0 [(0, 1)]), .int .i64 (.a 0 [(1, 1)])] ⟨[(8, 15), (0, 15)], [(0, [(0, (-1)), (1, 1)])], []⟩ (.int .i64 (.p 15)) = true := by kernel_rfl
theorem rl105 : rE 49 [.int .i64 (.a 0 [(0, 1)]), .int .i64 (.a 0 [(1, 1)])] ⟨[(16, 31), (0, 31)], [(0, [(0, (-1)), (1, 1)])], []⟩ (.int .i64 (.p 31)) = true := by kernel_rfl
theorem rl106 : rE 49 [.int .i64 (.a 0 [(0, 1)]), .int .i64 (.a 0 [(1, 1)])] ⟨[(32, 63), (0, 63)], [(0, [(0, (-1)), (1, 1)])], []⟩ (.int .i64 (.p 63)) = true := by kernel_rfl
theorem rl107 : rE 49 [.int .i64 (.a 0 [(0, 1)]), .int .i64 (.a 0 [(1, 1)])] ⟨[(64, 127), (0, 127)], [(0, [(0, (-1)), (1, 1)])], []⟩ (.int .i64 (.p 127)) = true := by kernel_rfl
theorem rl108 : rE 49 [.int .i64 (.a 0 [(0, 1)]), .int .i64 (.a 0 [(1, 1)])] ⟨[(128, 255), (0, 255)], [(0, [(0, (-1)), (1, 1)])], []⟩ (.int .i64 (.p 255)) = true := by kernel_rfl
theorem rl109 : rE 49 [.int .i64 (.a 0 [(0, 1)]), .int .i64 (.a 0 [(1, 1)])] ⟨[(256, 511), (0, 511)], [(0, [(0, (-1)), (1, 1)])], []⟩ (.int .i64 (.p 511)) = true := by kernel_rfl
theorem rl110 : rE 49 [.int .i64 (.a 0 [(0, 1)]), .int .i64 (.a 0 [(1, 1)])] ⟨[(512, 1023), (0, 1023)], [(0, [(0, (-1)), (1, 1)])], []⟩ (.int .i64 (.p 1023)) = true := by kernel_rfl
theorem rl111 : rE 49 [.int .i64 (.a 0 [(0, 1)]), .int .i64 (.a 0 [(1, 1)])] ⟨[(1024, 2047), (0, 2047)], [(0, [(0, (-1)), (1, 1)])], []⟩ (.int .i64 (.p 2047)) = true := by kernel_rfl
theorem rl112 : rE 49 [.int .i64 (.a 0 [(0, 1)]), .int .i64 (.a 0 [(1, 1)])] ⟨[(2048, 4095), (0, 4095)], [(0, [(0, (-1)), (1, 1)])], []⟩ (.int .i64 (.p 4095)) = true := by kernel_rfl
theorem rl113 : rE 49 [.int .i64 (.a 0 [(0, 1)]), .int .i64 (.a 0 [(1, 1)])] ⟨[(4096, 8191), (0, 8191)], [(0, [(0, (-1)), (1, 1)])], []⟩ (.int .i64 (.p 8191)) = true := by kernel_rfl
theorem rl114 : rE 49 [.int .i64 (.a 0 [(0, 1)]), .int .i64 (.a 0 [(1, 1)])] ⟨[(8192, 16383), (0, 16383)], [(0, [(0, (-1)), (1, 1)])], []⟩ (.int .i64 (.p 16383)) = true := by kernel_rfl
theorem rl115 : rE 49 [.int .i64 (.a 0 [(0, 1)]), .int .i64 (.a 0 [(1, 1)])] ⟨[(16384, 32767), (0, 32767)], [(0, [(0, (-1)), (1, 1)])], []⟩ (.int .i64 (.p 32767)) = true := by kernel_rfl
theorem rl116 : rE 49 [.int .i64 (.a 0 [(0, 1)]), .int .i64 (.a 0 [(1, 1)])] ⟨[(32768, 65535), (0, 65535)], [(0, [(0, (-1)), (1, 1)])], []⟩ (.int .i64 (.p 65535)) = true := by kernel_rfl
theorem rl117 : rE 49 [.int .i64 (.a 0 [(0, 1)]), .int .i64 (.a 0 [(1, 1)])] ⟨[(65536, 131071), (0, 131071)], [(0, [(0, (-1)), (1, 1)])], []⟩ (.int .i64 (.p 131071)) = true := by kernel_rfl
theorem rl118 : rE 49 [.int .i64 (.a 0 [(0, 1)]), .int .i64 (.a 0 [(1, 1)])] ⟨[(131072, 262143), (0, 262143)], [(0, [(0, (-1)), (1, 1)])], []⟩ (.int .i64 (.p 262143)) = true := by kernel_rfl
theorem rl119 : rE 49 [.int .i64 (.a 0 [(0, 1)]), .int .i64 (.a 0 [(1, 1)])] ⟨[(262144, 524287), (0, 524287)], [(0, [(0, (-1)), (1, 1)])], []⟩ (.int .i64 (.p 524287)) = true := by kernel_rfl
theorem rl120 : rE 49 [.int .i64 (.a 0 [(0, 1)]), .int .i64 (.a 0 [(1, 1)])] ⟨[(524288, 1048575), (0, 1048575)], [(0, [(0, (-1)), (1, 1)])], []⟩ (.int .i64 (.p 1048575)) = true := by kernel_rfl
theorem rl121 : rE 49 [.int .i64 (.a 0 [(0, 1)]), .int .i64 (.a 0 [(1, 1)])] ⟨[(1048576, 2097151), (0, 2097151)], [(0, [(0, (-1)), (1, 1)])], []⟩ (.int .i64 (.p 2097151)) = true := by kernel_rfl
theorem rl122 : rE 49 [.int .i64 (.a 0 [(0, 1)]), .int .i64 (.a 0 [(1, 1)])] ⟨[(2097152, 4194303), (0, 4194303)], [(0, [(0, (-1)), (1, 1)])], []⟩ (.int .i64 (.p 4194303)) = true := by kernel_rfl
theorem rl123 : rE 49 [.int .i64 (.a 0 [(0, 1)]), .int .i64 (.a 0 [(1, 1)])] ⟨[(4194304, 8388607), (0, 8388607)], [(0, [(0, (-1)), (1, 1)])], []⟩ (.int .i64 (.p 8388607)) = true := by kernel_rfl
theorem rl124 : rE 49 [.int .i64 (.a 0 [(0, 1)]), .int .i64 (.a 0 [(1, 1)])] ⟨[(8388608, 16777215), (0, 16777215)], [(0, [(0, (-1)), (1, 1)])], []⟩ (.int .i64 (.p 16777215)) = true := by kernel_rfl
theorem rl125 : rE 49 [.int .i64 (.a 0 [(0, 1)]), .int .i64 (.a 0 [(1, 1)])] ⟨[(16777216, 33554431), (0, 33554431)], [(0, [(0, (-1)), (1, 1)])], []⟩ (.int .i64 (.p 33554431)) = true := by kernel_rfl
theorem rl126 : rE 49 [.int .i64 (.a 0 [(0, 1)]), .int .i64 (.a 0 [(1, 1)])] ⟨[(33554432, 67108863), (0, 67108863)], [(0, [(0, (-1)), (1, 1)])], []⟩ (.int .i64 (.p 67108863)) = true := by kernel_rfl
theorem rl127 : rE 49 [.int .i64 (.a 0 [(0, 1)]), .int .i64 (.a 0 [(1, 1)])] ⟨[(67108864, 134217727), (0, 134217727)], [(0, [(0, (-1)), (1, 1)])], []⟩ (.int .i64 (.p 134217727)) = true := by kernel_rfl
theorem rl128 : rE 49 [.int .i64 (.a 0 [(0, 1)]), .int .i64 (.a 0 [(1, 1)])] ⟨[(134217728, 268435455), (0, 268435455)], [(0, [(0, (-1)), (1, 1)])], []⟩ (.int .i64 (.p 268435455)) = true := by kernel_rfl
theorem rl129 : rE 49 [.int .i64 (.a 0 [(0, 1)]), .int .i64 (.a 0 [(1, 1)])] ⟨[(268435456, 536870911), (0, 536870911)], [(0, [(0, (-1)), (1, 1)])], []⟩ (.int .i64 (.p 536870911)) = true := by kernel_rfl
theorem rl130 : rE 49 [.int .i64 (.a 0 [(0, 1)]), .int .i64 (.a 0 [(1, 1)])] ⟨[(536870912, 1073741823), (0, 1073741823)], [(0, [(0, (-1)), (1, 1)])], []⟩ (.int .i64 (.p 1073741823)) = true := by kernel_rfl
theorem rl131 : rE 49 [.int .i64 (.a 0 [(0, 1)]), .int .i64 (.a 0 [(1, 1)])] ⟨[(1073741824, 2147483647), (0, 2147483647)], [(0, [(0, (-1)), (1, 1)])], []⟩ (.int .i64 (.p 2147483647)) = true := by kernel_rfl
theorem rl132 : rE 49 [.int .i64 (.a 0 [(0, 1)]), .int .i64 (.a 0 [(1, 1)])] ⟨[(2147483648, 4294967295), (0, 4294967295)], [(0, [(0, (-1)), (1, 1)])], []⟩ (.int .i64 (.p 4294967295)) = true := by kernel_rfl
theorem low_tells {a b : Int} (ha : 0 ≤ a ∧ a ≤ 4294967295) (hb : 0 ≤ b ∧ b ≤ 4294967295) : Tells Try.prog 49 [.int .i64 a, .int .i64 b] (.int .i64 (onesV (max a b))) := by
  rcases Int.le_total a b with od | od
  · rcases (show (b ≤ 0) ∨ (1 ≤ b ∧ b ≤ 1) ∨ (2 ≤ b ∧ b ≤ 3) ∨ (4 ≤ b ∧ b ≤ 7) ∨ (8 ≤ b ∧ b ≤ 15) ∨ (16 ≤ b ∧ b ≤ 31) ∨ (32 ≤ b ∧ b ≤ 63) ∨ (64 ≤ b ∧ b ≤ 127) ∨ (128 ≤ b ∧ b ≤ 255) ∨ (256 ≤ b ∧ b ≤ 511) ∨ (512 ≤ b ∧ b ≤ 1023) ∨ (1024 ≤ b ∧ b ≤ 2047) ∨ (2048 ≤ b ∧ b ≤ 4095) ∨ (4096 ≤ b ∧ b ≤ 8191) ∨ (8192 ≤ b ∧ b ≤ 16383) ∨ (16384 ≤ b ∧ b ≤ 32767) ∨ (32768 ≤ b ∧ b ≤ 65535) ∨ (65536 ≤ b ∧ b ≤ 131071) ∨ (131072 ≤ b ∧ b ≤ 262143) ∨ (262144 ≤ b ∧ b ≤ 524287) ∨ (524288 ≤ b ∧ b ≤ 1048575) ∨ (1048576 ≤ b ∧ b ≤ 2097151) ∨ (2097152 ≤ b ∧ b ≤ 4194303) ∨ (4194304 ≤ b ∧ b ≤ 8388607) ∨ (8388608 ≤ b ∧ b ≤ 16777215) ∨ (16777216 ≤ b ∧ b ≤ 33554431) ∨ (33554432 ≤ b ∧ b ≤ 67108863) ∨ (67108864 ≤ b ∧ b ≤ 134217727) ∨ (134217728 ≤ b ∧ b ≤ 268435455) ∨ (268435456 ≤ b ∧ b ≤ 536870911) ∨ (536870912 ≤ b ∧ b ≤ 1073741823) ∨ (1073741824 ≤ b ∧ b ≤ 2147483647) ∨ (2147483648 ≤ b ∧ b ≤ 4294967295) by omega) with c | c | c | c | c | c | c | c | c | c | c | c | c | c | c | c | c | c | c | c | c | c | c | c | c | c | c | c | c | c | c | c | c
    · rw [onesV0 (by omega)]; exact tx (xs := [a, b]) rl000 (args_cons ri (args_cons ri args_nil)) rfl rfl
    · rw [onesV1 (by omega)]; exact tx (xs := [a, b]) rl001 (args_cons ri (args_cons ri args_nil)) rfl rfl
    · rw [onesV2 (by omega)]; exact tx (xs := [a, b]) rl002 (args_cons ri (args_cons ri args_nil)) rfl rfl
    · rw [onesV3 (by omega)]; exact tx (xs := [a, b]) rl003 (args_cons ri (args_cons ri args_nil)) rfl rfl
    · rw [onesV4 (by omega)]; exact tx (xs := [a, b]) rl004 (args_cons ri (args_cons ri args_nil)) rfl rfl
    · rw [onesV5 (by omega)]; exact tx (xs := [a, b]) rl005 (args_cons ri (args_cons ri args_nil)) rfl rfl
    · rw [onesV6 (by omega)]; exact tx (xs := [a, b]) rl006 (args_cons ri (args_cons ri args_nil)) rfl rfl
    · rw [onesV7 (by omega)]; exact tx (xs := [a, b]) rl007 (args_cons ri (args_cons ri args_nil)) rfl rfl
    · rw [onesV8 (by omega)]; exact tx (xs := [a, b]) rl008 (args_cons ri (args_cons ri args_nil)) rfl rfl
    · rw [onesV9 (by omega)]; exact tx (xs := [a, b]) rl009 (args_cons ri (args_cons ri args_nil)) rfl rfl
    · rw [onesV10 (by omega)]; exact tx (xs := [a, b]) rl010 (args_cons ri (args_cons ri args_nil)) rfl rfl
    · rw [onesV11 (by omega)]; exact tx (xs := [a, b]) rl011 (args_cons ri (args_cons ri args_nil)) rfl rfl
    · rw [onesV12 (by omega)]; exact tx (xs := [a, b]) rl012 (args_cons ri (args_cons ri args_nil)) rfl rfl
    · rw [onesV13 (by omega)]; exact tx (xs := [a, b]) rl013 (args_cons ri (args_cons ri args_nil)) rfl rfl
    · rw [onesV14 (by omega)]; exact tx (xs := [a, b]) rl014 (args_cons ri (args_cons ri args_nil)) rfl rfl
    · rw [onesV15 (by omega)]; exact tx (xs := [a, b]) rl015 (args_cons ri (args_cons ri args_nil)) rfl rfl
    · rw [onesV16 (by omega)]; exact tx (xs := [a, b]) rl016 (args_cons ri (args_cons ri args_nil)) rfl rfl
    · rw [onesV17 (by omega)]; exact tx (xs := [a, b]) rl017 (args_cons ri (args_cons ri args_nil)) rfl rfl
    · rw [onesV18 (by omega)]; exact tx (xs := [a, b]) rl018 (args_cons ri (args_cons ri args_nil)) rfl rfl
    · rw [onesV19 (by omega)]; exact tx (xs := [a, b]) rl019 (args_cons ri (args_cons ri args_nil)) rfl rfl
    · rw [onesV20 (by omega)]; exact tx (xs := [a, b]) rl020 (args_cons ri (args_cons ri args_nil)) rfl rfl
    · rw [onesV21 (by omega)]; exact tx (xs := [a, b]) rl021 (args_cons ri (args_cons ri args_nil)) rfl rfl
    · rw [onesV22 (by omega)]; exact tx (xs := [a, b]) rl022 (args_cons ri (args_cons ri args_nil)) rfl rfl
    · rw [onesV23 (by omega)]; exact tx (xs := [a, b]) rl023 (args_cons ri (args_cons ri args_nil)) rfl rfl
    · rw [onesV24 (by omega)]; exact tx (xs := [a, b]) rl024 (args_cons ri (args_cons ri args_nil)) rfl rfl
    · rw [onesV25 (by omega)]; exact tx (xs := [a, b]) rl025 (args_cons ri (args_cons ri args_nil)) rfl rfl
    · rw [onesV26 (by omega)]; exact tx (xs := [a, b]) rl026 (args_cons ri (args_cons ri args_nil)) rfl rfl
    · rw [onesV27 (by omega)]; exact tx (xs := [a, b]) rl027 (args_cons ri (args_cons ri args_nil)) rfl rfl
    · rw [onesV28 (by omega)]; exact tx (xs := [a, b]) rl028 (args_cons ri (args_cons ri args_nil)) rfl rfl
    · rw [onesV29 (by omega)]; exact tx (xs := [a, b]) rl029 (args_cons ri (args_cons ri args_nil)) rfl rfl
    · rw [onesV30 (by omega)]; exact tx (xs := [a, b]) rl030 (args_cons ri (args_cons ri args_nil)) rfl rfl
    · rw [onesV31 (by omega)]; exact tx (xs := [a, b]) rl031 (args_cons ri (args_cons ri args_nil)) rfl rfl
    · rw [onesV32 (by omega)]; exact tx (xs := [a, b]) rl032 (args_cons ri (args_cons ri args_nil)) rfl rfl
  · rcases (show (a ≤ 0) ∨ (1 ≤ a ∧ a ≤ 1) ∨ (2 ≤ a ∧ a ≤ 3) ∨ (4 ≤ a ∧ a ≤ 7) ∨ (8 ≤ a ∧ a ≤ 15) ∨ (16 ≤ a ∧ a ≤ 31) ∨ (32 ≤ a ∧ a ≤ 63) ∨ (64 ≤ a ∧ a ≤ 127) ∨ (128 ≤ a ∧ a ≤ 255) ∨ (256 ≤ a ∧ a ≤ 511) ∨ (512 ≤ a ∧ a ≤ 1023) ∨ (1024 ≤ a ∧ a ≤ 2047) ∨ (2048 ≤ a ∧ a ≤ 4095) ∨ (4096 ≤ a ∧ a ≤ 8191) ∨ (8192 ≤ a ∧ a ≤ 16383) ∨ (16384 ≤ a ∧ a ≤ 32767) ∨ (32768 ≤ a ∧ a ≤ 65535) ∨ (65536 ≤ a ∧ a ≤ 131071) ∨ (131072 ≤ a ∧ a ≤ 262143) ∨ (262144 ≤ a ∧ a ≤ 524287) ∨ (524288 ≤ a ∧ a ≤ 1048575) ∨ (1048576 ≤ a ∧ a ≤ 2097151) ∨ (2097152 ≤ a ∧ a ≤ 4194303) ∨ (4194304 ≤ a ∧ a ≤ 8388607) ∨ (8388608 ≤ a ∧ a ≤ 16777215) ∨ (16777216 ≤ a ∧ a ≤ 33554431) ∨ (33554432 ≤ a ∧ a ≤ 67108863) ∨ (67108864 ≤ a ∧ a ≤ 134217727) ∨ (134217728 ≤ a ∧ a ≤ 268435455) ∨ (268435456 ≤ a ∧ a ≤ 536870911) ∨ (536870912 ≤ a ∧ a ≤ 1073741823) ∨ (1073741824 ≤ a ∧ a ≤ 2147483647) ∨ (2147483648 ≤ a ∧ a ≤ 4294967295) by omega) with c | c | c | c | c | c | c | c | c | c | c | c | c | c | c | c | c | c | c | c | c | c | c | c | c | c | c | c | c | c | c | c | c
    · rw [onesV0 (by omega)]; exact tx (xs := [a, b]) rl100 (args_cons ri (args_cons ri args_nil)) rfl rfl
    · rw [onesV1 (by omega)]; exact tx (xs := [a, b]) rl101 (args_cons ri (args_cons ri args_nil)) rfl rfl
    · rw [onesV2 (by omega)]; exact tx (xs := [a, b]) rl102 (args_cons ri (args_cons ri args_nil)) rfl rfl
    · rw [onesV3 (by omega)]; exact tx (xs := [a, b]) rl103 (args_cons ri (args_cons ri args_nil)) rfl rfl
    · rw [onesV4 (by omega)]; exact tx (xs := [a, b]) rl104 (args_cons ri (args_cons ri args_nil)) rfl rfl
    · rw [onesV5 (by omega)]; exact tx (xs := [a, b]) rl105 (args_cons ri (args_cons ri args_nil)) rfl rfl
    · rw [onesV6 (by omega)]; exact tx (xs := [a, b]) rl106 (args_cons ri (args_cons ri args_nil)) rfl rfl
    · rw [onesV7 (by omega)]; exact tx (xs := [a, b]) rl107 (args_cons ri (args_cons ri args_nil)) rfl rfl
    · rw [onesV8 (by omega)]; exact tx (xs := [a, b]) rl108 (args_cons ri (args_cons ri args_nil)) rfl rfl
    · rw [onesV9 (by omega)]; exact tx (xs := [a, b]) rl109 (args_cons ri (args_cons ri args_nil)) rfl rfl
    · rw [onesV10 (by omega)]; exact tx (xs := [a, b]) rl110 (args_cons ri (args_cons ri args_nil)) rfl rfl
    · rw [onesV11 (by omega)]; exact tx (xs := [a, b]) rl111 (args_cons ri (args_cons ri args_nil)) rfl rfl
    · rw [onesV12 (by omega)]; exact tx (xs := [a, b]) rl112 (args_cons ri (args_cons ri args_nil)) rfl rfl
    · rw [onesV13 (by omega)]; exact tx (xs := [a, b]) rl113 (args_cons ri (args_cons ri args_nil)) rfl rfl
    · rw [onesV14 (by omega)]; exact tx (xs := [a, b]) rl114 (args_cons ri (args_cons ri args_nil)) rfl rfl
    · rw [onesV15 (by omega)]; exact tx (xs := [a, b]) rl115 (args_cons ri (args_cons ri args_nil)) rfl rfl
    · rw [onesV16 (by omega)]; exact tx (xs := [a, b]) rl116 (args_cons ri (args_cons ri args_nil)) rfl rfl
    · rw [onesV17 (by omega)]; exact tx (xs := [a, b]) rl117 (args_cons ri (args_cons ri args_nil)) rfl rfl
    · rw [onesV18 (by omega)]; exact tx (xs := [a, b]) rl118 (args_cons ri (args_cons ri args_nil)) rfl rfl
    · rw [onesV19 (by omega)]; exact tx (xs := [a, b]) rl119 (args_cons ri (args_cons ri args_nil)) rfl rfl
    · rw [onesV20 (by omega)]; exact tx (xs := [a, b]) rl120 (args_cons ri (args_cons ri args_nil)) rfl rfl
    · rw [onesV21 (by omega)]; exact tx (xs := [a, b]) rl121 (args_cons ri (args_cons ri args_nil)) rfl rfl
    · rw [onesV22 (by omega)]; exact tx (xs := [a, b]) rl122 (args_cons ri (args_cons ri args_nil)) rfl rfl
    · rw [onesV23 (by omega)]; exact tx (xs := [a, b]) rl123 (args_cons ri (args_cons ri args_nil)) rfl rfl
    · rw [onesV24 (by omega)]; exact tx (xs := [a, b]) rl124 (args_cons ri (args_cons ri args_nil)) rfl rfl
    · rw [onesV25 (by omega)]; exact tx (xs := [a, b]) rl125 (args_cons ri (args_cons ri args_nil)) rfl rfl
    · rw [onesV26 (by omega)]; exact tx (xs := [a, b]) rl126 (args_cons ri (args_cons ri args_nil)) rfl rfl
    · rw [onesV27 (by omega)]; exact tx (xs := [a, b]) rl127 (args_cons ri (args_cons ri args_nil)) rfl rfl
    · rw [onesV28 (by omega)]; exact tx (xs := [a, b]) rl128 (args_cons ri (args_cons ri args_nil)) rfl rfl
    · rw [onesV29 (by omega)]; exact tx (xs := [a, b]) rl129 (args_cons ri (args_cons ri args_nil)) rfl rfl
    · rw [onesV30 (by omega)]; exact tx (xs := [a, b]) rl130 (args_cons ri (args_cons ri args_nil)) rfl rfl
    · rw [onesV31 (by omega)]; exact tx (xs := [a, b]) rl131 (args_cons ri (args_cons ri args_nil)) rfl rfl
    · rw [onesV32 (by omega)]; exact tx (xs := [a, b]) rl132 (args_cons ri (args_cons ri args_nil)) rfl rfl
theorem low_ok : EntryOK Try.prog 49 lowF := by
  intro args v hv
  unfold lowF at hv
  split at hv
  · split at hv
    · rename_i h
      cases hv
      refine ⟨rfl, fun args' ha => ?_⟩
      cases ha with | cons _ _ _ _ h1 ha => cases h1; cases ha with | cons _ _ _ _ h1 ha => cases h1; cases ha; exact low_tells h.1 h.2
    · cases hv
  · cases hv
theorem fr0x0 : rE 13 [.int .i64 (.a 0 [(4, 1)]), .agg [.int .i64 (.a 0 [(0, 1)]), .int .i64 (.a 0 [(1, 1)])], .agg [.int .i64 (.a 0 [(2, 1)]), .int .i64 (.a 0 [(3, 1)])]] ⟨[((-2147483648), 4294967295), ((-2147483648), 4294967295), ((-2147483648), 4294967295), ((-2147483648), 4294967295), ((-9223372036854775808), 0)], [(0, [(0, 1), (1, (-1))]), (0, [(2, 1), (3, (-1))])], []⟩ (.tuple [.bool false, .bool false]) = true := by kernel_rfl
theorem fr1x0 : rE 13 [.int .i64 (.p 1), .agg [.int .i64 (.a 0 [(0, 1)]), .int .i64 (.a 0 [(1, 1)])], .agg [.int .i64 (.a 0 [(2, 1)]), .int .i64 (.a 0 [(3, 1)])]] ⟨[((-2147483648), 4294967295), ((-2147483648), 4294967295), ((-2147483648), 4294967295), ((-2147483648), 4294967295)], [(0, [(0, 1), (1, (-1))]), (0, [(2, 1), (3, (-1))]), (1, [(1, 1), (2, (-1))])], []⟩ (.tuple [.bool false, .bool true]) = true := by kernel_rfl
theorem fr1x1 : rE 13 [.int .i64 (.p 1), .agg [.int .i64 (.a 0 [(0, 1)]), .int .i64 (.a 0 [(1, 1)])], .agg [.int .i64 (.a 0 [(2, 1)]), .int .i64 (.a 0 [(3, 1)])]] ⟨[((-2147483648), 4294967295), ((-2147483648), 4294967295), ((-2147483648), 4294967295), ((-2147483648), 4294967295)], [(0, [(0, 1), (1, (-1))]), (0, [(2, 1), (3, (-1))]), (1, [(0, (-1)), (3, 1)])], []⟩ (.tuple [.bool false, .bool true]) = true := by kernel_rfl
theorem fr1x2 : rE 13 [.int .i64 (.p 1), .agg [.int .i64 (.a 0 [(0, 1)]), .int .i64 (.a 0 [(1, 1)])], .agg [.int .i64 (.a 0 [(2, 1)]), .int .i64 (.a 0 [(3, 1)])]] ⟨[((-2147483648), 4294967295), ((-2147483648), 4294967295), ((-2147483648), 4294967295), ((-2147483648), 4294967295)], [(0, [(0, 1), (1, (-1))]), (0, [(2, 1), (3, (-1))]), (0, [(1, (-1)), (2, 1)]), (0, [(0, 1), (3, (-1))]), (0, [(0, (-1)), (1, 1)]), (0, [(2, (-1)), (3, 1)])], []⟩ (.tuple [.bool true, .bool false]) = true := by kernel_rfl
theorem fr1x3 : rE 13 [.int .i64 (.p 1), .agg [.int .i64 (.a 0 [(0, 1)]), .int .i64 (.a 0 [(1, 1)])], .agg [.int .i64 (.a 0 [(2, 1)]), .int .i64 (.a 0 [(3, 1)])]] ⟨[((-2147483648), 4294967295), ((-2147483648), 4294967295), ((-2147483648), 4294967295), ((-2147483648), 4294967295)], [(0, [(0, 1), (1, (-1))]), (0, [(2, 1), (3, (-1))]), (0, [(1, (-1)), (2, 1)]), (0, [(0, 1), (3, (-1))]), (1, [(0, 1), (1, (-1))])], []⟩ (.tuple [.bool true, .bool true]) = true := by kernel_rfl
theorem fr1x4 : rE 13 [.int .i64 (.p 1), .agg [.int .i64 (.a 0 [(0, 1)]), .int .i64 (.a 0 [(1, 1)])], .agg [.int .i64 (.a 0 [(2, 1)]), .int .i64 (.a 0 [(3, 1)])]] ⟨[((-2147483648), 4294967295), ((-2147483648), 4294967295), ((-2147483648), 4294967295), ((-2147483648), 4294967295)], [(0, [(0, 1), (1, (-1))]), (0, [(2, 1), (3, (-1))]), (0, [(1, (-1)), (2, 1)]), (0, [(0, 1), (3, (-1))]), (1, [(2, 1), (3, (-1))])], []⟩ (.tuple [.bool true, .bool true]) = true := by kernel_rfl
theorem fr2x0 : rE 13 [.int .i64 (.p 2), .agg [.int .i64 (.a 0 [(0, 1)]), .int .i64 (.a 0 [(1, 1)])], .agg [.int .i64 (.a 0 [(2, 1)]), .int .i64 (.a 0 [(3, 1)])]] ⟨[((-2147483648), 4294967295), ((-2147483648), 4294967295), ((-2147483648), 4294967295), ((-2147483648), 4294967295)], [(0, [(0, 1), (1, (-1))]), (0, [(2, 1), (3, (-1))]), (1, [(1, 1), (2, (-1))])], []⟩ (.tuple [.bool true, .bool false]) = true := by kernel_rfl
theorem fr2x1 : rE 13 [.int .i64 (.p 2), .agg [.int .i64 (.a 0 [(0, 1)]), .int .i64 (.a 0 [(1, 1)])], .agg [.int .i64 (.a 0 [(2, 1)]), .int .i64 (.a 0 [(3, 1)])]] ⟨[((-2147483648), 4294967295), ((-2147483648), 4294967295), ((-2147483648), 4294967295), ((-2147483648), 4294967295)], [(0, [(0, 1), (1, (-1))]), (0, [(2, 1), (3, (-1))]), (1, [(0, (-1)), (3, 1)])], []⟩ (.tuple [.bool true, .bool false]) = true := by kernel_rfl
theorem fr2x2 : rE 13 [.int .i64 (.p 2), .agg [.int .i64 (.a 0 [(0, 1)]), .int .i64 (.a 0 [(1, 1)])], .agg [.int .i64 (.a 0 [(2, 1)]), .int .i64 (.a 0 [(3, 1)])]] ⟨[((-2147483648), 4294967295), ((-2147483648), 4294967295), ((-2147483648), 4294967295), ((-2147483648), 4294967295)], [(0, [(0, 1), (1, (-1))]), (0, [(2, 1), (3, (-1))]), (0, [(1, (-1)), (2, 1)]), (0, [(0, 1), (3, (-1))]), (0, [(0, (-1)), (1, 1)]), (0, [(2, (-1)), (3, 1)])], []⟩ (.tuple [.bool false, .bool true]) = true := by kernel_rfl
theorem fr2x3 : rE 13 [.int .i64 (.p 2), .agg [.int .i64 (.a 0 [(0, 1)]), .int .i64 (.a 0 [(1, 1)])], .agg [.int .i64 (.a 0 [(2, 1)]), .int .i64 (.a 0 [(3, 1)])]] ⟨[((-2147483648), 4294967295), ((-2147483648), 4294967295), ((-2147483648), 4294967295), ((-2147483648), 4294967295)], [(0, [(0, 1), (1, (-1))]), (0, [(2, 1), (3, (-1))]), (0, [(1, (-1)), (2, 1)]), (0, [(0, 1), (3, (-1))]), (1, [(0, 1), (1, (-1))])], []⟩ (.tuple [.bool true, .bool true]) = true := by kernel_rfl
theorem fr2x4 : rE 13 [.int .i64 (.p 2), .agg [.int .i64 (.a 0 [(0, 1)]), .int .i64 (.a 0 [(1, 1)])], .agg [.int .i64 (.a 0 [(2, 1)]), .int .i64 (.a 0 [(3, 1)])]] ⟨[((-2147483648), 4294967295), ((-2147483648), 4294967295), ((-2147483648), 4294967295), ((-2147483648), 4294967295)], [(0, [(0, 1), (1, (-1))]), (0, [(2, 1), (3, (-1))]), (0, [(1, (-1)), (2, 1)]), (0, [(0, 1), (3, (-1))]), (1, [(2, 1), (3, (-1))])], []⟩ (.tuple [.bool true, .bool true]) = true := by kernel_rfl
theorem fr3x0 : rE 13 [.int .i64 (.p 3), .agg [.int .i64 (.a 0 [(0, 1)]), .int .i64 (.a 0 [(1, 1)])], .agg [.int .i64 (.a 0 [(2, 1)]), .int .i64 (.a 0 [(3, 1)])]] ⟨[((-2147483648), 4294967295), ((-2147483648), 4294967295), ((-2147483648), 4294967295), ((-2147483648), 4294967295)], [(0, [(0, 1), (1, (-1))]), (0, [(2, 1), (3, (-1))]), (1, [(0, 1), (3, (-1))]), (0, [(1, (-1)), (2, 1)])], []⟩ (.tuple [.bool true, .bool true]) = true := by kernel_rfl
theorem fr3x1 : rE 13 [.int .i64 (.p 3), .agg [.int .i64 (.a 0 [(0, 1)]), .int .i64 (.a 0 [(1, 1)])], .agg [.int .i64 (.a 0 [(2, 1)]), .int .i64 (.a 0 [(3, 1)])]] ⟨[((-2147483648), 4294967295), ((-2147483648), 4294967295), ((-2147483648), 4294967295), ((-2147483648), 4294967295)], [(0, [(0, 1), (1, (-1))]), (0, [(2, 1), (3, (-1))]), (1, [(0, 1), (3, (-1))]), (1, [(1, 1), (2, (-1))])], []⟩ (.tuple [.bool true, .bool false]) = true := by kernel_rfl
theorem fr3x2 : rE 13 [.int .i64 (.p 3), .agg [.int .i64 (.a 0 [(0, 1)]), .int .i64 (.a 0 [(1, 1)])], .agg [.int .i64 (.a 0 [(2, 1)]), .int .i64 (.a 0 [(3, 1)])]] ⟨[((-2147483648), 4294967295), ((-2147483648), 4294967295), ((-2147483648), 4294967295), ((-2147483648), 4294967295)], [(0, [(0, 1), (1, (-1))]), (0, [(2, 1), (3, (-1))]), (0, [(0, (-1)), (3, 1)])], []⟩ (.tuple [.bool false, .bool true]) = true := by kernel_rfl
theorem fr4x0 : rE 13 [.int .i64 (.p 4), .agg [.int .i64 (.a 0 [(0, 1)]), .int .i64 (.a 0 [(1, 1)])], .agg [.int .i64 (.a 0 [(2, 1)]), .int .i64 (.a 0 [(3, 1)])]] ⟨[((-2147483648), 4294967295), ((-2147483648), 4294967295), ((-2147483648), 4294967295), ((-2147483648), 4294967295)], [(0, [(0, 1), (1, (-1))]), (0, [(2, 1), (3, (-1))]), (0, [(0, 1), (3, (-1))]), (1, [(1, (-1)), (2, 1)])], []⟩ (.tuple [.bool true, .bool true]) = true := by kernel_rfl
theorem fr4x1 : rE 13 [.int .i64 (.p 4), .agg [.int .i64 (.a 0 [(0, 1)]), .int .i64 (.a 0 [(1, 1)])], .agg [.int .i64 (.a 0 [(2, 1)]), .int .i64 (.a 0 [(3, 1)])]] ⟨[((-2147483648), 4294967295), ((-2147483648), 4294967295), ((-2147483648), 4294967295), ((-2147483648), 4294967295)], [(0, [(0, 1), (1, (-1))]), (0, [(2, 1), (3, (-1))]), (0, [(0, 1), (3, (-1))]), (0, [(1, 1), (2, (-1))])], []⟩ (.tuple [.bool true, .bool false]) = true := by kernel_rfl
theorem fr4x2 : rE 13 [.int .i64 (.p 4), .agg [.int .i64 (.a 0 [(0, 1)]), .int .i64 (.a 0 [(1, 1)])], .agg [.int .i64 (.a 0 [(2, 1)]), .int .i64 (.a 0 [(3, 1)])]] ⟨[((-2147483648), 4294967295), ((-2147483648), 4294967295), ((-2147483648), 4294967295), ((-2147483648), 4294967295)], [(0, [(0, 1), (1, (-1))]), (0, [(2, 1), (3, (-1))]), (1, [(0, (-1)), (3, 1)])], []⟩ (.tuple [.bool false, .bool true]) = true := by kernel_rfl
theorem fr5x0 : rE 13 [.int .i64 (.p 5), .agg [.int .i64 (.a 0 [(0, 1)]), .int .i64 (.a 0 [(1, 1)])], .agg [.int .i64 (.a 0 [(2, 1)]), .int .i64 (.a 0 [(3, 1)])]] ⟨[((-2147483648), 4294967295), ((-2147483648), 4294967295), ((-2147483648), 4294967295), ((-2147483648), 4294967295)], [(0, [(0, 1), (1, (-1))]), (0, [(2, 1), (3, (-1))]), (1, [(1, (-1)), (2, 1)]), (0, [(0, 1), (3, (-1))])], []⟩ (.tuple [.bool true, .bool true]) = true := by kernel_rfl
theorem fr5x1 : rE 13 [.int .i64 (.p 5), .agg [.int .i64 (.a 0 [(0, 1)]), .int .i64 (.a 0 [(1, 1)])], .agg [.int .i64 (.a 0 [(2, 1)]), .int .i64 (.a 0 [(3, 1)])]] ⟨[((-2147483648), 4294967295), ((-2147483648), 4294967295), ((-2147483648), 4294967295), ((-2147483648), 4294967295)], [(0, [(0, 1), (1, (-1))]), (0, [(2, 1), (3, (-1))]), (1, [(1, (-1)), (2, 1)]), (1, [(0, (-1)), (3, 1)])], []⟩ (.tuple [.bool true, .bool false]) = true := by kernel_rfl
theorem fr5x2 : rE 13 [.int .i64 (.p 5), .agg [.int .i64 (.a 0 [(0, 1)]), .int .i64 (.a 0 [(1, 1)])], .agg [.int .i64 (.a 0 [(2, 1)]), .int .i64 (.a 0 [(3, 1)])]] ⟨[((-2147483648), 4294967295), ((-2147483648), 4294967295), ((-2147483648), 4294967295), ((-2147483648), 4294967295)], [(0, [(0, 1), (1, (-1))]), (0, [(2, 1), (3, (-1))]), (0, [(1, 1), (2, (-1))])], []⟩ (.tuple [.bool false, .bool true]) = true := by kernel_rfl
theorem fr6x0 : rE 13 [.int .i64 (.p 6), .agg [.int .i64 (.a 0 [(0, 1)]), .int .i64 (.a 0 [(1, 1)])], .agg [.int .i64 (.a 0 [(2, 1)]), .int .i64 (.a 0 [(3, 1)])]] ⟨[((-2147483648), 4294967295), ((-2147483648), 4294967295), ((-2147483648), 4294967295), ((-2147483648), 4294967295)], [(0, [(0, 1), (1, (-1))]), (0, [(2, 1), (3, (-1))]), (0, [(1, (-1)), (2, 1)]), (1, [(0, 1), (3, (-1))])], []⟩ (.tuple [.bool true, .bool true]) = true := by kernel_rfl
theorem fr6x1 : rE 13 [.int .i64 (.p 6), .agg [.int .i64 (.a 0 [(0, 1)]), .int .i64 (.a 0 [(1, 1)])], .agg [.int .i64 (.a 0 [(2, 1)]), .int .i64 (.a 0 [(3, 1)])]] ⟨[((-2147483648), 4294967295), ((-2147483648), 4294967295), ((-2147483648), 4294967295), ((-2147483648), 4294967295)], [(0, [(0, 1), (1, (-1))]), (0, [(2, 1), (3, (-1))]), (0, [(1, (-1)), (2, 1)]), (0, [(0, (-1)), (3, 1)])], []⟩ (.tuple [.bool true, .bool false]) = true := by kernel_rfl
theorem fr6x2 : rE 13 [.int .i64 (.p 6), .agg [.int .i64 (.a 0 [(0, 1)]), .int .i64 (.a 0 [(1, 1)])], .agg [.int .i64 (.a 0 [(2, 1)]), .int .i64 (.a 0 [(3, 1)])]] ⟨[((-2147483648), 4294967295), ((-2147483648), 4294967295), ((-2147483648), 4294967295), ((-2147483648), 4294967295)], [(0, [(0, 1), (1, (-1))]), (0, [(2, 1), (3, (-1))]), (1, [(1, 1), (2, (-1))])], []⟩ (.tuple [.bool false, .bool true]) = true := by kernel_rfl
theorem fr7x0 : rE 13 [.int .i64 (.a 0 [(4, 1)]), .agg [.int .i64 (.a 0 [(0, 1)]), .int .i64 (.a 0 [(1, 1)])], .agg [.int .i64 (.a 0 [(2, 1)]), .int .i64 (.a 0 [(3, 1)])]] ⟨[((-2147483648), 4294967295), ((-2147483648), 4294967295), ((-2147483648), 4294967295), ((-2147483648), 4294967295), (7, 9223372036854775807)], [(0, [(0, 1), (1, (-1))]), (0, [(2, 1), (3, (-1))])], []⟩ (.tuple [.bool false, .bool false]) = true := by kernel_rfl
theorem frel_tells {rel p q r s : Int} (hr : -9223372036854775808 ≤ rel ∧ rel ≤ 9223372036854775807) (hp : -2147483648 ≤ p ∧ p ≤ q ∧ q ≤ 4294967295) (hq : -2147483648 ≤ r ∧ r ≤ s ∧ s ≤ 4294967295) : Tells Try.prog 13 [.int .i64 rel, .agg #[.int .i64 p, .int .i64 q], .agg #[.int .i64 r, .int .i64 s]] (.tuple [.bool (relY rel p q r s), .bool (relN rel p q r s)]) := by
  rcases (show rel ≤ 0 ∨ rel = 1 ∨ rel = 2 ∨ rel = 3 ∨ rel = 4 ∨ rel = 5 ∨ rel = 6 ∨ 7 ≤ rel by omega) with hk | hk | hk | hk | hk | hk | hk | hk
  · have e1 : relY rel p q r s = false := by unfold relY; rw [if_neg (by omega), if_neg (by omega), if_neg (by omega), if_neg (by omega), if_neg (by omega), if_neg (by omega)]
    have e2 : relN rel p q r s = false := by unfold relN; rw [if_neg (by omega), if_neg (by omega), if_neg (by omega), if_neg (by omega), if_neg (by omega), if_neg (by omega)]
    rw [e1, e2]
    exact tx (xs := [p, q, r, s, rel]) fr0x0 (args_cons ri (args_cons (rel_agg2 ri ri) (args_cons (rel_agg2 ri ri) args_nil))) rfl rfl
  · subst hk
    rcases (show (q < r) ∨ (s < p) ∨ (r ≤ q ∧ p ≤ s ∧ p = q ∧ r = s) ∨ (r ≤ q ∧ p ≤ s ∧ p < q) ∨ (r ≤ q ∧ p ≤ s ∧ r < s) by omega) with hc | hc | hc | hc | hc
    · have e1 : relY 1 p q r s = false := by unfold relY; simp <;> omega
      have e2 : relN 1 p q r s = true := by unfold relN; simp <;> omega
      rw [e1, e2]
      exact tx (xs := [p, q, r, s]) fr1x0 (args_cons ri (args_cons (rel_agg2 ri ri) (args_cons (rel_agg2 ri ri) args_nil))) rfl rfl
    · have e1 : relY 1 p q r s = false := by unfold relY; simp <;> omega
      have e2 : relN 1 p q r s = true := by unfold relN; simp <;> omega
      rw [e1, e2]
      exact tx (xs := [p, q, r, s]) fr1x1 (args_cons ri (args_cons (rel_agg2 ri ri) (args_cons (rel_agg2 ri ri) args_nil))) rfl rfl
    · have e1 : relY 1 p q r s = true := by unfold relY; simp <;> omega
      have e2 : relN 1 p q r s = false := by unfold relN; simp <;> omega
      rw [e1, e2]
      exact tx (xs := [p, q, r, s]) fr1x2 (args_cons ri (args_cons (rel_agg2 ri ri) (args_cons (rel_agg2 ri ri) args_nil))) rfl rfl
    · have e1 : relY 1 p q r s = true := by unfold relY; simp <;> omega
      have e2 : relN 1 p q r s = true := by unfold relN; simp <;> omega
      rw [e1, e2]
      exact tx (xs := [p, q, r, s]) fr1x3 (args_cons ri (args_cons (rel_agg2 ri ri) (args_cons (rel_agg2 ri ri) args_nil))) rfl rfl
    · have e1 : relY 1 p q r s = true := by unfold relY; simp <;> omega
      have e2 : relN 1 p q r s = true := by unfold relN; simp <;> omega
      rw [e1, e2]
      exact tx (xs := [p, q, r, s]) fr1x4 (args_cons ri (args_cons (rel_agg2 ri ri) (args_cons (rel_agg2 ri ri) args_nil))) rfl rfl
  · subst hk
    rcases (show (q < r) ∨ (s < p) ∨ (r ≤ q ∧ p ≤ s ∧ p = q ∧ r = s) ∨ (r ≤ q ∧ p ≤ s ∧ p < q) ∨ (r ≤ q ∧ p ≤ s ∧ r < s) by omega) with hc | hc | hc | hc | hc
    · have e1 : relY 2 p q r s = true := by unfold relY; simp <;> omega
      have e2 : relN 2 p q r s = false := by unfold relN; simp <;> omega
      rw [e1, e2]
      exact tx (xs := [p, q, r, s]) fr2x0 (args_cons ri (args_cons (rel_agg2 ri ri) (args_cons (rel_agg2 ri ri) args_nil))) rfl rfl
    · have e1 : relY 2 p q r s = true := by unfold relY; simp <;> omega
      have e2 : relN 2 p q r s = false := by unfold relN; simp <;> omega
      rw [e1, e2]
      exact tx (xs := [p, q, r, s]) fr2x1 (args_cons ri (args_cons (rel_agg2 ri ri) (args_cons (rel_agg2 ri ri) args_nil))) rfl rfl
    · have e1 : relY 2 p q r s = false := by unfold relY; simp <;> omega
      have e2 : relN 2 p q r s = true := by unfold relN; simp <;> omega
      rw [e1, e2]
      exact tx (xs := [p, q, r, s]) fr2x2 (args_cons ri (args_cons (rel_agg2 ri ri) (args_cons (rel_agg2 ri ri) args_nil))) rfl rfl
    · have e1 : relY 2 p q r s = true := by unfold relY; simp <;> omega
      have e2 : relN 2 p q r s = true := by unfold relN; simp <;> omega
      rw [e1, e2]
      exact tx (xs := [p, q, r, s]) fr2x3 (args_cons ri (args_cons (rel_agg2 ri ri) (args_cons (rel_agg2 ri ri) args_nil))) rfl rfl
    · have e1 : relY 2 p q r s = true := by unfold relY; simp <;> omega
      have e2 : relN 2 p q r s = true := by unfold relN; simp <;> omega
      rw [e1, e2]
      exact tx (xs := [p, q, r, s]) fr2x4 (args_cons ri (args_cons (rel_agg2 ri ri) (args_cons (rel_agg2 ri ri) args_nil))) rfl rfl
  · subst hk
    rcases (show (p < s ∧ r ≤ q) ∨ (p < s ∧ q < r) ∨ (s ≤ p) by omega) with hc | hc | hc
    · have e1 : relY 3 p q r s = true := by unfold relY; simp <;> omega
      have e2 : relN 3 p q r s = true := by unfold relN; simp <;> omega
      rw [e1, e2]
      exact tx (xs := [p, q, r, s]) fr3x0 (args_cons ri (args_cons (rel_agg2 ri ri) (args_cons (rel_agg2 ri ri) args_nil))) rfl rfl
    · have e1 : relY 3 p q r s = true := by unfold relY; simp <;> omega
      have e2 : relN 3 p q r s = false := by unfold relN; simp <;> omega
      rw [e1, e2]
      exact tx (xs := [p, q, r, s]) fr3x1 (args_cons ri (args_cons (rel_agg2 ri ri) (args_cons (rel_agg2 ri ri) args_nil))) rfl rfl
    · have e1 : relY 3 p q r s = false := by unfold relY; simp <;> omega
      have e2 : relN 3 p q r s = true := by unfold relN; simp <;> omega
      rw [e1, e2]
      exact tx (xs := [p, q, r, s]) fr3x2 (args_cons ri (args_cons (rel_agg2 ri ri) (args_cons (rel_agg2 ri ri) args_nil))) rfl rfl
  · subst hk
    rcases (show (p ≤ s ∧ r < q) ∨ (p ≤ s ∧ q ≤ r) ∨ (s < p) by omega) with hc | hc | hc
    · have e1 : relY 4 p q r s = true := by unfold relY; simp <;> omega
      have e2 : relN 4 p q r s = true := by unfold relN; simp <;> omega
      rw [e1, e2]
      exact tx (xs := [p, q, r, s]) fr4x0 (args_cons ri (args_cons (rel_agg2 ri ri) (args_cons (rel_agg2 ri ri) args_nil))) rfl rfl
    · have e1 : relY 4 p q r s = true := by unfold relY; simp <;> omega
      have e2 : relN 4 p q r s = false := by unfold relN; simp <;> omega
      rw [e1, e2]
      exact tx (xs := [p, q, r, s]) fr4x1 (args_cons ri (args_cons (rel_agg2 ri ri) (args_cons (rel_agg2 ri ri) args_nil))) rfl rfl
    · have e1 : relY 4 p q r s = false := by unfold relY; simp <;> omega
      have e2 : relN 4 p q r s = true := by unfold relN; simp <;> omega
      rw [e1, e2]
      exact tx (xs := [p, q, r, s]) fr4x2 (args_cons ri (args_cons (rel_agg2 ri ri) (args_cons (rel_agg2 ri ri) args_nil))) rfl rfl
  · subst hk
    rcases (show (r < q ∧ p ≤ s) ∨ (r < q ∧ s < p) ∨ (q ≤ r) by omega) with hc | hc | hc
    · have e1 : relY 5 p q r s = true := by unfold relY; simp <;> omega
      have e2 : relN 5 p q r s = true := by unfold relN; simp <;> omega
      rw [e1, e2]
      exact tx (xs := [p, q, r, s]) fr5x0 (args_cons ri (args_cons (rel_agg2 ri ri) (args_cons (rel_agg2 ri ri) args_nil))) rfl rfl
    · have e1 : relY 5 p q r s = true := by unfold relY; simp <;> omega
      have e2 : relN 5 p q r s = false := by unfold relN; simp <;> omega
      rw [e1, e2]
      exact tx (xs := [p, q, r, s]) fr5x1 (args_cons ri (args_cons (rel_agg2 ri ri) (args_cons (rel_agg2 ri ri) args_nil))) rfl rfl
    · have e1 : relY 5 p q r s = false := by unfold relY; simp <;> omega
      have e2 : relN 5 p q r s = true := by unfold relN; simp <;> omega
      rw [e1, e2]
      exact tx (xs := [p, q, r, s]) fr5x2 (args_cons ri (args_cons (rel_agg2 ri ri) (args_cons (rel_agg2 ri ri) args_nil))) rfl rfl
  · subst hk
    rcases (show (r ≤ q ∧ p < s) ∨ (r ≤ q ∧ s ≤ p) ∨ (q < r) by omega) with hc | hc | hc
    · have e1 : relY 6 p q r s = true := by unfold relY; simp <;> omega
      have e2 : relN 6 p q r s = true := by unfold relN; simp <;> omega
      rw [e1, e2]
      exact tx (xs := [p, q, r, s]) fr6x0 (args_cons ri (args_cons (rel_agg2 ri ri) (args_cons (rel_agg2 ri ri) args_nil))) rfl rfl
    · have e1 : relY 6 p q r s = true := by unfold relY; simp <;> omega
      have e2 : relN 6 p q r s = false := by unfold relN; simp <;> omega
      rw [e1, e2]
      exact tx (xs := [p, q, r, s]) fr6x1 (args_cons ri (args_cons (rel_agg2 ri ri) (args_cons (rel_agg2 ri ri) args_nil))) rfl rfl
    · have e1 : relY 6 p q r s = false := by unfold relY; simp <;> omega
      have e2 : relN 6 p q r s = true := by unfold relN; simp <;> omega
      rw [e1, e2]
      exact tx (xs := [p, q, r, s]) fr6x2 (args_cons ri (args_cons (rel_agg2 ri ri) (args_cons (rel_agg2 ri ri) args_nil))) rfl rfl
  · have e1 : relY rel p q r s = false := by unfold relY; rw [if_neg (by omega), if_neg (by omega), if_neg (by omega), if_neg (by omega), if_neg (by omega), if_neg (by omega)]
    have e2 : relN rel p q r s = false := by unfold relN; rw [if_neg (by omega), if_neg (by omega), if_neg (by omega), if_neg (by omega), if_neg (by omega), if_neg (by omega)]
    rw [e1, e2]
    exact tx (xs := [p, q, r, s, rel]) fr7x0 (args_cons ri (args_cons (rel_agg2 ri ri) (args_cons (rel_agg2 ri ri) args_nil))) rfl rfl
theorem frel_ok : EntryOK Try.prog 13 relF := by
  intro args v hv
  unfold relF at hv
  split at hv
  · split at hv
    · rename_i h
      cases hv
      refine ⟨rfl, fun args' ha => ?_⟩
      cases ha with | cons _ _ _ _ h1 ha => cases h1; cases ha with | cons _ _ _ _ h1 ha => cases h1 with | agg _ _ h1 => cases h1 with | cons _ _ _ _ h2 h1 => cases h2; cases h1 with | cons _ _ _ _ h2 h1 => cases h2; cases h1; cases ha with | cons _ _ _ _ h1 ha => cases h1 with | agg _ _ h1 => cases h1 with | cons _ _ _ _ h2 h1 => cases h2; cases h1 with | cons _ _ _ _ h2 h1 => cases h2; cases h1; cases ha; exact frel_tells h.1 h.2.1 h.2.2
    · cases hv
  · cases hv
theorem rr0x0 : rE 14 [.int .i64 (.a 0 [(4, 1)]), .agg [.int .i64 (.a 0 [(0, 1)]), .int .i64 (.a 0 [(1, 1)])], .agg [.int .i64 (.a 0 [(2, 1)]), .int .i64 (.a 0 [(3, 1)])]] ⟨[((-2147483648), 4294967295), ((-2147483648), 4294967295), ((-2147483648), 4294967295), ((-2147483648), 4294967295), ((-9223372036854775808), 0)], [(0, [(0, 1), (1, (-1))]), (0, [(2, 1), (3, (-1))])], []⟩ (.tuple [.bool false, .bool false]) = true := by kernel_rfl
theorem rr1x0 : rE 14 [.int .i64 (.p 1), .agg [.int .i64 (.a 0 [(0, 1)]), .int .i64 (.a 0 [(1, 1)])], .agg [.int .i64 (.a 0 [(2, 1)]), .int .i64 (.a 0 [(3, 1)])]] ⟨[((-2147483648), 4294967295), ((-2147483648), 4294967295), ((-2147483648), 4294967295), ((-2147483648), 4294967295)], [(0, [(0, 1), (1, (-1))]), (0, [(2, 1), (3, (-1))]), (1, [(1, 1), (2, (-1))])], []⟩ (.tuple [.bool false, .bool true]) = true := by kernel_rfl
theorem rr1x1 : rE 14 [.int .i64 (.p 1), .agg [.int .i64 (.a 0 [(0, 1)]), .int .i64 (.a 0 [(1, 1)])], .agg [.int .i64 (.a 0 [(2, 1)]), .int .i64 (.a 0 [(3, 1)])]] ⟨[((-2147483648), 4294967295), ((-2147483648), 4294967295), ((-2147483648), 4294967295), ((-2147483648), 4294967295)], [(0, [(0, 1), (1, (-1))]), (0, [(2, 1), (3, (-1))]), (1, [(0, (-1)), (3, 1)])], []⟩ (.tuple [.bool false, .bool true]) = true := by kernel_rfl
theorem rr1x2 : rE 14 [.int .i64 (.p 1), .agg [.int .i64 (.a 0 [(0, 1)]), .int .i64 (.a 0 [(1, 1)])], .agg [.int .i64 (.a 0 [(2, 1)]), .int .i64 (.a 0 [(3, 1)])]] ⟨[((-2147483648), 4294967295), ((-2147483648), 4294967295), ((-2147483648), 4294967295), ((-2147483648), 4294967295)], [(0, [(0, 1), (1, (-1))]), (0, [(2, 1), (3, (-1))]), (0, [(1, (-1)), (2, 1)]), (0, [(0, 1), (3, (-1))]), (0, [(0, (-1)), (1, 1)]), (0, [(2, (-1)), (3, 1)])], []⟩ (.tuple [.bool true, .bool false]) = true := by kernel_rfl
theorem rr1x3 : rE 14 [.int .i64 (.p 1), .agg [.int .i64 (.a 0 [(0, 1)]), .int .i64 (.a 0 [(1, 1)])], .agg [.int .i64 (.a 0 [(2, 1)]), .int .i64 (.a 0 [(3, 1)])]] ⟨[((-2147483648), 4294967295), ((-2147483648), 4294967295), ((-2147483648), 4294967295), ((-2147483648), 4294967295)], [(0, [(0, 1), (1, (-1))]), (0, [(2, 1), (3, (-1))]), (0, [(1, (-1)), (2, 1)]), (0, [(0, 1), (3, (-1))]), (1, [(0, 1), (1, (-1))])], []⟩ (.tuple [.bool true, .bool true]) = true := by kernel_rfl
theorem rr1x4 : rE 14 [.int .i64 (.p 1), .agg [.int .i64 (.a 0 [(0, 1)]), .int .i64 (.a 0 [(1, 1)])], .agg [.int .i64 (.a 0 [(2, 1)]), .int .i64 (.a 0 [(3, 1)])]] ⟨[((-2147483648), 4294967295), ((-2147483648), 4294967295), ((-2147483648), 4294967295), ((-2147483648), 4294967295)], [(0, [(0, 1), (1, (-1))]), (0, [(2, 1), (3, (-1))]), (0, [(1, (-1)), (2, 1)]), (0, [(0, 1), (3, (-1))]), (1, [(2, 1), (3, (-1))])], []⟩ (.tuple [.bool true, .bool true]) = true := by kernel_rfl
theorem rr2x0 : rE 14 [.int .i64 (.p 2), .agg [.int .i64 (.a 0 [(0, 1)]), .int .i64 (.a 0 [(1, 1)])], .agg [.int .i64 (.a 0 [(2, 1)]), .int .i64 (.a 0 [(3, 1)])]] ⟨[((-2147483648), 4294967295), ((-2147483648), 4294967295), ((-2147483648), 4294967295), ((-2147483648), 4294967295)], [(0, [(0, 1), (1, (-1))]), (0, [(2, 1), (3, (-1))]), (1, [(1, 1), (2, (-1))])], []⟩ (.tuple [.bool true, .bool false]) = true := by kernel_rfl
theorem rr2x1 : rE 14 [.int .i64 (.p 2), .agg [.int .i64 (.a 0 [(0, 1)]), .int .i64 (.a 0 [(1, 1)])], .agg [.int .i64 (.a 0 [(2, 1)]), .int .i64 (.a 0 [(3, 1)])]] ⟨[((-2147483648), 4294967295), ((-2147483648), 4294967295), ((-2147483648), 4294967295), ((-2147483648), 4294967295)], [(0, [(0, 1), (1, (-1))]), (0, [(2, 1), (3, (-1))]), (1, [(0, (-1)), (3, 1)])], []⟩ (.tuple [.bool true, .bool false]) = true := by kernel_rfl
theorem rr2x2 : rE 14 [.int .i64 (.p 2), .agg [.int .i64 (.a 0 [(0, 1)]), .int .i64 (.a 0 [(1, 1)])], .agg [.int .i64 (.a 0 [(2, 1)]), .int .i64 (.a 0 [(3, 1)])]] ⟨[((-2147483648), 4294967295), ((-2147483648), 4294967295), ((-2147483648), 4294967295), ((-2147483648), 4294967295)], [(0, [(0, 1), (1, (-1))]), (0, [(2, 1), (3, (-1))]), (0, [(1, (-1)), (2, 1)]), (0, [(0, 1), (3, (-1))]), (0, [(0, (-1)), (1, 1)]), (0, [(2, (-1)), (3, 1)])], []⟩ (.tuple [.bool false, .bool true]) = true := by kernel_rfl
theorem rr2x3 : rE 14 [.int .i64 (.p 2), .agg [.int .i64 (.a 0 [(0, 1)]), .int .i64 (.a 0 [(1, 1)])], .agg [.int .i64 (.a 0 [(2, 1)]), .int .i64 (.a 0 [(3, 1)])]] ⟨[((-2147483648), 4294967295), ((-2147483648), 4294967295), ((-2147483648), 4294967295), ((-2147483648), 4294967295)], [(0, [(0, 1), (1, (-1))]), (0, [(2, 1), (3, (-1))]), (0, [(1, (-1)), (2, 1)]), (0, [(0, 1), (3, (-1))]), (1, [(0, 1), (1, (-1))])], []⟩ (.tuple [.bool true, .bool true]) = true := by kernel_rfl
theorem rr2x4 : rE 14 [.int .i64 (.p 2), .agg [.int .i64 (.a 0 [(0, 1)]), .int .i64 (.a 0 [(1, 1)])], .agg [.int .i64 (.a 0 [(2, 1)]), .int .i64 (.a 0 [(3, 1)])]] ⟨[((-2147483648), 4294967295), ((-2147483648), 4294967295), ((-2147483648), 4294967295), ((-2147483648), 4294967295)], [(0, [(0, 1), (1, (-1))]), (0, [(2, 1), (3, (-1))]), (0, [(1, (-1)), (2, 1)]), (0, [(0, 1), (3, (-1))]), (1, [(2, 1), (3, (-1))])], []⟩ (.tuple [.bool true, .bool true]) = true := by kernel_rfl
theorem rr3x0 : rE 14 [.int .i64 (.p 3), .agg [.int .i64 (.a 0 [(0, 1)]), .int .i64 (.a 0 [(1, 1)])], .agg [.int .i64 (.a 0 [(2, 1)]), .int .i64 (.a 0 [(3, 1)])]] ⟨[((-2147483648), 4294967295), ((-2147483648), 4294967295), ((-2147483648), 4294967295), ((-2147483648), 4294967295)], [(0, [(0, 1), (1, (-1))]), (0, [(2, 1), (3, (-1))]), (1, [(0, 1), (3, (-1))]), (0, [(1, (-1)), (2, 1)])], []⟩ (.tuple [.bool true, .bool true]) = true := by kernel_rfl
theorem rr3x1 : rE 14 [.int .i64 (.p 3), .agg [.int .i64 (.a 0 [(0, 1)]), .int .i64 (.a 0 [(1, 1)])], .agg [.int .i64 (.a 0 [(2, 1)]), .int .i64 (.a 0 [(3, 1)])]] ⟨[((-2147483648), 4294967295), ((-2147483648), 4294967295), ((-2147483648), 4294967295), ((-2147483648), 4294967295)], [(0, [(0, 1), (1, (-1))]), (0, [(2, 1), (3, (-1))]), (1, [(0, 1), (3, (-1))]), (1, [(1, 1), (2, (-1))])], []⟩ (.tuple [.bool true, .bool false]) = true := by kernel_rfl
theorem rr3x2 : rE 14 [.int .i64 (.p 3), .agg [.int .i64 (.a 0 [(0, 1)]), .int .i64 (.a 0 [(1, 1)])], .agg [.int .i64 (.a 0 [(2, 1)]), .int .i64 (.a 0 [(3, 1)])]] ⟨[((-2147483648), 4294967295), ((-2147483648), 4294967295), ((-2147483648), 4294967295), ((-2147483648), 4294967295)], [(0, [(0, 1), (1, (-1))]), (0, [(2, 1), (3, (-1))]), (0, [(0, (-1)), (3, 1)])], []⟩ (.tuple [.bool false, .bool true]) = true := by kernel_rfl
theorem rr4x0 : rE 14 [.int .i64 (.p 4), .agg [.int .i64 (.a 0 [(0, 1)]), .int .i64 (.a 0 [(1, 1)])], .agg [.int .i64 (.a 0 [(2, 1)]), .int .i64 (.a 0 [(3, 1)])]] ⟨[((-2147483648), 4294967295), ((-2147483648), 4294967295), ((-2147483648), 4294967295), ((-2147483648), 4294967295)], [(0, [(0, 1), (1, (-1))]), (0, [(2, 1), (3, (-1))]), (0, [(0, 1), (3, (-1))]), (1, [(1, (-1)), (2, 1)])], []⟩ (.tuple [.bool true, .bool true]) = true := by kernel_rfl
theorem rr4x1 : rE 14 [.int .i64 (.p 4), .agg [.int .i64 (.a 0 [(0, 1)]), .int .i64 (.a 0 [(1, 1)])], .agg [.int .i64 (.a 0 [(2, 1)]), .int .i64 (.a 0 [(3, 1)])]] ⟨[((-2147483648), 4294967295), ((-2147483648), 4294967295), ((-2147483648), 4294967295), ((-2147483648), 4294967295)], [(0, [(0, 1), (1, (-1))]), (0, [(2, 1), (3, (-1))]), (0, [(0, 1), (3, (-1))]), (0, [(1, 1), (2, (-1))])], []⟩ (.tuple [.bool true, .bool false]) = true := by kernel_rfl
theorem rr4x2 : rE 14 [.int .i64 (.p 4), .agg [.int .i64 (.a 0 [(0, 1)]), .int .i64 (.a 0 [(1, 1)])], .agg [.int .i64 (.a 0 [(2, 1)]), .int .i64 (.a 0 [(3, 1)])]] ⟨[((-2147483648), 4294967295), ((-2147483648), 4294967295), ((-2147483648), 4294967295), ((-2147483648), 4294967295)], [(0, [(0, 1), (1, (-1))]), (0, [(2, 1), (3, (-1))]), (1, [(0, (-1)), (3, 1)])], []⟩ (.tuple [.bool false, .bool true]) = true := by kernel_rfl
theorem rr5x0 : rE 14 [.int .i64 (.p 5), .agg [.int .i64 (.a 0 [(0, 1)]), .int .i64 (.a 0 [(1, 1)])], .agg [.int .i64 (.a 0 [(2, 1)]), .int .i64 (.a 0 [(3, 1)])]] ⟨[((-2147483648), 4294967295), ((-2147483648), 4294967295), ((-2147483648), 4294967295), ((-2147483648), 4294967295)], [(0, [(0, 1), (1, (-1))]), (0, [(2, 1), (3, (-1))]), (1, [(1, (-1)), (2, 1)]), (0, [(0, 1), (3, (-1))])], []⟩ (.tuple [.bool true, .bool true]) = true := by kernel_rfl
theorem rr5x1 : rE 14 [.int .i64 (.p 5), .agg [.int .i64 (.a 0 [(0, 1)]), .int .i64 (.a 0 [(1, 1)])], .agg [.int .i64 (.a 0 [(2, 1)]), .int .i64 (.a 0 [(3, 1)])]] ⟨[((-2147483648), 4294967295), ((-2147483648), 4294967295), ((-2147483648), 4294967295), ((-2147483648), 4294967295)], [(0, [(0, 1), (1, (-1))]), (0, [(2, 1), (3, (-1))]), (1, [(1, (-1)), (2, 1)]), (1, [(0, (-1)), (3, 1)])], []⟩ (.tuple [.bool true, .bool false]) = true := by kernel_rfl
theorem rr5x2 : rE 14 [.int .i64 (.p 5), .agg [.int .i64 (.a 0 [(0, 1)]), .int .i64 (.a 0 [(1, 1)])], .agg [.int .i64 (.a 0 [(2, 1)]), .int .i64 (.a 0 [(3, 1)])]] ⟨[((-2147483648), 4294967295), ((-2147483648), 4294967295), ((-2147483648), 4294967295), ((-2147483648), 4294967295)], [(0, [(0, 1), (1, (-1))]), (0, [(2, 1), (3, (-1))]), (0, [(1, 1), (2, (-1))])], []⟩ (.tuple [.bool false, .bool true]) = true := by kernel_rfl
theorem rr6x0 : rE 14 [.int .i64 (.p 6), .agg [.int .i64 (.a 0 [(0, 1)]), .int .i64 (.a 0 [(1, 1)])], .agg [.int .i64 (.a 0 [(2, 1)]), .int .i64 (.a 0 [(3, 1)])]] ⟨[((-2147483648), 4294967295), ((-2147483648), 4294967295), ((-2147483648), 4294967295), ((-2147483648), 4294967295)], [(0, [(0, 1), (1, (-1))]), (0, [(2, 1), (3, (-1))]), (0, [(1, (-1)), (2, 1)]), (1, [(0, 1), (3, (-1))])], []⟩ (.tuple [.bool true, .bool true]) = true := by kernel_rfl
theorem rr6x1 : rE 14 [.int .i64 (.p 6), .agg [.int .i64 (.a 0 [(0, 1)]), .int .i64 (.a 0 [(1, 1)])], .agg [.int .i64 (.a 0 [(2, 1)]), .int .i64 (.a 0 [(3, 1)])]] ⟨[((-2147483648), 4294967295), ((-2147483648), 4294967295), ((-2147483648), 4294967295), ((-2147483648), 4294967295)], [(0, [(0, 1), (1, (-1))]), (0, [(2, 1), (3, (-1))]), (0, [(1, (-1)), (2, 1)]), (0, [(0, (-1)), (3, 1)])], []⟩ (.tuple [.bool true, .bool false]) = true := by kernel_rfl
theorem rr6x2 : rE 14 [.int .i64 (.p 6), .agg [.int .i64 (.a 0 [(0, 1)]), .int .i64 (.a 0 [(1, 1)])], .agg [.int .i64 (.a 0 [(2, 1)]), .int .i64 (.a 0 [(3, 1)])]] ⟨[((-2147483648), 4294967295), ((-2147483648), 4294967295), ((-2147483648), 4294967295), ((-2147483648), 4294967295)], [(0, [(0, 1), (1, (-1))]), (0, [(2, 1), (3, (-1))]), (1, [(1, 1), (2, (-1))])], []⟩ (.tuple [.bool false, .bool true]) = true := by kernel_rfl
theorem rr7x0 : rE 14 [.int .i64 (.a 0 [(4, 1)]), .agg [.int .i64 (.a 0 [(0, 1)]), .int .i64 (.a 0 [(1, 1)])], .agg [.int .i64 (.a 0 [(2, 1)]), .int .i64 (.a 0 [(3, 1)])]] ⟨[((-2147483648), 4294967295), ((-2147483648), 4294967295), ((-2147483648), 4294967295), ((-2147483648), 4294967295), (7, 9223372036854775807)], [(0, [(0, 1), (1, (-1))]), (0, [(2, 1), (3, (-1))])], []⟩ (.tuple [.bool false, .bool false]) = true := by kernel_rfl
theorem rrel_tells {rel p q r s : Int} (hr : -9223372036854775808 ≤ rel ∧ rel ≤ 9223372036854775807) (hp : -2147483648 ≤ p ∧ p ≤ q ∧ q ≤ 4294967295) (hq : -2147483648 ≤ r ∧ r ≤ s ∧ s ≤ 4294967295) : Tells Try.prog 14 [.int .i64 rel, .agg #[.int .i64 p, .int .i64 q], .agg #[.int .i64 r, .int .i64 s]] (.tuple [.bool (relY rel p q r s), .bool (relN rel p q r s)]) := by
  rcases (show rel ≤ 0 ∨ rel = 1 ∨ rel = 2 ∨ rel = 3 ∨ rel = 4 ∨ rel = 5 ∨ rel = 6 ∨ 7 ≤ rel by omega) with hk | hk | hk | hk | hk | hk | hk | hk
  · have e1 : relY rel p q r s = false := by unfold relY; rw [if_neg (by omega), if_neg (by omega), if_neg (by omega), if_neg (by omega), if_neg (by omega), if_neg (by omega)]
    have e2 : relN rel p q r s = false := by unfold relN; rw [if_neg (by omega), if_neg (by omega), if_neg (by omega), if_neg (by omega), if_neg (by omega), if_neg (by omega)]
    rw [e1, e2]
    exact tx (xs := [p, q, r, s, rel]) rr0x0 (args_cons ri (args_cons (rel_agg2 ri ri) (args_cons (rel_agg2 ri ri) args_nil))) rfl rfl
  · subst hk
    rcases (show (q < r) ∨ (s < p) ∨ (r ≤ q ∧ p ≤ s ∧ p = q ∧ r = s) ∨ (r ≤ q ∧ p ≤ s ∧ p < q) ∨ (r ≤ q ∧ p ≤ s ∧ r < s) by omega) with hc | hc | hc | hc | hc
    · have e1 : relY 1 p q r s = false := by unfold relY; simp <;> omega
      have e2 : relN 1 p q r s = true := by unfold relN; simp <;> omega
      rw [e1, e2]
      exact tx (xs := [p, q, r, s]) rr1x0 (args_cons ri (args_cons (rel_agg2 ri ri) (args_cons (rel_agg2 ri ri) args_nil))) rfl rfl
    · have e1 : relY 1 p q r s = false := by unfold relY; simp <;> omega
      have e2 : relN 1 p q r s = true := by unfold relN; simp <;> omega
      rw [e1, e2]
      exact tx (xs := [p, q, r, s]) rr1x1 (args_cons ri (args_cons (rel_agg2 ri ri) (args_cons (rel_agg2 ri ri) args_nil))) rfl rfl
    · have e1 : relY 1 p q r s = true := by unfold relY; simp <;> omega
      have e2 : relN 1 p q r s = false := by unfold relN; simp <;> omega
      rw [e1, e2]
      exact tx (xs := [p, q, r, s]) rr1x2 (args_cons ri (args_cons (rel_agg2 ri ri) (args_cons (rel_agg2 ri ri) args_nil))) rfl rfl
    · have e1 : relY 1 p q r s = true := by unfold relY; simp <;> omega
      have e2 : relN 1 p q r s = true := by unfold relN; simp <;> omega
      rw [e1, e2]
      exact tx (xs := [p, q, r, s]) rr1x3 (args_cons ri (args_cons (rel_agg2 ri ri) (args_cons (rel_agg2 ri ri) args_nil))) rfl rfl
    · have e1 : relY 1 p q r s = true := by unfold relY; simp <;> omega
      have e2 : relN 1 p q r s = true := by unfold relN; simp <;> omega
      rw [e1, e2]
      exact tx (xs := [p, q, r, s]) rr1x4 (args_cons ri (args_cons (rel_agg2 ri ri) (args_cons (rel_agg2 ri ri) args_nil))) rfl rfl
  · subst hk
    rcases (show (q < r) ∨ (s < p) ∨ (r ≤ q ∧ p ≤ s ∧ p = q ∧ r = s) ∨ (r ≤ q ∧ p ≤ s ∧ p < q) ∨ (r ≤ q ∧ p ≤ s ∧ r < s) by omega) with hc | hc | hc | hc | hc
    · have e1 : relY 2 p q r s = true := by unfold relY; simp <;> omega
      have e2 : relN 2 p q r s = false := by unfold relN; simp <;> omega
      rw [e1, e2]
      exact tx (xs := [p, q, r, s]) rr2x0 (args_cons ri (args_cons (rel_agg2 ri ri) (args_cons (rel_agg2 ri ri) args_nil))) rfl rfl
    · have e1 : relY 2 p q r s = true := by unfold relY; simp <;> omega
      have e2 : relN 2 p q r s = false := by unfold relN; simp <;> omega
      rw [e1, e2]
      exact tx (xs := [p, q, r, s]) rr2x1 (args_cons ri (args_cons (rel_agg2 ri ri) (args_cons (rel_agg2 ri ri) args_nil))) rfl rfl
    · have e1 : relY 2 p q r s = false := by unfold relY; simp <;> omega
      have e2 : relN 2 p q r s = true := by unfold relN; simp <;> omega
      rw [e1, e2]
      exact tx (xs := [p, q, r, s]) rr2x2 (args_cons ri (args_cons (rel_agg2 ri ri) (args_cons (rel_agg2 ri ri) args_nil))) rfl rfl
    · have e1 : relY 2 p q r s = true := by unfold relY; simp <;> omega
      have e2 : relN 2 p q r s = true := by unfold relN; simp <;> omega
      rw [e1, e2]
      exact tx (xs := [p, q, r, s]) rr2x3 (args_cons ri (args_cons (rel_agg2 ri ri) (args_cons (rel_agg2 ri ri) args_nil))) rfl rfl
    · have e1 : relY 2 p q r s = true := by unfold relY; simp <;> omega
      have e2 : relN 2 p q r s = true := by unfold relN; simp <;> omega
      rw [e1, e2]
      exact tx (xs := [p, q, r, s]) rr2x4 (args_cons ri (args_cons (rel_agg2 ri ri) (args_cons (rel_agg2 ri ri) args_nil))) rfl rfl
  · subst hk
    rcases (show (p < s ∧ r ≤ q) ∨ (p < s ∧ q < r) ∨ (s ≤ p) by omega) with hc | hc | hc
    · have e1 : relY 3 p q r s = true := by unfold relY; simp <;> omega
      have e2 : relN 3 p q r s = true := by unfold relN; simp <;> omega
      rw [e1, e2]
      exact tx (xs := [p, q, r, s]) rr3x0 (args_cons ri (args_cons (rel_agg2 ri ri) (args_cons (rel_agg2 ri ri) args_nil))) rfl rfl
    · have e1 : relY 3 p q r s = true := by unfold relY; simp <;> omega
      have e2 : relN 3 p q r s = false := by unfold relN; simp <;> omega
      rw [e1, e2]
      exact tx (xs := [p, q, r, s]) rr3x1 (args_cons ri (args_cons (rel_agg2 ri ri) (args_cons (rel_agg2 ri ri) args_nil))) rfl rfl
    · have e1 : relY 3 p q r s = false := by unfold relY; simp <;> omega
      have e2 : relN 3 p q r s = true := by unfold relN; simp <;> omega
      rw [e1, e2]
      exact tx (xs := [p, q, r, s]) rr3x2 (args_cons ri (args_cons (rel_agg2 ri ri) (args_cons (rel_agg2 ri ri) args_nil))) rfl rfl
  · subst hk
    rcases (show (p ≤ s ∧ r < q) ∨ (p ≤ s ∧ q ≤ r) ∨ (s < p) by omega) with hc | hc | hc
    · have e1 : relY 4 p q r s = true := by unfold relY; simp <;> omega
      have e2 : relN 4 p q r s = true := by unfold relN; simp <;> omega
      rw [e1, e2]
      exact tx (xs := [p, q, r, s]) rr4x0 (args_cons ri (args_cons (rel_agg2 ri ri) (args_cons (rel_agg2 ri ri) args_nil))) rfl rfl
    · have e1 : relY 4 p q r s = true := by unfold relY; simp <;> omega
      have e2 : relN 4 p q r s = false := by unfold relN; simp <;> omega
      rw [e1, e2]
      exact tx (xs := [p, q, r, s]) rr4x1 (args_cons ri (args_cons (rel_agg2 ri ri) (args_cons (rel_agg2 ri ri) args_nil))) rfl rfl
    · have e1 : relY 4 p q r s = false := by unfold relY; simp <;> omega
      have e2 : relN 4 p q r s = true := by unfold relN; simp <;> omega
      rw [e1, e2]
      exact tx (xs := [p, q, r, s]) rr4x2 (args_cons ri (args_cons (rel_agg2 ri ri) (args_cons (rel_agg2 ri ri) args_nil))) rfl rfl
  · subst hk
    rcases (show (r < q ∧ p ≤ s) ∨ (r < q ∧ s < p) ∨ (q ≤ r) by omega) with hc | hc | hc
    · have e1 : relY 5 p q r s = true := by unfold relY; simp <;> omega
      have e2 : relN 5 p q r s = true := by unfold relN; simp <;> omega
      rw [e1, e2]
      exact tx (xs := [p, q, r, s]) rr5x0 (args_cons ri (args_cons (rel_agg2 ri ri) (args_cons (rel_agg2 ri ri) args_nil))) rfl rfl
    · have e1 : relY 5 p q r s = true := by unfold relY; simp <;> omega
      have e2 : relN 5 p q r s = false := by unfold relN; simp <;> omega
      rw [e1, e2]
      exact tx (xs := [p, q, r, s]) rr5x1 (args_cons ri (args_cons (rel_agg2 ri ri) (args_cons (rel_agg2 ri ri) args_nil))) rfl rfl
    · have e1 : relY 5 p q r s = false := by unfold relY; simp <;> omega
      have e2 : relN 5 p q r s = true := by unfold relN; simp <;> omega
      rw [e1, e2]
      exact tx (xs := [p, q, r, s]) rr5x2 (args_cons ri (args_cons (rel_agg2 ri ri) (args_cons (rel_agg2 ri ri) args_nil))) rfl rfl
  · subst hk
    rcases (show (r ≤ q ∧ p < s) ∨ (r ≤ q ∧ s ≤ p) ∨ (q < r) by omega) with hc | hc | hc
    · have e1 : relY 6 p q r s = true := by unfold relY; simp <;> omega
      have e2 : relN 6 p q r s = true := by unfold relN; simp <;> omega
      rw [e1, e2]
      exact tx (xs := [p, q, r, s]) rr6x0 (args_cons ri (args_cons (rel_agg2 ri ri) (args_cons (rel_agg2 ri ri) args_nil))) rfl rfl
    · have e1 : relY 6 p q r s = true := by unfold relY; simp <;> omega
      have e2 : relN 6 p q r s = false := by unfold relN; simp <;> omega
      rw [e1, e2]
      exact tx (xs := [p, q, r, s]) rr6x1 (args_cons ri (args_cons (rel_agg2 ri ri) (args_cons (rel_agg2 ri ri) args_nil))) rfl rfl
    · have e1 : relY 6 p q r s = false := by unfold relY; simp <;> omega
      have e2 : relN 6 p q r s = true := by unfold relN; simp <;> omega
      rw [e1, e2]
      exact tx (xs := [p, q, r, s]) rr6x2 (args_cons ri (args_cons (rel_agg2 ri ri) (args_cons (rel_agg2 ri ri) args_nil))) rfl rfl
  · have e1 : relY rel p q r s = false := by unfold relY; rw [if_neg (by omega), if_neg (by omega), if_neg (by omega), if_neg (by omega), if_neg (by omega), if_neg (by omega)]
    have e2 : relN rel p q r s = false := by unfold relN; rw [if_neg (by omega), if_neg (by omega), if_neg (by omega), if_neg (by omega), if_neg (by omega), if_neg (by omega)]
    rw [e1, e2]
    exact tx (xs := [p, q, r, s, rel]) rr7x0 (args_cons ri (args_cons (rel_agg2 ri ri) (args_cons (rel_agg2 ri ri) args_nil))) rfl rfl
theorem rrel_ok : EntryOK Try.prog 14 relF := by
  intro args v hv
  unfold relF at hv
  split at hv
  · split at hv
    · rename_i h
      cases hv
      refine ⟨rfl, fun args' ha => ?_⟩
      cases ha with | cons _ _ _ _ h1 ha => cases h1; cases ha with | cons _ _ _ _ h1 ha => cases h1 with | agg _ _ h1 => cases h1 with | cons _ _ _ _ h2 h1 => cases h2; cases h1 with | cons _ _ _ _ h2 h1 => cases h2; cases h1; cases ha with | cons _ _ _ _ h1 ha => cases h1 with | agg _ _ h1 => cases h1 with | cons _ _ _ _ h2 h1 => cases h2; cases h1 with | cons _ _ _ _ h2 h1 => cases h2; cases h1; cases ha; exact rrel_tells h.1 h.2.1 h.2.2
    · cases hv
  · cases hv
/-- All that is summed up. -/
noncomputable def sums : List (FuncId × (List V → Option V)) := [(11, trueF), (7, endsF), (60, onesF), (49, lowF), (13, relF), (14, relF)]
theorem sumsOK : entAll Try.prog sums := ⟨trueF_ok kdC.awake11, ends_ok, ones_ok, low_ok, frel_ok, rrel_ok, trivial⟩
theorem sumsBody : bodiedAll Try.prog (fstF sums) := ⟨kdC.has11, ⟨Try.f7, _, Try.func7, rfl⟩, ⟨Try.f60, _, Try.func60, rfl⟩, ⟨Try.f49, _, Try.func49, rfl⟩, ⟨Try.f13, _, Try.func13, rfl⟩, ⟨Try.f14, _, Try.func14, rfl⟩, trivial⟩
theorem endsF_eq (t a b far : Int) : endsF [.int .i64 t, .int .u32 a, .int .u32 b, .int .u8 far] = if (t = 5 ∨ t = 6) ∧ (0 ≤ a ∧ a ≤ 4294967295) ∧ (0 ≤ b ∧ b ≤ 4294967295) ∧ (0 ≤ far ∧ far ≤ 255) then some (.agg [.int .i64 (min (endA t a far) (endB t a b far)), .int .i64 (max (endA t a far) (endB t a b far))]) else none := rfl
theorem onesF_eq (n : Int) : onesF [.int .i64 n] = if -2147483648 ≤ n ∧ n ≤ 4294967295 then some (.int .i64 (onesV n)) else none := rfl
theorem lowF_eq (a b : Int) : lowF [.int .i64 a, .int .i64 b] = if (0 ≤ a ∧ a ≤ 4294967295) ∧ (0 ≤ b ∧ b ≤ 4294967295) then some (.int .i64 (onesV (max a b))) else none := rfl
theorem relF_eq (rel p q r s : Int) : relF [.int .i64 rel, .agg [.int .i64 p, .int .i64 q], .agg [.int .i64 r, .int .i64 s]] = if (-9223372036854775808 ≤ rel ∧ rel ≤ 9223372036854775807) ∧ (-2147483648 ≤ p ∧ p ≤ q ∧ q ≤ 4294967295) ∧ (-2147483648 ≤ r ∧ r ≤ s ∧ s ≤ 4294967295) then some (.tuple [.bool (relY rel p q r s), .bool (relN rel p q r s)]) else none := rfl
theorem entS_e (args : List V) : entS sums 7 args = endsF args := rfl
theorem entS_o (args : List V) : entS sums 60 args = onesF args := rfl
theorem entS_l (args : List V) : entS sums 49 args = lowF args := rfl
theorem entS_f (args : List V) : entS sums 13 args = relF args := rfl
theorem entS_r (args : List V) : entS sums 14 args = relF args := rfl
theorem ends5 {a b far : Int} (ha : 0 ≤ a ∧ a ≤ 4294967295) (hb : 0 ≤ b ∧ b ≤ 4294967295) (hf : 0 ≤ far ∧ far ≤ 255) : ∃ p q, entS sums 7 [.int .i64 5, .int .u32 a, .int .u32 b, .int .u8 far] = some (.agg [.int .i64 p, .int .i64 q]) ∧ -2147483648 ≤ p ∧ p ≤ q ∧ q ≤ 2147483647 := by
  have h1 := (endA_in (t := 5) (a := a) (far := far)).1 rfl
  have h2 := (endA_in (t := 5) (a := b) (far := far)).1 rfl
  refine ⟨min (endA 5 a far) (endB 5 a b far), max (endA 5 a far) (endB 5 a b far), ?_, ?_⟩
  · rw [entS_e, endsF_eq, if_pos ⟨.inl rfl, ha, hb, hf⟩]
  · unfold endB; split <;> omega
theorem ends6 {a b far : Int} (ha : 0 ≤ a ∧ a ≤ 4294967295) (hb : 0 ≤ b ∧ b ≤ 4294967295) (hf : 0 ≤ far ∧ far ≤ 255) : ∃ p q, entS sums 7 [.int .i64 6, .int .u32 a, .int .u32 b, .int .u8 far] = some (.agg [.int .i64 p, .int .i64 q]) ∧ 0 ≤ p ∧ p ≤ q ∧ q ≤ 4294967295 := by
  have h1 := (endA_in (t := 6) (a := a) (far := far)).2 rfl
  have h2 := (endA_in (t := 6) (a := b) (far := far)).2 rfl
  refine ⟨min (endA 6 a far) (endB 6 a b far), max (endA 6 a far) (endB 6 a b far), ?_, ?_⟩
  · rw [entS_e, endsF_eq, if_pos ⟨.inr rfl, ha, hb, hf⟩]
  · unfold endB; split <;> omega
theorem onesS {n : Int} (h : -2147483648 ≤ n ∧ n ≤ 4294967295) : entS sums 60 [.int .i64 n] = some (.int .i64 (onesV n)) := by
  rw [entS_o, onesF_eq, if_pos h]
theorem lowS {a b : Int} (ha : 0 ≤ a ∧ a ≤ 4294967295) (hb : 0 ≤ b ∧ b ≤ 4294967295) : entS sums 49 [.int .i64 a, .int .i64 b] = some (.int .i64 (onesV (max a b))) := by
  rw [entS_l, lowF_eq, if_pos ⟨ha, hb⟩]
theorem frelS {rel p q r s : Int} (hr : -9223372036854775808 ≤ rel ∧ rel ≤ 9223372036854775807) (hp : -2147483648 ≤ p ∧ p ≤ q ∧ q ≤ 4294967295) (hq : -2147483648 ≤ r ∧ r ≤ s ∧ s ≤ 4294967295) : entS sums 13 [.int .i64 rel, .agg [.int .i64 p, .int .i64 q], .agg [.int .i64 r, .int .i64 s]] = some (.tuple [.bool (relY rel p q r s), .bool (relN rel p q r s)]) := by
  rw [entS_f, relF_eq, if_pos ⟨hr, hp, hq⟩]
theorem rrelS {rel p q r s : Int} (hr : -9223372036854775808 ≤ rel ∧ rel ≤ 9223372036854775807) (hp : -2147483648 ≤ p ∧ p ≤ q ∧ q ≤ 4294967295) (hq : -2147483648 ≤ r ∧ r ≤ s ∧ s ≤ 4294967295) : entS sums 14 [.int .i64 rel, .agg [.int .i64 p, .int .i64 q], .agg [.int .i64 r, .int .i64 s]] = some (.tuple [.bool (relY rel p q r s), .bool (relN rel p q r s)]) := by
  rw [entS_r, relF_eq, if_pos ⟨hr, hp, hq⟩]
theorem awakeS : entS sums 11 [] = some (.bool true) := rfl
abbrev n64 (i : Nat) : KV := .int .i64 (.a 0 [(i, 1)])
abbrev n32 (i : Nat) : KV := .int .u32 (.a 0 [(i, 1)])
abbrev n8 (i : Nat) : KV := .int .u8 (.a 0 [(i, 1)])
theorem hS {ρ : Nat → Int} {f : FuncId} {args : List KV} {R : KV} {args' : List V} {R' : V} (h : entS sums f args' = some R') (h1 : absL ρ args = args' := by simp [absL, abs, KI.ev, evT, rho, n64, n32, n8]) (h2 : abs ρ R = R' := by simp [absL, abs, KI.ev, evT, rho, n64, n32, n8]) : entS sums f (absL ρ args) = some (abs ρ R) := by rw [h1, h2]; exact h
theorem fS (rel p q r s : Int) (hr : -9223372036854775808 ≤ rel ∧ rel ≤ 9223372036854775807 := by omega) (hp : -2147483648 ≤ p ∧ p ≤ q ∧ q ≤ 4294967295 := by omega) (hq : -2147483648 ≤ r ∧ r ≤ s ∧ s ≤ 4294967295 := by omega) : entS sums 13 [.int .i64 rel, .agg [.int .i64 p, .int .i64 q], .agg [.int .i64 r, .int .i64 s]] = some (.tuple [.bool (relY rel p q r s), .bool (relN rel p q r s)]) := frelS hr hp hq
theorem rS (rel p q r s : Int) (hr : -9223372036854775808 ≤ rel ∧ rel ≤ 9223372036854775807 := by omega) (hp : -2147483648 ≤ p ∧ p ≤ q ∧ q ≤ 4294967295 := by omega) (hq : -2147483648 ≤ r ∧ r ≤ s ∧ s ≤ 4294967295 := by omega) : entS sums 14 [.int .i64 rel, .agg [.int .i64 p, .int .i64 q], .agg [.int .i64 r, .int .i64 s]] = some (.tuple [.bool (relY rel p q r s), .bool (relN rel p q r s)]) := rrelS hr hp hq
theorem onesIn {n : Int} (h : -2147483648 ≤ n ∧ n ≤ 4294967295) : 0 ≤ onesV n ∧ n ≤ onesV n ∧ onesV n ≤ 4294967295 := by
  rcases (show (n ≤ 0) ∨ (1 ≤ n ∧ n ≤ 1) ∨ (2 ≤ n ∧ n ≤ 3) ∨ (4 ≤ n ∧ n ≤ 7) ∨ (8 ≤ n ∧ n ≤ 15) ∨ (16 ≤ n ∧ n ≤ 31) ∨ (32 ≤ n ∧ n ≤ 63) ∨ (64 ≤ n ∧ n ≤ 127) ∨ (128 ≤ n ∧ n ≤ 255) ∨ (256 ≤ n ∧ n ≤ 511) ∨ (512 ≤ n ∧ n ≤ 1023) ∨ (1024 ≤ n ∧ n ≤ 2047) ∨ (2048 ≤ n ∧ n ≤ 4095) ∨ (4096 ≤ n ∧ n ≤ 8191) ∨ (8192 ≤ n ∧ n ≤ 16383) ∨ (16384 ≤ n ∧ n ≤ 32767) ∨ (32768 ≤ n ∧ n ≤ 65535) ∨ (65536 ≤ n ∧ n ≤ 131071) ∨ (131072 ≤ n ∧ n ≤ 262143) ∨ (262144 ≤ n ∧ n ≤ 524287) ∨ (524288 ≤ n ∧ n ≤ 1048575) ∨ (1048576 ≤ n ∧ n ≤ 2097151) ∨ (2097152 ≤ n ∧ n ≤ 4194303) ∨ (4194304 ≤ n ∧ n ≤ 8388607) ∨ (8388608 ≤ n ∧ n ≤ 16777215) ∨ (16777216 ≤ n ∧ n ≤ 33554431) ∨ (33554432 ≤ n ∧ n ≤ 67108863) ∨ (67108864 ≤ n ∧ n ≤ 134217727) ∨ (134217728 ≤ n ∧ n ≤ 268435455) ∨ (268435456 ≤ n ∧ n ≤ 536870911) ∨ (536870912 ≤ n ∧ n ≤ 1073741823) ∨ (1073741824 ≤ n ∧ n ≤ 2147483647) ∨ (2147483648 ≤ n ∧ n ≤ 4294967295) by omega) with c | c | c | c | c | c | c | c | c | c | c | c | c | c | c | c | c | c | c | c | c | c | c | c | c | c | c | c | c | c | c | c | c
  · rw [onesV0 (by omega)]; omega
  · rw [onesV1 (by omega)]; omega
  · rw [onesV2 (by omega)]; omega
  · rw [onesV3 (by omega)]; omega
  · rw [onesV4 (by omega)]; omega
  · rw [onesV5 (by omega)]; omega
  · rw [onesV6 (by omega)]; omega
  · rw [onesV7 (by omega)]; omega
  · rw [onesV8 (by omega)]; omega
  · rw [onesV9 (by omega)]; omega
  · rw [onesV10 (by omega)]; omega
  · rw [onesV11 (by omega)]; omega
  · rw [onesV12 (by omega)]; omega
  · rw [onesV13 (by omega)]; omega
  · rw [onesV14 (by omega)]; omega
  · rw [onesV15 (by omega)]; omega
  · rw [onesV16 (by omega)]; omega
  · rw [onesV17 (by omega)]; omega
  · rw [onesV18 (by omega)]; omega
  · rw [onesV19 (by omega)]; omega
  · rw [onesV20 (by omega)]; omega
  · rw [onesV21 (by omega)]; omega
  · rw [onesV22 (by omega)]; omega
  · rw [onesV23 (by omega)]; omega
  · rw [onesV24 (by omega)]; omega
  · rw [onesV25 (by omega)]; omega
  · rw [onesV26 (by omega)]; omega
  · rw [onesV27 (by omega)]; omega
  · rw [onesV28 (by omega)]; omega
  · rw [onesV29 (by omega)]; omega
  · rw [onesV30 (by omega)]; omega
  · rw [onesV31 (by omega)]; omega
  · rw [onesV32 (by omega)]; omega
end Go.Proofs.Ytcjnmphpfdlikaa.fs
