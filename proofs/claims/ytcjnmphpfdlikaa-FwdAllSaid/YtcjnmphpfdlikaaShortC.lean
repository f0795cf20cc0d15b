/- Short names for runs and for what is known of operators: plain. No condition. -/
import Derived.Test.YtcjnmphpfdlikaaSumsC
set_option linter.unusedVariables false
set_option linter.unusedSimpArgs false
namespace Go.Fx
open Go Go.Sx Go.Proofs Go.Proofs.Ytcjnmphpfdlikaa Go.Proofs.Ytcjnmphpfdlikaa.fs
abbrev v1 (i : Nat) : KI := .a 0 [(i, 1)]
abbrev cl (i j : Nat) (c : Int) : Con := (c, [(i, 1), (j, -1)])
abbrev cg (i j : Nat) (c : Int) : Con := (c, [(i, -1), (j, 1)])
abbrev bU : Int × Int := (0, 4294967295)
abbrev bI : Int × Int := (-2147483648, 2147483647)
abbrev bL : Int × Int := (-9223372036854775808, 9223372036854775807)
theorem dP {ρ : Nat → Int} {n : Nat} {k : IntKind} {X Y : KI} {x y v : Int} {z : Nat} (e : dfV n k x y = some v) (hx : X.ev ρ = x := by simp [KI.ev, evT, rho, v1] <;> omega) (hy : Y.ev ρ = y := by simp [KI.ev, evT, rho, v1] <;> omega) (hz : ρ z = v := by simp [rho]) : dfV n k (X.ev ρ) (Y.ev ρ) = some (ρ z) := by rw [hx, hy, hz, e]
noncomputable def argA (r : Nat) (u : Bool) (k : Nat) : List KV := [.int .u8 (.a r [(k, 13)]), .bool u, n32 (k + 1), n32 (k + 2), n32 (k + 3), n32 (k + 4), n8 (k + 5), n8 (k + 6), n64 (k + 7)]
noncomputable def tabA (t k : Nat) (x y : KV) (p q : Bool) : Tab := [(11, [], .bool true), (7, [.int .i64 (.p t), n32 (k + 1), n32 (k + 3), n8 (k + 5)], x), (7, [.int .i64 (.p t), n32 (k + 2), n32 (k + 4), n8 (k + 6)], y), (13, [n64 (k + 7), x, y], .tuple [.bool p, .bool q]), (14, [n64 (k + 7), x, y], .tuple [.bool p, .bool q])]
noncomputable abbrev RA (r : Nat) (u : Bool) (t k : Nat) (x y : KV) (p q : Bool) (cx : Cx) : Bool := runK Try.prog (tabK (fstF sums) (tabA t k x y p q)) 100000 4 (argA r u k) cx
theorem aA {ρ : Nat → Int} {r k : Nat} {u : Bool} {a0 a2 a3 a4 a5 a6 a7 a8 : Int} (h0 : r + 13 * ρ k = a0 := by simp [rho] <;> omega) (h2 : ρ (k + 1) = a2 := by simp [rho]) (h3 : ρ (k + 2) = a3 := by simp [rho]) (h4 : ρ (k + 3) = a4 := by simp [rho]) (h5 : ρ (k + 4) = a5 := by simp [rho]) (h6 : ρ (k + 5) = a6 := by simp [rho]) (h7 : ρ (k + 6) = a7 := by simp [rho]) (h8 : ρ (k + 7) = a8 := by simp [rho]) : VRels noMap (absL ρ (argA r u k)) [.int .u8 a0, .bool u, .int .u32 a2, .int .u32 a3, .int .u32 a4, .int .u32 a5, .int .u8 a6, .int .u8 a7, .int .i64 a8] := by
  have e : ∀ (i : Nat) (a : Int), ρ i = a → KI.ev ρ (.a 0 [(i, 1)]) = a := fun i a h => by simp [KI.ev, evT, h]
  refine args_cons (rel_int ?_) (args_cons rel_bool (args_cons (rel_int (e _ _ h2)) (args_cons (rel_int (e _ _ h3)) (args_cons (rel_int (e _ _ h4)) (args_cons (rel_int (e _ _ h5)) (args_cons (rel_int (e _ _ h6)) (args_cons (rel_int (e _ _ h7)) (args_cons (rel_int (e _ _ h8)) args_nil))))))))
  simp only [KI.ev, evT]; omega
noncomputable def argB (r : Nat) (u : Bool) (k : Nat) : List KV := [.int .u8 (.a r [(k, 13)]), .bool u, n32 (k + 3), n32 (k + 1), n32 (k + 4), n32 (k + 2), n8 (k + 5), n8 (k + 6), n64 (k + 7)]
noncomputable def tabB (t k : Nat) (x y : KV) (p q : Bool) : Tab := [(11, [], .bool true), (7, [.int .i64 (.p t), n32 (k + 3), n32 (k + 4), n8 (k + 5)], x), (13, [n64 (k + 7), x, y], .tuple [.bool p, .bool q]), (14, [n64 (k + 7), x, y], .tuple [.bool p, .bool q])]
noncomputable abbrev RB (r : Nat) (u : Bool) (t k : Nat) (x y : KV) (p q : Bool) (cx : Cx) : Bool := runK Try.prog (tabK (fstF sums) (tabB t k x y p q)) 100000 4 (argB r u k) cx
theorem aB {ρ : Nat → Int} {r k : Nat} {u : Bool} {a0 a2 a3 a4 a5 a6 a7 a8 : Int} (h0 : r + 13 * ρ k = a0 := by simp [rho] <;> omega) (h2 : ρ (k + 3) = a2 := by simp [rho]) (h3 : ρ (k + 1) = a3 := by simp [rho]) (h4 : ρ (k + 4) = a4 := by simp [rho]) (h5 : ρ (k + 2) = a5 := by simp [rho]) (h6 : ρ (k + 5) = a6 := by simp [rho]) (h7 : ρ (k + 6) = a7 := by simp [rho]) (h8 : ρ (k + 7) = a8 := by simp [rho]) : VRels noMap (absL ρ (argB r u k)) [.int .u8 a0, .bool u, .int .u32 a2, .int .u32 a3, .int .u32 a4, .int .u32 a5, .int .u8 a6, .int .u8 a7, .int .i64 a8] := by
  have e : ∀ (i : Nat) (a : Int), ρ i = a → KI.ev ρ (.a 0 [(i, 1)]) = a := fun i a h => by simp [KI.ev, evT, h]
  refine args_cons (rel_int ?_) (args_cons rel_bool (args_cons (rel_int (e _ _ h2)) (args_cons (rel_int (e _ _ h3)) (args_cons (rel_int (e _ _ h4)) (args_cons (rel_int (e _ _ h5)) (args_cons (rel_int (e _ _ h6)) (args_cons (rel_int (e _ _ h7)) (args_cons (rel_int (e _ _ h8)) args_nil))))))))
  simp only [KI.ev, evT]; omega
/-! Short names. -/
theorem mB (x y : Int) (hx : -2147483648 ≤ x ∧ x ≤ 2147483647 := by omega) (hy : -2147483648 ≤ y ∧ y ≤ 2147483647 := by omega) : dfV 0 .i64 x y = some (mV x y) ∧ -4611686018427387904 ≤ mV x y ∧ mV x y ≤ 4611686018427387904 := mV_box hx hy
theorem mI (p v q r w s : Int) (h1 : p ≤ v := by omega) (h2 : v ≤ q := by omega) (h3 : r ≤ w := by omega) (h4 : w ≤ s := by omega) :
    (0 ≤ w → 0 ≤ q → mV v w ≤ mV q s) ∧ (0 ≤ w → q ≤ 0 → mV v w ≤ mV q r) ∧ (w ≤ 0 → 0 ≤ p → mV v w ≤ mV p s) ∧ (w ≤ 0 → p ≤ 0 → mV v w ≤ mV p r) ∧
    (0 ≤ w → 0 ≤ p → mV p r ≤ mV v w) ∧ (0 ≤ w → p ≤ 0 → mV p s ≤ mV v w) ∧ (w ≤ 0 → 0 ≤ q → mV q r ≤ mV v w) ∧ (w ≤ 0 → q ≤ 0 → mV q s ≤ mV v w) := mV_in h1 h2 h3 h4
theorem qD (x y : Int) (hx : -4294967296 ≤ x ∧ x ≤ 4294967296 := by omega) (hy : y ≠ 0 := by omega) : dfV 1 .i64 x y = some (qV x y) := (qV_df hx hy).1
theorem q1 (x y : Int) (h : 0 ≤ x := by omega) (hy : 1 ≤ y := by omega) (hx : -4294967296 ≤ x ∧ x ≤ 4294967296 := by omega) : 0 ≤ qV x y ∧ qV x y ≤ x := (qV_df hx (by omega)).2.1 h hy
theorem q2 (x y : Int) (h : x ≤ 0 := by omega) (hy : 1 ≤ y := by omega) (hx : -4294967296 ≤ x ∧ x ≤ 4294967296 := by omega) : x ≤ qV x y ∧ qV x y ≤ 0 := (qV_df hx (by omega)).2.2.1 h hy
theorem q3 (x y : Int) (h : 0 ≤ x := by omega) (hy : y ≤ -1 := by omega) (hx : -4294967296 ≤ x ∧ x ≤ 4294967296 := by omega) : -x ≤ qV x y ∧ qV x y ≤ 0 := (qV_df hx (by omega)).2.2.2.1 h hy
theorem q4 (x y : Int) (h : x ≤ 0 := by omega) (hy : y ≤ -1 := by omega) (hx : -4294967296 ≤ x ∧ x ≤ 4294967296 := by omega) : 0 ≤ qV x y ∧ qV x y ≤ -x := (qV_df hx (by omega)).2.2.2.2.1 h hy
theorem q5 (x y : Int) (hy : y = -1 := by omega) (hx : -4294967296 ≤ x ∧ x ≤ 4294967296 := by omega) : qV x y = -x := (qV_df hx (by omega)).2.2.2.2.2.1 hy
theorem q6 (x y : Int) (hy : 2 ≤ y.natAbs := by omega) (hx : -4294967296 ≤ x ∧ x ≤ 4294967296 := by omega) : 2 * (qV x y).natAbs ≤ x.natAbs := (qV_df hx (by omega)).2.2.2.2.2.2 hy
theorem qI (p v q a w b : Int) (h1 : p ≤ v := by omega) (h2 : v ≤ q := by omega) (h3 : a ≤ w := by omega) (h4 : w ≤ b := by omega) (ha : 1 ≤ a := by omega) :
    (0 ≤ v → qV v w ≤ qV q a ∧ qV p b ≤ qV v w) ∧ (v ≤ 0 → qV v w ≤ qV q b ∧ qV p a ≤ qV v w) := qV_in h1 h2 h3 h4 ha
theorem qJ (p v q a w b : Int) (h1 : p ≤ v := by omega) (h2 : v ≤ q := by omega) (h3 : a ≤ w := by omega) (h4 : w ≤ b := by omega) (hb : b ≤ -1 := by omega) :
    (0 ≤ v → qV q b ≤ qV v w ∧ qV v w ≤ qV p a) ∧ (v ≤ 0 → qV q a ≤ qV v w ∧ qV v w ≤ qV p b) := qV_in' h1 h2 h3 h4 hb
theorem rD (x y : Int) (hy : y ≠ 0 := by omega) : dfV 2 .i64 x y = some (rV x y) := (rV_df hy).1
theorem rP (x y : Int) (h : 0 ≤ x := by omega) (hy : y ≠ 0 := by omega) : 0 ≤ rV x y ∧ rV x y ≤ x := (rV_df hy).2.1 h
theorem rN (x y : Int) (h : x ≤ 0 := by omega) (hy : y ≠ 0 := by omega) : x ≤ rV x y ∧ rV x y ≤ 0 := (rV_df hy).2.2.1 h
theorem rU (x y : Int) (hy : 1 ≤ y := by omega) : rV x y ≤ y - 1 ∧ 1 - y ≤ rV x y := (rV_df (by omega)).2.2.2.1 hy
theorem rW (x y : Int) (hy : y ≤ -1 := by omega) : rV x y ≤ -y - 1 ∧ y + 1 ≤ rV x y := (rV_df (by omega)).2.2.2.2.1 hy
theorem rS (x y : Int) (h : 0 ≤ x := by omega) (hy : x < y := by omega) : rV x y = x := (rV_df (by omega)).2.2.2.2.2 h hy
theorem lD (x y : Int) (hy : 0 ≤ y ∧ y ≤ 31 := by omega) (hx : -2147483648 ≤ x ∧ x ≤ 4294967295 := by omega) : dfV 8 .i64 x y = some (lV x y) ∧ -9223372036854775808 ≤ lV x y ∧ lV x y ≤ 9223372036854775807 ∧ (0 ≤ x → x ≤ lV x y) := lV_df hy hx
theorem lM (x x' y y' : Int) (hx : 0 ≤ x := by omega) (h : x ≤ x' := by omega) (hy : 0 ≤ y := by omega) (h' : y ≤ y' := by omega) : lV x y ≤ lV x' y' := lV_mono hx h hy h'
theorem lN (x x' y : Int) (hx : 0 ≤ x := by omega) (h : x ≤ x' := by omega) (hy : 0 ≤ y ∧ y ≤ 31 := by omega) : lV x y ≤ 2147483648 * x' := lV_31 hx h hy
theorem hD (x y : Int) (hy : 0 ≤ y := by omega) : dfV 6 .i64 x y = some (hV x y) := (hV_df hy).1
theorem hP (x y : Int) (h : 0 ≤ x := by omega) (hy : 0 ≤ y := by omega) : 0 ≤ hV x y ∧ hV x y ≤ x := (hV_df hy).2.1 h
theorem hN (x y : Int) (h : x < 0 := by omega) (hy : 0 ≤ y := by omega) : x ≤ hV x y ∧ hV x y < 0 := (hV_df hy).2.2 h
theorem hI (p v q a w b : Int) (h1 : p ≤ v := by omega) (h2 : v ≤ q := by omega) (h3 : a ≤ w := by omega) (h4 : w ≤ b := by omega) :
    (0 ≤ p → hV p b ≤ hV v w) ∧ (p < 0 → hV p a ≤ hV v w) ∧ (0 ≤ q → hV v w ≤ hV q a) ∧ (q < 0 → hV v w ≤ hV q b) := hV_in h1 h2 h3 h4
end Go.Fx
