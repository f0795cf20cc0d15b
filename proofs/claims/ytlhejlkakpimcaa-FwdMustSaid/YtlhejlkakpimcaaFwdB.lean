/- Bounds of products, quotients, what is left, bits, shifts: plain. -/
import Derived.Test.YtlhejlkakpimcaaKitB5
set_option linter.unusedVariables false
set_option linter.unusedSimpArgs false

namespace Go.Fx
open Go.Sx

theorem w64 (n : Int) (h1 : -9223372036854775808 ≤ n) (h2 : n ≤ 9223372036854775807) : IntKind.wrap .i64 n = n := wrap_in .i64 n (by simpa [kLo] using h1) (by simpa [kMax] using h2)
theorem u64 (n : Int) (h1 : 0 ≤ n) (h2 : n ≤ 18446744073709551615) : IntKind.wrap .u64 n = n := wrap_in .u64 n (by simpa [kLo] using h1) (by simpa [kMax] using h2)
theorem mul_abs {x y : Int} {a b : Nat} (hx : x.natAbs ≤ a) (hy : y.natAbs ≤ b) : (x * y).natAbs ≤ a * b := by
  rw [Int.natAbs_mul]; exact Nat.mul_le_mul hx hy

/-- A product of two 32-bit numbers. -/
theorem mulI {x y : Int} (hx : -2147483648 ≤ x ∧ x ≤ 2147483647) (hy : -2147483648 ≤ y ∧ y ≤ 2147483647) :
    ∃ z, dfV 0 .i64 x y = some z ∧ -4611686018427387904 ≤ z ∧ z ≤ 4611686018427387904 := by
  have h := mul_abs (a := 2147483648) (b := 2147483648) (x := x) (y := y) (by omega) (by omega)
  generalize hz : x * y = z at h
  refine ⟨z, ?_, by omega, by omega⟩
  simp only [dfV, hz]
  rw [w64 _ (by omega) (by omega)]
theorem tdivT {x y : Int} (hx : 0 ≤ x) (hy : 1 ≤ y) : (x ≤ (4294967295 : Int).tdiv y ↔ x * y ≤ 4294967295) ∧ 0 ≤ (4294967295 : Int).tdiv y ∧ (4294967295 : Int).tdiv y ≤ 4294967295 := by
  rw [Int.tdiv_eq_ediv_of_nonneg (by omega)]
  refine ⟨Int.le_ediv_iff_mul_le (by omega), Int.ediv_nonneg (by omega) (by omega), ?_⟩
  exact Int.ediv_le_self _ (by omega)
theorem quoT {y : Int} (hy : 1 ≤ y) : dfV 1 .i64 4294967295 y = some ((4294967295 : Int).tdiv y) := by
  have h := (tdivT (x := 0) (by omega) hy).2
  simp only [dfV, if_neg (show ¬ y = 0 by omega)]
  rw [w64 _ (by omega) (by omega)]
/-- A product of two unsigned ones that stays. -/
theorem mulUa {x y : Int} (hx : 0 ≤ x ∧ x ≤ 4294967295) (hy : 1 ≤ y ∧ y ≤ 4294967295) (h : x * y ≤ 4294967295) :
    ∃ q z, dfV 1 .i64 4294967295 y = some q ∧ dfV 0 .i64 x y = some z ∧ dfV 0 .u64 x y = some z ∧ 0 ≤ z ∧ z ≤ 4294967295 ∧ x ≤ q ∧ 0 ≤ q ∧ q ≤ 4294967295 := by
  obtain ⟨h1, h2, h3⟩ := tdivT (x := x) hx.1 hy.1
  have h0 : 0 ≤ x * y := Int.mul_nonneg hx.1 (by omega)
  refine ⟨_, x * y, quoT hy.1, ?_, ?_, h0, h, h1.2 h, h2, h3⟩
  · simp only [dfV]; rw [w64 _ (by omega) (by omega)]
  · simp only [dfV]; rw [u64 _ (by omega) (by omega)]
theorem conv32 (n : Int) : ∃ w, dfV 7 .u32 n 0 = some w ∧ 0 ≤ w ∧ w ≤ 4294967295 := by
  refine ⟨_, rfl, ?_⟩
  simp only [IntKind.wrap, IntKind.bits, IntKind.signed, Bool.false_and, Bool.false_eq_true, if_false]
  omega
theorem conv64 (n : Int) : ∃ w, dfV 7 .i64 n 0 = some w ∧ -9223372036854775808 ≤ w ∧ w ≤ 9223372036854775807 := by
  refine ⟨_, rfl, ?_⟩
  simp only [IntKind.wrap, IntKind.bits, IntKind.signed, Bool.true_and, decide_eq_true_eq, Nat.reduceSub, ge_iff_le]
  split <;> omega
/-- A product of two unsigned ones that does not stay. -/
theorem mulUb {x y : Int} (hx : 0 ≤ x ∧ x ≤ 4294967295) (hy : 1 ≤ y ∧ y ≤ 4294967295) (h : 4294967296 ≤ x * y) :
    ∃ q z s w, dfV 1 .i64 4294967295 y = some q ∧ dfV 0 .u64 x y = some z ∧ dfV 7 .i64 z 0 = some s ∧ dfV 7 .u32 s 0 = some w ∧ 0 ≤ z ∧ z ≤ 18446744073709551615 ∧ -9223372036854775808 ≤ s ∧ s ≤ 9223372036854775807 ∧ 0 ≤ w ∧ w ≤ 4294967295 ∧ q + 1 ≤ x ∧ 0 ≤ q ∧ q ≤ 4294967295 := by
  obtain ⟨h1, h2, h3⟩ := tdivT (x := x) hx.1 hy.1
  have hab := mul_abs (a := 4294967295) (b := 4294967295) (x := x) (y := y) (by omega) (by omega)
  have hn : ¬ x ≤ (4294967295 : Int).tdiv y := fun e => by have := h1.1 e; omega
  obtain ⟨s, e1, s1, s2⟩ := conv64 (x * y)
  obtain ⟨w, e2, w1, w2⟩ := conv32 s
  refine ⟨_, x * y, s, w, quoT hy.1, ?_, e1, e2, by omega, by omega, s1, s2, w1, w2, by omega, h2, h3⟩
  simp only [dfV]; rw [u64 _ (by omega) (by omega)]

/-- A quotient. -/
theorem quo {x y : Int} (hx : -4294967296 ≤ x ∧ x ≤ 4294967296) (hy : y ≠ 0) : ∃ z, dfV 1 .i64 x y = some z ∧ z.natAbs ≤ x.natAbs ∧ (2 ≤ y.natAbs → 2 * z.natAbs ≤ x.natAbs) ∧ (0 ≤ x → 0 < y → 0 ≤ z) ∧ (x ≤ 0 → 0 < y → z ≤ 0) ∧ (0 ≤ x → y < 0 → z ≤ 0) ∧ (x ≤ 0 → y < 0 → 0 ≤ z) := by
  have ha : (x.tdiv y).natAbs = x.natAbs / y.natAbs := Int.natAbs_tdiv x y
  have h1 : (x.tdiv y).natAbs ≤ x.natAbs := by rw [ha]; exact Nat.div_le_self _ _
  refine ⟨x.tdiv y, ?_, h1, ?_, ?_, ?_, ?_, ?_⟩
  · simp only [dfV, if_neg hy]; rw [w64 _ (by omega) (by omega)]
  · intro h2
    rw [ha]
    have := Nat.div_le_div_left h2 (by omega : 0 < 2) (a := x.natAbs)
    omega
  · intro a b; exact Int.tdiv_nonneg a (by omega)
  · intro a b
    have := Int.tdiv_nonneg (a := -x) (b := y) (by omega) (by omega)
    rw [Int.neg_tdiv] at this; omega
  · intro a b
    have := Int.tdiv_nonneg (a := x) (b := -y) (by omega) (by omega)
    rw [Int.tdiv_neg] at this; omega
  · intro a b
    have := Int.tdiv_nonneg (a := -x) (b := -y) (by omega) (by omega)
    rw [Int.neg_tdiv, Int.tdiv_neg] at this; omega
/-- What is left by a division. -/
theorem rem {x y : Int} (hy : y ≠ 0) : ∃ z, dfV 2 .i64 x y = some z ∧ z.natAbs ≤ x.natAbs ∧ z.natAbs < y.natAbs ∧ (0 ≤ x → 0 ≤ z) ∧ (x ≤ 0 → z ≤ 0) ∧ (x.natAbs < y.natAbs → z = x) := by
  have ha : (x.tmod y).natAbs = x.natAbs % y.natAbs := Int.natAbs_tmod x y
  have hs1 : 0 ≤ x → 0 ≤ x.tmod y := fun h => Int.tmod_nonneg y h
  have hs2 : x ≤ 0 → x.tmod y ≤ 0 := fun h => by
    have := Int.tmod_nonneg (a := -x) y (by omega)
    rw [Int.neg_tmod] at this; omega
  refine ⟨x.tmod y, by simp only [dfV, if_neg hy], by rw [ha]; exact Nat.mod_le _ _, by rw [ha]; exact Nat.mod_lt _ (by omega), hs1, hs2, fun h => ?_⟩
  have : (x.tmod y).natAbs = x.natAbs := by rw [ha]; exact Nat.mod_eq_of_lt h
  rcases Int.le_total 0 x with h0 | h0
  · have := hs1 h0; omega
  · have := hs2 h0; omega
/-- A shift to the right. -/
theorem shr {x : Int} (c : Nat) (hc : c ≤ 31) (hx : -2147483648 ≤ x ∧ x ≤ 4294967295) : ∃ z, dfV 6 .i64 x c = some z ∧ (0 ≤ x → 0 ≤ z ∧ z ≤ x) ∧ (x < 0 → x ≤ z ∧ z < 0) := by
  have hp : (0 : Int) < 2 ^ c := Int.pow_pos (by omega)
  have e : min ((c : Int).toNat) (IntKind.bits .i64) = c := by simp [IntKind.bits]; omega
  refine ⟨x / 2 ^ c, ?_, fun h => ⟨Int.ediv_nonneg h (by omega), Int.ediv_le_self _ h⟩, fun h => ⟨?_, Int.ediv_neg_of_neg_of_pos h hp⟩⟩
  · simp only [dfV, if_neg (show ¬ (c : Int) < 0 by omega), e]
    rw [Int.fdiv_eq_ediv_of_nonneg _ (by omega)]
  · have := Int.ediv_mul_le (a := x) (b := 2 ^ c) (by omega)
    refine Int.le_ediv_of_mul_le hp ?_
    have := Int.mul_le_mul_of_nonpos_left (a := x) (b := 2 ^ c) (c := 1) (by omega) (by omega)
    omega
end Go.Fx

namespace Go.Fx
open Go.Sx
theorem ofI {x : Int} (hx : 0 ≤ x ∧ x ≤ 4294967295) : (BitVec.ofInt (IntKind.bits .i64) x).toNat = x.toNat := by
  have hb : IntKind.bits .i64 = 64 := rfl
  rw [hb, BitVec.toNat_ofInt]
  have : x % ((2 ^ 64 : Nat) : Int) = x := Int.emod_eq_of_lt hx.1 (by omega)
  rw [this]
theorem bitU {n : Nat} (hn : n = 3 ∨ n = 4 ∨ n = 5) {x y : Int} (hx : 0 ≤ x ∧ x ≤ 4294967295) (hy : 0 ≤ y ∧ y ≤ 4294967295) : ∃ z, dfV n .i64 x y = some z ∧ 0 ≤ z ∧ z ≤ 4294967295 := by
  have a := ofI hx; have b := ofI hy
  have la : x.toNat < 2 ^ 32 := by omega
  have lb : y.toNat < 2 ^ 32 := by omega
  rcases hn with rfl | rfl | rfl
  · have e : ((BitVec.ofInt (IntKind.bits .i64) x &&& BitVec.ofInt (IntKind.bits .i64) y).toNat) = x.toNat &&& y.toNat := by rw [BitVec.toNat_and, a, b]
    have h := Nat.and_lt_two_pow x.toNat lb
    refine ⟨((x.toNat &&& y.toNat : Nat) : Int), ?_, by omega, by omega⟩
    simp only [dfV, e]; rw [w64 _ (by omega) (by omega)]
  · have e : ((BitVec.ofInt (IntKind.bits .i64) x ||| BitVec.ofInt (IntKind.bits .i64) y).toNat) = x.toNat ||| y.toNat := by rw [BitVec.toNat_or, a, b]
    have h := Nat.or_lt_two_pow la lb
    refine ⟨((x.toNat ||| y.toNat : Nat) : Int), ?_, by omega, by omega⟩
    simp only [dfV, e]; rw [w64 _ (by omega) (by omega)]
  · have e : ((BitVec.ofInt (IntKind.bits .i64) x ^^^ BitVec.ofInt (IntKind.bits .i64) y).toNat) = x.toNat ^^^ y.toNat := by rw [BitVec.toNat_xor, a, b]
    have h := Nat.xor_lt_two_pow la lb
    refine ⟨((x.toNat ^^^ y.toNat : Nat) : Int), ?_, by omega, by omega⟩
    simp only [dfV, e]; rw [w64 _ (by omega) (by omega)]
theorem wrapB (r : BitVec 64) : IntKind.wrap .i64 (r.toNat : Int) = r.toInt := by
  have hb := r.isLt
  rw [BitVec.toInt_eq_toNat_cond]
  simp only [IntKind.wrap, IntKind.bits, IntKind.signed, Bool.true_and, decide_eq_true_eq, Nat.reduceSub, ge_iff_le, Int.reducePow, Nat.reducePow]
  split <;> split <;> omega
theorem ext {x : Int} (hx : -2147483648 ≤ x ∧ x ≤ 2147483647) : BitVec.ofInt 64 x = (BitVec.ofInt 32 x).signExtend 64 := by
  have e : (BitVec.ofInt 32 x).toInt = x := BitVec.toInt_ofInt_eq_self (by omega) (by omega) (by omega)
  show _ = BitVec.ofInt 64 (BitVec.ofInt 32 x).toInt
  rw [e]
theorem bitI {n : Nat} (hn : n = 3 ∨ n = 4 ∨ n = 5) {x y : Int} (hx : -2147483648 ≤ x ∧ x ≤ 2147483647) (hy : -2147483648 ≤ y ∧ y ≤ 2147483647) : ∃ z, dfV n .i64 x y = some z ∧ -2147483648 ≤ z ∧ z ≤ 2147483647 := by
  have key : ∀ r : BitVec 32, -2147483648 ≤ IntKind.wrap .i64 ((r.signExtend 64).toNat : Int) ∧ IntKind.wrap .i64 ((r.signExtend 64).toNat : Int) ≤ 2147483647 := fun r => by
    rw [wrapB, BitVec.toInt_signExtend_of_le (by omega)]
    have h1 := BitVec.toInt_lt (x := r); have h2 := BitVec.le_toInt (x := r)
    omega
  have a := ext hx; have b := ext hy
  rcases hn with rfl | rfl | rfl
  · refine ⟨IntKind.wrap .i64 ((BitVec.ofInt 64 x &&& BitVec.ofInt 64 y).toNat : Int), rfl, ?_⟩
    rw [a, b, ← BitVec.signExtend_and]; exact key _
  · refine ⟨IntKind.wrap .i64 ((BitVec.ofInt 64 x ||| BitVec.ofInt 64 y).toNat : Int), rfl, ?_⟩
    rw [a, b, ← BitVec.signExtend_or]; exact key _
  · refine ⟨IntKind.wrap .i64 ((BitVec.ofInt 64 x ^^^ BitVec.ofInt 64 y).toNat : Int), rfl, ?_⟩
    rw [a, b, ← BitVec.signExtend_xor]; exact key _
end Go.Fx

namespace Go.Fx
open Go.Sx
theorem df_of {ρ : Nat → Int} {n : Nat} {k : IntKind} {X Y : KI} {x y v : Int} {z : Nat} (hx : X.ev ρ = x) (hy : Y.ev ρ = y) (hz : ρ z = v) (e : dfV n k x y = some v) : dfV n k (X.ev ρ) (Y.ev ρ) = some (ρ z) := by rw [hx, hy, hz, e]
theorem convI (n : Int) : ∃ w, dfV 7 .i32 n 0 = some w ∧ -2147483648 ≤ w ∧ w ≤ 2147483647 := by
  refine ⟨_, rfl, ?_⟩
  simp only [IntKind.wrap, IntKind.bits, IntKind.signed, Bool.true_and, decide_eq_true_eq, Nat.reduceSub, ge_iff_le]
  split <;> omega
theorem mulS {x y : Int} (hx : -20 ≤ x ∧ x ≤ 20) (hy : -20 ≤ y ∧ y ≤ 20) : ∃ z, dfV 0 .i64 x y = some z ∧ -400 ≤ z ∧ z ≤ 400 := by
  have h := mul_abs (a := 20) (b := 20) (x := x) (y := y) (by omega) (by omega)
  generalize hz : x * y = z at h
  refine ⟨z, ?_, by omega, by omega⟩
  simp only [dfV, hz]
  rw [w64 _ (by omega) (by omega)]
theorem mulA (x y : Int) : ∃ z, dfV 0 .i64 x y = some z ∧ -9223372036854775808 ≤ z ∧ z ≤ 9223372036854775807 := conv64 (x * y)
theorem mulB (x y : Int) : ∃ z, dfV 0 .u64 x y = some z ∧ 0 ≤ z ∧ z ≤ 18446744073709551615 := by
  refine ⟨_, rfl, ?_⟩
  simp only [IntKind.wrap, IntKind.bits, IntKind.signed, Bool.false_and, Bool.false_eq_true, if_false]
  omega
theorem quoU {y : Int} (hy : 1 ≤ y) : ∃ z, dfV 1 .i64 4294967295 y = some z ∧ 0 ≤ z ∧ z ≤ 4294967295 := ⟨_, quoT hy, (tdivT (x := 0) (by omega) hy).2⟩
theorem shrZ {x y : Int} (hy : 0 ≤ y ∧ y ≤ 31) (hx : -2147483648 ≤ x ∧ x ≤ 4294967295) : ∃ z, dfV 6 .i64 x y = some z ∧ (0 ≤ x → 0 ≤ z ∧ z ≤ x) ∧ (x < 0 → x ≤ z ∧ z < 0) := by
  have h := shr (x := x) y.toNat (by omega) hx
  rwa [Int.toNat_of_nonneg hy.1] at h
theorem shl_eq {x y : Int} (hy : 0 ≤ y ∧ y ≤ 31) (hx : -2147483648 ≤ x ∧ x ≤ 4294967295) : dfV 8 .i64 x y = some (x * 2 ^ y.toNat) ∧ -9223372036854775808 ≤ x * 2 ^ y.toNat ∧ x * 2 ^ y.toNat ≤ 9223372036854775807 := by
  have hp : ((2 : Int) ^ y.toNat).natAbs ≤ 2147483648 := by
    rw [Int.natAbs_pow]
    exact Nat.pow_le_pow_right (n := 2) (by omega) (show y.toNat ≤ 31 by omega)
  have h := mul_abs (a := 4294967295) (b := 2147483648) (x := x) (y := 2 ^ y.toNat) (by omega) hp
  have hb : -9223372036854775808 ≤ x * 2 ^ y.toNat ∧ x * 2 ^ y.toNat ≤ 9223372036854775807 := by
    generalize x * 2 ^ y.toNat = z at h ⊢
    omega
  refine ⟨?_, hb⟩
  have e : min y.toNat (IntKind.bits .i64) = y.toNat := by simp [IntKind.bits]; omega
  simp only [dfV, if_neg (show ¬ y < 0 by omega), e]
  rw [w64 _ hb.1 hb.2]
theorem shl1 {x y : Int} (hy : 0 ≤ y ∧ y ≤ 31) (hx : -2147483648 ≤ x ∧ x ≤ 4294967295) : ∃ z, dfV 8 .i64 x y = some z ∧ -9223372036854775808 ≤ z ∧ z ≤ 9223372036854775807 := ⟨_, shl_eq hy hx⟩
theorem shl3 {x a b c : Int} (ha : 0 ≤ a) (hab : a ≤ b) (hbc : b ≤ c) (hc : c ≤ 31) (hx : 0 ≤ x ∧ x ≤ 4294967295) : ∃ z0 z1 z2, dfV 8 .i64 x a = some z0 ∧ dfV 8 .i64 x b = some z1 ∧ dfV 8 .i64 x c = some z2 ∧ z0 ≤ z1 ∧ z1 ≤ z2 ∧ 0 ≤ z0 ∧ z2 ≤ 9223372036854775807 := by
  have mono : ∀ p q : Int, p ≤ q → x * 2 ^ p.toNat ≤ x * 2 ^ q.toNat := fun p q h => by
    refine Int.mul_le_mul_of_nonneg_left ?_ hx.1
    have := Nat.pow_le_pow_right (n := 2) (by omega) (show p.toNat ≤ q.toNat by omega)
    exact_mod_cast this
  have h0 : (0 : Int) ≤ x * 2 ^ a.toNat := Int.mul_nonneg hx.1 (Int.le_of_lt (Int.pow_pos (by omega)))
  exact ⟨_, _, _, (shl_eq ⟨ha, by omega⟩ (by omega)).1, (shl_eq ⟨by omega, by omega⟩ (by omega)).1, (shl_eq ⟨by omega, hc⟩ (by omega)).1, mono _ _ hab, mono _ _ hbc, h0, (shl_eq ⟨by omega, hc⟩ (by omega)).2.2⟩
end Go.Fx

namespace Go.Fx
open Go.Sx
theorem ri {μ : Map} {ρ : Nat → Int} {k : IntKind} {x : KI} {a : Int} (h : x.ev ρ = a := by first | (simp [KI.ev, evT, rho] <;> omega) | (simp [KI.ev] <;> omega)) : VRel μ (abs ρ (.int k x)) (.int k a) := rel_int h
theorem dO {ρ : Nat → Int} {n : Nat} {k : IntKind} {X Y : KI} {x y v : Int} {z : Nat} (e : dfV n k x y = some v) (hx : X.ev ρ = x := by simp [KI.ev, evT, rho] <;> omega) (hy : Y.ev ρ = y := by simp [KI.ev, evT, rho] <;> omega) (hz : ρ z = v := by simp [rho]) : dfV n k (X.ev ρ) (Y.ev ρ) = some (ρ z) := by rw [hx, hy, hz, e]
end Go.Fx
