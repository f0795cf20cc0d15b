/- Bounds of products, quotients, what is left, bits, shifts: plain. -/
import Derived.Test.YtcjnmphpfdlikaaKitD5
set_option linter.unusedVariables false
set_option linter.unusedSimpArgs false

namespace Go.Fx
open Go.Sx

theorem w64 (n : Int) (h1 : -9223372036854775808 ≤ n) (h2 : n ≤ 9223372036854775807) : IntKind.wrap .i64 n = n := wrap_in .i64 n (by simpa [kLo] using h1) (by simpa [kMax] using h2)
theorem u64 (n : Int) (h1 : 0 ≤ n) (h2 : n ≤ 18446744073709551615) : IntKind.wrap .u64 n = n := wrap_in .u64 n (by simpa [kLo] using h1) (by simpa [kMax] using h2)
theorem mul_abs {x y : Int} {a b : Nat} (hx : x.natAbs ≤ a) (hy : y.natAbs ≤ b) : (x * y).natAbs ≤ a * b := by
  rw [Int.natAbs_mul]; exact Nat.mul_le_mul hx hy

/-- A product of two 32-bit numbers. -/
theorem mulI {x y : Int} (hx : -2147483648 ≤ x ∧ x ≤ 2147483647) (hy : -2147483648 ≤ y ∧ y ≤ 2147483647) :
    ∃ z, dfV 0 .i64 x y = some z ∧ -4611686018427387904 ≤ z ∧ z ≤ 4611686018427387904 := by
  have h := mul_abs (a := 2147483648) (b := 2147483648) (x := x) (y := y) (by omega) (by omega)
  generalize hz : x * y = z at h
  refine ⟨z, ?_, by omega, by omega⟩
  simp only [dfV, hz]
  rw [w64 _ (by omega) (by omega)]
theorem tdivT {x y : Int} (hx : 0 ≤ x) (hy : 1 ≤ y) : (x ≤ (4294967295 : Int).tdiv y ↔ x * y ≤ 4294967295) ∧ 0 ≤ (4294967295 : Int).tdiv y ∧ (4294967295 : Int).tdiv y ≤ 4294967295 := by
  rw [Int.tdiv_eq_ediv_of_nonneg (by omega)]
  refine ⟨Int.le_ediv_iff_mul_le (by omega), Int.ediv_nonneg (by omega) (by omega), ?_⟩
  exact Int.ediv_le_self _ (by omega)
theorem quoT {y : Int} (hy : 1 ≤ y) : dfV 1 .i64 4294967295 y = some ((4294967295 : Int).tdiv y) := by
  have h := (tdivT (x := 0) (by omega) hy).2
  simp only [dfV, if_neg (show ¬ y = 0 by omega)]
  rw [w64 _ (by omega) (by omega)]
/-- A product of two unsigned ones that stays. -/
theorem mulUa {x y : Int} (hx : 0 ≤ x ∧ x ≤ 4294967295) (hy : 1 ≤ y ∧ y ≤ 4294967295) (h : x * y ≤ 4294967295) :
    ∃ q z, dfV 1 .i64 4294967295 y = some q ∧ dfV 0 .i64 x y = some z ∧ dfV 0 .u64 x y = some z ∧ 0 ≤ z ∧ z ≤ 4294967295 ∧ x ≤ q ∧ 0 ≤ q ∧ q ≤ 4294967295 := by
  obtain ⟨h1, h2, h3⟩ := tdivT (x := x) hx.1 hy.1
  have h0 : 0 ≤ x * y := Int.mul_nonneg hx.1 (by omega)
  refine ⟨_, x * y, quoT hy.1, ?_, ?_, h0, h, h1.2 h, h2, h3⟩
  · simp only [dfV]; rw [w64 _ (by omega) (by omega)]
  · simp only [dfV]; rw [u64 _ (by omega) (by omega)]
theorem conv32 (n : Int) : ∃ w, dfV 7 .u32 n 0 = some w ∧ 0 ≤ w ∧ w ≤ 4294967295 := by
  refine ⟨_, rfl, ?_⟩
  simp only [IntKind.wrap, IntKind.bits, IntKind.signed, Bool.false_and, Bool.false_eq_true, if_false]
  omega
theorem conv64 (n : Int) : ∃ w, dfV 7 .i64 n 0 = some w ∧ -9223372036854775808 ≤ w ∧ w ≤ 9223372036854775807 := by
  refine ⟨_, rfl, ?_⟩
  simp only [IntKind.wrap, IntKind.bits, IntKind.signed, Bool.true_and, decide_eq_true_eq, Nat.reduceSub, ge_iff_le]
  split <;> omega
/-- A product of two unsigned ones that does not stay. -/
theorem mulUb {x y : Int} (hx : 0 ≤ x ∧ x ≤ 4294967295) (hy : 1 ≤ y ∧ y ≤ 4294967295) (h : 4294967296 ≤ x * y) :
    ∃ q z s w, dfV 1 .i64 4294967295 y = some q ∧ dfV 0 .u64 x y = some z ∧ dfV 7 .i64 z 0 = some s ∧ dfV 7 .u32 s 0 = some w ∧ 0 ≤ z ∧ z ≤ 18446744073709551615 ∧ -9223372036854775808 ≤ s ∧ s ≤ 9223372036854775807 ∧ 0 ≤ w ∧ w ≤ 4294967295 ∧ q + 1 ≤ x ∧ 0 ≤ q ∧ q ≤ 4294967295 := by
  obtain ⟨h1, h2, h3⟩ := tdivT (x := x) hx.1 hy.1
  have hab := mul_abs (a := 4294967295) (b := 4294967295) (x := x) (y := y) (by omega) (by omega)
  have hn : ¬ x ≤ (4294967295 : Int).tdiv y := fun e => by have := h1.1 e; omega
  obtain ⟨s, e1, s1, s2⟩ := conv64 (x * y)
  obtain ⟨w, e2, w1, w2⟩ := conv32 s
  refine ⟨_, x * y, s, w, quoT hy.1, ?_, e1, e2, by omega, by omega, s1, s2, w1, w2, by omega, h2, h3⟩
  simp only [dfV]; rw [u64 _ (by omega) (by omega)]

/-- A quotient. -/
theorem quo {x y : Int} (hx : -4294967296 ≤ x ∧ x ≤ 4294967296) (hy : y ≠ 0) : ∃ z, dfV 1 .i64 x y = some z ∧ z.natAbs ≤ x.natAbs ∧ (2 ≤ y.natAbs → 2 * z.natAbs ≤ x.natAbs) ∧ (0 ≤ x → 0 < y → 0 ≤ z) ∧ (x ≤ 0 → 0 < y → z ≤ 0) ∧ (0 ≤ x → y < 0 → z ≤ 0) ∧ (x ≤ 0 → y < 0 → 0 ≤ z) := by
  have ha : (x.tdiv y).natAbs = x.natAbs / y.natAbs := Int.natAbs_tdiv x y
  have h1 : (x.tdiv y).natAbs ≤ x.natAbs := by rw [ha]; exact Nat.div_le_self _ _
  refine ⟨x.tdiv y, ?_, h1, ?_, ?_, ?_, ?_, ?_⟩
  · simp only [dfV, if_neg hy]; rw [w64 _ (by omega) (by omega)]
  · intro h2
    rw [ha]
    have := Nat.div_le_div_left h2 (by omega : 0 < 2) (a := x.natAbs)
    omega
  · intro a b; exact Int.tdiv_nonneg a (by omega)
  · intro a b
    have := Int.tdiv_nonneg (a := -x) (b := y) (by omega) (by omega)
    rw [Int.neg_tdiv] at this; omega
  · intro a b
    have := Int.tdiv_nonneg (a := x) (b := -y) (by omega) (by omega)
    rw [Int.tdiv_neg] at this; omega
  · intro a b
    have := Int.tdiv_nonneg (a := -x) (b := -y) (by omega) (by omega)
    rw [Int.neg_tdiv, Int.tdiv_neg] at this; omega
/-- What is left by a division. -/
theorem rem {x y : Int} (hy : y ≠ 0) : ∃ z, dfV 2 .i64 x y = some z ∧ z.natAbs ≤ x.natAbs ∧ z.natAbs < y.natAbs ∧ (0 ≤ x → 0 ≤ z) ∧ (x ≤ 0 → z ≤ 0) ∧ (x.natAbs < y.natAbs → z = x) := by
  have ha : (x.tmod y).natAbs = x.natAbs % y.natAbs := Int.natAbs_tmod x y
  have hs1 : 0 ≤ x → 0 ≤ x.tmod y := fun h => Int.tmod_nonneg y h
  have hs2 : x ≤ 0 → x.tmod y ≤ 0 := fun h => by
    have := Int.tmod_nonneg (a := -x) y (by omega)
    rw [Int.neg_tmod] at this; omega
  refine ⟨x.tmod y, by simp only [dfV, if_neg hy], by rw [ha]; exact Nat.mod_le _ _, by rw [ha]; exact Nat.mod_lt _ (by omega), hs1, hs2, fun h => ?_⟩
  have : (x.tmod y).natAbs = x.natAbs := by rw [ha]; exact Nat.mod_eq_of_lt h
  rcases Int.le_total 0 x with h0 | h0
  · have := hs1 h0; omega
  · have := hs2 h0; omega
/-- A shift to the right. -/
theorem shr {x : Int} (c : Nat) (hc : c ≤ 31) (hx : -2147483648 ≤ x ∧ x ≤ 4294967295) : ∃ z, dfV 6 .i64 x c = some z ∧ (0 ≤ x → 0 ≤ z ∧ z ≤ x) ∧ (x < 0 → x ≤ z ∧ z < 0) := by
  have hp : (0 : Int) < 2 ^ c := Int.pow_pos (by omega)
  have e : min ((c : Int).toNat) (IntKind.bits .i64) = c := by simp [IntKind.bits]; omega
  refine ⟨x / 2 ^ c, ?_, fun h => ⟨Int.ediv_nonneg h (by omega), Int.ediv_le_self _ h⟩, fun h => ⟨?_, Int.ediv_neg_of_neg_of_pos h hp⟩⟩
  · simp only [dfV, if_neg (show ¬ (c : Int) < 0 by omega), e]
    rw [Int.fdiv_eq_ediv_of_nonneg _ (by omega)]
  · have := Int.ediv_mul_le (a := x) (b := 2 ^ c) (by omega)
    refine Int.le_ediv_of_mul_le hp ?_
    have := Int.mul_le_mul_of_nonpos_left (a := x) (b := 2 ^ c) (c := 1) (by omega) (by omega)
    omega
end Go.Fx

namespace Go.Fx
open Go.Sx
theorem ofI {x : Int} (hx : 0 ≤ x ∧ x ≤ 4294967295) : (BitVec.ofInt (IntKind.bits .i64) x).toNat = x.toNat := by
  have hb : IntKind.bits .i64 = 64 := rfl
  rw [hb, BitVec.toNat_ofInt]
  have : x % ((2 ^ 64 : Nat) : Int) = x := Int.emod_eq_of_lt hx.1 (by omega)
  rw [this]
theorem bitU {n : Nat} (hn : n = 3 ∨ n = 4 ∨ n = 5) {x y : Int} (hx : 0 ≤ x ∧ x ≤ 4294967295) (hy : 0 ≤ y ∧ y ≤ 4294967295) : ∃ z, dfV n .i64 x y = some z ∧ 0 ≤ z ∧ z ≤ 4294967295 := by
  have a := ofI hx; have b := ofI hy
  have la : x.toNat < 2 ^ 32 := by omega
  have lb : y.toNat < 2 ^ 32 := by omega
  rcases hn with rfl | rfl | rfl
  · have e : ((BitVec.ofInt (IntKind.bits .i64) x &&& BitVec.ofInt (IntKind.bits .i64) y).toNat) = x.toNat &&& y.toNat := by rw [BitVec.toNat_and, a, b]
    have h := Nat.and_lt_two_pow x.toNat lb
    refine ⟨((x.toNat &&& y.toNat : Nat) : Int), ?_, by omega, by omega⟩
    simp only [dfV, e]; rw [w64 _ (by omega) (by omega)]
  · have e : ((BitVec.ofInt (IntKind.bits .i64) x ||| BitVec.ofInt (IntKind.bits .i64) y).toNat) = x.toNat ||| y.toNat := by rw [BitVec.toNat_or, a, b]
    have h := Nat.or_lt_two_pow la lb
    refine ⟨((x.toNat ||| y.toNat : Nat) : Int), ?_, by omega, by omega⟩
    simp only [dfV, e]; rw [w64 _ (by omega) (by omega)]
  · have e : ((BitVec.ofInt (IntKind.bits .i64) x ^^^ BitVec.ofInt (IntKind.bits .i64) y).toNat) = x.toNat ^^^ y.toNat := by rw [BitVec.toNat_xor, a, b]
    have h := Nat.xor_lt_two_pow la lb
    refine ⟨((x.toNat ^^^ y.toNat : Nat) : Int), ?_, by omega, by omega⟩
    simp only [dfV, e]; rw [w64 _ (by omega) (by omega)]
theorem wrapB (r : BitVec 64) : IntKind.wrap .i64 (r.toNat : Int) = r.toInt := by
  have hb := r.isLt
  rw [BitVec.toInt_eq_toNat_cond]
  simp only [IntKind.wrap, IntKind.bits, IntKind.signed, Bool.true_and, decide_eq_true_eq, Nat.reduceSub, ge_iff_le, Int.reducePow, Nat.reducePow]
  split <;> split <;> omega
theorem ext {x : Int} (hx : -2147483648 ≤ x ∧ x ≤ 2147483647) : BitVec.ofInt 64 x = (BitVec.ofInt 32 x).signExtend 64 := by
  have e : (BitVec.ofInt 32 x).toInt = x := BitVec.toInt_ofInt_eq_self (by omega) (by omega) (by omega)
  show _ = BitVec.ofInt 64 (BitVec.ofInt 32 x).toInt
  rw [e]
theorem bitI {n : Nat} (hn : n = 3 ∨ n = 4 ∨ n = 5) {x y : Int} (hx : -2147483648 ≤ x ∧ x ≤ 2147483647) (hy : -2147483648 ≤ y ∧ y ≤ 2147483647) : ∃ z, dfV n .i64 x y = some z ∧ -2147483648 ≤ z ∧ z ≤ 2147483647 := by
  have key : ∀ r : BitVec 32, -2147483648 ≤ IntKind.wrap .i64 ((r.signExtend 64).toNat : Int) ∧ IntKind.wrap .i64 ((r.signExtend 64).toNat : Int) ≤ 2147483647 := fun r => by
    rw [wrapB, BitVec.toInt_signExtend_of_le (by omega)]
    have h1 := BitVec.toInt_lt (x := r); have h2 := BitVec.le_toInt (x := r)
    omega
  have a := ext hx; have b := ext hy
  rcases hn with rfl | rfl | rfl
  · refine ⟨IntKind.wrap .i64 ((BitVec.ofInt 64 x &&& BitVec.ofInt 64 y).toNat : Int), rfl, ?_⟩
    rw [a, b, ← BitVec.signExtend_and]; exact key _
  · refine ⟨IntKind.wrap .i64 ((BitVec.ofInt 64 x ||| BitVec.ofInt 64 y).toNat : Int), rfl, ?_⟩
    rw [a, b, ← BitVec.signExtend_or]; exact key _
  · refine ⟨IntKind.wrap .i64 ((BitVec.ofInt 64 x ^^^ BitVec.ofInt 64 y).toNat : Int), rfl, ?_⟩
    rw [a, b, ← BitVec.signExtend_xor]; exact key _
end Go.Fx

namespace Go.Fx
open Go.Sx
theorem df_of {ρ : Nat → Int} {n : Nat} {k : IntKind} {X Y : KI} {x y v : Int} {z : Nat} (hx : X.ev ρ = x) (hy : Y.ev ρ = y) (hz : ρ z = v) (e : dfV n k x y = some v) : dfV n k (X.ev ρ) (Y.ev ρ) = some (ρ z) := by rw [hx, hy, hz, e]
theorem convI (n : Int) : ∃ w, dfV 7 .i32 n 0 = some w ∧ -2147483648 ≤ w ∧ w ≤ 2147483647 := by
  refine ⟨_, rfl, ?_⟩
  simp only [IntKind.wrap, IntKind.bits, IntKind.signed, Bool.true_and, decide_eq_true_eq, Nat.reduceSub, ge_iff_le]
  split <;> omega
theorem mulS {x y : Int} (hx : -20 ≤ x ∧ x ≤ 20) (hy : -20 ≤ y ∧ y ≤ 20) : ∃ z, dfV 0 .i64 x y = some z ∧ -400 ≤ z ∧ z ≤ 400 := by
  have h := mul_abs (a := 20) (b := 20) (x := x) (y := y) (by omega) (by omega)
  generalize hz : x * y = z at h
  refine ⟨z, ?_, by omega, by omega⟩
  simp only [dfV, hz]
  rw [w64 _ (by omega) (by omega)]
theorem mulA (x y : Int) : ∃ z, dfV 0 .i64 x y = some z ∧ -9223372036854775808 ≤ z ∧ z ≤ 9223372036854775807 := conv64 (x * y)
theorem mulB (x y : Int) : ∃ z, dfV 0 .u64 x y = some z ∧ 0 ≤ z ∧ z ≤ 18446744073709551615 := by
  refine ⟨_, rfl, ?_⟩
  simp only [IntKind.wrap, IntKind.bits, IntKind.signed, Bool.false_and, Bool.false_eq_true, if_false]
  omega
theorem quoU {y : Int} (hy : 1 ≤ y) : ∃ z, dfV 1 .i64 4294967295 y = some z ∧ 0 ≤ z ∧ z ≤ 4294967295 := ⟨_, quoT hy, (tdivT (x := 0) (by omega) hy).2⟩
theorem shrZ {x y : Int} (hy : 0 ≤ y ∧ y ≤ 31) (hx : -2147483648 ≤ x ∧ x ≤ 4294967295) : ∃ z, dfV 6 .i64 x y = some z ∧ (0 ≤ x → 0 ≤ z ∧ z ≤ x) ∧ (x < 0 → x ≤ z ∧ z < 0) := by
  have h := shr (x := x) y.toNat (by omega) hx
  rwa [Int.toNat_of_nonneg hy.1] at h
theorem shl_eq {x y : Int} (hy : 0 ≤ y ∧ y ≤ 31) (hx : -2147483648 ≤ x ∧ x ≤ 4294967295) : dfV 8 .i64 x y = some (x * 2 ^ y.toNat) ∧ -9223372036854775808 ≤ x * 2 ^ y.toNat ∧ x * 2 ^ y.toNat ≤ 9223372036854775807 := by
  have hp : ((2 : Int) ^ y.toNat).natAbs ≤ 2147483648 := by
    rw [Int.natAbs_pow]
    exact Nat.pow_le_pow_right (n := 2) (by omega) (show y.toNat ≤ 31 by omega)
  have h := mul_abs (a := 4294967295) (b := 2147483648) (x := x) (y := 2 ^ y.toNat) (by omega) hp
  have hb : -9223372036854775808 ≤ x * 2 ^ y.toNat ∧ x * 2 ^ y.toNat ≤ 9223372036854775807 := by
    generalize x * 2 ^ y.toNat = z at h ⊢
    omega
  refine ⟨?_, hb⟩
  have e : min y.toNat (IntKind.bits .i64) = y.toNat := by simp [IntKind.bits]; omega
  simp only [dfV, if_neg (show ¬ y < 0 by omega), e]
  rw [w64 _ hb.1 hb.2]
theorem shl1 {x y : Int} (hy : 0 ≤ y ∧ y ≤ 31) (hx : -2147483648 ≤ x ∧ x ≤ 4294967295) : ∃ z, dfV 8 .i64 x y = some z ∧ -9223372036854775808 ≤ z ∧ z ≤ 9223372036854775807 := ⟨_, shl_eq hy hx⟩
theorem shl3 {x a b c : Int} (ha : 0 ≤ a) (hab : a ≤ b) (hbc : b ≤ c) (hc : c ≤ 31) (hx : 0 ≤ x ∧ x ≤ 4294967295) : ∃ z0 z1 z2, dfV 8 .i64 x a = some z0 ∧ dfV 8 .i64 x b = some z1 ∧ dfV 8 .i64 x c = some z2 ∧ z0 ≤ z1 ∧ z1 ≤ z2 ∧ 0 ≤ z0 ∧ z2 ≤ 9223372036854775807 := by
  have mono : ∀ p q : Int, p ≤ q → x * 2 ^ p.toNat ≤ x * 2 ^ q.toNat := fun p q h => by
    refine Int.mul_le_mul_of_nonneg_left ?_ hx.1
    have := Nat.pow_le_pow_right (n := 2) (by omega) (show p.toNat ≤ q.toNat by omega)
    exact_mod_cast this
  have h0 : (0 : Int) ≤ x * 2 ^ a.toNat := Int.mul_nonneg hx.1 (Int.le_of_lt (Int.pow_pos (by omega)))
  exact ⟨_, _, _, (shl_eq ⟨ha, by omega⟩ (by omega)).1, (shl_eq ⟨by omega, by omega⟩ (by omega)).1, (shl_eq ⟨by omega, hc⟩ (by omega)).1, mono _ _ hab, mono _ _ hbc, h0, (shl_eq ⟨by omega, hc⟩ (by omega)).2.2⟩
end Go.Fx

namespace Go.Fx
open Go.Sx
/-- Quotients go with what is divided. -/
theorem tdiv_mono {x x' y : Int} (h : x ≤ x') (hy : 0 < y) : x.tdiv y ≤ x'.tdiv y := by
  rcases Int.le_total 0 x with a | a
  · rw [Int.tdiv_eq_ediv_of_nonneg a, Int.tdiv_eq_ediv_of_nonneg (by omega)]
    exact Int.ediv_le_ediv hy h
  · rcases Int.le_total 0 x' with b | b
    · have h1 : x.tdiv y ≤ 0 := by
        have := Int.tdiv_nonneg (a := -x) (b := y) (by omega) (by omega)
        rw [Int.neg_tdiv] at this; omega
      have h2 := Int.tdiv_nonneg (a := x') (b := y) b (by omega)
      omega
    · have h1 : (-x').tdiv y ≤ (-x).tdiv y := by
        rw [Int.tdiv_eq_ediv_of_nonneg (by omega), Int.tdiv_eq_ediv_of_nonneg (by omega)]
        exact Int.ediv_le_ediv hy (by omega)
      rw [Int.neg_tdiv, Int.neg_tdiv] at h1; omega
/-- And against what divides. -/
theorem tdiv_anti {x a b : Int} (hx : 0 ≤ x) (ha : 0 < a) (hab : a ≤ b) : x.tdiv b ≤ x.tdiv a := by
  rw [Int.tdiv_eq_ediv_of_nonneg hx, Int.tdiv_eq_ediv_of_nonneg hx]
  refine Int.le_ediv_of_mul_le ha ?_
  have h1 := Int.ediv_mul_le (a := x) (b := b) (by omega)
  have h2 : x / b * a ≤ x / b * b := Int.mul_le_mul_of_nonneg_left hab (Int.ediv_nonneg hx (by omega))
  omega
theorem quoK {x y : Int} (hx : -4294967296 ≤ x ∧ x ≤ 4294967296) (hy : y ≠ 0) : dfV 1 .i64 x y = some (x.tdiv y) ∧ -4294967296 ≤ x.tdiv y ∧ x.tdiv y ≤ 4294967296 := by
  have h1 : (x.tdiv y).natAbs ≤ x.natAbs := by rw [Int.natAbs_tdiv]; exact Nat.div_le_self _ _
  refine ⟨?_, by omega, by omega⟩
  simp only [dfV, if_neg hy]; rw [w64 _ (by omega) (by omega)]
theorem mulAny (x y : Int) : ∃ z, dfV 0 .i64 x y = some z ∧ -9223372036854775808 ≤ z ∧ z ≤ 9223372036854775807 := conv64 (x * y)
theorem remAny {x : Int} (y : Nat) (hy : y ≠ 0) (hx : 0 ≤ x) : dfV 2 .i64 x y = some (x % y) := by
  simp only [dfV, if_neg (show ¬ (y : Int) = 0 by omega)]
  rw [Int.tmod_eq_emod_of_nonneg hx]
end Go.Fx

namespace Go.Fx
open Go.Sx
/-! Operators by name, as terms that are not looked into. -/
def mV (x y : Int) : Int := x * y
def qV (x y : Int) : Int := x.tdiv y
def rV (x y : Int) : Int := x.tmod y
def lV (x y : Int) : Int := x * 2 ^ y.toNat
def hV (x y : Int) : Int := x / 2 ^ (min y.toNat 64)
theorem mV_box {x y : Int} (hx : -2147483648 ≤ x ∧ x ≤ 2147483647) (hy : -2147483648 ≤ y ∧ y ≤ 2147483647) : dfV 0 .i64 x y = some (mV x y) ∧ -4611686018427387904 ≤ mV x y ∧ mV x y ≤ 4611686018427387904 := by
  have h := mul_abs (a := 2147483648) (b := 2147483648) (x := x) (y := y) (by omega) (by omega)
  have hb : -4611686018427387904 ≤ x * y ∧ x * y ≤ 4611686018427387904 := by
    generalize x * y = z at h ⊢
    omega
  refine ⟨?_, hb⟩
  simp only [dfV, mV]
  rw [w64 _ (by omega) (by omega)]
theorem mV_sign {x y : Int} : (0 ≤ x → 0 ≤ y → 0 ≤ mV x y) ∧ (0 ≤ x → y ≤ 0 → mV x y ≤ 0) ∧ (x ≤ 0 → 0 ≤ y → mV x y ≤ 0) ∧ (x ≤ 0 → y ≤ 0 → 0 ≤ mV x y) :=
  ⟨Int.mul_nonneg, Int.mul_nonpos_of_nonneg_of_nonpos, Int.mul_nonpos_of_nonpos_of_nonneg, Int.mul_nonneg_of_nonpos_of_nonpos⟩
/-- A product within a rectangle. -/
theorem mV_in {p v q r w s : Int} (h1 : p ≤ v) (h2 : v ≤ q) (h3 : r ≤ w) (h4 : w ≤ s) :
    (0 ≤ w → 0 ≤ q → mV v w ≤ mV q s) ∧ (0 ≤ w → q ≤ 0 → mV v w ≤ mV q r) ∧ (w ≤ 0 → 0 ≤ p → mV v w ≤ mV p s) ∧ (w ≤ 0 → p ≤ 0 → mV v w ≤ mV p r) ∧
    (0 ≤ w → 0 ≤ p → mV p r ≤ mV v w) ∧ (0 ≤ w → p ≤ 0 → mV p s ≤ mV v w) ∧ (w ≤ 0 → 0 ≤ q → mV q r ≤ mV v w) ∧ (w ≤ 0 → q ≤ 0 → mV q s ≤ mV v w) := by
  simp only [mV]
  refine ⟨fun a b => ?_, fun a b => ?_, fun a b => ?_, fun a b => ?_, fun a b => ?_, fun a b => ?_, fun a b => ?_, fun a b => ?_⟩
  · exact Int.le_trans (Int.mul_le_mul_of_nonneg_right h2 a) (Int.mul_le_mul_of_nonneg_left h4 b)
  · exact Int.le_trans (Int.mul_le_mul_of_nonneg_right h2 a) (Int.mul_le_mul_of_nonpos_left b h3)
  · exact Int.le_trans (Int.mul_le_mul_of_nonpos_right h1 a) (Int.mul_le_mul_of_nonneg_left h4 b)
  · exact Int.le_trans (Int.mul_le_mul_of_nonpos_right h1 a) (Int.mul_le_mul_of_nonpos_left b h3)
  · exact Int.le_trans (Int.mul_le_mul_of_nonneg_left h3 b) (Int.mul_le_mul_of_nonneg_right h1 a)
  · exact Int.le_trans (Int.mul_le_mul_of_nonpos_left b h4) (Int.mul_le_mul_of_nonneg_right h1 a)
  · exact Int.le_trans (Int.mul_le_mul_of_nonneg_left h3 b) (Int.mul_le_mul_of_nonpos_right h2 a)
  · exact Int.le_trans (Int.mul_le_mul_of_nonpos_left b h4) (Int.mul_le_mul_of_nonpos_right h2 a)
theorem mV_corner {p q r s : Int} (h1 : p ≤ q) (h2 : r ≤ s) :
    (0 ≤ p → mV p r ≤ mV p s) ∧ (p ≤ 0 → mV p s ≤ mV p r) ∧ (0 ≤ q → mV q r ≤ mV q s) ∧ (q ≤ 0 → mV q s ≤ mV q r) ∧ (0 ≤ r → mV p r ≤ mV q r) ∧ (r ≤ 0 → mV q r ≤ mV p r) ∧ (0 ≤ s → mV p s ≤ mV q s) ∧ (s ≤ 0 → mV q s ≤ mV p s) :=
  ⟨fun h => Int.mul_le_mul_of_nonneg_left h2 h, fun h => Int.mul_le_mul_of_nonpos_left h h2, fun h => Int.mul_le_mul_of_nonneg_left h2 h, fun h => Int.mul_le_mul_of_nonpos_left h h2,
    fun h => Int.mul_le_mul_of_nonneg_right h1 h, fun h => Int.mul_le_mul_of_nonpos_right h1 h, fun h => Int.mul_le_mul_of_nonneg_right h1 h, fun h => Int.mul_le_mul_of_nonpos_right h1 h⟩
/-- Unsigned products that stay. -/
theorem mV_small {x y : Int} (hx : 0 ≤ x) (hy : 0 ≤ y) (h : mV x y ≤ 4294967295) : dfV 0 .i64 x y = some (mV x y) ∧ dfV 0 .u64 x y = some (mV x y) ∧ 0 ≤ mV x y := by
  have h0 : 0 ≤ x * y := Int.mul_nonneg hx hy
  simp only [mV] at h ⊢
  refine ⟨?_, ?_, h0⟩
  · simp only [dfV]; rw [w64 _ (by omega) (by omega)]
  · simp only [dfV]; rw [u64 _ (by omega) (by omega)]
theorem mV_quo {x y : Int} (hx : 0 ≤ x) (hy : 1 ≤ y) : dfV 1 .i64 4294967295 y = some (qV 4294967295 y) ∧ 0 ≤ qV 4294967295 y ∧ qV 4294967295 y ≤ 4294967295 ∧ (x ≤ qV 4294967295 y ↔ mV x y ≤ 4294967295) := by
  obtain ⟨h1, h2, h3⟩ := tdivT (x := x) hx hy
  exact ⟨quoT hy, h2, h3, h1⟩
/-- An unsigned product that goes round. -/
def uV (x y : Int) : Int := IntKind.wrap .u64 (x * y)
def iV (x : Int) : Int := IntKind.wrap .i64 x
def tV (x : Int) : Int := IntKind.wrap .u32 x
theorem uV_df (x y : Int) : dfV 0 .u64 x y = some (uV x y) ∧ 0 ≤ uV x y ∧ uV x y ≤ 18446744073709551615 := by
  obtain ⟨z, h, b⟩ := mulB x y
  cases h
  exact ⟨rfl, b⟩
theorem iV_df (x : Int) : dfV 7 .i64 x 0 = some (iV x) ∧ -9223372036854775808 ≤ iV x ∧ iV x ≤ 9223372036854775807 := by
  obtain ⟨z, h, b⟩ := conv64 x
  cases h
  exact ⟨rfl, b⟩
theorem tV_df (x : Int) : dfV 7 .u32 x 0 = some (tV x) ∧ 0 ≤ tV x ∧ tV x ≤ 4294967295 := by
  obtain ⟨z, h, b⟩ := conv32 x
  cases h
  exact ⟨rfl, b⟩
def jV (x y : Int) : Int := IntKind.wrap .i64 (x * y)
theorem jV_df (x y : Int) : dfV 0 .i64 x y = some (jV x y) ∧ -9223372036854775808 ≤ jV x y ∧ jV x y ≤ 9223372036854775807 := by
  obtain ⟨z, h, b⟩ := conv64 (x * y)
  cases h
  exact ⟨rfl, b⟩
theorem tdiv_negr (x y : Int) : x.tdiv (-y) = -(x.tdiv y) := Int.tdiv_neg x y
/-- A quotient, by itself. -/
theorem qV_df {x y : Int} (hx : -4294967296 ≤ x ∧ x ≤ 4294967296) (hy : y ≠ 0) : dfV 1 .i64 x y = some (qV x y) ∧ (0 ≤ x → 1 ≤ y → 0 ≤ qV x y ∧ qV x y ≤ x) ∧ (x ≤ 0 → 1 ≤ y → x ≤ qV x y ∧ qV x y ≤ 0) ∧ (0 ≤ x → y ≤ -1 → -x ≤ qV x y ∧ qV x y ≤ 0) ∧ (x ≤ 0 → y ≤ -1 → 0 ≤ qV x y ∧ qV x y ≤ -x) ∧ (y = -1 → qV x y = -x) ∧ (2 ≤ y.natAbs → 2 * (qV x y).natAbs ≤ x.natAbs) := by
  obtain ⟨z, h, h1, h2, h3, h4, h5, h6⟩ := quo hx hy
  obtain ⟨e, _⟩ := quoK hx hy
  rw [e] at h
  cases h
  refine ⟨e, fun a b => ?_, fun a b => ?_, fun a b => ?_, fun a b => ?_, fun a => ?_, h2⟩
  · have := h3 a (by omega); simp only [qV]; omega
  · have := h4 a (by omega); simp only [qV]; omega
  · have := h5 a (by omega); simp only [qV]; omega
  · have := h6 a (by omega); simp only [qV]; omega
  · subst a
    simp only [qV]
    have := tdiv_negr x 1
    rw [Int.tdiv_one] at this
    exact this
/-- Quotients within a rectangle, by what is above 0. -/
theorem qV_in {p v q a w b : Int} (h1 : p ≤ v) (h2 : v ≤ q) (h3 : a ≤ w) (h4 : w ≤ b) (ha : 1 ≤ a) :
    (0 ≤ v → qV v w ≤ qV q a ∧ qV p b ≤ qV v w) ∧ (v ≤ 0 → qV v w ≤ qV q b ∧ qV p a ≤ qV v w) := by
  have neg : ∀ x c d : Int, x ≤ 0 → 1 ≤ c → c ≤ d → x.tdiv c ≤ x.tdiv d := fun x c d hx hc hd => by
    have h1 := tdiv_anti (x := -x) (a := c) (b := d) (by omega) (by omega) hd
    rw [Int.neg_tdiv, Int.neg_tdiv] at h1
    omega
  simp only [qV]
  refine ⟨fun h => ⟨?_, ?_⟩, fun h => ⟨?_, ?_⟩⟩
  · exact Int.le_trans (tdiv_mono h2 (by omega)) (tdiv_anti (by omega) (by omega) h3)
  · exact Int.le_trans (tdiv_mono h1 (by omega)) (tdiv_anti h (by omega) h4)
  · exact Int.le_trans (neg v w b h (by omega) h4) (tdiv_mono h2 (by omega))
  · exact Int.le_trans (tdiv_mono h1 (by omega)) (neg v a w h ha h3)
/-- By what is below 0. -/
theorem qV_in' {p v q a w b : Int} (h1 : p ≤ v) (h2 : v ≤ q) (h3 : a ≤ w) (h4 : w ≤ b) (hb : b ≤ -1) :
    (0 ≤ v → qV q b ≤ qV v w ∧ qV v w ≤ qV p a) ∧ (v ≤ 0 → qV q a ≤ qV v w ∧ qV v w ≤ qV p b) := by
  obtain ⟨x, y⟩ := qV_in (p := p) (v := v) (q := q) (a := -b) (w := -w) (b := -a) h1 h2 (by omega) (by omega) (by omega)
  simp only [qV, tdiv_negr] at x y ⊢
  refine ⟨fun h => ?_, fun h => ?_⟩
  · have := x h; omega
  · have := y h; omega
/-- What is left. -/
theorem rV_df {x y : Int} (hy : y ≠ 0) : dfV 2 .i64 x y = some (rV x y) ∧ (0 ≤ x → 0 ≤ rV x y ∧ rV x y ≤ x) ∧ (x ≤ 0 → x ≤ rV x y ∧ rV x y ≤ 0) ∧ (1 ≤ y → rV x y ≤ y - 1 ∧ 1 - y ≤ rV x y) ∧ (y ≤ -1 → rV x y ≤ -y - 1 ∧ y + 1 ≤ rV x y) ∧ (0 ≤ x → x < y → rV x y = x) := by
  obtain ⟨z, h, h1, h2, h3, h4, h5⟩ := rem (x := x) hy
  have e : dfV 2 .i64 x y = some (rV x y) := by simp only [dfV, if_neg hy, rV]
  rw [e] at h
  cases h
  refine ⟨e, fun a => ?_, fun a => ?_, fun a => ?_, fun a => ?_, fun a b => h5 (by omega)⟩
  · have := h3 a; omega
  · have := h4 a; omega
  · omega
  · omega
/-- Shifts to the left. -/
theorem lV_df {x y : Int} (hy : 0 ≤ y ∧ y ≤ 31) (hx : -2147483648 ≤ x ∧ x ≤ 4294967295) : dfV 8 .i64 x y = some (lV x y) ∧ -9223372036854775808 ≤ lV x y ∧ lV x y ≤ 9223372036854775807 ∧ (0 ≤ x → x ≤ lV x y) := by
  obtain ⟨a, b⟩ := shl_eq hy hx
  refine ⟨a, b.1, b.2, fun h => ?_⟩
  have hp : (0 : Int) < 2 ^ y.toNat := Int.pow_pos (by omega)
  have := Int.mul_le_mul_of_nonneg_left (show (1 : Int) ≤ 2 ^ y.toNat by omega) h
  simp only [lV]; omega
theorem lV_mono {x x' y y' : Int} (hx : 0 ≤ x) (h : x ≤ x') (hy : 0 ≤ y) (h' : y ≤ y') : lV x y ≤ lV x' y' := by
  have hp : (0 : Int) < 2 ^ y.toNat := Int.pow_pos (by omega)
  have h2 : (2 : Int) ^ y.toNat ≤ 2 ^ y'.toNat := by
    have := Nat.pow_le_pow_right (n := 2) (by omega) (show y.toNat ≤ y'.toNat by omega)
    exact_mod_cast this
  simp only [lV]
  exact Int.le_trans (Int.mul_le_mul_of_nonneg_right h (by omega)) (Int.mul_le_mul_of_nonneg_left h2 (by omega))
theorem lV_31 {x x' y : Int} (hx : 0 ≤ x) (h : x ≤ x') (hy : 0 ≤ y ∧ y ≤ 31) : lV x y ≤ 2147483648 * x' := by
  have := lV_mono (x := x) (x' := x') (y := y) (y' := 31) hx h hy.1 hy.2
  have e : lV x' 31 = x' * 2147483648 := rfl
  omega
theorem lV_0 (y : Int) : lV 0 y = 0 := by simp [lV]
/-- Shifts to the right. -/
theorem hV_df {x y : Int} (hy : 0 ≤ y) : dfV 6 .i64 x y = some (hV x y) ∧ (0 ≤ x → 0 ≤ hV x y ∧ hV x y ≤ x) ∧ (x < 0 → x ≤ hV x y ∧ hV x y < 0) := by
  have hp : (0 : Int) < 2 ^ (min y.toNat 64) := Int.pow_pos (by omega)
  refine ⟨?_, fun h => ⟨Int.ediv_nonneg h (by omega), Int.ediv_le_self _ h⟩, fun h => ⟨?_, Int.ediv_neg_of_neg_of_pos h hp⟩⟩
  · simp only [dfV, if_neg (show ¬ y < 0 by omega), hV, IntKind.bits]
    rw [Int.fdiv_eq_ediv_of_nonneg _ (by omega)]
  · simp only [hV]
    refine Int.le_ediv_of_mul_le hp ?_
    have := Int.mul_le_mul_of_nonpos_left (a := x) (b := 2 ^ (min y.toNat 64)) (c := 1) (by omega) (by omega)
    omega
theorem hV_mono {x x' y : Int} (h : x ≤ x') : hV x y ≤ hV x' y := by
  have hp : (0 : Int) < 2 ^ (min y.toNat 64) := Int.pow_pos (by omega)
  exact Int.ediv_le_ediv hp h
theorem hV_anti {x y y' : Int} (hx : 0 ≤ x) (h : y ≤ y') : hV x y' ≤ hV x y := by
  have hp : (0 : Int) < 2 ^ (min y.toNat 64) := Int.pow_pos (by omega)
  have hp' : (0 : Int) < 2 ^ (min y'.toNat 64) := Int.pow_pos (by omega)
  have h2 : (2 : Int) ^ (min y.toNat 64) ≤ 2 ^ (min y'.toNat 64) := by
    have := Nat.pow_le_pow_right (n := 2) (by omega) (show min y.toNat 64 ≤ min y'.toNat 64 by omega)
    exact_mod_cast this
  simp only [hV]
  refine Int.le_ediv_of_mul_le hp ?_
  have h1 := Int.ediv_mul_le (a := x) (b := 2 ^ (min y'.toNat 64)) (by omega)
  have h3 := Int.mul_le_mul_of_nonneg_left h2 (show 0 ≤ x / 2 ^ (min y'.toNat 64) from Int.ediv_nonneg hx (by omega))
  omega
theorem hV_neg {x y y' : Int} (hx : x < 0) (h : y ≤ y') : hV x y ≤ hV x y' := by
  have hp : (0 : Int) < 2 ^ (min y.toNat 64) := Int.pow_pos (by omega)
  have hp' : (0 : Int) < 2 ^ (min y'.toNat 64) := Int.pow_pos (by omega)
  have h2 : (2 : Int) ^ (min y.toNat 64) ≤ 2 ^ (min y'.toNat 64) := by
    have := Nat.pow_le_pow_right (n := 2) (by omega) (show min y.toNat 64 ≤ min y'.toNat 64 by omega)
    exact_mod_cast this
  simp only [hV]
  refine Int.le_ediv_of_mul_le hp' ?_
  have h1 := Int.ediv_mul_le (a := x) (b := 2 ^ (min y.toNat 64)) (by omega)
  have h0 := Int.ediv_neg_of_neg_of_pos hx hp
  have h3 := Int.mul_le_mul_of_nonpos_left (a := x / 2 ^ (min y.toNat 64)) (by omega) h2
  omega
theorem hV_in {p v q a w b : Int} (h1 : p ≤ v) (h2 : v ≤ q) (h3 : a ≤ w) (h4 : w ≤ b) :
    (0 ≤ p → hV p b ≤ hV v w) ∧ (p < 0 → hV p a ≤ hV v w) ∧ (0 ≤ q → hV v w ≤ hV q a) ∧ (q < 0 → hV v w ≤ hV q b) :=
  ⟨fun h => Int.le_trans (hV_anti h h4) (hV_mono h1), fun h => Int.le_trans (hV_neg h h3) (hV_mono h1), fun h => Int.le_trans (hV_mono h2) (hV_anti h h3), fun h => Int.le_trans (hV_mono h2) (hV_neg h h4)⟩
/-- What is left of a number that is not below 0. -/
theorem remP {x y : Int} (hx : 0 ≤ x) (hy : 1 ≤ y) : ∃ z, dfV 2 .i64 x y = some z ∧ 0 ≤ z ∧ z ≤ y - 1 ∧ z ≤ x := by
  obtain ⟨e, h1, _, h2, _⟩ := rV_df (x := x) (y := y) (by omega)
  exact ⟨rV x y, e, (h1 hx).1, (h2 hy).1, (h1 hx).2⟩
/-! Short names. -/
theorem mB (x y : Int) (hx : -2147483648 ≤ x ∧ x ≤ 2147483647 := by omega) (hy : -2147483648 ≤ y ∧ y ≤ 2147483647 := by omega) : dfV 0 .i64 x y = some (mV x y) ∧ -4611686018427387904 ≤ mV x y ∧ mV x y ≤ 4611686018427387904 := mV_box hx hy
theorem mI (p v q r w s : Int) (h1 : p ≤ v := by omega) (h2 : v ≤ q := by omega) (h3 : r ≤ w := by omega) (h4 : w ≤ s := by omega) :
    (0 ≤ w → 0 ≤ q → mV v w ≤ mV q s) ∧ (0 ≤ w → q ≤ 0 → mV v w ≤ mV q r) ∧ (w ≤ 0 → 0 ≤ p → mV v w ≤ mV p s) ∧ (w ≤ 0 → p ≤ 0 → mV v w ≤ mV p r) ∧
    (0 ≤ w → 0 ≤ p → mV p r ≤ mV v w) ∧ (0 ≤ w → p ≤ 0 → mV p s ≤ mV v w) ∧ (w ≤ 0 → 0 ≤ q → mV q r ≤ mV v w) ∧ (w ≤ 0 → q ≤ 0 → mV q s ≤ mV v w) := mV_in h1 h2 h3 h4
theorem qD (x y : Int) (hx : -4294967296 ≤ x ∧ x ≤ 4294967296 := by omega) (hy : y ≠ 0 := by omega) : dfV 1 .i64 x y = some (qV x y) := (qV_df hx hy).1
theorem q1 (x y : Int) (h : 0 ≤ x := by omega) (hy : 1 ≤ y := by omega) (hx : -4294967296 ≤ x ∧ x ≤ 4294967296 := by omega) : 0 ≤ qV x y ∧ qV x y ≤ x := (qV_df hx (by omega)).2.1 h hy
theorem q2 (x y : Int) (h : x ≤ 0 := by omega) (hy : 1 ≤ y := by omega) (hx : -4294967296 ≤ x ∧ x ≤ 4294967296 := by omega) : x ≤ qV x y ∧ qV x y ≤ 0 := (qV_df hx (by omega)).2.2.1 h hy
theorem q3 (x y : Int) (h : 0 ≤ x := by omega) (hy : y ≤ -1 := by omega) (hx : -4294967296 ≤ x ∧ x ≤ 4294967296 := by omega) : -x ≤ qV x y ∧ qV x y ≤ 0 := (qV_df hx (by omega)).2.2.2.1 h hy
theorem q4 (x y : Int) (h : x ≤ 0 := by omega) (hy : y ≤ -1 := by omega) (hx : -4294967296 ≤ x ∧ x ≤ 4294967296 := by omega) : 0 ≤ qV x y ∧ qV x y ≤ -x := (qV_df hx (by omega)).2.2.2.2.1 h hy
theorem q5 (x y : Int) (hy : y = -1 := by omega) (hx : -4294967296 ≤ x ∧ x ≤ 4294967296 := by omega) : qV x y = -x := (qV_df hx (by omega)).2.2.2.2.2.1 hy
theorem q6 (x y : Int) (hy : 2 ≤ y.natAbs := by omega) (hx : -4294967296 ≤ x ∧ x ≤ 4294967296 := by omega) : 2 * (qV x y).natAbs ≤ x.natAbs := (qV_df hx (by omega)).2.2.2.2.2.2 hy
theorem qI (p v q a w b : Int) (h1 : p ≤ v := by omega) (h2 : v ≤ q := by omega) (h3 : a ≤ w := by omega) (h4 : w ≤ b := by omega) (ha : 1 ≤ a := by omega) :
    (0 ≤ v → qV v w ≤ qV q a ∧ qV p b ≤ qV v w) ∧ (v ≤ 0 → qV v w ≤ qV q b ∧ qV p a ≤ qV v w) := qV_in h1 h2 h3 h4 ha
theorem qJ (p v q a w b : Int) (h1 : p ≤ v := by omega) (h2 : v ≤ q := by omega) (h3 : a ≤ w := by omega) (h4 : w ≤ b := by omega) (hb : b ≤ -1 := by omega) :
    (0 ≤ v → qV q b ≤ qV v w ∧ qV v w ≤ qV p a) ∧ (v ≤ 0 → qV q a ≤ qV v w ∧ qV v w ≤ qV p b) := qV_in' h1 h2 h3 h4 hb
theorem rD (x y : Int) (hy : y ≠ 0 := by omega) : dfV 2 .i64 x y = some (rV x y) := (rV_df hy).1
theorem rP (x y : Int) (h : 0 ≤ x := by omega) (hy : y ≠ 0 := by omega) : 0 ≤ rV x y ∧ rV x y ≤ x := (rV_df hy).2.1 h
theorem rN (x y : Int) (h : x ≤ 0 := by omega) (hy : y ≠ 0 := by omega) : x ≤ rV x y ∧ rV x y ≤ 0 := (rV_df hy).2.2.1 h
theorem rU (x y : Int) (hy : 1 ≤ y := by omega) : rV x y ≤ y - 1 ∧ 1 - y ≤ rV x y := (rV_df (by omega)).2.2.2.1 hy
theorem rW (x y : Int) (hy : y ≤ -1 := by omega) : rV x y ≤ -y - 1 ∧ y + 1 ≤ rV x y := (rV_df (by omega)).2.2.2.2.1 hy
theorem rS (x y : Int) (h : 0 ≤ x := by omega) (hy : x < y := by omega) : rV x y = x := (rV_df (by omega)).2.2.2.2.2 h hy
theorem lD (x y : Int) (hy : 0 ≤ y ∧ y ≤ 31 := by omega) (hx : -2147483648 ≤ x ∧ x ≤ 4294967295 := by omega) : dfV 8 .i64 x y = some (lV x y) ∧ -9223372036854775808 ≤ lV x y ∧ lV x y ≤ 9223372036854775807 ∧ (0 ≤ x → x ≤ lV x y) := lV_df hy hx
theorem lM (x x' y y' : Int) (hx : 0 ≤ x := by omega) (h : x ≤ x' := by omega) (hy : 0 ≤ y := by omega) (h' : y ≤ y' := by omega) : lV x y ≤ lV x' y' := lV_mono hx h hy h'
theorem lN (x x' y : Int) (hx : 0 ≤ x := by omega) (h : x ≤ x' := by omega) (hy : 0 ≤ y ∧ y ≤ 31 := by omega) : lV x y ≤ 2147483648 * x' := lV_31 hx h hy
theorem hD (x y : Int) (hy : 0 ≤ y := by omega) : dfV 6 .i64 x y = some (hV x y) := (hV_df hy).1
theorem hP (x y : Int) (h : 0 ≤ x := by omega) (hy : 0 ≤ y := by omega) : 0 ≤ hV x y ∧ hV x y ≤ x := (hV_df hy).2.1 h
theorem hN (x y : Int) (h : x < 0 := by omega) (hy : 0 ≤ y := by omega) : x ≤ hV x y ∧ hV x y < 0 := (hV_df hy).2.2 h
theorem hI (p v q a w b : Int) (h1 : p ≤ v := by omega) (h2 : v ≤ q := by omega) (h3 : a ≤ w := by omega) (h4 : w ≤ b := by omega) :
    (0 ≤ p → hV p b ≤ hV v w) ∧ (p < 0 → hV p a ≤ hV v w) ∧ (0 ≤ q → hV v w ≤ hV q a) ∧ (q < 0 → hV v w ≤ hV q b) := hV_in h1 h2 h3 h4
end Go.Fx

namespace Go.Fx
open Go.Sx
abbrev v1 (i : Nat) : KI := .a 0 [(i, 1)]
abbrev cl (i j : Nat) (c : Int) : Con := (c, [(i, 1), (j, -1)])
abbrev cg (i j : Nat) (c : Int) : Con := (c, [(i, -1), (j, 1)])
abbrev bU : Int × Int := (0, 4294967295)
abbrev bI : Int × Int := (-2147483648, 2147483647)
abbrev bL : Int × Int := (-9223372036854775808, 9223372036854775807)
theorem ri {μ : Map} {ρ : Nat → Int} {k : IntKind} {x : KI} {a : Int} (h : x.ev ρ = a := by first | (simp [KI.ev, evT, rho, v1] <;> omega) | (simp [KI.ev] <;> omega)) : VRel μ (abs ρ (.int k x)) (.int k a) := rel_int h
theorem dO {ρ : Nat → Int} {n : Nat} {k : IntKind} {X Y : KI} {x y v : Int} {z : Nat} (e : dfV n k x y = some v) (hx : X.ev ρ = x := by simp [KI.ev, evT, rho, v1] <;> omega) (hy : Y.ev ρ = y := by simp [KI.ev, evT, rho, v1] <;> omega) (hz : ρ z = v := by simp [rho]) : dfV n k (X.ev ρ) (Y.ev ρ) = some (ρ z) := by rw [hx, hy, hz, e]
end Go.Fx
