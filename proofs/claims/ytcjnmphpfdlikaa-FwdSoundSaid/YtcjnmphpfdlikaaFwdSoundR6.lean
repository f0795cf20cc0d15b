/- FwdSound, part 6: it answers true at all inputs of that part. -/
import Derived.Test.YtcjnmphpfdlikaaFwdSoundQ6x0
import Derived.Test.YtcjnmphpfdlikaaFwdSoundQ6x1
import Derived.Test.YtcjnmphpfdlikaaFwdSoundQ6x2
import Derived.Test.YtcjnmphpfdlikaaFwdSoundQ6x3
import Derived.Test.YtcjnmphpfdlikaaDrawD
import Derived.Test.YtcjnmphpfdlikaaSumsSD
import Derived.KernelRfl
set_option linter.unusedVariables false
set_option linter.unusedSimpArgs false
set_option maxRecDepth 1000000
set_option maxHeartbeats 100000000
namespace Go.Proofs.Ytcjnmphpfdlikaa.fwdSound
open Go Go.Sx Go.RowKit Go.Fx Go.Proofs.Ytcjnmphpfdlikaa.fs
theorem fx6 {args : List KV} {cx : Cx} {xs : List Int} {args' : List Value} {T : Tab} (h : runK Try.prog (tabK (fstF sums) T) 100000 3 args cx = true) (hargs : VRels noMap (absL (rho xs) args) args') (w : World) (hT : tabAll (entS sums) (rho xs) T := by exact ⟨awakeS, hS hx, hS hy, trivial⟩) (h4 : dfAll xs cx.df := by exact trivial) (h1 : boxAll xs cx.box := by simp only [boxAll, and_true, bU, bI, bL] <;> omega) (h2 : csAll xs cx.cs := by first | exact trivial | (simp [csAll, evT, rho, cl, cg] <;> omega)) (h3 : noSv cx.box = true := by rfl) : Calls Try.prog 3 args'.toArray w fun e w' => e = .returned (.bool true) ∧ Grown w w' := calls_tab kdD.progOK kdD.mixed sumsOK sumsBody h h1 h2 h4 hT hargs w (h3 := h3)
theorem op6 {a0 a2 a3 a4 a5 a6 a7 a8 a9 : Int} (r0 : 0 ≤ a0 ∧ a0 ≤ 255) (r2 : 0 ≤ a2 ∧ a2 ≤ 4294967295) (r3 : 0 ≤ a3 ∧ a3 ≤ 4294967295) (r4 : 0 ≤ a4 ∧ a4 ≤ 4294967295) (r5 : 0 ≤ a5 ∧ a5 ≤ 4294967295) (r6 : 0 ≤ a6 ∧ a6 ≤ 255) (r7 : 0 ≤ a7 ∧ a7 ≤ 255) (r8 : 0 ≤ a8 ∧ a8 ≤ 4294967295) (r9 : 0 ≤ a9 ∧ a9 ≤ 4294967295) (a1 : Bool) (hk : a0 % 12 = 6) (w : World) : Calls Try.prog 3 #[.int .u8 a0, .bool a1, .int .u32 a2, .int .u32 a3, .int .u32 a4, .int .u32 a5, .int .u8 a6, .int .u8 a7, .int .u32 a8, .int .u32 a9] w fun e w' => e = .returned (.bool true) ∧ Grown w w' := by
  cases a1 with
  | true =>
    obtain ⟨xl, xh, hx, x1, x2, x3⟩ := ends6 (a := a2) (b := a4) (far := a6) (by omega) (by omega) (by omega)
    obtain ⟨yl, yh, hy, y1, y2, y3⟩ := ends6 (a := a3) (b := a5) (far := a7) (by omega) (by omega) (by omega)
    obtain ⟨zi, ei, i1, i3, i4⟩ := remP (x := a8) (y := 1 + (xh - xl)) (by omega) (by omega)
    obtain ⟨zj, ej, j1, j3, j4⟩ := remP (x := a9) (y := 1 + (yh - yl)) (by omega) (by omega)
    obtain ⟨i2, e2, k1, k2, k3⟩ := remP (x := a8) (y := 2) (by omega) (by omega)
    rcases (show (1 ≤ yl ∧ xh < yl) ∨ (1 ≤ yl ∧ yl ≤ xh) ∨ (yl = 0 ∧ 1 ≤ yh) ∨ (yl = 0 ∧ yh = 0) by omega) with h0 | h0 | h0 | h0
    · have dq0 := qD xl yl
      have fq0 := q1 xl yl
      have dm0 := rD xl yl
      have fm0 := rP xl yl
      have bm0 := rU xl yl
      have sm0 := rS xl yl
      have dq1 := qD xh yl
      have fq1 := q1 xh yl
      have dm1 := rD xh yl
      have fm1 := rP xh yl
      have bm1 := rU xh yl
      have sm1 := rS xh yl
      have dq2 := qD xl yh
      have fq2 := q1 xl yh
      have dm2 := rD xl yh
      have fm2 := rP xl yh
      have bm2 := rU xl yh
      have sm2 := rS xl yh
      have dq3 := qD xh yh
      have fq3 := q1 xh yh
      have dm3 := rD xh yh
      have fm3 := rP xh yh
      have bm3 := rU xh yh
      have sm3 := rS xh yh
      have dq4 := qD (xl + zi) (yl + zj)
      have fq4 := q1 (xl + zi) (yl + zj)
      have dm4 := rD (xl + zi) (yl + zj)
      have fm4 := rP (xl + zi) (yl + zj)
      have bm4 := rU (xl + zi) (yl + zj)
      have sm4 := rS (xl + zi) (yl + zj)
      exact fx6 (xs := [xl, xh, yl, yh, zi, zj, i2, qV xl yl, rV xl yl, qV xh yl, rV xh yl, qV xl yh, rV xl yh, qV xh yh, rV xh yh, qV (xl + zi) (yl + zj), rV (xl + zi) (yl + zj), a0 / 12, a8, a9, a2, a3, a4, a5, a6, a7]) run91 aR w (h4 := ⟨dO ei, dO ej, dO e2, dO dq0, dO dm0, dO dq1, dO dm1, dO dq2, dO dm2, dO dq3, dO dm3, dO dq4, dO dm4, trivial⟩)
    · have dq0 := qD xl yl
      have fq0 := q1 xl yl
      have dm0 := rD xl yl
      have fm0 := rP xl yl
      have bm0 := rU xl yl
      have dq1 := qD xh yl
      have fq1 := q1 xh yl
      have dm1 := rD xh yl
      have fm1 := rP xh yl
      have bm1 := rU xh yl
      have dq2 := qD xl yh
      have fq2 := q1 xl yh
      have dm2 := rD xl yh
      have fm2 := rP xl yh
      have bm2 := rU xl yh
      have dq3 := qD xh yh
      have fq3 := q1 xh yh
      have dm3 := rD xh yh
      have fm3 := rP xh yh
      have bm3 := rU xh yh
      have dq4 := qD (xl + zi) (yl + zj)
      have fq4 := q1 (xl + zi) (yl + zj)
      have dm4 := rD (xl + zi) (yl + zj)
      have fm4 := rP (xl + zi) (yl + zj)
      have bm4 := rU (xl + zi) (yl + zj)
      exact fx6 (xs := [xl, xh, yl, yh, zi, zj, i2, qV xl yl, rV xl yl, qV xh yl, rV xh yl, qV xl yh, rV xl yh, qV xh yh, rV xh yh, qV (xl + zi) (yl + zj), rV (xl + zi) (yl + zj), a0 / 12, a8, a9, a2, a3, a4, a5, a6, a7]) run92 aR w (h4 := ⟨dO ei, dO ej, dO e2, dO dq0, dO dm0, dO dq1, dO dm1, dO dq2, dO dm2, dO dq3, dO dm3, dO dq4, dO dm4, trivial⟩)
    · obtain rfl : yl = 0 := by omega
      rcases (show (zj = 0) ∨ (1 ≤ zj) by omega) with h1 | h1
      · have dq0 := qD xl yh
        have fq0 := q1 xl yh
        have dm0 := rD xl yh
        have fm0 := rP xl yh
        have bm0 := rU xl yh
        have dq1 := qD xh yh
        have fq1 := q1 xh yh
        have dm1 := rD xh yh
        have fm1 := rP xh yh
        have bm1 := rU xh yh
        exact fx6 (xs := [xl, xh, 0, yh, zi, zj, i2, qV xl yh, rV xl yh, qV xh yh, rV xh yh, a0 / 12, a8, a9, a2, a3, a4, a5, a6, a7]) run93 aR w (h4 := ⟨dO ei, dO ej, dO e2, dO dq0, dO dm0, dO dq1, dO dm1, trivial⟩)
      · have dq0 := qD xl yh
        have fq0 := q1 xl yh
        have dm0 := rD xl yh
        have fm0 := rP xl yh
        have bm0 := rU xl yh
        have dq1 := qD xh yh
        have fq1 := q1 xh yh
        have dm1 := rD xh yh
        have fm1 := rP xh yh
        have bm1 := rU xh yh
        have dq2 := qD (xl + zi) zj
        have fq2 := q1 (xl + zi) zj
        have dm2 := rD (xl + zi) zj
        have fm2 := rP (xl + zi) zj
        have bm2 := rU (xl + zi) zj
        exact fx6 (xs := [xl, xh, 0, yh, zi, zj, i2, qV xl yh, rV xl yh, qV xh yh, rV xh yh, qV (xl + zi) zj, rV (xl + zi) zj, a0 / 12, a8, a9, a2, a3, a4, a5, a6, a7]) run94 aR w (h4 := ⟨dO ei, dO ej, dO e2, dO dq0, dO dm0, dO dq1, dO dm1, dO dq2, dO dm2, trivial⟩)
    · obtain rfl : yl = 0 := by omega
      obtain rfl : yh = 0 := by omega
      exact fx6 (xs := [xl, xh, 0, 0, zi, 0, i2, a0 / 12, a8, a9, a2, a3, a4, a5, a6, a7]) run95 aR w (h4 := ⟨dO ei, dO e2, trivial⟩)
  | false =>
    obtain ⟨xl, xh, hx, x1, x2, x3⟩ := ends5 (a := a2) (b := a4) (far := a6) (by omega) (by omega) (by omega)
    obtain ⟨yl, yh, hy, y1, y2, y3⟩ := ends5 (a := a3) (b := a5) (far := a7) (by omega) (by omega) (by omega)
    obtain ⟨zi, ei, i1, i3, i4⟩ := remP (x := a8) (y := 1 + (xh - xl)) (by omega) (by omega)
    obtain ⟨zj, ej, j1, j3, j4⟩ := remP (x := a9) (y := 1 + (yh - yl)) (by omega) (by omega)
    obtain ⟨i2, e2, k1, k2, k3⟩ := remP (x := a8) (y := 2) (by omega) (by omega)
    rcases (show (0 ≤ xl) ∨ (xh ≤ -1) ∨ (xl ≤ -1 ∧ 0 ≤ xh) by omega) with h0 | h0 | h0
    · rcases (show (1 ≤ yl ∧ xh < yl) ∨ (1 ≤ yl ∧ yl ≤ xh) ∨ (yl = 0 ∧ 1 ≤ yh) ∨ (yl = 0 ∧ yh = 0) ∨ (yl = -1 ∧ yh = -1) ∨ (yl ≤ -2 ∧ yh = -1) ∨ (yh ≤ -2) ∨ (yl ≤ -1 ∧ yh = 0) ∨ (yl ≤ -1 ∧ 1 ≤ yh) by omega) with h1 | h1 | h1 | h1 | h1 | h1 | h1 | h1 | h1
      · have dq0 := qD xl yl
        have fq0 := q1 xl yl
        have dm0 := rD xl yl
        have fm0 := rP xl yl
        have bm0 := rU xl yl
        have sm0 := rS xl yl
        have dq1 := qD xh yl
        have fq1 := q1 xh yl
        have dm1 := rD xh yl
        have fm1 := rP xh yl
        have bm1 := rU xh yl
        have sm1 := rS xh yl
        have dq2 := qD xl yh
        have fq2 := q1 xl yh
        have dm2 := rD xl yh
        have fm2 := rP xl yh
        have bm2 := rU xl yh
        have sm2 := rS xl yh
        have dq3 := qD xh yh
        have fq3 := q1 xh yh
        have dm3 := rD xh yh
        have fm3 := rP xh yh
        have bm3 := rU xh yh
        have sm3 := rS xh yh
        have dq4 := qD (xl + zi) (yl + zj)
        have fq4 := q1 (xl + zi) (yl + zj)
        have dm4 := rD (xl + zi) (yl + zj)
        have fm4 := rP (xl + zi) (yl + zj)
        have bm4 := rU (xl + zi) (yl + zj)
        have sm4 := rS (xl + zi) (yl + zj)
        exact fx6 (xs := [xl, xh, yl, yh, zi, zj, i2, qV xl yl, rV xl yl, qV xh yl, rV xh yl, qV xl yh, rV xl yh, qV xh yh, rV xh yh, qV (xl + zi) (yl + zj), rV (xl + zi) (yl + zj), a0 / 12, a8, a9, a2, a3, a4, a5, a6, a7]) run96 aR w (h4 := ⟨dO ei, dO ej, dO e2, dO dq0, dO dm0, dO dq1, dO dm1, dO dq2, dO dm2, dO dq3, dO dm3, dO dq4, dO dm4, trivial⟩)
      · have dq0 := qD xl yl
        have fq0 := q1 xl yl
        have dm0 := rD xl yl
        have fm0 := rP xl yl
        have bm0 := rU xl yl
        have dq1 := qD xh yl
        have fq1 := q1 xh yl
        have dm1 := rD xh yl
        have fm1 := rP xh yl
        have bm1 := rU xh yl
        have dq2 := qD xl yh
        have fq2 := q1 xl yh
        have dm2 := rD xl yh
        have fm2 := rP xl yh
        have bm2 := rU xl yh
        have dq3 := qD xh yh
        have fq3 := q1 xh yh
        have dm3 := rD xh yh
        have fm3 := rP xh yh
        have bm3 := rU xh yh
        have dq4 := qD (xl + zi) (yl + zj)
        have fq4 := q1 (xl + zi) (yl + zj)
        have dm4 := rD (xl + zi) (yl + zj)
        have fm4 := rP (xl + zi) (yl + zj)
        have bm4 := rU (xl + zi) (yl + zj)
        exact fx6 (xs := [xl, xh, yl, yh, zi, zj, i2, qV xl yl, rV xl yl, qV xh yl, rV xh yl, qV xl yh, rV xl yh, qV xh yh, rV xh yh, qV (xl + zi) (yl + zj), rV (xl + zi) (yl + zj), a0 / 12, a8, a9, a2, a3, a4, a5, a6, a7]) run97 aR w (h4 := ⟨dO ei, dO ej, dO e2, dO dq0, dO dm0, dO dq1, dO dm1, dO dq2, dO dm2, dO dq3, dO dm3, dO dq4, dO dm4, trivial⟩)
      · obtain rfl : yl = 0 := by omega
        rcases (show (zj = 0) ∨ (1 ≤ zj) by omega) with h2 | h2
        · have dq0 := qD xl yh
          have fq0 := q1 xl yh
          have dm0 := rD xl yh
          have fm0 := rP xl yh
          have bm0 := rU xl yh
          have dq1 := qD xh yh
          have fq1 := q1 xh yh
          have dm1 := rD xh yh
          have fm1 := rP xh yh
          have bm1 := rU xh yh
          exact fx6 (xs := [xl, xh, 0, yh, zi, zj, i2, qV xl yh, rV xl yh, qV xh yh, rV xh yh, a0 / 12, a8, a9, a2, a3, a4, a5, a6, a7]) run98 aR w (h4 := ⟨dO ei, dO ej, dO e2, dO dq0, dO dm0, dO dq1, dO dm1, trivial⟩)
        · have dq0 := qD xl yh
          have fq0 := q1 xl yh
          have dm0 := rD xl yh
          have fm0 := rP xl yh
          have bm0 := rU xl yh
          have dq1 := qD xh yh
          have fq1 := q1 xh yh
          have dm1 := rD xh yh
          have fm1 := rP xh yh
          have bm1 := rU xh yh
          have dq2 := qD (xl + zi) zj
          have fq2 := q1 (xl + zi) zj
          have dm2 := rD (xl + zi) zj
          have fm2 := rP (xl + zi) zj
          have bm2 := rU (xl + zi) zj
          exact fx6 (xs := [xl, xh, 0, yh, zi, zj, i2, qV xl yh, rV xl yh, qV xh yh, rV xh yh, qV (xl + zi) zj, rV (xl + zi) zj, a0 / 12, a8, a9, a2, a3, a4, a5, a6, a7]) run99 aR w (h4 := ⟨dO ei, dO ej, dO e2, dO dq0, dO dm0, dO dq1, dO dm1, dO dq2, dO dm2, trivial⟩)
      · obtain rfl : yl = 0 := by omega
        obtain rfl : yh = 0 := by omega
        exact fx6 (xs := [xl, xh, 0, 0, zi, 0, i2, a0 / 12, a8, a9, a2, a3, a4, a5, a6, a7]) run100 aR w (h4 := ⟨dO ei, dO e2, trivial⟩)
      · obtain rfl : yl = -1 := by omega
        obtain rfl : yh = -1 := by omega
        have dq0 := qD xl (-1)
        have fq0 := q3 xl (-1)
        have nq0 := q5 xl (-1)
        have dm0 := rD xl (-1)
        have fm0 := rP xl (-1)
        have bm0 := rW xl (-1)
        have dq1 := qD xh (-1)
        have fq1 := q3 xh (-1)
        have nq1 := q5 xh (-1)
        have dm1 := rD xh (-1)
        have fm1 := rP xh (-1)
        have bm1 := rW xh (-1)
        have dq2 := qD (xl + zi) (-1)
        have fq2 := q3 (xl + zi) (-1)
        have nq2 := q5 (xl + zi) (-1)
        have dm2 := rD (xl + zi) (-1)
        have fm2 := rP (xl + zi) (-1)
        have bm2 := rW (xl + zi) (-1)
        exact fx6 (xs := [xl, xh, (-1), (-1), zi, 0, i2, qV xl (-1), rV xl (-1), qV xh (-1), rV xh (-1), qV (xl + zi) (-1), rV (xl + zi) (-1), a0 / 12, a8, a9, a2, a3, a4, a5, a6, a7]) run101 aR w (h4 := ⟨dO ei, dO e2, dO dq0, dO dm0, dO dq1, dO dm1, dO dq2, dO dm2, trivial⟩)
      · obtain rfl : yh = -1 := by omega
        have dq0 := qD xl yl
        have fq0 := q3 xl yl
        have dm0 := rD xl yl
        have fm0 := rP xl yl
        have bm0 := rW xl yl
        have dq1 := qD xh yl
        have fq1 := q3 xh yl
        have dm1 := rD xh yl
        have fm1 := rP xh yl
        have bm1 := rW xh yl
        have dq2 := qD xl (-1)
        have fq2 := q3 xl (-1)
        have dm2 := rD xl (-1)
        have fm2 := rP xl (-1)
        have bm2 := rW xl (-1)
        have dq3 := qD xh (-1)
        have fq3 := q3 xh (-1)
        have dm3 := rD xh (-1)
        have fm3 := rP xh (-1)
        have bm3 := rW xh (-1)
        have dq4 := qD (xl + zi) (yl + zj)
        have fq4 := q3 (xl + zi) (yl + zj)
        have dm4 := rD (xl + zi) (yl + zj)
        have fm4 := rP (xl + zi) (yl + zj)
        have bm4 := rW (xl + zi) (yl + zj)
        exact fx6 (xs := [xl, xh, yl, (-1), zi, zj, i2, qV xl yl, rV xl yl, qV xh yl, rV xh yl, qV xl (-1), rV xl (-1), qV xh (-1), rV xh (-1), qV (xl + zi) (yl + zj), rV (xl + zi) (yl + zj), a0 / 12, a8, a9, a2, a3, a4, a5, a6, a7]) run102 aR w (h4 := ⟨dO ei, dO ej, dO e2, dO dq0, dO dm0, dO dq1, dO dm1, dO dq2, dO dm2, dO dq3, dO dm3, dO dq4, dO dm4, trivial⟩)
      · have dq0 := qD xl yl
        have gq0 := q6 xl yl
        have fq0 := q3 xl yl
        have dm0 := rD xl yl
        have fm0 := rP xl yl
        have bm0 := rW xl yl
        have dq1 := qD xh yl
        have gq1 := q6 xh yl
        have fq1 := q3 xh yl
        have dm1 := rD xh yl
        have fm1 := rP xh yl
        have bm1 := rW xh yl
        have dq2 := qD xl yh
        have gq2 := q6 xl yh
        have fq2 := q3 xl yh
        have dm2 := rD xl yh
        have fm2 := rP xl yh
        have bm2 := rW xl yh
        have dq3 := qD xh yh
        have gq3 := q6 xh yh
        have fq3 := q3 xh yh
        have dm3 := rD xh yh
        have fm3 := rP xh yh
        have bm3 := rW xh yh
        have dq4 := qD (xl + zi) (yl + zj)
        have gq4 := q6 (xl + zi) (yl + zj)
        have fq4 := q3 (xl + zi) (yl + zj)
        have dm4 := rD (xl + zi) (yl + zj)
        have fm4 := rP (xl + zi) (yl + zj)
        have bm4 := rW (xl + zi) (yl + zj)
        exact fx6 (xs := [xl, xh, yl, yh, zi, zj, i2, qV xl yl, rV xl yl, qV xh yl, rV xh yl, qV xl yh, rV xl yh, qV xh yh, rV xh yh, qV (xl + zi) (yl + zj), rV (xl + zi) (yl + zj), a0 / 12, a8, a9, a2, a3, a4, a5, a6, a7]) run103 aR w (h4 := ⟨dO ei, dO ej, dO e2, dO dq0, dO dm0, dO dq1, dO dm1, dO dq2, dO dm2, dO dq3, dO dm3, dO dq4, dO dm4, trivial⟩)
      · obtain rfl : yh = 0 := by omega
        rcases (show ((yl + zj) = 0) ∨ ((yl + zj) ≤ -1) by omega) with h2 | h2
        · have dq0 := qD xl yl
          have fq0 := q3 xl yl
          have dm0 := rD xl yl
          have fm0 := rP xl yl
          have bm0 := rW xl yl
          have dq1 := qD xh yl
          have fq1 := q3 xh yl
          have dm1 := rD xh yl
          have fm1 := rP xh yl
          have bm1 := rW xh yl
          exact fx6 (xs := [xl, xh, yl, 0, zi, zj, i2, qV xl yl, rV xl yl, qV xh yl, rV xh yl, a0 / 12, a8, a9, a2, a3, a4, a5, a6, a7]) run104 aR w (h4 := ⟨dO ei, dO ej, dO e2, dO dq0, dO dm0, dO dq1, dO dm1, trivial⟩)
        · have dq0 := qD xl yl
          have fq0 := q3 xl yl
          have dm0 := rD xl yl
          have fm0 := rP xl yl
          have bm0 := rW xl yl
          have dq1 := qD xh yl
          have fq1 := q3 xh yl
          have dm1 := rD xh yl
          have fm1 := rP xh yl
          have bm1 := rW xh yl
          have dq2 := qD (xl + zi) (yl + zj)
          have fq2 := q3 (xl + zi) (yl + zj)
          have dm2 := rD (xl + zi) (yl + zj)
          have fm2 := rP (xl + zi) (yl + zj)
          have bm2 := rW (xl + zi) (yl + zj)
          exact fx6 (xs := [xl, xh, yl, 0, zi, zj, i2, qV xl yl, rV xl yl, qV xh yl, rV xh yl, qV (xl + zi) (yl + zj), rV (xl + zi) (yl + zj), a0 / 12, a8, a9, a2, a3, a4, a5, a6, a7]) run105 aR w (h4 := ⟨dO ei, dO ej, dO e2, dO dq0, dO dm0, dO dq1, dO dm1, dO dq2, dO dm2, trivial⟩)
      · rcases (show ((yl + zj) = 0) ∨ (1 ≤ (yl + zj)) ∨ ((yl + zj) ≤ -1) by omega) with h2 | h2 | h2
        · have dq0 := qD xl yl
          have fq0 := q3 xl yl
          have dm0 := rD xl yl
          have fm0 := rP xl yl
          have bm0 := rW xl yl
          have dq1 := qD xh yl
          have fq1 := q3 xh yl
          have dm1 := rD xh yl
          have fm1 := rP xh yl
          have bm1 := rW xh yl
          have dq2 := qD xl yh
          have fq2 := q1 xl yh
          have dm2 := rD xl yh
          have fm2 := rP xl yh
          have bm2 := rU xl yh
          have dq3 := qD xh yh
          have fq3 := q1 xh yh
          have dm3 := rD xh yh
          have fm3 := rP xh yh
          have bm3 := rU xh yh
          exact fx6 (xs := [xl, xh, yl, yh, zi, zj, i2, qV xl yl, rV xl yl, qV xh yl, rV xh yl, qV xl yh, rV xl yh, qV xh yh, rV xh yh, a0 / 12, a8, a9, a2, a3, a4, a5, a6, a7]) run106 aR w (h4 := ⟨dO ei, dO ej, dO e2, dO dq0, dO dm0, dO dq1, dO dm1, dO dq2, dO dm2, dO dq3, dO dm3, trivial⟩)
        · have dq0 := qD xl yl
          have fq0 := q3 xl yl
          have dm0 := rD xl yl
          have fm0 := rP xl yl
          have bm0 := rW xl yl
          have dq1 := qD xh yl
          have fq1 := q3 xh yl
          have dm1 := rD xh yl
          have fm1 := rP xh yl
          have bm1 := rW xh yl
          have dq2 := qD xl yh
          have fq2 := q1 xl yh
          have dm2 := rD xl yh
          have fm2 := rP xl yh
          have bm2 := rU xl yh
          have dq3 := qD xh yh
          have fq3 := q1 xh yh
          have dm3 := rD xh yh
          have fm3 := rP xh yh
          have bm3 := rU xh yh
          have dq4 := qD (xl + zi) (yl + zj)
          have fq4 := q1 (xl + zi) (yl + zj)
          have dm4 := rD (xl + zi) (yl + zj)
          have fm4 := rP (xl + zi) (yl + zj)
          have bm4 := rU (xl + zi) (yl + zj)
          exact fx6 (xs := [xl, xh, yl, yh, zi, zj, i2, qV xl yl, rV xl yl, qV xh yl, rV xh yl, qV xl yh, rV xl yh, qV xh yh, rV xh yh, qV (xl + zi) (yl + zj), rV (xl + zi) (yl + zj), a0 / 12, a8, a9, a2, a3, a4, a5, a6, a7]) run107 aR w (h4 := ⟨dO ei, dO ej, dO e2, dO dq0, dO dm0, dO dq1, dO dm1, dO dq2, dO dm2, dO dq3, dO dm3, dO dq4, dO dm4, trivial⟩)
        · have dq0 := qD xl yl
          have fq0 := q3 xl yl
          have dm0 := rD xl yl
          have fm0 := rP xl yl
          have bm0 := rW xl yl
          have dq1 := qD xh yl
          have fq1 := q3 xh yl
          have dm1 := rD xh yl
          have fm1 := rP xh yl
          have bm1 := rW xh yl
          have dq2 := qD xl yh
          have fq2 := q1 xl yh
          have dm2 := rD xl yh
          have fm2 := rP xl yh
          have bm2 := rU xl yh
          have dq3 := qD xh yh
          have fq3 := q1 xh yh
          have dm3 := rD xh yh
          have fm3 := rP xh yh
          have bm3 := rU xh yh
          have dq4 := qD (xl + zi) (yl + zj)
          have fq4 := q3 (xl + zi) (yl + zj)
          have dm4 := rD (xl + zi) (yl + zj)
          have fm4 := rP (xl + zi) (yl + zj)
          have bm4 := rW (xl + zi) (yl + zj)
          exact fx6 (xs := [xl, xh, yl, yh, zi, zj, i2, qV xl yl, rV xl yl, qV xh yl, rV xh yl, qV xl yh, rV xl yh, qV xh yh, rV xh yh, qV (xl + zi) (yl + zj), rV (xl + zi) (yl + zj), a0 / 12, a8, a9, a2, a3, a4, a5, a6, a7]) run108 aR w (h4 := ⟨dO ei, dO ej, dO e2, dO dq0, dO dm0, dO dq1, dO dm1, dO dq2, dO dm2, dO dq3, dO dm3, dO dq4, dO dm4, trivial⟩)
    · rcases (show (1 ≤ yl) ∨ (yl = 0 ∧ 1 ≤ yh) ∨ (yl = 0 ∧ yh = 0) ∨ (yl = -1 ∧ yh = -1) ∨ (yl ≤ -2 ∧ yh = -1) ∨ (yh ≤ -2) ∨ (yl ≤ -1 ∧ yh = 0) ∨ (yl ≤ -1 ∧ 1 ≤ yh) by omega) with h1 | h1 | h1 | h1 | h1 | h1 | h1 | h1
      · have dq0 := qD xl yl
        have fq0 := q2 xl yl
        have dm0 := rD xl yl
        have fm0 := rN xl yl
        have bm0 := rU xl yl
        have dq1 := qD xh yl
        have fq1 := q2 xh yl
        have dm1 := rD xh yl
        have fm1 := rN xh yl
        have bm1 := rU xh yl
        have dq2 := qD xl yh
        have fq2 := q2 xl yh
        have dm2 := rD xl yh
        have fm2 := rN xl yh
        have bm2 := rU xl yh
        have dq3 := qD xh yh
        have fq3 := q2 xh yh
        have dm3 := rD xh yh
        have fm3 := rN xh yh
        have bm3 := rU xh yh
        have dq4 := qD (xl + zi) (yl + zj)
        have fq4 := q2 (xl + zi) (yl + zj)
        have dm4 := rD (xl + zi) (yl + zj)
        have fm4 := rN (xl + zi) (yl + zj)
        have bm4 := rU (xl + zi) (yl + zj)
        exact fx6 (xs := [xl, xh, yl, yh, zi, zj, i2, qV xl yl, rV xl yl, qV xh yl, rV xh yl, qV xl yh, rV xl yh, qV xh yh, rV xh yh, qV (xl + zi) (yl + zj), rV (xl + zi) (yl + zj), a0 / 12, a8, a9, a2, a3, a4, a5, a6, a7]) run109 aR w (h4 := ⟨dO ei, dO ej, dO e2, dO dq0, dO dm0, dO dq1, dO dm1, dO dq2, dO dm2, dO dq3, dO dm3, dO dq4, dO dm4, trivial⟩)
      · obtain rfl : yl = 0 := by omega
        rcases (show (zj = 0) ∨ (1 ≤ zj) by omega) with h2 | h2
        · have dq0 := qD xl yh
          have fq0 := q2 xl yh
          have dm0 := rD xl yh
          have fm0 := rN xl yh
          have bm0 := rU xl yh
          have dq1 := qD xh yh
          have fq1 := q2 xh yh
          have dm1 := rD xh yh
          have fm1 := rN xh yh
          have bm1 := rU xh yh
          exact fx6 (xs := [xl, xh, 0, yh, zi, zj, i2, qV xl yh, rV xl yh, qV xh yh, rV xh yh, a0 / 12, a8, a9, a2, a3, a4, a5, a6, a7]) run110 aR w (h4 := ⟨dO ei, dO ej, dO e2, dO dq0, dO dm0, dO dq1, dO dm1, trivial⟩)
        · have dq0 := qD xl yh
          have fq0 := q2 xl yh
          have dm0 := rD xl yh
          have fm0 := rN xl yh
          have bm0 := rU xl yh
          have dq1 := qD xh yh
          have fq1 := q2 xh yh
          have dm1 := rD xh yh
          have fm1 := rN xh yh
          have bm1 := rU xh yh
          have dq2 := qD (xl + zi) zj
          have fq2 := q2 (xl + zi) zj
          have dm2 := rD (xl + zi) zj
          have fm2 := rN (xl + zi) zj
          have bm2 := rU (xl + zi) zj
          exact fx6 (xs := [xl, xh, 0, yh, zi, zj, i2, qV xl yh, rV xl yh, qV xh yh, rV xh yh, qV (xl + zi) zj, rV (xl + zi) zj, a0 / 12, a8, a9, a2, a3, a4, a5, a6, a7]) run111 aR w (h4 := ⟨dO ei, dO ej, dO e2, dO dq0, dO dm0, dO dq1, dO dm1, dO dq2, dO dm2, trivial⟩)
      · obtain rfl : yl = 0 := by omega
        obtain rfl : yh = 0 := by omega
        exact fx6 (xs := [xl, xh, 0, 0, zi, 0, i2, a0 / 12, a8, a9, a2, a3, a4, a5, a6, a7]) run112 aR w (h4 := ⟨dO ei, dO e2, trivial⟩)
      · obtain rfl : yl = -1 := by omega
        obtain rfl : yh = -1 := by omega
        have dq0 := qD xl (-1)
        have fq0 := q4 xl (-1)
        have nq0 := q5 xl (-1)
        have dm0 := rD xl (-1)
        have fm0 := rN xl (-1)
        have bm0 := rW xl (-1)
        have dq1 := qD xh (-1)
        have fq1 := q4 xh (-1)
        have nq1 := q5 xh (-1)
        have dm1 := rD xh (-1)
        have fm1 := rN xh (-1)
        have bm1 := rW xh (-1)
        have dq2 := qD (xl + zi) (-1)
        have fq2 := q4 (xl + zi) (-1)
        have nq2 := q5 (xl + zi) (-1)
        have dm2 := rD (xl + zi) (-1)
        have fm2 := rN (xl + zi) (-1)
        have bm2 := rW (xl + zi) (-1)
        exact fx6 (xs := [xl, xh, (-1), (-1), zi, 0, i2, qV xl (-1), rV xl (-1), qV xh (-1), rV xh (-1), qV (xl + zi) (-1), rV (xl + zi) (-1), a0 / 12, a8, a9, a2, a3, a4, a5, a6, a7]) run113 aR w (h4 := ⟨dO ei, dO e2, dO dq0, dO dm0, dO dq1, dO dm1, dO dq2, dO dm2, trivial⟩)
      · obtain rfl : yh = -1 := by omega
        have dq0 := qD xl yl
        have fq0 := q4 xl yl
        have dm0 := rD xl yl
        have fm0 := rN xl yl
        have bm0 := rW xl yl
        have dq1 := qD xh yl
        have fq1 := q4 xh yl
        have dm1 := rD xh yl
        have fm1 := rN xh yl
        have bm1 := rW xh yl
        have dq2 := qD xl (-1)
        have fq2 := q4 xl (-1)
        have dm2 := rD xl (-1)
        have fm2 := rN xl (-1)
        have bm2 := rW xl (-1)
        have dq3 := qD xh (-1)
        have fq3 := q4 xh (-1)
        have dm3 := rD xh (-1)
        have fm3 := rN xh (-1)
        have bm3 := rW xh (-1)
        have dq4 := qD (xl + zi) (yl + zj)
        have fq4 := q4 (xl + zi) (yl + zj)
        have dm4 := rD (xl + zi) (yl + zj)
        have fm4 := rN (xl + zi) (yl + zj)
        have bm4 := rW (xl + zi) (yl + zj)
        exact fx6 (xs := [xl, xh, yl, (-1), zi, zj, i2, qV xl yl, rV xl yl, qV xh yl, rV xh yl, qV xl (-1), rV xl (-1), qV xh (-1), rV xh (-1), qV (xl + zi) (yl + zj), rV (xl + zi) (yl + zj), a0 / 12, a8, a9, a2, a3, a4, a5, a6, a7]) run114 aR w (h4 := ⟨dO ei, dO ej, dO e2, dO dq0, dO dm0, dO dq1, dO dm1, dO dq2, dO dm2, dO dq3, dO dm3, dO dq4, dO dm4, trivial⟩)
      · have dq0 := qD xl yl
        have gq0 := q6 xl yl
        have fq0 := q4 xl yl
        have dm0 := rD xl yl
        have fm0 := rN xl yl
        have bm0 := rW xl yl
        have dq1 := qD xh yl
        have gq1 := q6 xh yl
        have fq1 := q4 xh yl
        have dm1 := rD xh yl
        have fm1 := rN xh yl
        have bm1 := rW xh yl
        have dq2 := qD xl yh
        have gq2 := q6 xl yh
        have fq2 := q4 xl yh
        have dm2 := rD xl yh
        have fm2 := rN xl yh
        have bm2 := rW xl yh
        have dq3 := qD xh yh
        have gq3 := q6 xh yh
        have fq3 := q4 xh yh
        have dm3 := rD xh yh
        have fm3 := rN xh yh
        have bm3 := rW xh yh
        have dq4 := qD (xl + zi) (yl + zj)
        have gq4 := q6 (xl + zi) (yl + zj)
        have fq4 := q4 (xl + zi) (yl + zj)
        have dm4 := rD (xl + zi) (yl + zj)
        have fm4 := rN (xl + zi) (yl + zj)
        have bm4 := rW (xl + zi) (yl + zj)
        exact fx6 (xs := [xl, xh, yl, yh, zi, zj, i2, qV xl yl, rV xl yl, qV xh yl, rV xh yl, qV xl yh, rV xl yh, qV xh yh, rV xh yh, qV (xl + zi) (yl + zj), rV (xl + zi) (yl + zj), a0 / 12, a8, a9, a2, a3, a4, a5, a6, a7]) run115 aR w (h4 := ⟨dO ei, dO ej, dO e2, dO dq0, dO dm0, dO dq1, dO dm1, dO dq2, dO dm2, dO dq3, dO dm3, dO dq4, dO dm4, trivial⟩)
      · obtain rfl : yh = 0 := by omega
        rcases (show ((yl + zj) = 0) ∨ ((yl + zj) ≤ -1) by omega) with h2 | h2
        · have dq0 := qD xl yl
          have fq0 := q4 xl yl
          have dm0 := rD xl yl
          have fm0 := rN xl yl
          have bm0 := rW xl yl
          have dq1 := qD xh yl
          have fq1 := q4 xh yl
          have dm1 := rD xh yl
          have fm1 := rN xh yl
          have bm1 := rW xh yl
          exact fx6 (xs := [xl, xh, yl, 0, zi, zj, i2, qV xl yl, rV xl yl, qV xh yl, rV xh yl, a0 / 12, a8, a9, a2, a3, a4, a5, a6, a7]) run116 aR w (h4 := ⟨dO ei, dO ej, dO e2, dO dq0, dO dm0, dO dq1, dO dm1, trivial⟩)
        · have dq0 := qD xl yl
          have fq0 := q4 xl yl
          have dm0 := rD xl yl
          have fm0 := rN xl yl
          have bm0 := rW xl yl
          have dq1 := qD xh yl
          have fq1 := q4 xh yl
          have dm1 := rD xh yl
          have fm1 := rN xh yl
          have bm1 := rW xh yl
          have dq2 := qD (xl + zi) (yl + zj)
          have fq2 := q4 (xl + zi) (yl + zj)
          have dm2 := rD (xl + zi) (yl + zj)
          have fm2 := rN (xl + zi) (yl + zj)
          have bm2 := rW (xl + zi) (yl + zj)
          exact fx6 (xs := [xl, xh, yl, 0, zi, zj, i2, qV xl yl, rV xl yl, qV xh yl, rV xh yl, qV (xl + zi) (yl + zj), rV (xl + zi) (yl + zj), a0 / 12, a8, a9, a2, a3, a4, a5, a6, a7]) run117 aR w (h4 := ⟨dO ei, dO ej, dO e2, dO dq0, dO dm0, dO dq1, dO dm1, dO dq2, dO dm2, trivial⟩)
      · rcases (show ((yl + zj) = 0) ∨ (1 ≤ (yl + zj)) ∨ ((yl + zj) ≤ -1) by omega) with h2 | h2 | h2
        · have dq0 := qD xl yl
          have fq0 := q4 xl yl
          have dm0 := rD xl yl
          have fm0 := rN xl yl
          have bm0 := rW xl yl
          have dq1 := qD xh yl
          have fq1 := q4 xh yl
          have dm1 := rD xh yl
          have fm1 := rN xh yl
          have bm1 := rW xh yl
          have dq2 := qD xl yh
          have fq2 := q2 xl yh
          have dm2 := rD xl yh
          have fm2 := rN xl yh
          have bm2 := rU xl yh
          have dq3 := qD xh yh
          have fq3 := q2 xh yh
          have dm3 := rD xh yh
          have fm3 := rN xh yh
          have bm3 := rU xh yh
          exact fx6 (xs := [xl, xh, yl, yh, zi, zj, i2, qV xl yl, rV xl yl, qV xh yl, rV xh yl, qV xl yh, rV xl yh, qV xh yh, rV xh yh, a0 / 12, a8, a9, a2, a3, a4, a5, a6, a7]) run118 aR w (h4 := ⟨dO ei, dO ej, dO e2, dO dq0, dO dm0, dO dq1, dO dm1, dO dq2, dO dm2, dO dq3, dO dm3, trivial⟩)
        · have dq0 := qD xl yl
          have fq0 := q4 xl yl
          have dm0 := rD xl yl
          have fm0 := rN xl yl
          have bm0 := rW xl yl
          have dq1 := qD xh yl
          have fq1 := q4 xh yl
          have dm1 := rD xh yl
          have fm1 := rN xh yl
          have bm1 := rW xh yl
          have dq2 := qD xl yh
          have fq2 := q2 xl yh
          have dm2 := rD xl yh
          have fm2 := rN xl yh
          have bm2 := rU xl yh
          have dq3 := qD xh yh
          have fq3 := q2 xh yh
          have dm3 := rD xh yh
          have fm3 := rN xh yh
          have bm3 := rU xh yh
          have dq4 := qD (xl + zi) (yl + zj)
          have fq4 := q2 (xl + zi) (yl + zj)
          have dm4 := rD (xl + zi) (yl + zj)
          have fm4 := rN (xl + zi) (yl + zj)
          have bm4 := rU (xl + zi) (yl + zj)
          exact fx6 (xs := [xl, xh, yl, yh, zi, zj, i2, qV xl yl, rV xl yl, qV xh yl, rV xh yl, qV xl yh, rV xl yh, qV xh yh, rV xh yh, qV (xl + zi) (yl + zj), rV (xl + zi) (yl + zj), a0 / 12, a8, a9, a2, a3, a4, a5, a6, a7]) run119 aR w (h4 := ⟨dO ei, dO ej, dO e2, dO dq0, dO dm0, dO dq1, dO dm1, dO dq2, dO dm2, dO dq3, dO dm3, dO dq4, dO dm4, trivial⟩)
        · have dq0 := qD xl yl
          have fq0 := q4 xl yl
          have dm0 := rD xl yl
          have fm0 := rN xl yl
          have bm0 := rW xl yl
          have dq1 := qD xh yl
          have fq1 := q4 xh yl
          have dm1 := rD xh yl
          have fm1 := rN xh yl
          have bm1 := rW xh yl
          have dq2 := qD xl yh
          have fq2 := q2 xl yh
          have dm2 := rD xl yh
          have fm2 := rN xl yh
          have bm2 := rU xl yh
          have dq3 := qD xh yh
          have fq3 := q2 xh yh
          have dm3 := rD xh yh
          have fm3 := rN xh yh
          have bm3 := rU xh yh
          have dq4 := qD (xl + zi) (yl + zj)
          have fq4 := q4 (xl + zi) (yl + zj)
          have dm4 := rD (xl + zi) (yl + zj)
          have fm4 := rN (xl + zi) (yl + zj)
          have bm4 := rW (xl + zi) (yl + zj)
          exact fx6 (xs := [xl, xh, yl, yh, zi, zj, i2, qV xl yl, rV xl yl, qV xh yl, rV xh yl, qV xl yh, rV xl yh, qV xh yh, rV xh yh, qV (xl + zi) (yl + zj), rV (xl + zi) (yl + zj), a0 / 12, a8, a9, a2, a3, a4, a5, a6, a7]) run120 aR w (h4 := ⟨dO ei, dO ej, dO e2, dO dq0, dO dm0, dO dq1, dO dm1, dO dq2, dO dm2, dO dq3, dO dm3, dO dq4, dO dm4, trivial⟩)
    · rcases (show (1 ≤ yl) ∨ (yl = 0 ∧ 1 ≤ yh) ∨ (yl = 0 ∧ yh = 0) ∨ (yl = -1 ∧ yh = -1) ∨ (yl ≤ -2 ∧ yh = -1) ∨ (yh ≤ -2) ∨ (yl ≤ -1 ∧ yh = 0) ∨ (yl ≤ -1 ∧ 1 ≤ yh) by omega) with h1 | h1 | h1 | h1 | h1 | h1 | h1 | h1
      · have dq0 := qD xl yl
        have fq0 := q2 xl yl
        have dm0 := rD xl yl
        have fm0 := rN xl yl
        have bm0 := rU xl yl
        have dq1 := qD xh yl
        have fq1 := q1 xh yl
        have dm1 := rD xh yl
        have fm1 := rP xh yl
        have bm1 := rU xh yl
        have dq2 := qD xl yh
        have fq2 := q2 xl yh
        have dm2 := rD xl yh
        have fm2 := rN xl yh
        have bm2 := rU xl yh
        have dq3 := qD xh yh
        have fq3 := q1 xh yh
        have dm3 := rD xh yh
        have fm3 := rP xh yh
        have bm3 := rU xh yh
        have dq4 := qD (xl + zi) (yl + zj)
        have fq4 := fun h => q1 (xl + zi) (yl + zj) h
        have kq4 := fun h => q2 (xl + zi) (yl + zj) h
        have dm4 := rD (xl + zi) (yl + zj)
        have fm4 := fun h => rP (xl + zi) (yl + zj) h
        have km4 := fun h => rN (xl + zi) (yl + zj) h
        have bm4 := rU (xl + zi) (yl + zj)
        exact fx6 (xs := [xl, xh, yl, yh, zi, zj, i2, qV xl yl, rV xl yl, qV xh yl, rV xh yl, qV xl yh, rV xl yh, qV xh yh, rV xh yh, qV (xl + zi) (yl + zj), rV (xl + zi) (yl + zj), a0 / 12, a8, a9, a2, a3, a4, a5, a6, a7]) run121 aR w (h4 := ⟨dO ei, dO ej, dO e2, dO dq0, dO dm0, dO dq1, dO dm1, dO dq2, dO dm2, dO dq3, dO dm3, dO dq4, dO dm4, trivial⟩)
      · obtain rfl : yl = 0 := by omega
        rcases (show (zj = 0) ∨ (1 ≤ zj) by omega) with h2 | h2
        · have dq0 := qD xl yh
          have fq0 := q2 xl yh
          have dm0 := rD xl yh
          have fm0 := rN xl yh
          have bm0 := rU xl yh
          have dq1 := qD xh yh
          have fq1 := q1 xh yh
          have dm1 := rD xh yh
          have fm1 := rP xh yh
          have bm1 := rU xh yh
          exact fx6 (xs := [xl, xh, 0, yh, zi, zj, i2, qV xl yh, rV xl yh, qV xh yh, rV xh yh, a0 / 12, a8, a9, a2, a3, a4, a5, a6, a7]) run122 aR w (h4 := ⟨dO ei, dO ej, dO e2, dO dq0, dO dm0, dO dq1, dO dm1, trivial⟩)
        · have dq0 := qD xl yh
          have fq0 := q2 xl yh
          have dm0 := rD xl yh
          have fm0 := rN xl yh
          have bm0 := rU xl yh
          have dq1 := qD xh yh
          have fq1 := q1 xh yh
          have dm1 := rD xh yh
          have fm1 := rP xh yh
          have bm1 := rU xh yh
          have dq2 := qD (xl + zi) zj
          have fq2 := fun h => q1 (xl + zi) zj h
          have kq2 := fun h => q2 (xl + zi) zj h
          have dm2 := rD (xl + zi) zj
          have fm2 := fun h => rP (xl + zi) zj h
          have km2 := fun h => rN (xl + zi) zj h
          have bm2 := rU (xl + zi) zj
          exact fx6 (xs := [xl, xh, 0, yh, zi, zj, i2, qV xl yh, rV xl yh, qV xh yh, rV xh yh, qV (xl + zi) zj, rV (xl + zi) zj, a0 / 12, a8, a9, a2, a3, a4, a5, a6, a7]) run123 aR w (h4 := ⟨dO ei, dO ej, dO e2, dO dq0, dO dm0, dO dq1, dO dm1, dO dq2, dO dm2, trivial⟩)
      · obtain rfl : yl = 0 := by omega
        obtain rfl : yh = 0 := by omega
        exact fx6 (xs := [xl, xh, 0, 0, zi, 0, i2, a0 / 12, a8, a9, a2, a3, a4, a5, a6, a7]) run124 aR w (h4 := ⟨dO ei, dO e2, trivial⟩)
      · obtain rfl : yl = -1 := by omega
        obtain rfl : yh = -1 := by omega
        have dq0 := qD xl (-1)
        have fq0 := q4 xl (-1)
        have nq0 := q5 xl (-1)
        have dm0 := rD xl (-1)
        have fm0 := rN xl (-1)
        have bm0 := rW xl (-1)
        have dq1 := qD xh (-1)
        have fq1 := q3 xh (-1)
        have nq1 := q5 xh (-1)
        have dm1 := rD xh (-1)
        have fm1 := rP xh (-1)
        have bm1 := rW xh (-1)
        have dq2 := qD (xl + zi) (-1)
        have fq2 := fun h => q3 (xl + zi) (-1) h
        have kq2 := fun h => q4 (xl + zi) (-1) h
        have nq2 := q5 (xl + zi) (-1)
        have dm2 := rD (xl + zi) (-1)
        have fm2 := fun h => rP (xl + zi) (-1) h
        have km2 := fun h => rN (xl + zi) (-1) h
        have bm2 := rW (xl + zi) (-1)
        exact fx6 (xs := [xl, xh, (-1), (-1), zi, 0, i2, qV xl (-1), rV xl (-1), qV xh (-1), rV xh (-1), qV (xl + zi) (-1), rV (xl + zi) (-1), a0 / 12, a8, a9, a2, a3, a4, a5, a6, a7]) run125 aR w (h4 := ⟨dO ei, dO e2, dO dq0, dO dm0, dO dq1, dO dm1, dO dq2, dO dm2, trivial⟩)
      · obtain rfl : yh = -1 := by omega
        have dq0 := qD xl yl
        have fq0 := q4 xl yl
        have dm0 := rD xl yl
        have fm0 := rN xl yl
        have bm0 := rW xl yl
        have dq1 := qD xh yl
        have fq1 := q3 xh yl
        have dm1 := rD xh yl
        have fm1 := rP xh yl
        have bm1 := rW xh yl
        have dq2 := qD xl (-1)
        have fq2 := q4 xl (-1)
        have dm2 := rD xl (-1)
        have fm2 := rN xl (-1)
        have bm2 := rW xl (-1)
        have dq3 := qD xh (-1)
        have fq3 := q3 xh (-1)
        have dm3 := rD xh (-1)
        have fm3 := rP xh (-1)
        have bm3 := rW xh (-1)
        have dq4 := qD (xl + zi) (yl + zj)
        have fq4 := fun h => q3 (xl + zi) (yl + zj) h
        have kq4 := fun h => q4 (xl + zi) (yl + zj) h
        have dm4 := rD (xl + zi) (yl + zj)
        have fm4 := fun h => rP (xl + zi) (yl + zj) h
        have km4 := fun h => rN (xl + zi) (yl + zj) h
        have bm4 := rW (xl + zi) (yl + zj)
        exact fx6 (xs := [xl, xh, yl, (-1), zi, zj, i2, qV xl yl, rV xl yl, qV xh yl, rV xh yl, qV xl (-1), rV xl (-1), qV xh (-1), rV xh (-1), qV (xl + zi) (yl + zj), rV (xl + zi) (yl + zj), a0 / 12, a8, a9, a2, a3, a4, a5, a6, a7]) run126 aR w (h4 := ⟨dO ei, dO ej, dO e2, dO dq0, dO dm0, dO dq1, dO dm1, dO dq2, dO dm2, dO dq3, dO dm3, dO dq4, dO dm4, trivial⟩)
      · have dq0 := qD xl yl
        have gq0 := q6 xl yl
        have fq0 := q4 xl yl
        have dm0 := rD xl yl
        have fm0 := rN xl yl
        have bm0 := rW xl yl
        have dq1 := qD xh yl
        have gq1 := q6 xh yl
        have fq1 := q3 xh yl
        have dm1 := rD xh yl
        have fm1 := rP xh yl
        have bm1 := rW xh yl
        have dq2 := qD xl yh
        have gq2 := q6 xl yh
        have fq2 := q4 xl yh
        have dm2 := rD xl yh
        have fm2 := rN xl yh
        have bm2 := rW xl yh
        have dq3 := qD xh yh
        have gq3 := q6 xh yh
        have fq3 := q3 xh yh
        have dm3 := rD xh yh
        have fm3 := rP xh yh
        have bm3 := rW xh yh
        have dq4 := qD (xl + zi) (yl + zj)
        have gq4 := q6 (xl + zi) (yl + zj)
        have fq4 := fun h => q3 (xl + zi) (yl + zj) h
        have kq4 := fun h => q4 (xl + zi) (yl + zj) h
        have dm4 := rD (xl + zi) (yl + zj)
        have fm4 := fun h => rP (xl + zi) (yl + zj) h
        have km4 := fun h => rN (xl + zi) (yl + zj) h
        have bm4 := rW (xl + zi) (yl + zj)
        exact fx6 (xs := [xl, xh, yl, yh, zi, zj, i2, qV xl yl, rV xl yl, qV xh yl, rV xh yl, qV xl yh, rV xl yh, qV xh yh, rV xh yh, qV (xl + zi) (yl + zj), rV (xl + zi) (yl + zj), a0 / 12, a8, a9, a2, a3, a4, a5, a6, a7]) run127 aR w (h4 := ⟨dO ei, dO ej, dO e2, dO dq0, dO dm0, dO dq1, dO dm1, dO dq2, dO dm2, dO dq3, dO dm3, dO dq4, dO dm4, trivial⟩)
      · obtain rfl : yh = 0 := by omega
        rcases (show ((yl + zj) = 0) ∨ ((yl + zj) ≤ -1) by omega) with h2 | h2
        · have dq0 := qD xl yl
          have fq0 := q4 xl yl
          have dm0 := rD xl yl
          have fm0 := rN xl yl
          have bm0 := rW xl yl
          have dq1 := qD xh yl
          have fq1 := q3 xh yl
          have dm1 := rD xh yl
          have fm1 := rP xh yl
          have bm1 := rW xh yl
          exact fx6 (xs := [xl, xh, yl, 0, zi, zj, i2, qV xl yl, rV xl yl, qV xh yl, rV xh yl, a0 / 12, a8, a9, a2, a3, a4, a5, a6, a7]) run128 aR w (h4 := ⟨dO ei, dO ej, dO e2, dO dq0, dO dm0, dO dq1, dO dm1, trivial⟩)
        · have dq0 := qD xl yl
          have fq0 := q4 xl yl
          have dm0 := rD xl yl
          have fm0 := rN xl yl
          have bm0 := rW xl yl
          have dq1 := qD xh yl
          have fq1 := q3 xh yl
          have dm1 := rD xh yl
          have fm1 := rP xh yl
          have bm1 := rW xh yl
          have dq2 := qD (xl + zi) (yl + zj)
          have fq2 := fun h => q3 (xl + zi) (yl + zj) h
          have kq2 := fun h => q4 (xl + zi) (yl + zj) h
          have dm2 := rD (xl + zi) (yl + zj)
          have fm2 := fun h => rP (xl + zi) (yl + zj) h
          have km2 := fun h => rN (xl + zi) (yl + zj) h
          have bm2 := rW (xl + zi) (yl + zj)
          exact fx6 (xs := [xl, xh, yl, 0, zi, zj, i2, qV xl yl, rV xl yl, qV xh yl, rV xh yl, qV (xl + zi) (yl + zj), rV (xl + zi) (yl + zj), a0 / 12, a8, a9, a2, a3, a4, a5, a6, a7]) run129 aR w (h4 := ⟨dO ei, dO ej, dO e2, dO dq0, dO dm0, dO dq1, dO dm1, dO dq2, dO dm2, trivial⟩)
      · rcases (show ((yl + zj) = 0) ∨ (1 ≤ (yl + zj)) ∨ ((yl + zj) ≤ -1) by omega) with h2 | h2 | h2
        · have dq0 := qD xl yl
          have fq0 := q4 xl yl
          have dm0 := rD xl yl
          have fm0 := rN xl yl
          have bm0 := rW xl yl
          have dq1 := qD xh yl
          have fq1 := q3 xh yl
          have dm1 := rD xh yl
          have fm1 := rP xh yl
          have bm1 := rW xh yl
          have dq2 := qD xl yh
          have fq2 := q2 xl yh
          have dm2 := rD xl yh
          have fm2 := rN xl yh
          have bm2 := rU xl yh
          have dq3 := qD xh yh
          have fq3 := q1 xh yh
          have dm3 := rD xh yh
          have fm3 := rP xh yh
          have bm3 := rU xh yh
          exact fx6 (xs := [xl, xh, yl, yh, zi, zj, i2, qV xl yl, rV xl yl, qV xh yl, rV xh yl, qV xl yh, rV xl yh, qV xh yh, rV xh yh, a0 / 12, a8, a9, a2, a3, a4, a5, a6, a7]) run130 aR w (h4 := ⟨dO ei, dO ej, dO e2, dO dq0, dO dm0, dO dq1, dO dm1, dO dq2, dO dm2, dO dq3, dO dm3, trivial⟩)
        · have dq0 := qD xl yl
          have fq0 := q4 xl yl
          have dm0 := rD xl yl
          have fm0 := rN xl yl
          have bm0 := rW xl yl
          have dq1 := qD xh yl
          have fq1 := q3 xh yl
          have dm1 := rD xh yl
          have fm1 := rP xh yl
          have bm1 := rW xh yl
          have dq2 := qD xl yh
          have fq2 := q2 xl yh
          have dm2 := rD xl yh
          have fm2 := rN xl yh
          have bm2 := rU xl yh
          have dq3 := qD xh yh
          have fq3 := q1 xh yh
          have dm3 := rD xh yh
          have fm3 := rP xh yh
          have bm3 := rU xh yh
          have dq4 := qD (xl + zi) (yl + zj)
          have fq4 := fun h => q1 (xl + zi) (yl + zj) h
          have kq4 := fun h => q2 (xl + zi) (yl + zj) h
          have dm4 := rD (xl + zi) (yl + zj)
          have fm4 := fun h => rP (xl + zi) (yl + zj) h
          have km4 := fun h => rN (xl + zi) (yl + zj) h
          have bm4 := rU (xl + zi) (yl + zj)
          exact fx6 (xs := [xl, xh, yl, yh, zi, zj, i2, qV xl yl, rV xl yl, qV xh yl, rV xh yl, qV xl yh, rV xl yh, qV xh yh, rV xh yh, qV (xl + zi) (yl + zj), rV (xl + zi) (yl + zj), a0 / 12, a8, a9, a2, a3, a4, a5, a6, a7]) run131 aR w (h4 := ⟨dO ei, dO ej, dO e2, dO dq0, dO dm0, dO dq1, dO dm1, dO dq2, dO dm2, dO dq3, dO dm3, dO dq4, dO dm4, trivial⟩)
        · have dq0 := qD xl yl
          have fq0 := q4 xl yl
          have dm0 := rD xl yl
          have fm0 := rN xl yl
          have bm0 := rW xl yl
          have dq1 := qD xh yl
          have fq1 := q3 xh yl
          have dm1 := rD xh yl
          have fm1 := rP xh yl
          have bm1 := rW xh yl
          have dq2 := qD xl yh
          have fq2 := q2 xl yh
          have dm2 := rD xl yh
          have fm2 := rN xl yh
          have bm2 := rU xl yh
          have dq3 := qD xh yh
          have fq3 := q1 xh yh
          have dm3 := rD xh yh
          have fm3 := rP xh yh
          have bm3 := rU xh yh
          have dq4 := qD (xl + zi) (yl + zj)
          have fq4 := fun h => q3 (xl + zi) (yl + zj) h
          have kq4 := fun h => q4 (xl + zi) (yl + zj) h
          have dm4 := rD (xl + zi) (yl + zj)
          have fm4 := fun h => rP (xl + zi) (yl + zj) h
          have km4 := fun h => rN (xl + zi) (yl + zj) h
          have bm4 := rW (xl + zi) (yl + zj)
          exact fx6 (xs := [xl, xh, yl, yh, zi, zj, i2, qV xl yl, rV xl yl, qV xh yl, rV xh yl, qV xl yh, rV xl yh, qV xh yh, rV xh yh, qV (xl + zi) (yl + zj), rV (xl + zi) (yl + zj), a0 / 12, a8, a9, a2, a3, a4, a5, a6, a7]) run132 aR w (h4 := ⟨dO ei, dO ej, dO e2, dO dq0, dO dm0, dO dq1, dO dm1, dO dq2, dO dm2, dO dq3, dO dm3, dO dq4, dO dm4, trivial⟩)
end Go.Proofs.Ytcjnmphpfdlikaa.fwdSound
