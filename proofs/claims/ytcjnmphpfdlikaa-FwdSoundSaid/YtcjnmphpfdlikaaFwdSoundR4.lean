/- FwdSound, part 4: it answers true at all inputs of that part. -/
import Derived.Test.YtcjnmphpfdlikaaFwdSoundQ4x0
import Derived.Test.YtcjnmphpfdlikaaFwdSoundQ4x1
import Derived.Test.YtcjnmphpfdlikaaDrawD
import Derived.Test.YtcjnmphpfdlikaaSumsSD
import Derived.KernelRfl
set_option linter.unusedVariables false
set_option linter.unusedSimpArgs false
set_option maxRecDepth 1000000
set_option maxHeartbeats 100000000
namespace Go.Proofs.Ytcjnmphpfdlikaa.fwdSound
open Go Go.Sx Go.RowKit Go.Fx Go.Proofs.Ytcjnmphpfdlikaa.fs
theorem fx4 {args : List KV} {cx : Cx} {xs : List Int} {args' : List Value} {T : Tab} (h : runK Try.prog (tabK (fstF sums) T) 100000 3 args cx = true) (hargs : VRels noMap (absL (rho xs) args) args') (w : World) (hT : tabAll (entS sums) (rho xs) T := by exact ⟨awakeS, hS hx, hS hy, trivial⟩) (h4 : dfAll xs cx.df := by exact trivial) (h1 : boxAll xs cx.box := by simp only [boxAll, and_true, bU, bI, bL] <;> omega) (h2 : csAll xs cx.cs := by first | exact trivial | (simp [csAll, evT, rho, cl, cg] <;> omega)) (h3 : noSv cx.box = true := by rfl) : Calls Try.prog 3 args'.toArray w fun e w' => e = .returned (.bool true) ∧ Grown w w' := calls_tab kdD.progOK kdD.mixed sumsOK sumsBody h h1 h2 h4 hT hargs w (h3 := h3)
theorem op4 {a0 a2 a3 a4 a5 a6 a7 a8 a9 : Int} (r0 : 0 ≤ a0 ∧ a0 ≤ 255) (r2 : 0 ≤ a2 ∧ a2 ≤ 4294967295) (r3 : 0 ≤ a3 ∧ a3 ≤ 4294967295) (r4 : 0 ≤ a4 ∧ a4 ≤ 4294967295) (r5 : 0 ≤ a5 ∧ a5 ≤ 4294967295) (r6 : 0 ≤ a6 ∧ a6 ≤ 255) (r7 : 0 ≤ a7 ∧ a7 ≤ 255) (r8 : 0 ≤ a8 ∧ a8 ≤ 4294967295) (r9 : 0 ≤ a9 ∧ a9 ≤ 4294967295) (a1 : Bool) (hk : a0 % 12 = 4) (w : World) : Calls Try.prog 3 #[.int .u8 a0, .bool a1, .int .u32 a2, .int .u32 a3, .int .u32 a4, .int .u32 a5, .int .u8 a6, .int .u8 a7, .int .u32 a8, .int .u32 a9] w fun e w' => e = .returned (.bool true) ∧ Grown w w' := by
  cases a1 with
  | true =>
    obtain ⟨xl, xh, hx, x1, x2, x3⟩ := ends6 (a := a2) (b := a4) (far := a6) (by omega) (by omega) (by omega)
    obtain ⟨yl, yh, hy, y1, y2, y3⟩ := ends6 (a := a3) (b := a5) (far := a7) (by omega) (by omega) (by omega)
    obtain ⟨zi, ei, i1, i3, i4⟩ := remP (x := a8) (y := 1 + (xh - xl)) (by omega) (by omega)
    obtain ⟨zj, ej, j1, j3, j4⟩ := remP (x := a9) (y := 1 + (yh - yl)) (by omega) (by omega)
    obtain ⟨i2, e2, k1, k2, k3⟩ := remP (x := a8) (y := 2) (by omega) (by omega)
    rcases (show (yh = 0) ∨ (1 ≤ yh) by omega) with h0 | h0
    · obtain rfl : yl = 0 := by omega
      subst h0
      exact fx4 (xs := [xl, xh, 0, 0, zi, 0, i2, a0 / 12, a8, a9, a2, a3, a4, a5, a6, a7]) run8 aR w (h4 := ⟨dO ei, dO e2, trivial⟩)
    · have q0 := mV_quo (x := xh) (y := yh) (by omega) (by omega)
      rcases (show (xh ≤ qV 4294967295 yh) ∨ (qV 4294967295 yh < xh) by omega) with h1 | h1
      · have q1 : mV xh yh ≤ 4294967295 := q0.2.2.2.1 h1
        have u0 := (mI xl xl xh yl yl yh).1 (by omega) (by omega)
        have l0 := (mI xl xl xh yl yl yh).2.2.2.2.1 (by omega) (by omega)
        have m0 := mV_small (x := xl) (y := yl) (by omega) (by omega) (by omega)
        have u1 := (mI xl xl xh yl yh yh).1 (by omega) (by omega)
        have l1 := (mI xl xl xh yl yh yh).2.2.2.2.1 (by omega) (by omega)
        have m1 := mV_small (x := xl) (y := yh) (by omega) (by omega) (by omega)
        have u2 := (mI xl xh xh yl yl yh).1 (by omega) (by omega)
        have l2 := (mI xl xh xh yl yl yh).2.2.2.2.1 (by omega) (by omega)
        have m2 := mV_small (x := xh) (y := yl) (by omega) (by omega) (by omega)
        have u3 := (mI xl xh xh yl yh yh).1 (by omega) (by omega)
        have l3 := (mI xl xh xh yl yh yh).2.2.2.2.1 (by omega) (by omega)
        have m3 := mV_small (x := xh) (y := yh) (by omega) (by omega) (by omega)
        have u4 := (mI xl (xl + zi) xh yl (yl + zj) yh).1 (by omega) (by omega)
        have l4 := (mI xl (xl + zi) xh yl (yl + zj) yh).2.2.2.2.1 (by omega) (by omega)
        have m4 := mV_small (x := (xl + zi)) (y := (yl + zj)) (by omega) (by omega) (by omega)
        exact fx4 (xs := [xl, xh, yl, yh, zi, zj, i2, qV 4294967295 yh, mV xl yl, mV xl yh, mV xh yl, mV xh yh, mV (xl + zi) (yl + zj), a0 / 12, a8, a9, a2, a3, a4, a5, a6, a7]) run9 aR w (h4 := ⟨dO ei, dO ej, dO e2, dO q0.1, dO m0.1, dO m3.1, dO m0.2.1, dO m1.2.1, dO m2.2.1, dO m3.2.1, dO m4.2.1, trivial⟩)
      · have a0u := uV_df xl yl
        have a0i := iV_df (uV xl yl)
        have a0t := tV_df (iV (uV xl yl))
        have a1u := uV_df xl yh
        have a1i := iV_df (uV xl yh)
        have a1t := tV_df (iV (uV xl yh))
        have a2u := uV_df xh yl
        have a2i := iV_df (uV xh yl)
        have a2t := tV_df (iV (uV xh yl))
        have a3u := uV_df xh yh
        have a3i := iV_df (uV xh yh)
        have a3t := tV_df (iV (uV xh yh))
        have a4u := uV_df (xl + zi) (yl + zj)
        have a4i := iV_df (uV (xl + zi) (yl + zj))
        have a4t := tV_df (iV (uV (xl + zi) (yl + zj)))
        exact fx4 (xs := [xl, xh, yl, yh, zi, zj, i2, qV 4294967295 yh, uV xl yl, iV (uV xl yl), tV (iV (uV xl yl)), uV xl yh, iV (uV xl yh), tV (iV (uV xl yh)), uV xh yl, iV (uV xh yl), tV (iV (uV xh yl)), uV xh yh, iV (uV xh yh), tV (iV (uV xh yh)), uV (xl + zi) (yl + zj), iV (uV (xl + zi) (yl + zj)), tV (iV (uV (xl + zi) (yl + zj))), a0 / 12, a8, a9, a2, a3, a4, a5, a6, a7]) run10 aR w (h4 := ⟨dO ei, dO ej, dO e2, dO q0.1, dO a0u.1, dO a0i.1, dO a0t.1, dO a1u.1, dO a1i.1, dO a1t.1, dO a2u.1, dO a2i.1, dO a2t.1, dO a3u.1, dO a3i.1, dO a3t.1, dO a4u.1, dO a4i.1, dO a4t.1, trivial⟩)
  | false =>
    obtain ⟨xl, xh, hx, x1, x2, x3⟩ := ends5 (a := a2) (b := a4) (far := a6) (by omega) (by omega) (by omega)
    obtain ⟨yl, yh, hy, y1, y2, y3⟩ := ends5 (a := a3) (b := a5) (far := a7) (by omega) (by omega) (by omega)
    obtain ⟨zi, ei, i1, i3, i4⟩ := remP (x := a8) (y := 1 + (xh - xl)) (by omega) (by omega)
    obtain ⟨zj, ej, j1, j3, j4⟩ := remP (x := a9) (y := 1 + (yh - yl)) (by omega) (by omega)
    obtain ⟨i2, e2, k1, k2, k3⟩ := remP (x := a8) (y := 2) (by omega) (by omega)
    rcases (show (0 ≤ xl) ∨ (xh ≤ -1) ∨ (xl ≤ -1 ∧ 0 ≤ xh) by omega) with h0 | h0 | h0
    · rcases (show (0 ≤ yl) ∨ (yh ≤ -1) ∨ (yl ≤ -1 ∧ 0 ≤ yh) by omega) with h1 | h1 | h1
      · have m0 := mB xl yl
        have m1 := mB xl yh
        have m2 := mB xh yl
        have m3 := mB xh yh
        have m4 := mB (xl + zi) (yl + zj)
        have c0 := (mV_corner (p := xl) (q := xh) (r := yl) (s := yh) (by omega) (by omega)).1 (by omega)
        have c1 := (mV_corner (p := xl) (q := xh) (r := yl) (s := yh) (by omega) (by omega)).2.2.1 (by omega)
        have c2 := (mV_corner (p := xl) (q := xh) (r := yl) (s := yh) (by omega) (by omega)).2.2.2.2.1 (by omega)
        have c3 := (mV_corner (p := xl) (q := xh) (r := yl) (s := yh) (by omega) (by omega)).2.2.2.2.2.2.1 (by omega)
        have u0 := fun h => (mI xl (xl + zi) xh yl (yl + zj) yh).1 h (by omega)
        have l0 := fun h => (mI xl (xl + zi) xh yl (yl + zj) yh).2.2.2.2.1 h (by omega)
        have s0 := (mV_sign (x := xl) (y := yl)).1 (by omega) (by omega)
        have s1 := (mV_sign (x := xl) (y := yh)).1 (by omega) (by omega)
        have s2 := (mV_sign (x := xh) (y := yl)).1 (by omega) (by omega)
        have s3 := (mV_sign (x := xh) (y := yh)).1 (by omega) (by omega)
        rcases (show (-2147483648 ≤ mV xl yl ∧ mV xh yh ≤ 2147483647) ∨ (-2147483648 ≤ mV xl yl ∧ 2147483647 < mV xh yh) by omega) with h2 | h2
        · exact fx4 (xs := [xl, xh, yl, yh, zi, zj, i2, mV xl yl, mV xl yh, mV xh yl, mV xh yh, mV (xl + zi) (yl + zj), a0 / 12, a8, a9, a2, a3, a4, a5, a6, a7]) run11 aR w (h4 := ⟨dO ei, dO ej, dO e2, dO m0.1, dO m1.1, dO m2.1, dO m3.1, dO m4.1, trivial⟩)
        · exact fx4 (xs := [xl, xh, yl, yh, zi, zj, i2, mV xl yl, mV xl yh, mV xh yl, mV xh yh, mV (xl + zi) (yl + zj), a0 / 12, a8, a9, a2, a3, a4, a5, a6, a7]) run12 aR w (h4 := ⟨dO ei, dO ej, dO e2, dO m0.1, dO m1.1, dO m2.1, dO m3.1, dO m4.1, trivial⟩)
      · have m0 := mB xl yl
        have m1 := mB xl yh
        have m2 := mB xh yl
        have m3 := mB xh yh
        have m4 := mB (xl + zi) (yl + zj)
        have c0 := (mV_corner (p := xl) (q := xh) (r := yl) (s := yh) (by omega) (by omega)).1 (by omega)
        have c1 := (mV_corner (p := xl) (q := xh) (r := yl) (s := yh) (by omega) (by omega)).2.2.1 (by omega)
        have c2 := (mV_corner (p := xl) (q := xh) (r := yl) (s := yh) (by omega) (by omega)).2.2.2.2.2.1 (by omega)
        have c3 := (mV_corner (p := xl) (q := xh) (r := yl) (s := yh) (by omega) (by omega)).2.2.2.2.2.2.2 (by omega)
        have u1 := fun h => (mI xl (xl + zi) xh yl (yl + zj) yh).2.2.1 h (by omega)
        have l1 := fun h => (mI xl (xl + zi) xh yl (yl + zj) yh).2.2.2.2.2.2.1 h (by omega)
        have s0 := (mV_sign (x := xl) (y := yl)).2.1 (by omega) (by omega)
        have s1 := (mV_sign (x := xl) (y := yh)).2.1 (by omega) (by omega)
        have s2 := (mV_sign (x := xh) (y := yl)).2.1 (by omega) (by omega)
        have s3 := (mV_sign (x := xh) (y := yh)).2.1 (by omega) (by omega)
        rcases (show (-2147483648 ≤ mV xh yl ∧ mV xl yh ≤ 2147483647) ∨ (mV xh yl < -2147483648 ∧ mV xl yh ≤ 2147483647) by omega) with h2 | h2
        · exact fx4 (xs := [xl, xh, yl, yh, zi, zj, i2, mV xl yl, mV xl yh, mV xh yl, mV xh yh, mV (xl + zi) (yl + zj), a0 / 12, a8, a9, a2, a3, a4, a5, a6, a7]) run13 aR w (h4 := ⟨dO ei, dO ej, dO e2, dO m0.1, dO m1.1, dO m2.1, dO m3.1, dO m4.1, trivial⟩)
        · exact fx4 (xs := [xl, xh, yl, yh, zi, zj, i2, mV xl yl, mV xl yh, mV xh yl, mV xh yh, mV (xl + zi) (yl + zj), a0 / 12, a8, a9, a2, a3, a4, a5, a6, a7]) run14 aR w (h4 := ⟨dO ei, dO ej, dO e2, dO m0.1, dO m1.1, dO m2.1, dO m3.1, dO m4.1, trivial⟩)
      · have m0 := mB xl yl
        have m1 := mB xl yh
        have m2 := mB xh yl
        have m3 := mB xh yh
        have m4 := mB (xl + zi) (yl + zj)
        have c0 := (mV_corner (p := xl) (q := xh) (r := yl) (s := yh) (by omega) (by omega)).1 (by omega)
        have c1 := (mV_corner (p := xl) (q := xh) (r := yl) (s := yh) (by omega) (by omega)).2.2.1 (by omega)
        have c2 := (mV_corner (p := xl) (q := xh) (r := yl) (s := yh) (by omega) (by omega)).2.2.2.2.2.1 (by omega)
        have c3 := (mV_corner (p := xl) (q := xh) (r := yl) (s := yh) (by omega) (by omega)).2.2.2.2.2.2.1 (by omega)
        have u0 := fun h => (mI xl (xl + zi) xh yl (yl + zj) yh).1 h (by omega)
        have l0 := fun h => (mI xl (xl + zi) xh yl (yl + zj) yh).2.2.2.2.1 h (by omega)
        have u1 := fun h => (mI xl (xl + zi) xh yl (yl + zj) yh).2.2.1 h (by omega)
        have l1 := fun h => (mI xl (xl + zi) xh yl (yl + zj) yh).2.2.2.2.2.2.1 h (by omega)
        have s0 := (mV_sign (x := xl) (y := yl)).2.1 (by omega) (by omega)
        have s1 := (mV_sign (x := xl) (y := yh)).1 (by omega) (by omega)
        have s2 := (mV_sign (x := xh) (y := yl)).2.1 (by omega) (by omega)
        have s3 := (mV_sign (x := xh) (y := yh)).1 (by omega) (by omega)
        rcases (show (-2147483648 ≤ mV xh yl ∧ mV xh yh ≤ 2147483647) ∨ (-2147483648 ≤ mV xh yl ∧ 2147483647 < mV xh yh) ∨ (mV xh yl < -2147483648 ∧ mV xh yh ≤ 2147483647) ∨ (mV xh yl < -2147483648 ∧ 2147483647 < mV xh yh) by omega) with h2 | h2 | h2 | h2
        · exact fx4 (xs := [xl, xh, yl, yh, zi, zj, i2, mV xl yl, mV xl yh, mV xh yl, mV xh yh, mV (xl + zi) (yl + zj), a0 / 12, a8, a9, a2, a3, a4, a5, a6, a7]) run15 aR w (h4 := ⟨dO ei, dO ej, dO e2, dO m0.1, dO m1.1, dO m2.1, dO m3.1, dO m4.1, trivial⟩)
        · exact fx4 (xs := [xl, xh, yl, yh, zi, zj, i2, mV xl yl, mV xl yh, mV xh yl, mV xh yh, mV (xl + zi) (yl + zj), a0 / 12, a8, a9, a2, a3, a4, a5, a6, a7]) run16 aR w (h4 := ⟨dO ei, dO ej, dO e2, dO m0.1, dO m1.1, dO m2.1, dO m3.1, dO m4.1, trivial⟩)
        · exact fx4 (xs := [xl, xh, yl, yh, zi, zj, i2, mV xl yl, mV xl yh, mV xh yl, mV xh yh, mV (xl + zi) (yl + zj), a0 / 12, a8, a9, a2, a3, a4, a5, a6, a7]) run17 aR w (h4 := ⟨dO ei, dO ej, dO e2, dO m0.1, dO m1.1, dO m2.1, dO m3.1, dO m4.1, trivial⟩)
        · exact fx4 (xs := [xl, xh, yl, yh, zi, zj, i2, mV xl yl, mV xl yh, mV xh yl, mV xh yh, mV (xl + zi) (yl + zj), a0 / 12, a8, a9, a2, a3, a4, a5, a6, a7]) run18 aR w (h4 := ⟨dO ei, dO ej, dO e2, dO m0.1, dO m1.1, dO m2.1, dO m3.1, dO m4.1, trivial⟩)
    · rcases (show (0 ≤ yl) ∨ (yh ≤ -1) ∨ (yl ≤ -1 ∧ 0 ≤ yh) by omega) with h1 | h1 | h1
      · have m0 := mB xl yl
        have m1 := mB xl yh
        have m2 := mB xh yl
        have m3 := mB xh yh
        have m4 := mB (xl + zi) (yl + zj)
        have c0 := (mV_corner (p := xl) (q := xh) (r := yl) (s := yh) (by omega) (by omega)).2.1 (by omega)
        have c1 := (mV_corner (p := xl) (q := xh) (r := yl) (s := yh) (by omega) (by omega)).2.2.2.1 (by omega)
        have c2 := (mV_corner (p := xl) (q := xh) (r := yl) (s := yh) (by omega) (by omega)).2.2.2.2.1 (by omega)
        have c3 := (mV_corner (p := xl) (q := xh) (r := yl) (s := yh) (by omega) (by omega)).2.2.2.2.2.2.1 (by omega)
        have u0 := fun h => (mI xl (xl + zi) xh yl (yl + zj) yh).2.1 h (by omega)
        have l0 := fun h => (mI xl (xl + zi) xh yl (yl + zj) yh).2.2.2.2.2.1 h (by omega)
        have s0 := (mV_sign (x := xl) (y := yl)).2.2.1 (by omega) (by omega)
        have s1 := (mV_sign (x := xl) (y := yh)).2.2.1 (by omega) (by omega)
        have s2 := (mV_sign (x := xh) (y := yl)).2.2.1 (by omega) (by omega)
        have s3 := (mV_sign (x := xh) (y := yh)).2.2.1 (by omega) (by omega)
        rcases (show (-2147483648 ≤ mV xl yh ∧ mV xh yl ≤ 2147483647) ∨ (mV xl yh < -2147483648 ∧ mV xh yl ≤ 2147483647) by omega) with h2 | h2
        · exact fx4 (xs := [xl, xh, yl, yh, zi, zj, i2, mV xl yl, mV xl yh, mV xh yl, mV xh yh, mV (xl + zi) (yl + zj), a0 / 12, a8, a9, a2, a3, a4, a5, a6, a7]) run19 aR w (h4 := ⟨dO ei, dO ej, dO e2, dO m0.1, dO m1.1, dO m2.1, dO m3.1, dO m4.1, trivial⟩)
        · exact fx4 (xs := [xl, xh, yl, yh, zi, zj, i2, mV xl yl, mV xl yh, mV xh yl, mV xh yh, mV (xl + zi) (yl + zj), a0 / 12, a8, a9, a2, a3, a4, a5, a6, a7]) run20 aR w (h4 := ⟨dO ei, dO ej, dO e2, dO m0.1, dO m1.1, dO m2.1, dO m3.1, dO m4.1, trivial⟩)
      · have m0 := mB xl yl
        have m1 := mB xl yh
        have m2 := mB xh yl
        have m3 := mB xh yh
        have m4 := mB (xl + zi) (yl + zj)
        have c0 := (mV_corner (p := xl) (q := xh) (r := yl) (s := yh) (by omega) (by omega)).2.1 (by omega)
        have c1 := (mV_corner (p := xl) (q := xh) (r := yl) (s := yh) (by omega) (by omega)).2.2.2.1 (by omega)
        have c2 := (mV_corner (p := xl) (q := xh) (r := yl) (s := yh) (by omega) (by omega)).2.2.2.2.2.1 (by omega)
        have c3 := (mV_corner (p := xl) (q := xh) (r := yl) (s := yh) (by omega) (by omega)).2.2.2.2.2.2.2 (by omega)
        have u1 := fun h => (mI xl (xl + zi) xh yl (yl + zj) yh).2.2.2.1 h (by omega)
        have l1 := fun h => (mI xl (xl + zi) xh yl (yl + zj) yh).2.2.2.2.2.2.2 h (by omega)
        have s0 := (mV_sign (x := xl) (y := yl)).2.2.2 (by omega) (by omega)
        have s1 := (mV_sign (x := xl) (y := yh)).2.2.2 (by omega) (by omega)
        have s2 := (mV_sign (x := xh) (y := yl)).2.2.2 (by omega) (by omega)
        have s3 := (mV_sign (x := xh) (y := yh)).2.2.2 (by omega) (by omega)
        rcases (show (-2147483648 ≤ mV xh yh ∧ mV xl yl ≤ 2147483647) ∨ (-2147483648 ≤ mV xh yh ∧ 2147483647 < mV xl yl) by omega) with h2 | h2
        · exact fx4 (xs := [xl, xh, yl, yh, zi, zj, i2, mV xl yl, mV xl yh, mV xh yl, mV xh yh, mV (xl + zi) (yl + zj), a0 / 12, a8, a9, a2, a3, a4, a5, a6, a7]) run21 aR w (h4 := ⟨dO ei, dO ej, dO e2, dO m0.1, dO m1.1, dO m2.1, dO m3.1, dO m4.1, trivial⟩)
        · exact fx4 (xs := [xl, xh, yl, yh, zi, zj, i2, mV xl yl, mV xl yh, mV xh yl, mV xh yh, mV (xl + zi) (yl + zj), a0 / 12, a8, a9, a2, a3, a4, a5, a6, a7]) run22 aR w (h4 := ⟨dO ei, dO ej, dO e2, dO m0.1, dO m1.1, dO m2.1, dO m3.1, dO m4.1, trivial⟩)
      · have m0 := mB xl yl
        have m1 := mB xl yh
        have m2 := mB xh yl
        have m3 := mB xh yh
        have m4 := mB (xl + zi) (yl + zj)
        have c0 := (mV_corner (p := xl) (q := xh) (r := yl) (s := yh) (by omega) (by omega)).2.1 (by omega)
        have c1 := (mV_corner (p := xl) (q := xh) (r := yl) (s := yh) (by omega) (by omega)).2.2.2.1 (by omega)
        have c2 := (mV_corner (p := xl) (q := xh) (r := yl) (s := yh) (by omega) (by omega)).2.2.2.2.2.1 (by omega)
        have c3 := (mV_corner (p := xl) (q := xh) (r := yl) (s := yh) (by omega) (by omega)).2.2.2.2.2.2.1 (by omega)
        have u0 := fun h => (mI xl (xl + zi) xh yl (yl + zj) yh).2.1 h (by omega)
        have l0 := fun h => (mI xl (xl + zi) xh yl (yl + zj) yh).2.2.2.2.2.1 h (by omega)
        have u1 := fun h => (mI xl (xl + zi) xh yl (yl + zj) yh).2.2.2.1 h (by omega)
        have l1 := fun h => (mI xl (xl + zi) xh yl (yl + zj) yh).2.2.2.2.2.2.2 h (by omega)
        have s0 := (mV_sign (x := xl) (y := yl)).2.2.2 (by omega) (by omega)
        have s1 := (mV_sign (x := xl) (y := yh)).2.2.1 (by omega) (by omega)
        have s2 := (mV_sign (x := xh) (y := yl)).2.2.2 (by omega) (by omega)
        have s3 := (mV_sign (x := xh) (y := yh)).2.2.1 (by omega) (by omega)
        rcases (show (-2147483648 ≤ mV xl yh ∧ mV xl yl ≤ 2147483647) ∨ (-2147483648 ≤ mV xl yh ∧ 2147483647 < mV xl yl) ∨ (mV xl yh < -2147483648 ∧ mV xl yl ≤ 2147483647) ∨ (mV xl yh < -2147483648 ∧ 2147483647 < mV xl yl) by omega) with h2 | h2 | h2 | h2
        · exact fx4 (xs := [xl, xh, yl, yh, zi, zj, i2, mV xl yl, mV xl yh, mV xh yl, mV xh yh, mV (xl + zi) (yl + zj), a0 / 12, a8, a9, a2, a3, a4, a5, a6, a7]) run23 aR w (h4 := ⟨dO ei, dO ej, dO e2, dO m0.1, dO m1.1, dO m2.1, dO m3.1, dO m4.1, trivial⟩)
        · exact fx4 (xs := [xl, xh, yl, yh, zi, zj, i2, mV xl yl, mV xl yh, mV xh yl, mV xh yh, mV (xl + zi) (yl + zj), a0 / 12, a8, a9, a2, a3, a4, a5, a6, a7]) run24 aR w (h4 := ⟨dO ei, dO ej, dO e2, dO m0.1, dO m1.1, dO m2.1, dO m3.1, dO m4.1, trivial⟩)
        · exact fx4 (xs := [xl, xh, yl, yh, zi, zj, i2, mV xl yl, mV xl yh, mV xh yl, mV xh yh, mV (xl + zi) (yl + zj), a0 / 12, a8, a9, a2, a3, a4, a5, a6, a7]) run25 aR w (h4 := ⟨dO ei, dO ej, dO e2, dO m0.1, dO m1.1, dO m2.1, dO m3.1, dO m4.1, trivial⟩)
        · exact fx4 (xs := [xl, xh, yl, yh, zi, zj, i2, mV xl yl, mV xl yh, mV xh yl, mV xh yh, mV (xl + zi) (yl + zj), a0 / 12, a8, a9, a2, a3, a4, a5, a6, a7]) run26 aR w (h4 := ⟨dO ei, dO ej, dO e2, dO m0.1, dO m1.1, dO m2.1, dO m3.1, dO m4.1, trivial⟩)
    · rcases (show (0 ≤ yl) ∨ (yh ≤ -1) ∨ (yl ≤ -1 ∧ 0 ≤ yh) by omega) with h1 | h1 | h1
      · have m0 := mB xl yl
        have m1 := mB xl yh
        have m2 := mB xh yl
        have m3 := mB xh yh
        have m4 := mB (xl + zi) (yl + zj)
        have c0 := (mV_corner (p := xl) (q := xh) (r := yl) (s := yh) (by omega) (by omega)).2.1 (by omega)
        have c1 := (mV_corner (p := xl) (q := xh) (r := yl) (s := yh) (by omega) (by omega)).2.2.1 (by omega)
        have c2 := (mV_corner (p := xl) (q := xh) (r := yl) (s := yh) (by omega) (by omega)).2.2.2.2.1 (by omega)
        have c3 := (mV_corner (p := xl) (q := xh) (r := yl) (s := yh) (by omega) (by omega)).2.2.2.2.2.2.1 (by omega)
        have u0 := fun h => (mI xl (xl + zi) xh yl (yl + zj) yh).1 h (by omega)
        have l0 := fun h => (mI xl (xl + zi) xh yl (yl + zj) yh).2.2.2.2.2.1 h (by omega)
        have s0 := (mV_sign (x := xl) (y := yl)).2.2.1 (by omega) (by omega)
        have s1 := (mV_sign (x := xl) (y := yh)).2.2.1 (by omega) (by omega)
        have s2 := (mV_sign (x := xh) (y := yl)).1 (by omega) (by omega)
        have s3 := (mV_sign (x := xh) (y := yh)).1 (by omega) (by omega)
        rcases (show (-2147483648 ≤ mV xl yh ∧ mV xh yh ≤ 2147483647) ∨ (-2147483648 ≤ mV xl yh ∧ 2147483647 < mV xh yh) ∨ (mV xl yh < -2147483648 ∧ mV xh yh ≤ 2147483647) ∨ (mV xl yh < -2147483648 ∧ 2147483647 < mV xh yh) by omega) with h2 | h2 | h2 | h2
        · exact fx4 (xs := [xl, xh, yl, yh, zi, zj, i2, mV xl yl, mV xl yh, mV xh yl, mV xh yh, mV (xl + zi) (yl + zj), a0 / 12, a8, a9, a2, a3, a4, a5, a6, a7]) run27 aR w (h4 := ⟨dO ei, dO ej, dO e2, dO m0.1, dO m1.1, dO m2.1, dO m3.1, dO m4.1, trivial⟩)
        · exact fx4 (xs := [xl, xh, yl, yh, zi, zj, i2, mV xl yl, mV xl yh, mV xh yl, mV xh yh, mV (xl + zi) (yl + zj), a0 / 12, a8, a9, a2, a3, a4, a5, a6, a7]) run28 aR w (h4 := ⟨dO ei, dO ej, dO e2, dO m0.1, dO m1.1, dO m2.1, dO m3.1, dO m4.1, trivial⟩)
        · exact fx4 (xs := [xl, xh, yl, yh, zi, zj, i2, mV xl yl, mV xl yh, mV xh yl, mV xh yh, mV (xl + zi) (yl + zj), a0 / 12, a8, a9, a2, a3, a4, a5, a6, a7]) run29 aR w (h4 := ⟨dO ei, dO ej, dO e2, dO m0.1, dO m1.1, dO m2.1, dO m3.1, dO m4.1, trivial⟩)
        · exact fx4 (xs := [xl, xh, yl, yh, zi, zj, i2, mV xl yl, mV xl yh, mV xh yl, mV xh yh, mV (xl + zi) (yl + zj), a0 / 12, a8, a9, a2, a3, a4, a5, a6, a7]) run30 aR w (h4 := ⟨dO ei, dO ej, dO e2, dO m0.1, dO m1.1, dO m2.1, dO m3.1, dO m4.1, trivial⟩)
      · have m0 := mB xl yl
        have m1 := mB xl yh
        have m2 := mB xh yl
        have m3 := mB xh yh
        have m4 := mB (xl + zi) (yl + zj)
        have c0 := (mV_corner (p := xl) (q := xh) (r := yl) (s := yh) (by omega) (by omega)).2.1 (by omega)
        have c1 := (mV_corner (p := xl) (q := xh) (r := yl) (s := yh) (by omega) (by omega)).2.2.1 (by omega)
        have c2 := (mV_corner (p := xl) (q := xh) (r := yl) (s := yh) (by omega) (by omega)).2.2.2.2.2.1 (by omega)
        have c3 := (mV_corner (p := xl) (q := xh) (r := yl) (s := yh) (by omega) (by omega)).2.2.2.2.2.2.2 (by omega)
        have u1 := fun h => (mI xl (xl + zi) xh yl (yl + zj) yh).2.2.2.1 h (by omega)
        have l1 := fun h => (mI xl (xl + zi) xh yl (yl + zj) yh).2.2.2.2.2.2.1 h (by omega)
        have s0 := (mV_sign (x := xl) (y := yl)).2.2.2 (by omega) (by omega)
        have s1 := (mV_sign (x := xl) (y := yh)).2.2.2 (by omega) (by omega)
        have s2 := (mV_sign (x := xh) (y := yl)).2.1 (by omega) (by omega)
        have s3 := (mV_sign (x := xh) (y := yh)).2.1 (by omega) (by omega)
        rcases (show (-2147483648 ≤ mV xh yl ∧ mV xl yl ≤ 2147483647) ∨ (-2147483648 ≤ mV xh yl ∧ 2147483647 < mV xl yl) ∨ (mV xh yl < -2147483648 ∧ mV xl yl ≤ 2147483647) ∨ (mV xh yl < -2147483648 ∧ 2147483647 < mV xl yl) by omega) with h2 | h2 | h2 | h2
        · exact fx4 (xs := [xl, xh, yl, yh, zi, zj, i2, mV xl yl, mV xl yh, mV xh yl, mV xh yh, mV (xl + zi) (yl + zj), a0 / 12, a8, a9, a2, a3, a4, a5, a6, a7]) run31 aR w (h4 := ⟨dO ei, dO ej, dO e2, dO m0.1, dO m1.1, dO m2.1, dO m3.1, dO m4.1, trivial⟩)
        · exact fx4 (xs := [xl, xh, yl, yh, zi, zj, i2, mV xl yl, mV xl yh, mV xh yl, mV xh yh, mV (xl + zi) (yl + zj), a0 / 12, a8, a9, a2, a3, a4, a5, a6, a7]) run32 aR w (h4 := ⟨dO ei, dO ej, dO e2, dO m0.1, dO m1.1, dO m2.1, dO m3.1, dO m4.1, trivial⟩)
        · exact fx4 (xs := [xl, xh, yl, yh, zi, zj, i2, mV xl yl, mV xl yh, mV xh yl, mV xh yh, mV (xl + zi) (yl + zj), a0 / 12, a8, a9, a2, a3, a4, a5, a6, a7]) run33 aR w (h4 := ⟨dO ei, dO ej, dO e2, dO m0.1, dO m1.1, dO m2.1, dO m3.1, dO m4.1, trivial⟩)
        · exact fx4 (xs := [xl, xh, yl, yh, zi, zj, i2, mV xl yl, mV xl yh, mV xh yl, mV xh yh, mV (xl + zi) (yl + zj), a0 / 12, a8, a9, a2, a3, a4, a5, a6, a7]) run34 aR w (h4 := ⟨dO ei, dO ej, dO e2, dO m0.1, dO m1.1, dO m2.1, dO m3.1, dO m4.1, trivial⟩)
      · have m0 := mB xl yl
        have m1 := mB xl yh
        have m2 := mB xh yl
        have m3 := mB xh yh
        have m4 := mB (xl + zi) (yl + zj)
        have c0 := (mV_corner (p := xl) (q := xh) (r := yl) (s := yh) (by omega) (by omega)).2.1 (by omega)
        have c1 := (mV_corner (p := xl) (q := xh) (r := yl) (s := yh) (by omega) (by omega)).2.2.1 (by omega)
        have c2 := (mV_corner (p := xl) (q := xh) (r := yl) (s := yh) (by omega) (by omega)).2.2.2.2.2.1 (by omega)
        have c3 := (mV_corner (p := xl) (q := xh) (r := yl) (s := yh) (by omega) (by omega)).2.2.2.2.2.2.1 (by omega)
        have u0 := fun h => (mI xl (xl + zi) xh yl (yl + zj) yh).1 h (by omega)
        have l0 := fun h => (mI xl (xl + zi) xh yl (yl + zj) yh).2.2.2.2.2.1 h (by omega)
        have u1 := fun h => (mI xl (xl + zi) xh yl (yl + zj) yh).2.2.2.1 h (by omega)
        have l1 := fun h => (mI xl (xl + zi) xh yl (yl + zj) yh).2.2.2.2.2.2.1 h (by omega)
        have s0 := (mV_sign (x := xl) (y := yl)).2.2.2 (by omega) (by omega)
        have s1 := (mV_sign (x := xl) (y := yh)).2.2.1 (by omega) (by omega)
        have s2 := (mV_sign (x := xh) (y := yl)).2.1 (by omega) (by omega)
        have s3 := (mV_sign (x := xh) (y := yh)).1 (by omega) (by omega)
        rcases (show (mV xl yh ≤ mV xh yl ∧ mV xl yl ≤ mV xh yh) ∨ (mV xl yh ≤ mV xh yl ∧ mV xh yh < mV xl yl) ∨ (mV xh yl < mV xl yh ∧ mV xl yl ≤ mV xh yh) ∨ (mV xh yl < mV xl yh ∧ mV xh yh < mV xl yl) by omega) with h2 | h2 | h2 | h2
        · rcases (show (-2147483648 ≤ mV xl yh ∧ mV xh yh ≤ 2147483647) ∨ (-2147483648 ≤ mV xl yh ∧ 2147483647 < mV xh yh) ∨ (mV xl yh < -2147483648 ∧ mV xh yh ≤ 2147483647) ∨ (mV xl yh < -2147483648 ∧ 2147483647 < mV xh yh) by omega) with h3 | h3 | h3 | h3
          · exact fx4 (xs := [xl, xh, yl, yh, zi, zj, i2, mV xl yl, mV xl yh, mV xh yl, mV xh yh, mV (xl + zi) (yl + zj), a0 / 12, a8, a9, a2, a3, a4, a5, a6, a7]) run35 aR w (h4 := ⟨dO ei, dO ej, dO e2, dO m0.1, dO m1.1, dO m2.1, dO m3.1, dO m4.1, trivial⟩)
          · exact fx4 (xs := [xl, xh, yl, yh, zi, zj, i2, mV xl yl, mV xl yh, mV xh yl, mV xh yh, mV (xl + zi) (yl + zj), a0 / 12, a8, a9, a2, a3, a4, a5, a6, a7]) run36 aR w (h4 := ⟨dO ei, dO ej, dO e2, dO m0.1, dO m1.1, dO m2.1, dO m3.1, dO m4.1, trivial⟩)
          · exact fx4 (xs := [xl, xh, yl, yh, zi, zj, i2, mV xl yl, mV xl yh, mV xh yl, mV xh yh, mV (xl + zi) (yl + zj), a0 / 12, a8, a9, a2, a3, a4, a5, a6, a7]) run37 aR w (h4 := ⟨dO ei, dO ej, dO e2, dO m0.1, dO m1.1, dO m2.1, dO m3.1, dO m4.1, trivial⟩)
          · exact fx4 (xs := [xl, xh, yl, yh, zi, zj, i2, mV xl yl, mV xl yh, mV xh yl, mV xh yh, mV (xl + zi) (yl + zj), a0 / 12, a8, a9, a2, a3, a4, a5, a6, a7]) run38 aR w (h4 := ⟨dO ei, dO ej, dO e2, dO m0.1, dO m1.1, dO m2.1, dO m3.1, dO m4.1, trivial⟩)
        · rcases (show (-2147483648 ≤ mV xl yh ∧ mV xl yl ≤ 2147483647) ∨ (-2147483648 ≤ mV xl yh ∧ 2147483647 < mV xl yl) ∨ (mV xl yh < -2147483648 ∧ mV xl yl ≤ 2147483647) ∨ (mV xl yh < -2147483648 ∧ 2147483647 < mV xl yl) by omega) with h3 | h3 | h3 | h3
          · exact fx4 (xs := [xl, xh, yl, yh, zi, zj, i2, mV xl yl, mV xl yh, mV xh yl, mV xh yh, mV (xl + zi) (yl + zj), a0 / 12, a8, a9, a2, a3, a4, a5, a6, a7]) run39 aR w (h4 := ⟨dO ei, dO ej, dO e2, dO m0.1, dO m1.1, dO m2.1, dO m3.1, dO m4.1, trivial⟩)
          · exact fx4 (xs := [xl, xh, yl, yh, zi, zj, i2, mV xl yl, mV xl yh, mV xh yl, mV xh yh, mV (xl + zi) (yl + zj), a0 / 12, a8, a9, a2, a3, a4, a5, a6, a7]) run40 aR w (h4 := ⟨dO ei, dO ej, dO e2, dO m0.1, dO m1.1, dO m2.1, dO m3.1, dO m4.1, trivial⟩)
          · exact fx4 (xs := [xl, xh, yl, yh, zi, zj, i2, mV xl yl, mV xl yh, mV xh yl, mV xh yh, mV (xl + zi) (yl + zj), a0 / 12, a8, a9, a2, a3, a4, a5, a6, a7]) run41 aR w (h4 := ⟨dO ei, dO ej, dO e2, dO m0.1, dO m1.1, dO m2.1, dO m3.1, dO m4.1, trivial⟩)
          · exact fx4 (xs := [xl, xh, yl, yh, zi, zj, i2, mV xl yl, mV xl yh, mV xh yl, mV xh yh, mV (xl + zi) (yl + zj), a0 / 12, a8, a9, a2, a3, a4, a5, a6, a7]) run42 aR w (h4 := ⟨dO ei, dO ej, dO e2, dO m0.1, dO m1.1, dO m2.1, dO m3.1, dO m4.1, trivial⟩)
        · rcases (show (-2147483648 ≤ mV xh yl ∧ mV xh yh ≤ 2147483647) ∨ (-2147483648 ≤ mV xh yl ∧ 2147483647 < mV xh yh) ∨ (mV xh yl < -2147483648 ∧ mV xh yh ≤ 2147483647) ∨ (mV xh yl < -2147483648 ∧ 2147483647 < mV xh yh) by omega) with h3 | h3 | h3 | h3
          · exact fx4 (xs := [xl, xh, yl, yh, zi, zj, i2, mV xl yl, mV xl yh, mV xh yl, mV xh yh, mV (xl + zi) (yl + zj), a0 / 12, a8, a9, a2, a3, a4, a5, a6, a7]) run43 aR w (h4 := ⟨dO ei, dO ej, dO e2, dO m0.1, dO m1.1, dO m2.1, dO m3.1, dO m4.1, trivial⟩)
          · exact fx4 (xs := [xl, xh, yl, yh, zi, zj, i2, mV xl yl, mV xl yh, mV xh yl, mV xh yh, mV (xl + zi) (yl + zj), a0 / 12, a8, a9, a2, a3, a4, a5, a6, a7]) run44 aR w (h4 := ⟨dO ei, dO ej, dO e2, dO m0.1, dO m1.1, dO m2.1, dO m3.1, dO m4.1, trivial⟩)
          · exact fx4 (xs := [xl, xh, yl, yh, zi, zj, i2, mV xl yl, mV xl yh, mV xh yl, mV xh yh, mV (xl + zi) (yl + zj), a0 / 12, a8, a9, a2, a3, a4, a5, a6, a7]) run45 aR w (h4 := ⟨dO ei, dO ej, dO e2, dO m0.1, dO m1.1, dO m2.1, dO m3.1, dO m4.1, trivial⟩)
          · exact fx4 (xs := [xl, xh, yl, yh, zi, zj, i2, mV xl yl, mV xl yh, mV xh yl, mV xh yh, mV (xl + zi) (yl + zj), a0 / 12, a8, a9, a2, a3, a4, a5, a6, a7]) run46 aR w (h4 := ⟨dO ei, dO ej, dO e2, dO m0.1, dO m1.1, dO m2.1, dO m3.1, dO m4.1, trivial⟩)
        · rcases (show (-2147483648 ≤ mV xh yl ∧ mV xl yl ≤ 2147483647) ∨ (-2147483648 ≤ mV xh yl ∧ 2147483647 < mV xl yl) ∨ (mV xh yl < -2147483648 ∧ mV xl yl ≤ 2147483647) ∨ (mV xh yl < -2147483648 ∧ 2147483647 < mV xl yl) by omega) with h3 | h3 | h3 | h3
          · exact fx4 (xs := [xl, xh, yl, yh, zi, zj, i2, mV xl yl, mV xl yh, mV xh yl, mV xh yh, mV (xl + zi) (yl + zj), a0 / 12, a8, a9, a2, a3, a4, a5, a6, a7]) run47 aR w (h4 := ⟨dO ei, dO ej, dO e2, dO m0.1, dO m1.1, dO m2.1, dO m3.1, dO m4.1, trivial⟩)
          · exact fx4 (xs := [xl, xh, yl, yh, zi, zj, i2, mV xl yl, mV xl yh, mV xh yl, mV xh yh, mV (xl + zi) (yl + zj), a0 / 12, a8, a9, a2, a3, a4, a5, a6, a7]) run48 aR w (h4 := ⟨dO ei, dO ej, dO e2, dO m0.1, dO m1.1, dO m2.1, dO m3.1, dO m4.1, trivial⟩)
          · exact fx4 (xs := [xl, xh, yl, yh, zi, zj, i2, mV xl yl, mV xl yh, mV xh yl, mV xh yh, mV (xl + zi) (yl + zj), a0 / 12, a8, a9, a2, a3, a4, a5, a6, a7]) run49 aR w (h4 := ⟨dO ei, dO ej, dO e2, dO m0.1, dO m1.1, dO m2.1, dO m3.1, dO m4.1, trivial⟩)
          · exact fx4 (xs := [xl, xh, yl, yh, zi, zj, i2, mV xl yl, mV xl yh, mV xh yl, mV xh yh, mV (xl + zi) (yl + zj), a0 / 12, a8, a9, a2, a3, a4, a5, a6, a7]) run50 aR w (h4 := ⟨dO ei, dO ej, dO e2, dO m0.1, dO m1.1, dO m2.1, dO m3.1, dO m4.1, trivial⟩)
end Go.Proofs.Ytcjnmphpfdlikaa.fwdSound
