/- FwdSound, part 5: it answers true at all inputs of that part. -/
import Derived.Test.YtcjnmphpfdlikaaFwdSoundQ5x0
import Derived.Test.YtcjnmphpfdlikaaFwdSoundQ5x1
import Derived.Test.YtcjnmphpfdlikaaFwdSoundQ5x2
import Derived.Test.YtcjnmphpfdlikaaDrawD
import Derived.Test.YtcjnmphpfdlikaaSumsSD
import Derived.KernelRfl
set_option linter.unusedVariables false
set_option linter.unusedSimpArgs false
set_option maxRecDepth 1000000
set_option maxHeartbeats 100000000
namespace Go.Proofs.Ytcjnmphpfdlikaa.fwdSound
open Go Go.Sx Go.RowKit Go.Fx Go.Proofs.Ytcjnmphpfdlikaa.fs
theorem fx5 {args : List KV} {cx : Cx} {xs : List Int} {args' : List Value} {T : Tab} (h : runK Try.prog (tabK (fstF sums) T) 100000 3 args cx = true) (hargs : VRels noMap (absL (rho xs) args) args') (w : World) (hT : tabAll (entS sums) (rho xs) T := by exact ⟨awakeS, hS hx, hS hy, trivial⟩) (h4 : dfAll xs cx.df := by exact trivial) (h1 : boxAll xs cx.box := by simp only [boxAll, and_true, bU, bI, bL] <;> omega) (h2 : csAll xs cx.cs := by first | exact trivial | (simp [csAll, evT, rho, cl, cg] <;> omega)) (h3 : noSv cx.box = true := by rfl) : Calls Try.prog 3 args'.toArray w fun e w' => e = .returned (.bool true) ∧ Grown w w' := calls_tab kdD.progOK kdD.mixed sumsOK sumsBody h h1 h2 h4 hT hargs w (h3 := h3)
theorem op5 {a0 a2 a3 a4 a5 a6 a7 a8 a9 : Int} (r0 : 0 ≤ a0 ∧ a0 ≤ 255) (r2 : 0 ≤ a2 ∧ a2 ≤ 4294967295) (r3 : 0 ≤ a3 ∧ a3 ≤ 4294967295) (r4 : 0 ≤ a4 ∧ a4 ≤ 4294967295) (r5 : 0 ≤ a5 ∧ a5 ≤ 4294967295) (r6 : 0 ≤ a6 ∧ a6 ≤ 255) (r7 : 0 ≤ a7 ∧ a7 ≤ 255) (r8 : 0 ≤ a8 ∧ a8 ≤ 4294967295) (r9 : 0 ≤ a9 ∧ a9 ≤ 4294967295) (a1 : Bool) (hk : a0 % 12 = 5) (w : World) : Calls Try.prog 3 #[.int .u8 a0, .bool a1, .int .u32 a2, .int .u32 a3, .int .u32 a4, .int .u32 a5, .int .u8 a6, .int .u8 a7, .int .u32 a8, .int .u32 a9] w fun e w' => e = .returned (.bool true) ∧ Grown w w' := by
  cases a1 with
  | true =>
    obtain ⟨xl, xh, hx, x1, x2, x3⟩ := ends6 (a := a2) (b := a4) (far := a6) (by omega) (by omega) (by omega)
    obtain ⟨yl, yh, hy, y1, y2, y3⟩ := ends6 (a := a3) (b := a5) (far := a7) (by omega) (by omega) (by omega)
    obtain ⟨zi, ei, i1, i3, i4⟩ := remP (x := a8) (y := 1 + (xh - xl)) (by omega) (by omega)
    obtain ⟨zj, ej, j1, j3, j4⟩ := remP (x := a9) (y := 1 + (yh - yl)) (by omega) (by omega)
    obtain ⟨i2, e2, k1, k2, k3⟩ := remP (x := a8) (y := 2) (by omega) (by omega)
    rcases (show (1 ≤ yl) ∨ (yl = 0 ∧ 1 ≤ yh) ∨ (yl = 0 ∧ yh = 0) by omega) with h0 | h0 | h0
    · have dz0 := qD xl yl
      have fz0 := q1 xl yl
      have rz0 := (qI xl xl xh yl yl yh).1 (by omega)
      have dz1 := qD xl yh
      have fz1 := q1 xl yh
      have rz1 := (qI xl xl xh yl yh yh).1 (by omega)
      have dz2 := qD xh yl
      have fz2 := q1 xh yl
      have rz2 := (qI xl xh xh yl yl yh).1 (by omega)
      have dz3 := qD xh yh
      have fz3 := q1 xh yh
      have rz3 := (qI xl xh xh yl yh yh).1 (by omega)
      have dzg := qD (xl + zi) (yl + zj)
      have fzg := q1 (xl + zi) (yl + zj)
      have rzg := (qI xl (xl + zi) xh yl (yl + zj) yh).1 (by omega)
      exact fx5 (xs := [xl, xh, yl, yh, zi, zj, i2, qV xl yl, qV xl yh, qV xh yl, qV xh yh, qV (xl + zi) (yl + zj), a0 / 12, a8, a9, a2, a3, a4, a5, a6, a7]) run51 aR w (h4 := ⟨dO ei, dO ej, dO e2, dO dz0, dO dz1, dO dz2, dO dz3, dO dzg, trivial⟩)
    · obtain rfl : yl = 0 := by omega
      rcases (show (zj = 0) ∨ (1 ≤ zj) by omega) with h1 | h1
      · have dz0 := qD xl 1
        have fz0 := q1 xl 1
        have rz0 := (qI xl xl xh 1 1 yh).1 (by omega)
        have dz1 := qD xl yh
        have fz1 := q1 xl yh
        have rz1 := (qI xl xl xh 1 yh yh).1 (by omega)
        have dz2 := qD xh 1
        have fz2 := q1 xh 1
        have rz2 := (qI xl xh xh 1 1 yh).1 (by omega)
        have dz3 := qD xh yh
        have fz3 := q1 xh yh
        have rz3 := (qI xl xh xh 1 yh yh).1 (by omega)
        exact fx5 (xs := [xl, xh, 0, yh, zi, zj, i2, qV xl 1, qV xl yh, qV xh 1, qV xh yh, a0 / 12, a8, a9, a2, a3, a4, a5, a6, a7]) run52 aR w (h4 := ⟨dO ei, dO ej, dO e2, dO dz0, dO dz1, dO dz2, dO dz3, trivial⟩)
      · have dz0 := qD xl 1
        have fz0 := q1 xl 1
        have rz0 := (qI xl xl xh 1 1 yh).1 (by omega)
        have dz1 := qD xl yh
        have fz1 := q1 xl yh
        have rz1 := (qI xl xl xh 1 yh yh).1 (by omega)
        have dz2 := qD xh 1
        have fz2 := q1 xh 1
        have rz2 := (qI xl xh xh 1 1 yh).1 (by omega)
        have dz3 := qD xh yh
        have fz3 := q1 xh yh
        have rz3 := (qI xl xh xh 1 yh yh).1 (by omega)
        have dzg := qD (xl + zi) zj
        have fzg := q1 (xl + zi) zj
        have rzg := (qI xl (xl + zi) xh 1 zj yh).1 (by omega)
        exact fx5 (xs := [xl, xh, 0, yh, zi, zj, i2, qV xl 1, qV xl yh, qV xh 1, qV xh yh, qV (xl + zi) zj, a0 / 12, a8, a9, a2, a3, a4, a5, a6, a7]) run53 aR w (h4 := ⟨dO ei, dO ej, dO e2, dO dz0, dO dz1, dO dz2, dO dz3, dO dzg, trivial⟩)
    · obtain rfl : yl = 0 := by omega
      obtain rfl : yh = 0 := by omega
      exact fx5 (xs := [xl, xh, 0, 0, zi, 0, i2, a0 / 12, a8, a9, a2, a3, a4, a5, a6, a7]) run54 aR w (h4 := ⟨dO ei, dO e2, trivial⟩)
  | false =>
    obtain ⟨xl, xh, hx, x1, x2, x3⟩ := ends5 (a := a2) (b := a4) (far := a6) (by omega) (by omega) (by omega)
    obtain ⟨yl, yh, hy, y1, y2, y3⟩ := ends5 (a := a3) (b := a5) (far := a7) (by omega) (by omega) (by omega)
    obtain ⟨zi, ei, i1, i3, i4⟩ := remP (x := a8) (y := 1 + (xh - xl)) (by omega) (by omega)
    obtain ⟨zj, ej, j1, j3, j4⟩ := remP (x := a9) (y := 1 + (yh - yl)) (by omega) (by omega)
    obtain ⟨i2, e2, k1, k2, k3⟩ := remP (x := a8) (y := 2) (by omega) (by omega)
    rcases (show (0 ≤ xl) ∨ (xh ≤ -1) ∨ (xl ≤ -1 ∧ 0 ≤ xh) by omega) with h0 | h0 | h0
    · rcases (show (1 ≤ yl) ∨ (yl = 0 ∧ 1 ≤ yh) ∨ (yl = 0 ∧ yh = 0) ∨ (yl = -1 ∧ yh = -1) ∨ (yl ≤ -2 ∧ yh = -1) ∨ (yh ≤ -2) ∨ (yl ≤ -1 ∧ yh = 0) ∨ (yl ≤ -1 ∧ 1 ≤ yh) by omega) with h1 | h1 | h1 | h1 | h1 | h1 | h1 | h1
      · have dz0 := qD xl yl
        have fz0 := q1 xl yl
        have rz0 := (qI xl xl xh yl yl yh).1 (by omega)
        have dz1 := qD xl yh
        have fz1 := q1 xl yh
        have rz1 := (qI xl xl xh yl yh yh).1 (by omega)
        have dz2 := qD xh yl
        have fz2 := q1 xh yl
        have rz2 := (qI xl xh xh yl yl yh).1 (by omega)
        have dz3 := qD xh yh
        have fz3 := q1 xh yh
        have rz3 := (qI xl xh xh yl yh yh).1 (by omega)
        have dzg := qD (xl + zi) (yl + zj)
        have fzg := q1 (xl + zi) (yl + zj)
        have rzg := (qI xl (xl + zi) xh yl (yl + zj) yh).1 (by omega)
        exact fx5 (xs := [xl, xh, yl, yh, zi, zj, i2, qV xl yl, qV xl yh, qV xh yl, qV xh yh, qV (xl + zi) (yl + zj), a0 / 12, a8, a9, a2, a3, a4, a5, a6, a7]) run55 aR w (h4 := ⟨dO ei, dO ej, dO e2, dO dz0, dO dz1, dO dz2, dO dz3, dO dzg, trivial⟩)
      · obtain rfl : yl = 0 := by omega
        rcases (show (zj = 0) ∨ (1 ≤ zj) by omega) with h2 | h2
        · have dz0 := qD xl 1
          have fz0 := q1 xl 1
          have rz0 := (qI xl xl xh 1 1 yh).1 (by omega)
          have dz1 := qD xl yh
          have fz1 := q1 xl yh
          have rz1 := (qI xl xl xh 1 yh yh).1 (by omega)
          have dz2 := qD xh 1
          have fz2 := q1 xh 1
          have rz2 := (qI xl xh xh 1 1 yh).1 (by omega)
          have dz3 := qD xh yh
          have fz3 := q1 xh yh
          have rz3 := (qI xl xh xh 1 yh yh).1 (by omega)
          exact fx5 (xs := [xl, xh, 0, yh, zi, zj, i2, qV xl 1, qV xl yh, qV xh 1, qV xh yh, a0 / 12, a8, a9, a2, a3, a4, a5, a6, a7]) run56 aR w (h4 := ⟨dO ei, dO ej, dO e2, dO dz0, dO dz1, dO dz2, dO dz3, trivial⟩)
        · have dz0 := qD xl 1
          have fz0 := q1 xl 1
          have rz0 := (qI xl xl xh 1 1 yh).1 (by omega)
          have dz1 := qD xl yh
          have fz1 := q1 xl yh
          have rz1 := (qI xl xl xh 1 yh yh).1 (by omega)
          have dz2 := qD xh 1
          have fz2 := q1 xh 1
          have rz2 := (qI xl xh xh 1 1 yh).1 (by omega)
          have dz3 := qD xh yh
          have fz3 := q1 xh yh
          have rz3 := (qI xl xh xh 1 yh yh).1 (by omega)
          have dzg := qD (xl + zi) zj
          have fzg := q1 (xl + zi) zj
          have rzg := (qI xl (xl + zi) xh 1 zj yh).1 (by omega)
          exact fx5 (xs := [xl, xh, 0, yh, zi, zj, i2, qV xl 1, qV xl yh, qV xh 1, qV xh yh, qV (xl + zi) zj, a0 / 12, a8, a9, a2, a3, a4, a5, a6, a7]) run57 aR w (h4 := ⟨dO ei, dO ej, dO e2, dO dz0, dO dz1, dO dz2, dO dz3, dO dzg, trivial⟩)
      · obtain rfl : yl = 0 := by omega
        obtain rfl : yh = 0 := by omega
        exact fx5 (xs := [xl, xh, 0, 0, zi, 0, i2, a0 / 12, a8, a9, a2, a3, a4, a5, a6, a7]) run58 aR w (h4 := ⟨dO ei, dO e2, trivial⟩)
      · obtain rfl : yl = -1 := by omega
        obtain rfl : yh = -1 := by omega
        have dw0 := qD xl (-1)
        have fw0 := q3 xl (-1)
        have nw0 := q5 xl (-1)
        have rw0 := (qJ xl xl xh (-1) (-1) (-1)).1 (by omega)
        have dw2 := qD xh (-1)
        have fw2 := q3 xh (-1)
        have nw2 := q5 xh (-1)
        have rw2 := (qJ xl xh xh (-1) (-1) (-1)).1 (by omega)
        have dwg := qD (xl + zi) (-1)
        have fwg := q3 (xl + zi) (-1)
        have nwg := q5 (xl + zi) (-1)
        have rwg := (qJ xl (xl + zi) xh (-1) (-1) (-1)).1 (by omega)
        exact fx5 (xs := [xl, xh, (-1), (-1), zi, 0, i2, qV xl (-1), qV xh (-1), qV (xl + zi) (-1), a0 / 12, a8, a9, a2, a3, a4, a5, a6, a7]) run59 aR w (h4 := ⟨dO ei, dO e2, dO dw0, dO dw2, dO dwg, trivial⟩)
      · obtain rfl : yh = -1 := by omega
        have dw0 := qD xl yl
        have fw0 := q3 xl yl
        have rw0 := (qJ xl xl xh yl yl (-1)).1 (by omega)
        have dw1 := qD xl (-1)
        have fw1 := q3 xl (-1)
        have rw1 := (qJ xl xl xh yl (-1) (-1)).1 (by omega)
        have dw2 := qD xh yl
        have fw2 := q3 xh yl
        have rw2 := (qJ xl xh xh yl yl (-1)).1 (by omega)
        have dw3 := qD xh (-1)
        have fw3 := q3 xh (-1)
        have rw3 := (qJ xl xh xh yl (-1) (-1)).1 (by omega)
        have dwg := qD (xl + zi) (yl + zj)
        have fwg := q3 (xl + zi) (yl + zj)
        have rwg := (qJ xl (xl + zi) xh yl (yl + zj) (-1)).1 (by omega)
        exact fx5 (xs := [xl, xh, yl, (-1), zi, zj, i2, qV xl yl, qV xl (-1), qV xh yl, qV xh (-1), qV (xl + zi) (yl + zj), a0 / 12, a8, a9, a2, a3, a4, a5, a6, a7]) run60 aR w (h4 := ⟨dO ei, dO ej, dO e2, dO dw0, dO dw1, dO dw2, dO dw3, dO dwg, trivial⟩)
      · have dw0 := qD xl yl
        have gw0 := q6 xl yl
        have fw0 := q3 xl yl
        have rw0 := (qJ xl xl xh yl yl yh).1 (by omega)
        have dw1 := qD xl yh
        have gw1 := q6 xl yh
        have fw1 := q3 xl yh
        have rw1 := (qJ xl xl xh yl yh yh).1 (by omega)
        have dw2 := qD xh yl
        have gw2 := q6 xh yl
        have fw2 := q3 xh yl
        have rw2 := (qJ xl xh xh yl yl yh).1 (by omega)
        have dw3 := qD xh yh
        have gw3 := q6 xh yh
        have fw3 := q3 xh yh
        have rw3 := (qJ xl xh xh yl yh yh).1 (by omega)
        have dwg := qD (xl + zi) (yl + zj)
        have gwg := q6 (xl + zi) (yl + zj)
        have fwg := q3 (xl + zi) (yl + zj)
        have rwg := (qJ xl (xl + zi) xh yl (yl + zj) yh).1 (by omega)
        exact fx5 (xs := [xl, xh, yl, yh, zi, zj, i2, qV xl yl, qV xl yh, qV xh yl, qV xh yh, qV (xl + zi) (yl + zj), a0 / 12, a8, a9, a2, a3, a4, a5, a6, a7]) run61 aR w (h4 := ⟨dO ei, dO ej, dO e2, dO dw0, dO dw1, dO dw2, dO dw3, dO dwg, trivial⟩)
      · obtain rfl : yh = 0 := by omega
        rcases (show ((yl + zj) = 0) ∨ ((yl + zj) ≤ -1) by omega) with h2 | h2
        · have dw0 := qD xl yl
          have fw0 := q3 xl yl
          have rw0 := (qJ xl xl xh yl yl (-1)).1 (by omega)
          have dw1 := qD xl (-1)
          have fw1 := q3 xl (-1)
          have rw1 := (qJ xl xl xh yl (-1) (-1)).1 (by omega)
          have dw2 := qD xh yl
          have fw2 := q3 xh yl
          have rw2 := (qJ xl xh xh yl yl (-1)).1 (by omega)
          have dw3 := qD xh (-1)
          have fw3 := q3 xh (-1)
          have rw3 := (qJ xl xh xh yl (-1) (-1)).1 (by omega)
          exact fx5 (xs := [xl, xh, yl, 0, zi, zj, i2, qV xl yl, qV xl (-1), qV xh yl, qV xh (-1), a0 / 12, a8, a9, a2, a3, a4, a5, a6, a7]) run62 aR w (h4 := ⟨dO ei, dO ej, dO e2, dO dw0, dO dw1, dO dw2, dO dw3, trivial⟩)
        · have dw0 := qD xl yl
          have fw0 := q3 xl yl
          have rw0 := (qJ xl xl xh yl yl (-1)).1 (by omega)
          have dw1 := qD xl (-1)
          have fw1 := q3 xl (-1)
          have rw1 := (qJ xl xl xh yl (-1) (-1)).1 (by omega)
          have dw2 := qD xh yl
          have fw2 := q3 xh yl
          have rw2 := (qJ xl xh xh yl yl (-1)).1 (by omega)
          have dw3 := qD xh (-1)
          have fw3 := q3 xh (-1)
          have rw3 := (qJ xl xh xh yl (-1) (-1)).1 (by omega)
          have dwg := qD (xl + zi) (yl + zj)
          have fwg := q3 (xl + zi) (yl + zj)
          have rwg := (qJ xl (xl + zi) xh yl (yl + zj) (-1)).1 (by omega)
          exact fx5 (xs := [xl, xh, yl, 0, zi, zj, i2, qV xl yl, qV xl (-1), qV xh yl, qV xh (-1), qV (xl + zi) (yl + zj), a0 / 12, a8, a9, a2, a3, a4, a5, a6, a7]) run63 aR w (h4 := ⟨dO ei, dO ej, dO e2, dO dw0, dO dw1, dO dw2, dO dw3, dO dwg, trivial⟩)
      · rcases (show ((yl + zj) = 0) ∨ (1 ≤ (yl + zj)) ∨ ((yl + zj) ≤ -1) by omega) with h2 | h2 | h2
        · have dz0 := qD xl 1
          have fz0 := q1 xl 1
          have rz0 := (qI xl xl xh 1 1 yh).1 (by omega)
          have dz1 := qD xl yh
          have fz1 := q1 xl yh
          have rz1 := (qI xl xl xh 1 yh yh).1 (by omega)
          have dz2 := qD xh 1
          have fz2 := q1 xh 1
          have rz2 := (qI xl xh xh 1 1 yh).1 (by omega)
          have dz3 := qD xh yh
          have fz3 := q1 xh yh
          have rz3 := (qI xl xh xh 1 yh yh).1 (by omega)
          have dw0 := qD xl yl
          have fw0 := q3 xl yl
          have rw0 := (qJ xl xl xh yl yl (-1)).1 (by omega)
          have dw1 := qD xl (-1)
          have fw1 := q3 xl (-1)
          have rw1 := (qJ xl xl xh yl (-1) (-1)).1 (by omega)
          have dw2 := qD xh yl
          have fw2 := q3 xh yl
          have rw2 := (qJ xl xh xh yl yl (-1)).1 (by omega)
          have dw3 := qD xh (-1)
          have fw3 := q3 xh (-1)
          have rw3 := (qJ xl xh xh yl (-1) (-1)).1 (by omega)
          exact fx5 (xs := [xl, xh, yl, yh, zi, zj, i2, qV xl 1, qV xl yh, qV xh 1, qV xh yh, qV xl yl, qV xl (-1), qV xh yl, qV xh (-1), a0 / 12, a8, a9, a2, a3, a4, a5, a6, a7]) run64 aR w (h4 := ⟨dO ei, dO ej, dO e2, dO dz0, dO dz1, dO dz2, dO dz3, dO dw0, dO dw1, dO dw2, dO dw3, trivial⟩)
        · have dz0 := qD xl 1
          have fz0 := q1 xl 1
          have rz0 := (qI xl xl xh 1 1 yh).1 (by omega)
          have dz1 := qD xl yh
          have fz1 := q1 xl yh
          have rz1 := (qI xl xl xh 1 yh yh).1 (by omega)
          have dz2 := qD xh 1
          have fz2 := q1 xh 1
          have rz2 := (qI xl xh xh 1 1 yh).1 (by omega)
          have dz3 := qD xh yh
          have fz3 := q1 xh yh
          have rz3 := (qI xl xh xh 1 yh yh).1 (by omega)
          have dzg := qD (xl + zi) (yl + zj)
          have fzg := q1 (xl + zi) (yl + zj)
          have rzg := (qI xl (xl + zi) xh 1 (yl + zj) yh).1 (by omega)
          have dw0 := qD xl yl
          have fw0 := q3 xl yl
          have rw0 := (qJ xl xl xh yl yl (-1)).1 (by omega)
          have dw1 := qD xl (-1)
          have fw1 := q3 xl (-1)
          have rw1 := (qJ xl xl xh yl (-1) (-1)).1 (by omega)
          have dw2 := qD xh yl
          have fw2 := q3 xh yl
          have rw2 := (qJ xl xh xh yl yl (-1)).1 (by omega)
          have dw3 := qD xh (-1)
          have fw3 := q3 xh (-1)
          have rw3 := (qJ xl xh xh yl (-1) (-1)).1 (by omega)
          exact fx5 (xs := [xl, xh, yl, yh, zi, zj, i2, qV xl 1, qV xl yh, qV xh 1, qV xh yh, qV (xl + zi) (yl + zj), qV xl yl, qV xl (-1), qV xh yl, qV xh (-1), a0 / 12, a8, a9, a2, a3, a4, a5, a6, a7]) run65 aR w (h4 := ⟨dO ei, dO ej, dO e2, dO dz0, dO dz1, dO dz2, dO dz3, dO dzg, dO dw0, dO dw1, dO dw2, dO dw3, trivial⟩)
        · have dz0 := qD xl 1
          have fz0 := q1 xl 1
          have rz0 := (qI xl xl xh 1 1 yh).1 (by omega)
          have dz1 := qD xl yh
          have fz1 := q1 xl yh
          have rz1 := (qI xl xl xh 1 yh yh).1 (by omega)
          have dz2 := qD xh 1
          have fz2 := q1 xh 1
          have rz2 := (qI xl xh xh 1 1 yh).1 (by omega)
          have dz3 := qD xh yh
          have fz3 := q1 xh yh
          have rz3 := (qI xl xh xh 1 yh yh).1 (by omega)
          have dw0 := qD xl yl
          have fw0 := q3 xl yl
          have rw0 := (qJ xl xl xh yl yl (-1)).1 (by omega)
          have dw1 := qD xl (-1)
          have fw1 := q3 xl (-1)
          have rw1 := (qJ xl xl xh yl (-1) (-1)).1 (by omega)
          have dw2 := qD xh yl
          have fw2 := q3 xh yl
          have rw2 := (qJ xl xh xh yl yl (-1)).1 (by omega)
          have dw3 := qD xh (-1)
          have fw3 := q3 xh (-1)
          have rw3 := (qJ xl xh xh yl (-1) (-1)).1 (by omega)
          have dwg := qD (xl + zi) (yl + zj)
          have fwg := q3 (xl + zi) (yl + zj)
          have rwg := (qJ xl (xl + zi) xh yl (yl + zj) (-1)).1 (by omega)
          exact fx5 (xs := [xl, xh, yl, yh, zi, zj, i2, qV xl 1, qV xl yh, qV xh 1, qV xh yh, qV xl yl, qV xl (-1), qV xh yl, qV xh (-1), qV (xl + zi) (yl + zj), a0 / 12, a8, a9, a2, a3, a4, a5, a6, a7]) run66 aR w (h4 := ⟨dO ei, dO ej, dO e2, dO dz0, dO dz1, dO dz2, dO dz3, dO dw0, dO dw1, dO dw2, dO dw3, dO dwg, trivial⟩)
    · rcases (show (1 ≤ yl) ∨ (yl = 0 ∧ 1 ≤ yh) ∨ (yl = 0 ∧ yh = 0) ∨ (yl = -1 ∧ yh = -1) ∨ (yl ≤ -2 ∧ yh = -1) ∨ (yh ≤ -2) ∨ (yl ≤ -1 ∧ yh = 0) ∨ (yl ≤ -1 ∧ 1 ≤ yh) by omega) with h1 | h1 | h1 | h1 | h1 | h1 | h1 | h1
      · have dz0 := qD xl yl
        have fz0 := q2 xl yl
        have rz0 := (qI xl xl xh yl yl yh).2 (by omega)
        have dz1 := qD xl yh
        have fz1 := q2 xl yh
        have rz1 := (qI xl xl xh yl yh yh).2 (by omega)
        have dz2 := qD xh yl
        have fz2 := q2 xh yl
        have rz2 := (qI xl xh xh yl yl yh).2 (by omega)
        have dz3 := qD xh yh
        have fz3 := q2 xh yh
        have rz3 := (qI xl xh xh yl yh yh).2 (by omega)
        have dzg := qD (xl + zi) (yl + zj)
        have fzg := q2 (xl + zi) (yl + zj)
        have rzg := (qI xl (xl + zi) xh yl (yl + zj) yh).2 (by omega)
        exact fx5 (xs := [xl, xh, yl, yh, zi, zj, i2, qV xl yl, qV xl yh, qV xh yl, qV xh yh, qV (xl + zi) (yl + zj), a0 / 12, a8, a9, a2, a3, a4, a5, a6, a7]) run67 aR w (h4 := ⟨dO ei, dO ej, dO e2, dO dz0, dO dz1, dO dz2, dO dz3, dO dzg, trivial⟩)
      · obtain rfl : yl = 0 := by omega
        rcases (show (zj = 0) ∨ (1 ≤ zj) by omega) with h2 | h2
        · have dz0 := qD xl 1
          have fz0 := q2 xl 1
          have rz0 := (qI xl xl xh 1 1 yh).2 (by omega)
          have dz1 := qD xl yh
          have fz1 := q2 xl yh
          have rz1 := (qI xl xl xh 1 yh yh).2 (by omega)
          have dz2 := qD xh 1
          have fz2 := q2 xh 1
          have rz2 := (qI xl xh xh 1 1 yh).2 (by omega)
          have dz3 := qD xh yh
          have fz3 := q2 xh yh
          have rz3 := (qI xl xh xh 1 yh yh).2 (by omega)
          exact fx5 (xs := [xl, xh, 0, yh, zi, zj, i2, qV xl 1, qV xl yh, qV xh 1, qV xh yh, a0 / 12, a8, a9, a2, a3, a4, a5, a6, a7]) run68 aR w (h4 := ⟨dO ei, dO ej, dO e2, dO dz0, dO dz1, dO dz2, dO dz3, trivial⟩)
        · have dz0 := qD xl 1
          have fz0 := q2 xl 1
          have rz0 := (qI xl xl xh 1 1 yh).2 (by omega)
          have dz1 := qD xl yh
          have fz1 := q2 xl yh
          have rz1 := (qI xl xl xh 1 yh yh).2 (by omega)
          have dz2 := qD xh 1
          have fz2 := q2 xh 1
          have rz2 := (qI xl xh xh 1 1 yh).2 (by omega)
          have dz3 := qD xh yh
          have fz3 := q2 xh yh
          have rz3 := (qI xl xh xh 1 yh yh).2 (by omega)
          have dzg := qD (xl + zi) zj
          have fzg := q2 (xl + zi) zj
          have rzg := (qI xl (xl + zi) xh 1 zj yh).2 (by omega)
          exact fx5 (xs := [xl, xh, 0, yh, zi, zj, i2, qV xl 1, qV xl yh, qV xh 1, qV xh yh, qV (xl + zi) zj, a0 / 12, a8, a9, a2, a3, a4, a5, a6, a7]) run69 aR w (h4 := ⟨dO ei, dO ej, dO e2, dO dz0, dO dz1, dO dz2, dO dz3, dO dzg, trivial⟩)
      · obtain rfl : yl = 0 := by omega
        obtain rfl : yh = 0 := by omega
        exact fx5 (xs := [xl, xh, 0, 0, zi, 0, i2, a0 / 12, a8, a9, a2, a3, a4, a5, a6, a7]) run70 aR w (h4 := ⟨dO ei, dO e2, trivial⟩)
      · obtain rfl : yl = -1 := by omega
        obtain rfl : yh = -1 := by omega
        have dw0 := qD xl (-1)
        have fw0 := q4 xl (-1)
        have nw0 := q5 xl (-1)
        have rw0 := (qJ xl xl xh (-1) (-1) (-1)).2 (by omega)
        have dw2 := qD xh (-1)
        have fw2 := q4 xh (-1)
        have nw2 := q5 xh (-1)
        have rw2 := (qJ xl xh xh (-1) (-1) (-1)).2 (by omega)
        have dwg := qD (xl + zi) (-1)
        have fwg := q4 (xl + zi) (-1)
        have nwg := q5 (xl + zi) (-1)
        have rwg := (qJ xl (xl + zi) xh (-1) (-1) (-1)).2 (by omega)
        exact fx5 (xs := [xl, xh, (-1), (-1), zi, 0, i2, qV xl (-1), qV xh (-1), qV (xl + zi) (-1), a0 / 12, a8, a9, a2, a3, a4, a5, a6, a7]) run71 aR w (h4 := ⟨dO ei, dO e2, dO dw0, dO dw2, dO dwg, trivial⟩)
      · obtain rfl : yh = -1 := by omega
        have dw0 := qD xl yl
        have fw0 := q4 xl yl
        have rw0 := (qJ xl xl xh yl yl (-1)).2 (by omega)
        have dw1 := qD xl (-1)
        have fw1 := q4 xl (-1)
        have rw1 := (qJ xl xl xh yl (-1) (-1)).2 (by omega)
        have dw2 := qD xh yl
        have fw2 := q4 xh yl
        have rw2 := (qJ xl xh xh yl yl (-1)).2 (by omega)
        have dw3 := qD xh (-1)
        have fw3 := q4 xh (-1)
        have rw3 := (qJ xl xh xh yl (-1) (-1)).2 (by omega)
        have dwg := qD (xl + zi) (yl + zj)
        have fwg := q4 (xl + zi) (yl + zj)
        have rwg := (qJ xl (xl + zi) xh yl (yl + zj) (-1)).2 (by omega)
        exact fx5 (xs := [xl, xh, yl, (-1), zi, zj, i2, qV xl yl, qV xl (-1), qV xh yl, qV xh (-1), qV (xl + zi) (yl + zj), a0 / 12, a8, a9, a2, a3, a4, a5, a6, a7]) run72 aR w (h4 := ⟨dO ei, dO ej, dO e2, dO dw0, dO dw1, dO dw2, dO dw3, dO dwg, trivial⟩)
      · have dw0 := qD xl yl
        have gw0 := q6 xl yl
        have fw0 := q4 xl yl
        have rw0 := (qJ xl xl xh yl yl yh).2 (by omega)
        have dw1 := qD xl yh
        have gw1 := q6 xl yh
        have fw1 := q4 xl yh
        have rw1 := (qJ xl xl xh yl yh yh).2 (by omega)
        have dw2 := qD xh yl
        have gw2 := q6 xh yl
        have fw2 := q4 xh yl
        have rw2 := (qJ xl xh xh yl yl yh).2 (by omega)
        have dw3 := qD xh yh
        have gw3 := q6 xh yh
        have fw3 := q4 xh yh
        have rw3 := (qJ xl xh xh yl yh yh).2 (by omega)
        have dwg := qD (xl + zi) (yl + zj)
        have gwg := q6 (xl + zi) (yl + zj)
        have fwg := q4 (xl + zi) (yl + zj)
        have rwg := (qJ xl (xl + zi) xh yl (yl + zj) yh).2 (by omega)
        exact fx5 (xs := [xl, xh, yl, yh, zi, zj, i2, qV xl yl, qV xl yh, qV xh yl, qV xh yh, qV (xl + zi) (yl + zj), a0 / 12, a8, a9, a2, a3, a4, a5, a6, a7]) run73 aR w (h4 := ⟨dO ei, dO ej, dO e2, dO dw0, dO dw1, dO dw2, dO dw3, dO dwg, trivial⟩)
      · obtain rfl : yh = 0 := by omega
        rcases (show ((yl + zj) = 0) ∨ ((yl + zj) ≤ -1) by omega) with h2 | h2
        · have dw0 := qD xl yl
          have fw0 := q4 xl yl
          have rw0 := (qJ xl xl xh yl yl (-1)).2 (by omega)
          have dw1 := qD xl (-1)
          have fw1 := q4 xl (-1)
          have rw1 := (qJ xl xl xh yl (-1) (-1)).2 (by omega)
          have dw2 := qD xh yl
          have fw2 := q4 xh yl
          have rw2 := (qJ xl xh xh yl yl (-1)).2 (by omega)
          have dw3 := qD xh (-1)
          have fw3 := q4 xh (-1)
          have rw3 := (qJ xl xh xh yl (-1) (-1)).2 (by omega)
          exact fx5 (xs := [xl, xh, yl, 0, zi, zj, i2, qV xl yl, qV xl (-1), qV xh yl, qV xh (-1), a0 / 12, a8, a9, a2, a3, a4, a5, a6, a7]) run74 aR w (h4 := ⟨dO ei, dO ej, dO e2, dO dw0, dO dw1, dO dw2, dO dw3, trivial⟩)
        · have dw0 := qD xl yl
          have fw0 := q4 xl yl
          have rw0 := (qJ xl xl xh yl yl (-1)).2 (by omega)
          have dw1 := qD xl (-1)
          have fw1 := q4 xl (-1)
          have rw1 := (qJ xl xl xh yl (-1) (-1)).2 (by omega)
          have dw2 := qD xh yl
          have fw2 := q4 xh yl
          have rw2 := (qJ xl xh xh yl yl (-1)).2 (by omega)
          have dw3 := qD xh (-1)
          have fw3 := q4 xh (-1)
          have rw3 := (qJ xl xh xh yl (-1) (-1)).2 (by omega)
          have dwg := qD (xl + zi) (yl + zj)
          have fwg := q4 (xl + zi) (yl + zj)
          have rwg := (qJ xl (xl + zi) xh yl (yl + zj) (-1)).2 (by omega)
          exact fx5 (xs := [xl, xh, yl, 0, zi, zj, i2, qV xl yl, qV xl (-1), qV xh yl, qV xh (-1), qV (xl + zi) (yl + zj), a0 / 12, a8, a9, a2, a3, a4, a5, a6, a7]) run75 aR w (h4 := ⟨dO ei, dO ej, dO e2, dO dw0, dO dw1, dO dw2, dO dw3, dO dwg, trivial⟩)
      · rcases (show ((yl + zj) = 0) ∨ (1 ≤ (yl + zj)) ∨ ((yl + zj) ≤ -1) by omega) with h2 | h2 | h2
        · have dz0 := qD xl 1
          have fz0 := q2 xl 1
          have rz0 := (qI xl xl xh 1 1 yh).2 (by omega)
          have dz1 := qD xl yh
          have fz1 := q2 xl yh
          have rz1 := (qI xl xl xh 1 yh yh).2 (by omega)
          have dz2 := qD xh 1
          have fz2 := q2 xh 1
          have rz2 := (qI xl xh xh 1 1 yh).2 (by omega)
          have dz3 := qD xh yh
          have fz3 := q2 xh yh
          have rz3 := (qI xl xh xh 1 yh yh).2 (by omega)
          have dw0 := qD xl yl
          have fw0 := q4 xl yl
          have rw0 := (qJ xl xl xh yl yl (-1)).2 (by omega)
          have dw1 := qD xl (-1)
          have fw1 := q4 xl (-1)
          have rw1 := (qJ xl xl xh yl (-1) (-1)).2 (by omega)
          have dw2 := qD xh yl
          have fw2 := q4 xh yl
          have rw2 := (qJ xl xh xh yl yl (-1)).2 (by omega)
          have dw3 := qD xh (-1)
          have fw3 := q4 xh (-1)
          have rw3 := (qJ xl xh xh yl (-1) (-1)).2 (by omega)
          exact fx5 (xs := [xl, xh, yl, yh, zi, zj, i2, qV xl 1, qV xl yh, qV xh 1, qV xh yh, qV xl yl, qV xl (-1), qV xh yl, qV xh (-1), a0 / 12, a8, a9, a2, a3, a4, a5, a6, a7]) run76 aR w (h4 := ⟨dO ei, dO ej, dO e2, dO dz0, dO dz1, dO dz2, dO dz3, dO dw0, dO dw1, dO dw2, dO dw3, trivial⟩)
        · have dz0 := qD xl 1
          have fz0 := q2 xl 1
          have rz0 := (qI xl xl xh 1 1 yh).2 (by omega)
          have dz1 := qD xl yh
          have fz1 := q2 xl yh
          have rz1 := (qI xl xl xh 1 yh yh).2 (by omega)
          have dz2 := qD xh 1
          have fz2 := q2 xh 1
          have rz2 := (qI xl xh xh 1 1 yh).2 (by omega)
          have dz3 := qD xh yh
          have fz3 := q2 xh yh
          have rz3 := (qI xl xh xh 1 yh yh).2 (by omega)
          have dzg := qD (xl + zi) (yl + zj)
          have fzg := q2 (xl + zi) (yl + zj)
          have rzg := (qI xl (xl + zi) xh 1 (yl + zj) yh).2 (by omega)
          have dw0 := qD xl yl
          have fw0 := q4 xl yl
          have rw0 := (qJ xl xl xh yl yl (-1)).2 (by omega)
          have dw1 := qD xl (-1)
          have fw1 := q4 xl (-1)
          have rw1 := (qJ xl xl xh yl (-1) (-1)).2 (by omega)
          have dw2 := qD xh yl
          have fw2 := q4 xh yl
          have rw2 := (qJ xl xh xh yl yl (-1)).2 (by omega)
          have dw3 := qD xh (-1)
          have fw3 := q4 xh (-1)
          have rw3 := (qJ xl xh xh yl (-1) (-1)).2 (by omega)
          exact fx5 (xs := [xl, xh, yl, yh, zi, zj, i2, qV xl 1, qV xl yh, qV xh 1, qV xh yh, qV (xl + zi) (yl + zj), qV xl yl, qV xl (-1), qV xh yl, qV xh (-1), a0 / 12, a8, a9, a2, a3, a4, a5, a6, a7]) run77 aR w (h4 := ⟨dO ei, dO ej, dO e2, dO dz0, dO dz1, dO dz2, dO dz3, dO dzg, dO dw0, dO dw1, dO dw2, dO dw3, trivial⟩)
        · have dz0 := qD xl 1
          have fz0 := q2 xl 1
          have rz0 := (qI xl xl xh 1 1 yh).2 (by omega)
          have dz1 := qD xl yh
          have fz1 := q2 xl yh
          have rz1 := (qI xl xl xh 1 yh yh).2 (by omega)
          have dz2 := qD xh 1
          have fz2 := q2 xh 1
          have rz2 := (qI xl xh xh 1 1 yh).2 (by omega)
          have dz3 := qD xh yh
          have fz3 := q2 xh yh
          have rz3 := (qI xl xh xh 1 yh yh).2 (by omega)
          have dw0 := qD xl yl
          have fw0 := q4 xl yl
          have rw0 := (qJ xl xl xh yl yl (-1)).2 (by omega)
          have dw1 := qD xl (-1)
          have fw1 := q4 xl (-1)
          have rw1 := (qJ xl xl xh yl (-1) (-1)).2 (by omega)
          have dw2 := qD xh yl
          have fw2 := q4 xh yl
          have rw2 := (qJ xl xh xh yl yl (-1)).2 (by omega)
          have dw3 := qD xh (-1)
          have fw3 := q4 xh (-1)
          have rw3 := (qJ xl xh xh yl (-1) (-1)).2 (by omega)
          have dwg := qD (xl + zi) (yl + zj)
          have fwg := q4 (xl + zi) (yl + zj)
          have rwg := (qJ xl (xl + zi) xh yl (yl + zj) (-1)).2 (by omega)
          exact fx5 (xs := [xl, xh, yl, yh, zi, zj, i2, qV xl 1, qV xl yh, qV xh 1, qV xh yh, qV xl yl, qV xl (-1), qV xh yl, qV xh (-1), qV (xl + zi) (yl + zj), a0 / 12, a8, a9, a2, a3, a4, a5, a6, a7]) run78 aR w (h4 := ⟨dO ei, dO ej, dO e2, dO dz0, dO dz1, dO dz2, dO dz3, dO dw0, dO dw1, dO dw2, dO dw3, dO dwg, trivial⟩)
    · rcases (show (1 ≤ yl) ∨ (yl = 0 ∧ 1 ≤ yh) ∨ (yl = 0 ∧ yh = 0) ∨ (yl = -1 ∧ yh = -1) ∨ (yl ≤ -2 ∧ yh = -1) ∨ (yh ≤ -2) ∨ (yl ≤ -1 ∧ yh = 0) ∨ (yl ≤ -1 ∧ 1 ≤ yh) by omega) with h1 | h1 | h1 | h1 | h1 | h1 | h1 | h1
      · have dz0 := qD xl yl
        have fz0 := q2 xl yl
        have rz0 := (qI xl xl xh yl yl yh).2 (by omega)
        have dz1 := qD xl yh
        have fz1 := q2 xl yh
        have rz1 := (qI xl xl xh yl yh yh).2 (by omega)
        have dz2 := qD xh yl
        have fz2 := q1 xh yl
        have rz2 := (qI xl xh xh yl yl yh).1 (by omega)
        have dz3 := qD xh yh
        have fz3 := q1 xh yh
        have rz3 := (qI xl xh xh yl yh yh).1 (by omega)
        have dzg := qD (xl + zi) (yl + zj)
        have fzg := fun h => q1 (xl + zi) (yl + zj) h
        have kzg := fun h => q2 (xl + zi) (yl + zj) h
        have rzg := (qI xl (xl + zi) xh yl (yl + zj) yh)
        exact fx5 (xs := [xl, xh, yl, yh, zi, zj, i2, qV xl yl, qV xl yh, qV xh yl, qV xh yh, qV (xl + zi) (yl + zj), a0 / 12, a8, a9, a2, a3, a4, a5, a6, a7]) run79 aR w (h4 := ⟨dO ei, dO ej, dO e2, dO dz0, dO dz1, dO dz2, dO dz3, dO dzg, trivial⟩)
      · obtain rfl : yl = 0 := by omega
        rcases (show (zj = 0) ∨ (1 ≤ zj) by omega) with h2 | h2
        · have dz0 := qD xl 1
          have fz0 := q2 xl 1
          have rz0 := (qI xl xl xh 1 1 yh).2 (by omega)
          have dz1 := qD xl yh
          have fz1 := q2 xl yh
          have rz1 := (qI xl xl xh 1 yh yh).2 (by omega)
          have dz2 := qD xh 1
          have fz2 := q1 xh 1
          have rz2 := (qI xl xh xh 1 1 yh).1 (by omega)
          have dz3 := qD xh yh
          have fz3 := q1 xh yh
          have rz3 := (qI xl xh xh 1 yh yh).1 (by omega)
          exact fx5 (xs := [xl, xh, 0, yh, zi, zj, i2, qV xl 1, qV xl yh, qV xh 1, qV xh yh, a0 / 12, a8, a9, a2, a3, a4, a5, a6, a7]) run80 aR w (h4 := ⟨dO ei, dO ej, dO e2, dO dz0, dO dz1, dO dz2, dO dz3, trivial⟩)
        · have dz0 := qD xl 1
          have fz0 := q2 xl 1
          have rz0 := (qI xl xl xh 1 1 yh).2 (by omega)
          have dz1 := qD xl yh
          have fz1 := q2 xl yh
          have rz1 := (qI xl xl xh 1 yh yh).2 (by omega)
          have dz2 := qD xh 1
          have fz2 := q1 xh 1
          have rz2 := (qI xl xh xh 1 1 yh).1 (by omega)
          have dz3 := qD xh yh
          have fz3 := q1 xh yh
          have rz3 := (qI xl xh xh 1 yh yh).1 (by omega)
          have dzg := qD (xl + zi) zj
          have fzg := fun h => q1 (xl + zi) zj h
          have kzg := fun h => q2 (xl + zi) zj h
          have rzg := (qI xl (xl + zi) xh 1 zj yh)
          exact fx5 (xs := [xl, xh, 0, yh, zi, zj, i2, qV xl 1, qV xl yh, qV xh 1, qV xh yh, qV (xl + zi) zj, a0 / 12, a8, a9, a2, a3, a4, a5, a6, a7]) run81 aR w (h4 := ⟨dO ei, dO ej, dO e2, dO dz0, dO dz1, dO dz2, dO dz3, dO dzg, trivial⟩)
      · obtain rfl : yl = 0 := by omega
        obtain rfl : yh = 0 := by omega
        exact fx5 (xs := [xl, xh, 0, 0, zi, 0, i2, a0 / 12, a8, a9, a2, a3, a4, a5, a6, a7]) run82 aR w (h4 := ⟨dO ei, dO e2, trivial⟩)
      · obtain rfl : yl = -1 := by omega
        obtain rfl : yh = -1 := by omega
        have dw0 := qD xl (-1)
        have fw0 := q4 xl (-1)
        have nw0 := q5 xl (-1)
        have rw0 := (qJ xl xl xh (-1) (-1) (-1)).2 (by omega)
        have dw2 := qD xh (-1)
        have fw2 := q3 xh (-1)
        have nw2 := q5 xh (-1)
        have rw2 := (qJ xl xh xh (-1) (-1) (-1)).1 (by omega)
        have dwg := qD (xl + zi) (-1)
        have fwg := fun h => q3 (xl + zi) (-1) h
        have kwg := fun h => q4 (xl + zi) (-1) h
        have nwg := q5 (xl + zi) (-1)
        have rwg := (qJ xl (xl + zi) xh (-1) (-1) (-1))
        exact fx5 (xs := [xl, xh, (-1), (-1), zi, 0, i2, qV xl (-1), qV xh (-1), qV (xl + zi) (-1), a0 / 12, a8, a9, a2, a3, a4, a5, a6, a7]) run83 aR w (h4 := ⟨dO ei, dO e2, dO dw0, dO dw2, dO dwg, trivial⟩)
      · obtain rfl : yh = -1 := by omega
        have dw0 := qD xl yl
        have fw0 := q4 xl yl
        have rw0 := (qJ xl xl xh yl yl (-1)).2 (by omega)
        have dw1 := qD xl (-1)
        have fw1 := q4 xl (-1)
        have rw1 := (qJ xl xl xh yl (-1) (-1)).2 (by omega)
        have dw2 := qD xh yl
        have fw2 := q3 xh yl
        have rw2 := (qJ xl xh xh yl yl (-1)).1 (by omega)
        have dw3 := qD xh (-1)
        have fw3 := q3 xh (-1)
        have rw3 := (qJ xl xh xh yl (-1) (-1)).1 (by omega)
        have dwg := qD (xl + zi) (yl + zj)
        have fwg := fun h => q3 (xl + zi) (yl + zj) h
        have kwg := fun h => q4 (xl + zi) (yl + zj) h
        have rwg := (qJ xl (xl + zi) xh yl (yl + zj) (-1))
        exact fx5 (xs := [xl, xh, yl, (-1), zi, zj, i2, qV xl yl, qV xl (-1), qV xh yl, qV xh (-1), qV (xl + zi) (yl + zj), a0 / 12, a8, a9, a2, a3, a4, a5, a6, a7]) run84 aR w (h4 := ⟨dO ei, dO ej, dO e2, dO dw0, dO dw1, dO dw2, dO dw3, dO dwg, trivial⟩)
      · have dw0 := qD xl yl
        have gw0 := q6 xl yl
        have fw0 := q4 xl yl
        have rw0 := (qJ xl xl xh yl yl yh).2 (by omega)
        have dw1 := qD xl yh
        have gw1 := q6 xl yh
        have fw1 := q4 xl yh
        have rw1 := (qJ xl xl xh yl yh yh).2 (by omega)
        have dw2 := qD xh yl
        have gw2 := q6 xh yl
        have fw2 := q3 xh yl
        have rw2 := (qJ xl xh xh yl yl yh).1 (by omega)
        have dw3 := qD xh yh
        have gw3 := q6 xh yh
        have fw3 := q3 xh yh
        have rw3 := (qJ xl xh xh yl yh yh).1 (by omega)
        have dwg := qD (xl + zi) (yl + zj)
        have gwg := q6 (xl + zi) (yl + zj)
        have fwg := fun h => q3 (xl + zi) (yl + zj) h
        have kwg := fun h => q4 (xl + zi) (yl + zj) h
        have rwg := (qJ xl (xl + zi) xh yl (yl + zj) yh)
        exact fx5 (xs := [xl, xh, yl, yh, zi, zj, i2, qV xl yl, qV xl yh, qV xh yl, qV xh yh, qV (xl + zi) (yl + zj), a0 / 12, a8, a9, a2, a3, a4, a5, a6, a7]) run85 aR w (h4 := ⟨dO ei, dO ej, dO e2, dO dw0, dO dw1, dO dw2, dO dw3, dO dwg, trivial⟩)
      · obtain rfl : yh = 0 := by omega
        rcases (show ((yl + zj) = 0) ∨ ((yl + zj) ≤ -1) by omega) with h2 | h2
        · have dw0 := qD xl yl
          have fw0 := q4 xl yl
          have rw0 := (qJ xl xl xh yl yl (-1)).2 (by omega)
          have dw1 := qD xl (-1)
          have fw1 := q4 xl (-1)
          have rw1 := (qJ xl xl xh yl (-1) (-1)).2 (by omega)
          have dw2 := qD xh yl
          have fw2 := q3 xh yl
          have rw2 := (qJ xl xh xh yl yl (-1)).1 (by omega)
          have dw3 := qD xh (-1)
          have fw3 := q3 xh (-1)
          have rw3 := (qJ xl xh xh yl (-1) (-1)).1 (by omega)
          exact fx5 (xs := [xl, xh, yl, 0, zi, zj, i2, qV xl yl, qV xl (-1), qV xh yl, qV xh (-1), a0 / 12, a8, a9, a2, a3, a4, a5, a6, a7]) run86 aR w (h4 := ⟨dO ei, dO ej, dO e2, dO dw0, dO dw1, dO dw2, dO dw3, trivial⟩)
        · have dw0 := qD xl yl
          have fw0 := q4 xl yl
          have rw0 := (qJ xl xl xh yl yl (-1)).2 (by omega)
          have dw1 := qD xl (-1)
          have fw1 := q4 xl (-1)
          have rw1 := (qJ xl xl xh yl (-1) (-1)).2 (by omega)
          have dw2 := qD xh yl
          have fw2 := q3 xh yl
          have rw2 := (qJ xl xh xh yl yl (-1)).1 (by omega)
          have dw3 := qD xh (-1)
          have fw3 := q3 xh (-1)
          have rw3 := (qJ xl xh xh yl (-1) (-1)).1 (by omega)
          have dwg := qD (xl + zi) (yl + zj)
          have fwg := fun h => q3 (xl + zi) (yl + zj) h
          have kwg := fun h => q4 (xl + zi) (yl + zj) h
          have rwg := (qJ xl (xl + zi) xh yl (yl + zj) (-1))
          exact fx5 (xs := [xl, xh, yl, 0, zi, zj, i2, qV xl yl, qV xl (-1), qV xh yl, qV xh (-1), qV (xl + zi) (yl + zj), a0 / 12, a8, a9, a2, a3, a4, a5, a6, a7]) run87 aR w (h4 := ⟨dO ei, dO ej, dO e2, dO dw0, dO dw1, dO dw2, dO dw3, dO dwg, trivial⟩)
      · rcases (show ((yl + zj) = 0) ∨ (1 ≤ (yl + zj)) ∨ ((yl + zj) ≤ -1) by omega) with h2 | h2 | h2
        · have dz0 := qD xl 1
          have fz0 := q2 xl 1
          have rz0 := (qI xl xl xh 1 1 yh).2 (by omega)
          have dz1 := qD xl yh
          have fz1 := q2 xl yh
          have rz1 := (qI xl xl xh 1 yh yh).2 (by omega)
          have dz2 := qD xh 1
          have fz2 := q1 xh 1
          have rz2 := (qI xl xh xh 1 1 yh).1 (by omega)
          have dz3 := qD xh yh
          have fz3 := q1 xh yh
          have rz3 := (qI xl xh xh 1 yh yh).1 (by omega)
          have dw0 := qD xl yl
          have fw0 := q4 xl yl
          have rw0 := (qJ xl xl xh yl yl (-1)).2 (by omega)
          have dw1 := qD xl (-1)
          have fw1 := q4 xl (-1)
          have rw1 := (qJ xl xl xh yl (-1) (-1)).2 (by omega)
          have dw2 := qD xh yl
          have fw2 := q3 xh yl
          have rw2 := (qJ xl xh xh yl yl (-1)).1 (by omega)
          have dw3 := qD xh (-1)
          have fw3 := q3 xh (-1)
          have rw3 := (qJ xl xh xh yl (-1) (-1)).1 (by omega)
          exact fx5 (xs := [xl, xh, yl, yh, zi, zj, i2, qV xl 1, qV xl yh, qV xh 1, qV xh yh, qV xl yl, qV xl (-1), qV xh yl, qV xh (-1), a0 / 12, a8, a9, a2, a3, a4, a5, a6, a7]) run88 aR w (h4 := ⟨dO ei, dO ej, dO e2, dO dz0, dO dz1, dO dz2, dO dz3, dO dw0, dO dw1, dO dw2, dO dw3, trivial⟩)
        · have dz0 := qD xl 1
          have fz0 := q2 xl 1
          have rz0 := (qI xl xl xh 1 1 yh).2 (by omega)
          have dz1 := qD xl yh
          have fz1 := q2 xl yh
          have rz1 := (qI xl xl xh 1 yh yh).2 (by omega)
          have dz2 := qD xh 1
          have fz2 := q1 xh 1
          have rz2 := (qI xl xh xh 1 1 yh).1 (by omega)
          have dz3 := qD xh yh
          have fz3 := q1 xh yh
          have rz3 := (qI xl xh xh 1 yh yh).1 (by omega)
          have dzg := qD (xl + zi) (yl + zj)
          have fzg := fun h => q1 (xl + zi) (yl + zj) h
          have kzg := fun h => q2 (xl + zi) (yl + zj) h
          have rzg := (qI xl (xl + zi) xh 1 (yl + zj) yh)
          have dw0 := qD xl yl
          have fw0 := q4 xl yl
          have rw0 := (qJ xl xl xh yl yl (-1)).2 (by omega)
          have dw1 := qD xl (-1)
          have fw1 := q4 xl (-1)
          have rw1 := (qJ xl xl xh yl (-1) (-1)).2 (by omega)
          have dw2 := qD xh yl
          have fw2 := q3 xh yl
          have rw2 := (qJ xl xh xh yl yl (-1)).1 (by omega)
          have dw3 := qD xh (-1)
          have fw3 := q3 xh (-1)
          have rw3 := (qJ xl xh xh yl (-1) (-1)).1 (by omega)
          exact fx5 (xs := [xl, xh, yl, yh, zi, zj, i2, qV xl 1, qV xl yh, qV xh 1, qV xh yh, qV (xl + zi) (yl + zj), qV xl yl, qV xl (-1), qV xh yl, qV xh (-1), a0 / 12, a8, a9, a2, a3, a4, a5, a6, a7]) run89 aR w (h4 := ⟨dO ei, dO ej, dO e2, dO dz0, dO dz1, dO dz2, dO dz3, dO dzg, dO dw0, dO dw1, dO dw2, dO dw3, trivial⟩)
        · have dz0 := qD xl 1
          have fz0 := q2 xl 1
          have rz0 := (qI xl xl xh 1 1 yh).2 (by omega)
          have dz1 := qD xl yh
          have fz1 := q2 xl yh
          have rz1 := (qI xl xl xh 1 yh yh).2 (by omega)
          have dz2 := qD xh 1
          have fz2 := q1 xh 1
          have rz2 := (qI xl xh xh 1 1 yh).1 (by omega)
          have dz3 := qD xh yh
          have fz3 := q1 xh yh
          have rz3 := (qI xl xh xh 1 yh yh).1 (by omega)
          have dw0 := qD xl yl
          have fw0 := q4 xl yl
          have rw0 := (qJ xl xl xh yl yl (-1)).2 (by omega)
          have dw1 := qD xl (-1)
          have fw1 := q4 xl (-1)
          have rw1 := (qJ xl xl xh yl (-1) (-1)).2 (by omega)
          have dw2 := qD xh yl
          have fw2 := q3 xh yl
          have rw2 := (qJ xl xh xh yl yl (-1)).1 (by omega)
          have dw3 := qD xh (-1)
          have fw3 := q3 xh (-1)
          have rw3 := (qJ xl xh xh yl (-1) (-1)).1 (by omega)
          have dwg := qD (xl + zi) (yl + zj)
          have fwg := fun h => q3 (xl + zi) (yl + zj) h
          have kwg := fun h => q4 (xl + zi) (yl + zj) h
          have rwg := (qJ xl (xl + zi) xh yl (yl + zj) (-1))
          exact fx5 (xs := [xl, xh, yl, yh, zi, zj, i2, qV xl 1, qV xl yh, qV xh 1, qV xh yh, qV xl yl, qV xl (-1), qV xh yl, qV xh (-1), qV (xl + zi) (yl + zj), a0 / 12, a8, a9, a2, a3, a4, a5, a6, a7]) run90 aR w (h4 := ⟨dO ei, dO ej, dO e2, dO dz0, dO dz1, dO dz2, dO dz3, dO dw0, dO dw1, dO dw2, dO dw3, dO dwg, trivial⟩)
end Go.Proofs.Ytcjnmphpfdlikaa.fwdSound
