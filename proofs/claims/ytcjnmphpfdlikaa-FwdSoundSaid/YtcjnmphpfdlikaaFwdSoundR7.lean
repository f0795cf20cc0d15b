/- FwdSound, part 7: it answers true at all inputs of that part. -/
import Derived.Test.YtcjnmphpfdlikaaDrawD
import Derived.Test.YtcjnmphpfdlikaaSumsSD
import Derived.KernelRfl
set_option linter.unusedVariables false
set_option linter.unusedSimpArgs false
set_option maxRecDepth 1000000
set_option maxHeartbeats 100000000
namespace Go.Proofs.Ytcjnmphpfdlikaa.fwdSound
open Go Go.Sx Go.RowKit Go.Fx Go.Proofs.Ytcjnmphpfdlikaa.fs
theorem fx7 {args : List KV} {cx : Cx} {xs : List Int} {args' : List Value} {T : Tab} (h : runK Try.prog (tabK (fstF sums) T) 100000 3 args cx = true) (hargs : VRels noMap (absL (rho xs) args) args') (w : World) (hT : tabAll (entS sums) (rho xs) T := by exact ⟨awakeS, hS hx, hS hy, trivial⟩) (h4 : dfAll xs cx.df := by exact trivial) (h1 : boxAll xs cx.box := by simp only [boxAll, and_true, bU, bI, bL] <;> omega) (h2 : csAll xs cx.cs := by first | exact trivial | (simp [csAll, evT, rho, cl, cg] <;> omega)) (h3 : noSv cx.box = true := by rfl) : Calls Try.prog 3 args'.toArray w fun e w' => e = .returned (.bool true) ∧ Grown w w' := calls_tab kdD.progOK kdD.mixed sumsOK sumsBody h h1 h2 h4 hT hargs w (h3 := h3)
theorem run133 : R1 7 true 6 10 (.agg [n64 0, n64 0]) (.agg [n64 2, n64 2]) [(60, [n64 0], n64 7), (60, [n64 2], n64 8)] ⟨[bU, bU, bU, bU, bU, bU, (0, 1), bU, bU, bU, (0, 20), bU, bU], [], [⟨2, .i64, v1 11, .p 2, 6⟩, ⟨3, .i64, v1 0, v1 2, 9⟩]⟩ = true := by kernel_rfl
theorem run134 : R1 7 true 6 14 (.agg [n64 0, n64 1]) (.agg [n64 2, n64 3]) [(60, [n64 1], n64 7), (60, [n64 3], n64 8)] ⟨[bU, bU, bU, bU, bU, bU, (0, 1), bU, bU, bU, bU, bU, bU, bU, (0, 20), bU, bU], [cl 0 1 0, (0, [(0, 1), (1, (-1)), (4, 1)]), cl 2 3 0, (0, [(2, 1), (3, (-1)), (5, 1)]), (1, [(0, 1), (1, (-1)), (2, 1), (3, (-1))]), cl 1 3 1, cg 0 9 0, cg 2 9 0, cg 0 10 0, cg 3 10 0, cg 1 11 0, cg 2 11 0, cg 1 12 0, cg 3 12 0, (0, [(0, (-1)), (4, (-1)), (13, 1)]), (0, [(2, (-1)), (5, (-1)), (13, 1)])], [⟨2, .i64, v1 15, .a 1 [(0, (-1)), (1, 1)], 4⟩, ⟨2, .i64, v1 16, .a 1 [(2, (-1)), (3, 1)], 5⟩, ⟨2, .i64, v1 15, .p 2, 6⟩, ⟨3, .i64, v1 0, v1 2, 9⟩, ⟨3, .i64, v1 0, v1 3, 10⟩, ⟨3, .i64, v1 1, v1 2, 11⟩, ⟨3, .i64, v1 1, v1 3, 12⟩, ⟨3, .i64, .a 0 [(0, 1), (4, 1)], .a 0 [(2, 1), (5, 1)], 13⟩]⟩ = true := by kernel_rfl
theorem run135 : R1 7 true 6 14 (.agg [n64 0, n64 1]) (.agg [n64 2, n64 3]) [(60, [n64 1], n64 7), (60, [n64 3], n64 8)] ⟨[bU, bU, bU, bU, bU, bU, (0, 1), bU, bU, bU, bU, bU, bU, bU, (0, 20), bU, bU], [cl 0 1 0, (0, [(0, 1), (1, (-1)), (4, 1)]), cl 2 3 0, (0, [(2, 1), (3, (-1)), (5, 1)]), (1, [(0, 1), (1, (-1)), (2, 1), (3, (-1))]), cg 1 3 1, cg 0 9 0, cg 2 9 0, cg 0 10 0, cg 3 10 0, cg 1 11 0, cg 2 11 0, cg 1 12 0, cg 3 12 0, (0, [(0, (-1)), (4, (-1)), (13, 1)]), (0, [(2, (-1)), (5, (-1)), (13, 1)])], [⟨2, .i64, v1 15, .a 1 [(0, (-1)), (1, 1)], 4⟩, ⟨2, .i64, v1 16, .a 1 [(2, (-1)), (3, 1)], 5⟩, ⟨2, .i64, v1 15, .p 2, 6⟩, ⟨3, .i64, v1 0, v1 2, 9⟩, ⟨3, .i64, v1 0, v1 3, 10⟩, ⟨3, .i64, v1 1, v1 2, 11⟩, ⟨3, .i64, v1 1, v1 3, 12⟩, ⟨3, .i64, .a 0 [(0, 1), (4, 1)], .a 0 [(2, 1), (5, 1)], 13⟩]⟩ = true := by kernel_rfl
theorem run136 : R1 7 true 6 13 (.agg [n64 0, n64 1]) (.agg [n64 2, n64 1]) [(60, [n64 1], n64 7)] ⟨[bU, bU, bU, bU, bU, bU, (0, 1), bU, bU, bU, bU, bU, bU, (0, 20), bU, bU], [cl 0 1 0, (0, [(0, 1), (1, (-1)), (4, 1)]), cg 1 2 0, (0, [(1, (-1)), (2, 1), (5, 1)]), (1, [(0, 1), (1, (-2)), (2, 1)]), cg 0 8 0, cg 2 8 0, cg 0 9 0, cg 1 9 0, cg 1 10 0, cg 2 10 0, cg 1 11 0, cg 1 11 0, (0, [(0, (-1)), (4, (-1)), (12, 1)]), (0, [(2, (-1)), (5, (-1)), (12, 1)])], [⟨2, .i64, v1 14, .a 1 [(0, (-1)), (1, 1)], 4⟩, ⟨2, .i64, v1 15, .a 1 [(1, 1), (2, (-1))], 5⟩, ⟨2, .i64, v1 14, .p 2, 6⟩, ⟨3, .i64, v1 0, v1 2, 8⟩, ⟨3, .i64, v1 0, v1 1, 9⟩, ⟨3, .i64, v1 1, v1 2, 10⟩, ⟨3, .i64, v1 1, v1 1, 11⟩, ⟨3, .i64, .a 0 [(0, 1), (4, 1)], .a 0 [(2, 1), (5, 1)], 12⟩]⟩ = true := by kernel_rfl
theorem run137 : R1 7 false 5 10 (.agg [n64 0, n64 0]) (.agg [n64 2, n64 2]) [(60, [n64 0], n64 7), (60, [n64 2], n64 8)] ⟨[bI, bI, bI, bI, bU, bU, (0, 1), bU, bU, bI, (0, 20), bU, bU], [], [⟨2, .i64, v1 11, .p 2, 6⟩, ⟨3, .i64, v1 0, v1 2, 9⟩]⟩ = true := by kernel_rfl
theorem run138 : R1 7 false 5 14 (.agg [n64 0, n64 1]) (.agg [n64 2, n64 3]) [(60, [n64 1], n64 7), (60, [n64 3], n64 8)] ⟨[bI, bI, bI, bI, bU, bU, (0, 1), bU, bU, bI, bI, bI, bI, bI, (0, 20), bU, bU], [cl 0 1 0, (0, [(0, 1), (1, (-1)), (4, 1)]), cl 2 3 0, (0, [(2, 1), (3, (-1)), (5, 1)]), (1, [(0, 1), (1, (-1)), (2, 1), (3, (-1))]), (1, [(0, 1)])], [⟨2, .i64, v1 15, .a 1 [(0, (-1)), (1, 1)], 4⟩, ⟨2, .i64, v1 16, .a 1 [(2, (-1)), (3, 1)], 5⟩, ⟨2, .i64, v1 15, .p 2, 6⟩, ⟨3, .i64, v1 0, v1 2, 9⟩, ⟨3, .i64, v1 0, v1 3, 10⟩, ⟨3, .i64, v1 1, v1 2, 11⟩, ⟨3, .i64, v1 1, v1 3, 12⟩, ⟨3, .i64, .a 0 [(0, 1), (4, 1)], .a 0 [(2, 1), (5, 1)], 13⟩]⟩ = true := by kernel_rfl
theorem run139 : R1 7 false 5 14 (.agg [n64 0, n64 1]) (.agg [n64 2, n64 3]) [(60, [n64 1], n64 7), (60, [n64 3], n64 8)] ⟨[bI, bI, bI, bI, bU, bU, (0, 1), bU, bU, bI, bI, bI, bI, bI, (0, 20), bU, bU], [cl 0 1 0, (0, [(0, 1), (1, (-1)), (4, 1)]), cl 2 3 0, (0, [(2, 1), (3, (-1)), (5, 1)]), (1, [(0, 1), (1, (-1)), (2, 1), (3, (-1))]), (0, [(0, (-1))]), (1, [(2, 1)])], [⟨2, .i64, v1 15, .a 1 [(0, (-1)), (1, 1)], 4⟩, ⟨2, .i64, v1 16, .a 1 [(2, (-1)), (3, 1)], 5⟩, ⟨2, .i64, v1 15, .p 2, 6⟩, ⟨3, .i64, v1 0, v1 2, 9⟩, ⟨3, .i64, v1 0, v1 3, 10⟩, ⟨3, .i64, v1 1, v1 2, 11⟩, ⟨3, .i64, v1 1, v1 3, 12⟩, ⟨3, .i64, .a 0 [(0, 1), (4, 1)], .a 0 [(2, 1), (5, 1)], 13⟩]⟩ = true := by kernel_rfl
theorem run140 : R1 7 false 5 14 (.agg [n64 0, n64 1]) (.agg [n64 2, n64 3]) [(60, [n64 1], n64 7), (60, [n64 3], n64 8)] ⟨[bI, bI, bI, bI, bU, bU, (0, 1), bU, bU, (0, 2147483647), (0, 2147483647), (0, 2147483647), (0, 2147483647), (0, 2147483647), (0, 20), bU, bU], [cl 0 1 0, (0, [(0, 1), (1, (-1)), (4, 1)]), cl 2 3 0, (0, [(2, 1), (3, (-1)), (5, 1)]), (1, [(0, 1), (1, (-1)), (2, 1), (3, (-1))]), (0, [(0, (-1))]), (0, [(2, (-1))]), cl 1 3 1, cg 0 9 0, cg 2 9 0, cg 0 10 0, cg 3 10 0, cg 1 11 0, cg 2 11 0, cg 1 12 0, cg 3 12 0, (0, [(0, (-1)), (4, (-1)), (13, 1)]), (0, [(2, (-1)), (5, (-1)), (13, 1)])], [⟨2, .i64, v1 15, .a 1 [(0, (-1)), (1, 1)], 4⟩, ⟨2, .i64, v1 16, .a 1 [(2, (-1)), (3, 1)], 5⟩, ⟨2, .i64, v1 15, .p 2, 6⟩, ⟨3, .i64, v1 0, v1 2, 9⟩, ⟨3, .i64, v1 0, v1 3, 10⟩, ⟨3, .i64, v1 1, v1 2, 11⟩, ⟨3, .i64, v1 1, v1 3, 12⟩, ⟨3, .i64, .a 0 [(0, 1), (4, 1)], .a 0 [(2, 1), (5, 1)], 13⟩]⟩ = true := by kernel_rfl
theorem run141 : R1 7 false 5 14 (.agg [n64 0, n64 1]) (.agg [n64 2, n64 3]) [(60, [n64 1], n64 7), (60, [n64 3], n64 8)] ⟨[bI, bI, bI, bI, bU, bU, (0, 1), bU, bU, (0, 2147483647), (0, 2147483647), (0, 2147483647), (0, 2147483647), (0, 2147483647), (0, 20), bU, bU], [cl 0 1 0, (0, [(0, 1), (1, (-1)), (4, 1)]), cl 2 3 0, (0, [(2, 1), (3, (-1)), (5, 1)]), (1, [(0, 1), (1, (-1)), (2, 1), (3, (-1))]), (0, [(0, (-1))]), (0, [(2, (-1))]), cg 1 3 1, cg 0 9 0, cg 2 9 0, cg 0 10 0, cg 3 10 0, cg 1 11 0, cg 2 11 0, cg 1 12 0, cg 3 12 0, (0, [(0, (-1)), (4, (-1)), (13, 1)]), (0, [(2, (-1)), (5, (-1)), (13, 1)])], [⟨2, .i64, v1 15, .a 1 [(0, (-1)), (1, 1)], 4⟩, ⟨2, .i64, v1 16, .a 1 [(2, (-1)), (3, 1)], 5⟩, ⟨2, .i64, v1 15, .p 2, 6⟩, ⟨3, .i64, v1 0, v1 2, 9⟩, ⟨3, .i64, v1 0, v1 3, 10⟩, ⟨3, .i64, v1 1, v1 2, 11⟩, ⟨3, .i64, v1 1, v1 3, 12⟩, ⟨3, .i64, .a 0 [(0, 1), (4, 1)], .a 0 [(2, 1), (5, 1)], 13⟩]⟩ = true := by kernel_rfl
theorem run142 : R1 7 false 5 13 (.agg [n64 0, n64 1]) (.agg [n64 2, n64 1]) [(60, [n64 1], n64 7)] ⟨[bI, bI, bI, bI, bU, bU, (0, 1), bU, (0, 2147483647), (0, 2147483647), (0, 2147483647), (0, 2147483647), (0, 2147483647), (0, 20), bU, bU], [cl 0 1 0, (0, [(0, 1), (1, (-1)), (4, 1)]), cg 1 2 0, (0, [(1, (-1)), (2, 1), (5, 1)]), (1, [(0, 1), (1, (-2)), (2, 1)]), (0, [(0, (-1))]), (0, [(2, (-1))]), cg 0 8 0, cg 2 8 0, cg 0 9 0, cg 1 9 0, cg 1 10 0, cg 2 10 0, cg 1 11 0, cg 1 11 0, (0, [(0, (-1)), (4, (-1)), (12, 1)]), (0, [(2, (-1)), (5, (-1)), (12, 1)])], [⟨2, .i64, v1 14, .a 1 [(0, (-1)), (1, 1)], 4⟩, ⟨2, .i64, v1 15, .a 1 [(1, 1), (2, (-1))], 5⟩, ⟨2, .i64, v1 14, .p 2, 6⟩, ⟨3, .i64, v1 0, v1 2, 8⟩, ⟨3, .i64, v1 0, v1 1, 9⟩, ⟨3, .i64, v1 1, v1 2, 10⟩, ⟨3, .i64, v1 1, v1 1, 11⟩, ⟨3, .i64, .a 0 [(0, 1), (4, 1)], .a 0 [(2, 1), (5, 1)], 12⟩]⟩ = true := by kernel_rfl
theorem op7 {a0 a2 a3 a4 a5 a6 a7 a8 a9 : Int} (r0 : 0 ≤ a0 ∧ a0 ≤ 255) (r2 : 0 ≤ a2 ∧ a2 ≤ 4294967295) (r3 : 0 ≤ a3 ∧ a3 ≤ 4294967295) (r4 : 0 ≤ a4 ∧ a4 ≤ 4294967295) (r5 : 0 ≤ a5 ∧ a5 ≤ 4294967295) (r6 : 0 ≤ a6 ∧ a6 ≤ 255) (r7 : 0 ≤ a7 ∧ a7 ≤ 255) (r8 : 0 ≤ a8 ∧ a8 ≤ 4294967295) (r9 : 0 ≤ a9 ∧ a9 ≤ 4294967295) (a1 : Bool) (hk : a0 % 12 = 7) (w : World) : Calls Try.prog 3 #[.int .u8 a0, .bool a1, .int .u32 a2, .int .u32 a3, .int .u32 a4, .int .u32 a5, .int .u8 a6, .int .u8 a7, .int .u32 a8, .int .u32 a9] w fun e w' => e = .returned (.bool true) ∧ Grown w w' := by
  cases a1 with
  | true =>
    obtain ⟨xl, xh, hx, x1, x2, x3⟩ := ends6 (a := a2) (b := a4) (far := a6) (by omega) (by omega) (by omega)
    obtain ⟨yl, yh, hy, y1, y2, y3⟩ := ends6 (a := a3) (b := a5) (far := a7) (by omega) (by omega) (by omega)
    obtain ⟨zi, ei, i1, i3, i4⟩ := remP (x := a8) (y := 1 + (xh - xl)) (by omega) (by omega)
    obtain ⟨zj, ej, j1, j3, j4⟩ := remP (x := a9) (y := 1 + (yh - yl)) (by omega) (by omega)
    obtain ⟨i2, e2, k1, k2, k3⟩ := remP (x := a8) (y := 2) (by omega) (by omega)
    rcases (show (xl = xh ∧ yl = yh) ∨ (xl < xh ∨ yl < yh) by omega) with h0 | h0
    · obtain rfl : xl = xh := by omega
      obtain rfl : yl = yh := by omega
      have ix := onesIn (n := xl) (by omega)
      have iy := onesIn (n := yl) (by omega)
      have bz0 := bV_U (n := 3) (by decide) (x := xl) (y := yl) (by omega) (by omega)
      exact fx7 (xs := [xl, xl, yl, yl, 0, 0, i2, onesV xl, onesV yl, bV 3 xl yl, a0 / 12, a8, a9, a2, a3, a4, a5, a6, a7]) run133 aR w (hT := ⟨awakeS, hS hx, hS hy, hS (onesS (n := xl) (by omega)), hS (onesS (n := yl) (by omega)), trivial⟩) (h4 := ⟨dO e2, dO bz0.1, trivial⟩)
    · rcases (show (xh < yh) ∨ (yh < xh) ∨ (xh = yh) by omega) with h1 | h1 | h1
      · have ix := onesIn (n := xh) (by omega)
        have iy := onesIn (n := yh) (by omega)
        have bz0 := bV_U (n := 3) (by decide) (x := xl) (y := yl) (by omega) (by omega)
        have cz0 := bV_P3 (x := xl) (y := yl) (by omega) (by omega)
        have bz1 := bV_U (n := 3) (by decide) (x := xl) (y := yh) (by omega) (by omega)
        have cz1 := bV_P3 (x := xl) (y := yh) (by omega) (by omega)
        have bz2 := bV_U (n := 3) (by decide) (x := xh) (y := yl) (by omega) (by omega)
        have cz2 := bV_P3 (x := xh) (y := yl) (by omega) (by omega)
        have bz3 := bV_U (n := 3) (by decide) (x := xh) (y := yh) (by omega) (by omega)
        have cz3 := bV_P3 (x := xh) (y := yh) (by omega) (by omega)
        have bz4 := bV_U (n := 3) (by decide) (x := (xl + zi)) (y := (yl + zj)) (by omega) (by omega)
        have cz4 := bV_P3 (x := (xl + zi)) (y := (yl + zj)) (by omega) (by omega)
        exact fx7 (xs := [xl, xh, yl, yh, zi, zj, i2, onesV xh, onesV yh, bV 3 xl yl, bV 3 xl yh, bV 3 xh yl, bV 3 xh yh, bV 3 (xl + zi) (yl + zj), a0 / 12, a8, a9, a2, a3, a4, a5, a6, a7]) run134 aR w (hT := ⟨awakeS, hS hx, hS hy, hS (onesS (n := xh) (by omega)), hS (onesS (n := yh) (by omega)), trivial⟩) (h4 := ⟨dO ei, dO ej, dO e2, dO bz0.1, dO bz1.1, dO bz2.1, dO bz3.1, dO bz4.1, trivial⟩)
      · have ix := onesIn (n := xh) (by omega)
        have iy := onesIn (n := yh) (by omega)
        have bz0 := bV_U (n := 3) (by decide) (x := xl) (y := yl) (by omega) (by omega)
        have cz0 := bV_P3 (x := xl) (y := yl) (by omega) (by omega)
        have bz1 := bV_U (n := 3) (by decide) (x := xl) (y := yh) (by omega) (by omega)
        have cz1 := bV_P3 (x := xl) (y := yh) (by omega) (by omega)
        have bz2 := bV_U (n := 3) (by decide) (x := xh) (y := yl) (by omega) (by omega)
        have cz2 := bV_P3 (x := xh) (y := yl) (by omega) (by omega)
        have bz3 := bV_U (n := 3) (by decide) (x := xh) (y := yh) (by omega) (by omega)
        have cz3 := bV_P3 (x := xh) (y := yh) (by omega) (by omega)
        have bz4 := bV_U (n := 3) (by decide) (x := (xl + zi)) (y := (yl + zj)) (by omega) (by omega)
        have cz4 := bV_P3 (x := (xl + zi)) (y := (yl + zj)) (by omega) (by omega)
        exact fx7 (xs := [xl, xh, yl, yh, zi, zj, i2, onesV xh, onesV yh, bV 3 xl yl, bV 3 xl yh, bV 3 xh yl, bV 3 xh yh, bV 3 (xl + zi) (yl + zj), a0 / 12, a8, a9, a2, a3, a4, a5, a6, a7]) run135 aR w (hT := ⟨awakeS, hS hx, hS hy, hS (onesS (n := xh) (by omega)), hS (onesS (n := yh) (by omega)), trivial⟩) (h4 := ⟨dO ei, dO ej, dO e2, dO bz0.1, dO bz1.1, dO bz2.1, dO bz3.1, dO bz4.1, trivial⟩)
      · obtain rfl : xh = yh := by omega
        have ix := onesIn (n := xh) (by omega)
        have bz0 := bV_U (n := 3) (by decide) (x := xl) (y := yl) (by omega) (by omega)
        have cz0 := bV_P3 (x := xl) (y := yl) (by omega) (by omega)
        have bz1 := bV_U (n := 3) (by decide) (x := xl) (y := xh) (by omega) (by omega)
        have cz1 := bV_P3 (x := xl) (y := xh) (by omega) (by omega)
        have bz2 := bV_U (n := 3) (by decide) (x := xh) (y := yl) (by omega) (by omega)
        have cz2 := bV_P3 (x := xh) (y := yl) (by omega) (by omega)
        have bz3 := bV_U (n := 3) (by decide) (x := xh) (y := xh) (by omega) (by omega)
        have cz3 := bV_P3 (x := xh) (y := xh) (by omega) (by omega)
        have bz4 := bV_U (n := 3) (by decide) (x := (xl + zi)) (y := (yl + zj)) (by omega) (by omega)
        have cz4 := bV_P3 (x := (xl + zi)) (y := (yl + zj)) (by omega) (by omega)
        exact fx7 (xs := [xl, xh, yl, xh, zi, zj, i2, onesV xh, bV 3 xl yl, bV 3 xl xh, bV 3 xh yl, bV 3 xh xh, bV 3 (xl + zi) (yl + zj), a0 / 12, a8, a9, a2, a3, a4, a5, a6, a7]) run136 aR w (hT := ⟨awakeS, hS hx, hS hy, hS (onesS (n := xh) (by omega)), trivial⟩) (h4 := ⟨dO ei, dO ej, dO e2, dO bz0.1, dO bz1.1, dO bz2.1, dO bz3.1, dO bz4.1, trivial⟩)
  | false =>
    obtain ⟨xl, xh, hx, x1, x2, x3⟩ := ends5 (a := a2) (b := a4) (far := a6) (by omega) (by omega) (by omega)
    obtain ⟨yl, yh, hy, y1, y2, y3⟩ := ends5 (a := a3) (b := a5) (far := a7) (by omega) (by omega) (by omega)
    obtain ⟨zi, ei, i1, i3, i4⟩ := remP (x := a8) (y := 1 + (xh - xl)) (by omega) (by omega)
    obtain ⟨zj, ej, j1, j3, j4⟩ := remP (x := a9) (y := 1 + (yh - yl)) (by omega) (by omega)
    obtain ⟨i2, e2, k1, k2, k3⟩ := remP (x := a8) (y := 2) (by omega) (by omega)
    rcases (show (xl = xh ∧ yl = yh) ∨ ((xl < xh ∨ yl < yh) ∧ xl ≤ -1) ∨ ((xl < xh ∨ yl < yh) ∧ 0 ≤ xl ∧ yl ≤ -1) ∨ ((xl < xh ∨ yl < yh) ∧ 0 ≤ xl ∧ 0 ≤ yl) by omega) with h0 | h0 | h0 | h0
    · obtain rfl : xl = xh := by omega
      obtain rfl : yl = yh := by omega
      have ix := onesIn (n := xl) (by omega)
      have iy := onesIn (n := yl) (by omega)
      have bz0 := bV_I (n := 3) (by decide) (x := xl) (y := yl) (by omega) (by omega)
      exact fx7 (xs := [xl, xl, yl, yl, 0, 0, i2, onesV xl, onesV yl, bV 3 xl yl, a0 / 12, a8, a9, a2, a3, a4, a5, a6, a7]) run137 aR w (hT := ⟨awakeS, hS hx, hS hy, hS (onesS (n := xl) (by omega)), hS (onesS (n := yl) (by omega)), trivial⟩) (h4 := ⟨dO e2, dO bz0.1, trivial⟩)
    · have ix := onesIn (n := xh) (by omega)
      have iy := onesIn (n := yh) (by omega)
      have bz0 := bV_I (n := 3) (by decide) (x := xl) (y := yl) (by omega) (by omega)
      have bz1 := bV_I (n := 3) (by decide) (x := xl) (y := yh) (by omega) (by omega)
      have bz2 := bV_I (n := 3) (by decide) (x := xh) (y := yl) (by omega) (by omega)
      have bz3 := bV_I (n := 3) (by decide) (x := xh) (y := yh) (by omega) (by omega)
      have bz4 := bV_I (n := 3) (by decide) (x := (xl + zi)) (y := (yl + zj)) (by omega) (by omega)
      exact fx7 (xs := [xl, xh, yl, yh, zi, zj, i2, onesV xh, onesV yh, bV 3 xl yl, bV 3 xl yh, bV 3 xh yl, bV 3 xh yh, bV 3 (xl + zi) (yl + zj), a0 / 12, a8, a9, a2, a3, a4, a5, a6, a7]) run138 aR w (hT := ⟨awakeS, hS hx, hS hy, hS (onesS (n := xh) (by omega)), hS (onesS (n := yh) (by omega)), trivial⟩) (h4 := ⟨dO ei, dO ej, dO e2, dO bz0.1, dO bz1.1, dO bz2.1, dO bz3.1, dO bz4.1, trivial⟩)
    · have ix := onesIn (n := xh) (by omega)
      have iy := onesIn (n := yh) (by omega)
      have bz0 := bV_I (n := 3) (by decide) (x := xl) (y := yl) (by omega) (by omega)
      have bz1 := bV_I (n := 3) (by decide) (x := xl) (y := yh) (by omega) (by omega)
      have bz2 := bV_I (n := 3) (by decide) (x := xh) (y := yl) (by omega) (by omega)
      have bz3 := bV_I (n := 3) (by decide) (x := xh) (y := yh) (by omega) (by omega)
      have bz4 := bV_I (n := 3) (by decide) (x := (xl + zi)) (y := (yl + zj)) (by omega) (by omega)
      exact fx7 (xs := [xl, xh, yl, yh, zi, zj, i2, onesV xh, onesV yh, bV 3 xl yl, bV 3 xl yh, bV 3 xh yl, bV 3 xh yh, bV 3 (xl + zi) (yl + zj), a0 / 12, a8, a9, a2, a3, a4, a5, a6, a7]) run139 aR w (hT := ⟨awakeS, hS hx, hS hy, hS (onesS (n := xh) (by omega)), hS (onesS (n := yh) (by omega)), trivial⟩) (h4 := ⟨dO ei, dO ej, dO e2, dO bz0.1, dO bz1.1, dO bz2.1, dO bz3.1, dO bz4.1, trivial⟩)
    · rcases (show (xh < yh) ∨ (yh < xh) ∨ (xh = yh) by omega) with h1 | h1 | h1
      · have ix := onesIn (n := xh) (by omega)
        have iy := onesIn (n := yh) (by omega)
        have bz0 := bV_I (n := 3) (by decide) (x := xl) (y := yl) (by omega) (by omega)
        have cz0 := bV_P3 (x := xl) (y := yl) (by omega) (by omega)
        have bz1 := bV_I (n := 3) (by decide) (x := xl) (y := yh) (by omega) (by omega)
        have cz1 := bV_P3 (x := xl) (y := yh) (by omega) (by omega)
        have bz2 := bV_I (n := 3) (by decide) (x := xh) (y := yl) (by omega) (by omega)
        have cz2 := bV_P3 (x := xh) (y := yl) (by omega) (by omega)
        have bz3 := bV_I (n := 3) (by decide) (x := xh) (y := yh) (by omega) (by omega)
        have cz3 := bV_P3 (x := xh) (y := yh) (by omega) (by omega)
        have bz4 := bV_I (n := 3) (by decide) (x := (xl + zi)) (y := (yl + zj)) (by omega) (by omega)
        have cz4 := bV_P3 (x := (xl + zi)) (y := (yl + zj)) (by omega) (by omega)
        exact fx7 (xs := [xl, xh, yl, yh, zi, zj, i2, onesV xh, onesV yh, bV 3 xl yl, bV 3 xl yh, bV 3 xh yl, bV 3 xh yh, bV 3 (xl + zi) (yl + zj), a0 / 12, a8, a9, a2, a3, a4, a5, a6, a7]) run140 aR w (hT := ⟨awakeS, hS hx, hS hy, hS (onesS (n := xh) (by omega)), hS (onesS (n := yh) (by omega)), trivial⟩) (h4 := ⟨dO ei, dO ej, dO e2, dO bz0.1, dO bz1.1, dO bz2.1, dO bz3.1, dO bz4.1, trivial⟩)
      · have ix := onesIn (n := xh) (by omega)
        have iy := onesIn (n := yh) (by omega)
        have bz0 := bV_I (n := 3) (by decide) (x := xl) (y := yl) (by omega) (by omega)
        have cz0 := bV_P3 (x := xl) (y := yl) (by omega) (by omega)
        have bz1 := bV_I (n := 3) (by decide) (x := xl) (y := yh) (by omega) (by omega)
        have cz1 := bV_P3 (x := xl) (y := yh) (by omega) (by omega)
        have bz2 := bV_I (n := 3) (by decide) (x := xh) (y := yl) (by omega) (by omega)
        have cz2 := bV_P3 (x := xh) (y := yl) (by omega) (by omega)
        have bz3 := bV_I (n := 3) (by decide) (x := xh) (y := yh) (by omega) (by omega)
        have cz3 := bV_P3 (x := xh) (y := yh) (by omega) (by omega)
        have bz4 := bV_I (n := 3) (by decide) (x := (xl + zi)) (y := (yl + zj)) (by omega) (by omega)
        have cz4 := bV_P3 (x := (xl + zi)) (y := (yl + zj)) (by omega) (by omega)
        exact fx7 (xs := [xl, xh, yl, yh, zi, zj, i2, onesV xh, onesV yh, bV 3 xl yl, bV 3 xl yh, bV 3 xh yl, bV 3 xh yh, bV 3 (xl + zi) (yl + zj), a0 / 12, a8, a9, a2, a3, a4, a5, a6, a7]) run141 aR w (hT := ⟨awakeS, hS hx, hS hy, hS (onesS (n := xh) (by omega)), hS (onesS (n := yh) (by omega)), trivial⟩) (h4 := ⟨dO ei, dO ej, dO e2, dO bz0.1, dO bz1.1, dO bz2.1, dO bz3.1, dO bz4.1, trivial⟩)
      · obtain rfl : xh = yh := by omega
        have ix := onesIn (n := xh) (by omega)
        have bz0 := bV_I (n := 3) (by decide) (x := xl) (y := yl) (by omega) (by omega)
        have cz0 := bV_P3 (x := xl) (y := yl) (by omega) (by omega)
        have bz1 := bV_I (n := 3) (by decide) (x := xl) (y := xh) (by omega) (by omega)
        have cz1 := bV_P3 (x := xl) (y := xh) (by omega) (by omega)
        have bz2 := bV_I (n := 3) (by decide) (x := xh) (y := yl) (by omega) (by omega)
        have cz2 := bV_P3 (x := xh) (y := yl) (by omega) (by omega)
        have bz3 := bV_I (n := 3) (by decide) (x := xh) (y := xh) (by omega) (by omega)
        have cz3 := bV_P3 (x := xh) (y := xh) (by omega) (by omega)
        have bz4 := bV_I (n := 3) (by decide) (x := (xl + zi)) (y := (yl + zj)) (by omega) (by omega)
        have cz4 := bV_P3 (x := (xl + zi)) (y := (yl + zj)) (by omega) (by omega)
        exact fx7 (xs := [xl, xh, yl, xh, zi, zj, i2, onesV xh, bV 3 xl yl, bV 3 xl xh, bV 3 xh yl, bV 3 xh xh, bV 3 (xl + zi) (yl + zj), a0 / 12, a8, a9, a2, a3, a4, a5, a6, a7]) run142 aR w (hT := ⟨awakeS, hS hx, hS hy, hS (onesS (n := xh) (by omega)), trivial⟩) (h4 := ⟨dO ei, dO ej, dO e2, dO bz0.1, dO bz1.1, dO bz2.1, dO bz3.1, dO bz4.1, trivial⟩)
end Go.Proofs.Ytcjnmphpfdlikaa.fwdSound
