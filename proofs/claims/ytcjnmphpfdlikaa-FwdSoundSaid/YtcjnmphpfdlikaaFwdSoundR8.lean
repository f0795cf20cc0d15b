/- FwdSound, part 8: it answers true at all inputs of that part. -/
import Derived.Test.YtcjnmphpfdlikaaDrawD
import Derived.Test.YtcjnmphpfdlikaaSumsSD
import Derived.KernelRfl
set_option linter.unusedVariables false
set_option linter.unusedSimpArgs false
set_option maxRecDepth 1000000
set_option maxHeartbeats 100000000
namespace Go.Proofs.Ytcjnmphpfdlikaa.fwdSound
open Go Go.Sx Go.RowKit Go.Fx Go.Proofs.Ytcjnmphpfdlikaa.fs
theorem fx8 {args : List KV} {cx : Cx} {xs : List Int} {args' : List Value} {T : Tab} (h : runK Try.prog (tabK (fstF sums) T) 100000 3 args cx = true) (hargs : VRels noMap (absL (rho xs) args) args') (w : World) (hT : tabAll (entS sums) (rho xs) T := by exact ⟨awakeS, hS hx, hS hy, trivial⟩) (h4 : dfAll xs cx.df := by exact trivial) (h1 : boxAll xs cx.box := by simp only [boxAll, and_true, bU, bI, bL] <;> omega) (h2 : csAll xs cx.cs := by first | exact trivial | (simp [csAll, evT, rho, cl, cg] <;> omega)) (h3 : noSv cx.box = true := by rfl) : Calls Try.prog 3 args'.toArray w fun e w' => e = .returned (.bool true) ∧ Grown w w' := calls_tab kdD.progOK kdD.mixed sumsOK sumsBody h h1 h2 h4 hT hargs w (h3 := h3)
theorem run143 : R1 8 true 6 10 (.agg [n64 0, n64 0]) (.agg [n64 2, n64 2]) [(60, [n64 0], n64 7), (60, [n64 2], n64 8)] ⟨[bU, bU, bU, bU, bU, bU, (0, 1), bU, bU, bU, (0, 20), bU, bU], [], [⟨2, .i64, v1 11, .p 2, 6⟩, ⟨4, .i64, v1 0, v1 2, 9⟩]⟩ = true := by kernel_rfl
theorem run144 : R1 8 true 6 14 (.agg [n64 0, n64 1]) (.agg [n64 2, n64 3]) [(60, [n64 1], n64 7), (60, [n64 3], n64 8)] ⟨[bU, bU, bU, bU, bU, bU, (0, 1), bU, bU, bU, bU, bU, bU, bU, (0, 20), bU, bU], [cl 0 1 0, (0, [(0, 1), (1, (-1)), (4, 1)]), cl 2 3 0, (0, [(2, 1), (3, (-1)), (5, 1)]), (1, [(0, 1), (1, (-1)), (2, 1), (3, (-1))]), cl 1 3 1, cl 0 9 0, cl 2 9 0, cg 8 9 0, cl 0 10 0, cl 3 10 0, cg 8 10 0, cl 1 11 0, cl 2 11 0, cg 8 11 0, cl 1 12 0, cl 3 12 0, cg 8 12 0, (0, [(0, 1), (4, 1), (13, (-1))]), (0, [(2, 1), (5, 1), (13, (-1))]), cg 8 13 0], [⟨2, .i64, v1 15, .a 1 [(0, (-1)), (1, 1)], 4⟩, ⟨2, .i64, v1 16, .a 1 [(2, (-1)), (3, 1)], 5⟩, ⟨2, .i64, v1 15, .p 2, 6⟩, ⟨4, .i64, v1 0, v1 2, 9⟩, ⟨4, .i64, v1 0, v1 3, 10⟩, ⟨4, .i64, v1 1, v1 2, 11⟩, ⟨4, .i64, v1 1, v1 3, 12⟩, ⟨4, .i64, .a 0 [(0, 1), (4, 1)], .a 0 [(2, 1), (5, 1)], 13⟩]⟩ = true := by kernel_rfl
theorem run145 : R1 8 true 6 14 (.agg [n64 0, n64 1]) (.agg [n64 2, n64 3]) [(60, [n64 1], n64 7), (60, [n64 3], n64 8)] ⟨[bU, bU, bU, bU, bU, bU, (0, 1), bU, bU, bU, bU, bU, bU, bU, (0, 20), bU, bU], [cl 0 1 0, (0, [(0, 1), (1, (-1)), (4, 1)]), cl 2 3 0, (0, [(2, 1), (3, (-1)), (5, 1)]), (1, [(0, 1), (1, (-1)), (2, 1), (3, (-1))]), cg 1 3 1, cl 0 9 0, cl 2 9 0, cg 7 9 0, cl 0 10 0, cl 3 10 0, cg 7 10 0, cl 1 11 0, cl 2 11 0, cg 7 11 0, cl 1 12 0, cl 3 12 0, cg 7 12 0, (0, [(0, 1), (4, 1), (13, (-1))]), (0, [(2, 1), (5, 1), (13, (-1))]), cg 7 13 0], [⟨2, .i64, v1 15, .a 1 [(0, (-1)), (1, 1)], 4⟩, ⟨2, .i64, v1 16, .a 1 [(2, (-1)), (3, 1)], 5⟩, ⟨2, .i64, v1 15, .p 2, 6⟩, ⟨4, .i64, v1 0, v1 2, 9⟩, ⟨4, .i64, v1 0, v1 3, 10⟩, ⟨4, .i64, v1 1, v1 2, 11⟩, ⟨4, .i64, v1 1, v1 3, 12⟩, ⟨4, .i64, .a 0 [(0, 1), (4, 1)], .a 0 [(2, 1), (5, 1)], 13⟩]⟩ = true := by kernel_rfl
theorem run146 : R1 8 true 6 13 (.agg [n64 0, n64 1]) (.agg [n64 2, n64 1]) [(60, [n64 1], n64 7)] ⟨[bU, bU, bU, bU, bU, bU, (0, 1), bU, bU, bU, bU, bU, bU, (0, 20), bU, bU], [cl 0 1 0, (0, [(0, 1), (1, (-1)), (4, 1)]), cg 1 2 0, (0, [(1, (-1)), (2, 1), (5, 1)]), (1, [(0, 1), (1, (-2)), (2, 1)]), cl 0 8 0, cl 2 8 0, cg 7 8 0, cl 0 9 0, cl 1 9 0, cg 7 9 0, cl 1 10 0, cl 2 10 0, cg 7 10 0, cl 1 11 0, cl 1 11 0, cg 7 11 0, (0, [(0, 1), (4, 1), (12, (-1))]), (0, [(2, 1), (5, 1), (12, (-1))]), cg 7 12 0], [⟨2, .i64, v1 14, .a 1 [(0, (-1)), (1, 1)], 4⟩, ⟨2, .i64, v1 15, .a 1 [(1, 1), (2, (-1))], 5⟩, ⟨2, .i64, v1 14, .p 2, 6⟩, ⟨4, .i64, v1 0, v1 2, 8⟩, ⟨4, .i64, v1 0, v1 1, 9⟩, ⟨4, .i64, v1 1, v1 2, 10⟩, ⟨4, .i64, v1 1, v1 1, 11⟩, ⟨4, .i64, .a 0 [(0, 1), (4, 1)], .a 0 [(2, 1), (5, 1)], 12⟩]⟩ = true := by kernel_rfl
theorem run147 : R1 8 false 5 10 (.agg [n64 0, n64 0]) (.agg [n64 2, n64 2]) [(60, [n64 0], n64 7), (60, [n64 2], n64 8)] ⟨[bI, bI, bI, bI, bU, bU, (0, 1), bU, bU, bI, (0, 20), bU, bU], [], [⟨2, .i64, v1 11, .p 2, 6⟩, ⟨4, .i64, v1 0, v1 2, 9⟩]⟩ = true := by kernel_rfl
theorem run148 : R1 8 false 5 14 (.agg [n64 0, n64 1]) (.agg [n64 2, n64 3]) [(60, [n64 1], n64 7), (60, [n64 3], n64 8)] ⟨[bI, bI, bI, bI, bU, bU, (0, 1), bU, bU, bI, bI, bI, bI, bI, (0, 20), bU, bU], [cl 0 1 0, (0, [(0, 1), (1, (-1)), (4, 1)]), cl 2 3 0, (0, [(2, 1), (3, (-1)), (5, 1)]), (1, [(0, 1), (1, (-1)), (2, 1), (3, (-1))]), (1, [(0, 1)])], [⟨2, .i64, v1 15, .a 1 [(0, (-1)), (1, 1)], 4⟩, ⟨2, .i64, v1 16, .a 1 [(2, (-1)), (3, 1)], 5⟩, ⟨2, .i64, v1 15, .p 2, 6⟩, ⟨4, .i64, v1 0, v1 2, 9⟩, ⟨4, .i64, v1 0, v1 3, 10⟩, ⟨4, .i64, v1 1, v1 2, 11⟩, ⟨4, .i64, v1 1, v1 3, 12⟩, ⟨4, .i64, .a 0 [(0, 1), (4, 1)], .a 0 [(2, 1), (5, 1)], 13⟩]⟩ = true := by kernel_rfl
theorem run149 : R1 8 false 5 14 (.agg [n64 0, n64 1]) (.agg [n64 2, n64 3]) [(60, [n64 1], n64 7), (60, [n64 3], n64 8)] ⟨[bI, bI, bI, bI, bU, bU, (0, 1), bU, bU, bI, bI, bI, bI, bI, (0, 20), bU, bU], [cl 0 1 0, (0, [(0, 1), (1, (-1)), (4, 1)]), cl 2 3 0, (0, [(2, 1), (3, (-1)), (5, 1)]), (1, [(0, 1), (1, (-1)), (2, 1), (3, (-1))]), (0, [(0, (-1))]), (1, [(2, 1)])], [⟨2, .i64, v1 15, .a 1 [(0, (-1)), (1, 1)], 4⟩, ⟨2, .i64, v1 16, .a 1 [(2, (-1)), (3, 1)], 5⟩, ⟨2, .i64, v1 15, .p 2, 6⟩, ⟨4, .i64, v1 0, v1 2, 9⟩, ⟨4, .i64, v1 0, v1 3, 10⟩, ⟨4, .i64, v1 1, v1 2, 11⟩, ⟨4, .i64, v1 1, v1 3, 12⟩, ⟨4, .i64, .a 0 [(0, 1), (4, 1)], .a 0 [(2, 1), (5, 1)], 13⟩]⟩ = true := by kernel_rfl
theorem run150 : R1 8 false 5 14 (.agg [n64 0, n64 1]) (.agg [n64 2, n64 3]) [(60, [n64 1], n64 7), (60, [n64 3], n64 8)] ⟨[bI, bI, bI, bI, bU, bU, (0, 1), bU, bU, (0, 2147483647), (0, 2147483647), (0, 2147483647), (0, 2147483647), (0, 2147483647), (0, 20), bU, bU], [cl 0 1 0, (0, [(0, 1), (1, (-1)), (4, 1)]), cl 2 3 0, (0, [(2, 1), (3, (-1)), (5, 1)]), (1, [(0, 1), (1, (-1)), (2, 1), (3, (-1))]), (0, [(0, (-1))]), (0, [(2, (-1))]), cl 1 3 1, cl 0 9 0, cl 2 9 0, cg 8 9 0, cl 0 10 0, cl 3 10 0, cg 8 10 0, cl 1 11 0, cl 2 11 0, cg 8 11 0, cl 1 12 0, cl 3 12 0, cg 8 12 0, (0, [(0, 1), (4, 1), (13, (-1))]), (0, [(2, 1), (5, 1), (13, (-1))]), cg 8 13 0], [⟨2, .i64, v1 15, .a 1 [(0, (-1)), (1, 1)], 4⟩, ⟨2, .i64, v1 16, .a 1 [(2, (-1)), (3, 1)], 5⟩, ⟨2, .i64, v1 15, .p 2, 6⟩, ⟨4, .i64, v1 0, v1 2, 9⟩, ⟨4, .i64, v1 0, v1 3, 10⟩, ⟨4, .i64, v1 1, v1 2, 11⟩, ⟨4, .i64, v1 1, v1 3, 12⟩, ⟨4, .i64, .a 0 [(0, 1), (4, 1)], .a 0 [(2, 1), (5, 1)], 13⟩]⟩ = true := by kernel_rfl
theorem run151 : R1 8 false 5 14 (.agg [n64 0, n64 1]) (.agg [n64 2, n64 3]) [(60, [n64 1], n64 7), (60, [n64 3], n64 8)] ⟨[bI, bI, bI, bI, bU, bU, (0, 1), bU, bU, (0, 2147483647), (0, 2147483647), (0, 2147483647), (0, 2147483647), (0, 2147483647), (0, 20), bU, bU], [cl 0 1 0, (0, [(0, 1), (1, (-1)), (4, 1)]), cl 2 3 0, (0, [(2, 1), (3, (-1)), (5, 1)]), (1, [(0, 1), (1, (-1)), (2, 1), (3, (-1))]), (0, [(0, (-1))]), (0, [(2, (-1))]), cg 1 3 1, cl 0 9 0, cl 2 9 0, cg 7 9 0, cl 0 10 0, cl 3 10 0, cg 7 10 0, cl 1 11 0, cl 2 11 0, cg 7 11 0, cl 1 12 0, cl 3 12 0, cg 7 12 0, (0, [(0, 1), (4, 1), (13, (-1))]), (0, [(2, 1), (5, 1), (13, (-1))]), cg 7 13 0], [⟨2, .i64, v1 15, .a 1 [(0, (-1)), (1, 1)], 4⟩, ⟨2, .i64, v1 16, .a 1 [(2, (-1)), (3, 1)], 5⟩, ⟨2, .i64, v1 15, .p 2, 6⟩, ⟨4, .i64, v1 0, v1 2, 9⟩, ⟨4, .i64, v1 0, v1 3, 10⟩, ⟨4, .i64, v1 1, v1 2, 11⟩, ⟨4, .i64, v1 1, v1 3, 12⟩, ⟨4, .i64, .a 0 [(0, 1), (4, 1)], .a 0 [(2, 1), (5, 1)], 13⟩]⟩ = true := by kernel_rfl
theorem run152 : R1 8 false 5 13 (.agg [n64 0, n64 1]) (.agg [n64 2, n64 1]) [(60, [n64 1], n64 7)] ⟨[bI, bI, bI, bI, bU, bU, (0, 1), bU, (0, 2147483647), (0, 2147483647), (0, 2147483647), (0, 2147483647), (0, 2147483647), (0, 20), bU, bU], [cl 0 1 0, (0, [(0, 1), (1, (-1)), (4, 1)]), cg 1 2 0, (0, [(1, (-1)), (2, 1), (5, 1)]), (1, [(0, 1), (1, (-2)), (2, 1)]), (0, [(0, (-1))]), (0, [(2, (-1))]), cl 0 8 0, cl 2 8 0, cg 7 8 0, cl 0 9 0, cl 1 9 0, cg 7 9 0, cl 1 10 0, cl 2 10 0, cg 7 10 0, cl 1 11 0, cl 1 11 0, cg 7 11 0, (0, [(0, 1), (4, 1), (12, (-1))]), (0, [(2, 1), (5, 1), (12, (-1))]), cg 7 12 0], [⟨2, .i64, v1 14, .a 1 [(0, (-1)), (1, 1)], 4⟩, ⟨2, .i64, v1 15, .a 1 [(1, 1), (2, (-1))], 5⟩, ⟨2, .i64, v1 14, .p 2, 6⟩, ⟨4, .i64, v1 0, v1 2, 8⟩, ⟨4, .i64, v1 0, v1 1, 9⟩, ⟨4, .i64, v1 1, v1 2, 10⟩, ⟨4, .i64, v1 1, v1 1, 11⟩, ⟨4, .i64, .a 0 [(0, 1), (4, 1)], .a 0 [(2, 1), (5, 1)], 12⟩]⟩ = true := by kernel_rfl
theorem op8 {a0 a2 a3 a4 a5 a6 a7 a8 a9 : Int} (r0 : 0 ≤ a0 ∧ a0 ≤ 255) (r2 : 0 ≤ a2 ∧ a2 ≤ 4294967295) (r3 : 0 ≤ a3 ∧ a3 ≤ 4294967295) (r4 : 0 ≤ a4 ∧ a4 ≤ 4294967295) (r5 : 0 ≤ a5 ∧ a5 ≤ 4294967295) (r6 : 0 ≤ a6 ∧ a6 ≤ 255) (r7 : 0 ≤ a7 ∧ a7 ≤ 255) (r8 : 0 ≤ a8 ∧ a8 ≤ 4294967295) (r9 : 0 ≤ a9 ∧ a9 ≤ 4294967295) (a1 : Bool) (hk : a0 % 12 = 8) (w : World) : Calls Try.prog 3 #[.int .u8 a0, .bool a1, .int .u32 a2, .int .u32 a3, .int .u32 a4, .int .u32 a5, .int .u8 a6, .int .u8 a7, .int .u32 a8, .int .u32 a9] w fun e w' => e = .returned (.bool true) ∧ Grown w w' := by
  cases a1 with
  | true =>
    obtain ⟨xl, xh, hx, x1, x2, x3⟩ := ends6 (a := a2) (b := a4) (far := a6) (by omega) (by omega) (by omega)
    obtain ⟨yl, yh, hy, y1, y2, y3⟩ := ends6 (a := a3) (b := a5) (far := a7) (by omega) (by omega) (by omega)
    obtain ⟨zi, ei, i1, i3, i4⟩ := remP (x := a8) (y := 1 + (xh - xl)) (by omega) (by omega)
    obtain ⟨zj, ej, j1, j3, j4⟩ := remP (x := a9) (y := 1 + (yh - yl)) (by omega) (by omega)
    obtain ⟨i2, e2, k1, k2, k3⟩ := remP (x := a8) (y := 2) (by omega) (by omega)
    rcases (show (xl = xh ∧ yl = yh) ∨ (xl < xh ∨ yl < yh) by omega) with h0 | h0
    · obtain rfl : xl = xh := by omega
      obtain rfl : yl = yh := by omega
      have ix := onesIn (n := xl) (by omega)
      have iy := onesIn (n := yl) (by omega)
      have bz0 := bV_U (n := 4) (by decide) (x := xl) (y := yl) (by omega) (by omega)
      exact fx8 (xs := [xl, xl, yl, yl, 0, 0, i2, onesV xl, onesV yl, bV 4 xl yl, a0 / 12, a8, a9, a2, a3, a4, a5, a6, a7]) run143 aR w (hT := ⟨awakeS, hS hx, hS hy, hS (onesS (n := xl) (by omega)), hS (onesS (n := yl) (by omega)), trivial⟩) (h4 := ⟨dO e2, dO bz0.1, trivial⟩)
    · rcases (show (xh < yh) ∨ (yh < xh) ∨ (xh = yh) by omega) with h1 | h1 | h1
      · have ix := onesIn (n := xh) (by omega)
        have iy := onesIn (n := yh) (by omega)
        have bz0 := bV_U (n := 4) (by decide) (x := xl) (y := yl) (by omega) (by omega)
        have cz0 := bV_P4 (x := xl) (y := yl) (by omega) (by omega) (m := yh) (by omega) (by omega) (by omega)
        have bz1 := bV_U (n := 4) (by decide) (x := xl) (y := yh) (by omega) (by omega)
        have cz1 := bV_P4 (x := xl) (y := yh) (by omega) (by omega) (m := yh) (by omega) (by omega) (by omega)
        have bz2 := bV_U (n := 4) (by decide) (x := xh) (y := yl) (by omega) (by omega)
        have cz2 := bV_P4 (x := xh) (y := yl) (by omega) (by omega) (m := yh) (by omega) (by omega) (by omega)
        have bz3 := bV_U (n := 4) (by decide) (x := xh) (y := yh) (by omega) (by omega)
        have cz3 := bV_P4 (x := xh) (y := yh) (by omega) (by omega) (m := yh) (by omega) (by omega) (by omega)
        have bz4 := bV_U (n := 4) (by decide) (x := (xl + zi)) (y := (yl + zj)) (by omega) (by omega)
        have cz4 := bV_P4 (x := (xl + zi)) (y := (yl + zj)) (by omega) (by omega) (m := yh) (by omega) (by omega) (by omega)
        exact fx8 (xs := [xl, xh, yl, yh, zi, zj, i2, onesV xh, onesV yh, bV 4 xl yl, bV 4 xl yh, bV 4 xh yl, bV 4 xh yh, bV 4 (xl + zi) (yl + zj), a0 / 12, a8, a9, a2, a3, a4, a5, a6, a7]) run144 aR w (hT := ⟨awakeS, hS hx, hS hy, hS (onesS (n := xh) (by omega)), hS (onesS (n := yh) (by omega)), trivial⟩) (h4 := ⟨dO ei, dO ej, dO e2, dO bz0.1, dO bz1.1, dO bz2.1, dO bz3.1, dO bz4.1, trivial⟩)
      · have ix := onesIn (n := xh) (by omega)
        have iy := onesIn (n := yh) (by omega)
        have bz0 := bV_U (n := 4) (by decide) (x := xl) (y := yl) (by omega) (by omega)
        have cz0 := bV_P4 (x := xl) (y := yl) (by omega) (by omega) (m := xh) (by omega) (by omega) (by omega)
        have bz1 := bV_U (n := 4) (by decide) (x := xl) (y := yh) (by omega) (by omega)
        have cz1 := bV_P4 (x := xl) (y := yh) (by omega) (by omega) (m := xh) (by omega) (by omega) (by omega)
        have bz2 := bV_U (n := 4) (by decide) (x := xh) (y := yl) (by omega) (by omega)
        have cz2 := bV_P4 (x := xh) (y := yl) (by omega) (by omega) (m := xh) (by omega) (by omega) (by omega)
        have bz3 := bV_U (n := 4) (by decide) (x := xh) (y := yh) (by omega) (by omega)
        have cz3 := bV_P4 (x := xh) (y := yh) (by omega) (by omega) (m := xh) (by omega) (by omega) (by omega)
        have bz4 := bV_U (n := 4) (by decide) (x := (xl + zi)) (y := (yl + zj)) (by omega) (by omega)
        have cz4 := bV_P4 (x := (xl + zi)) (y := (yl + zj)) (by omega) (by omega) (m := xh) (by omega) (by omega) (by omega)
        exact fx8 (xs := [xl, xh, yl, yh, zi, zj, i2, onesV xh, onesV yh, bV 4 xl yl, bV 4 xl yh, bV 4 xh yl, bV 4 xh yh, bV 4 (xl + zi) (yl + zj), a0 / 12, a8, a9, a2, a3, a4, a5, a6, a7]) run145 aR w (hT := ⟨awakeS, hS hx, hS hy, hS (onesS (n := xh) (by omega)), hS (onesS (n := yh) (by omega)), trivial⟩) (h4 := ⟨dO ei, dO ej, dO e2, dO bz0.1, dO bz1.1, dO bz2.1, dO bz3.1, dO bz4.1, trivial⟩)
      · obtain rfl : xh = yh := by omega
        have ix := onesIn (n := xh) (by omega)
        have bz0 := bV_U (n := 4) (by decide) (x := xl) (y := yl) (by omega) (by omega)
        have cz0 := bV_P4 (x := xl) (y := yl) (by omega) (by omega) (m := xh) (by omega) (by omega) (by omega)
        have bz1 := bV_U (n := 4) (by decide) (x := xl) (y := xh) (by omega) (by omega)
        have cz1 := bV_P4 (x := xl) (y := xh) (by omega) (by omega) (m := xh) (by omega) (by omega) (by omega)
        have bz2 := bV_U (n := 4) (by decide) (x := xh) (y := yl) (by omega) (by omega)
        have cz2 := bV_P4 (x := xh) (y := yl) (by omega) (by omega) (m := xh) (by omega) (by omega) (by omega)
        have bz3 := bV_U (n := 4) (by decide) (x := xh) (y := xh) (by omega) (by omega)
        have cz3 := bV_P4 (x := xh) (y := xh) (by omega) (by omega) (m := xh) (by omega) (by omega) (by omega)
        have bz4 := bV_U (n := 4) (by decide) (x := (xl + zi)) (y := (yl + zj)) (by omega) (by omega)
        have cz4 := bV_P4 (x := (xl + zi)) (y := (yl + zj)) (by omega) (by omega) (m := xh) (by omega) (by omega) (by omega)
        exact fx8 (xs := [xl, xh, yl, xh, zi, zj, i2, onesV xh, bV 4 xl yl, bV 4 xl xh, bV 4 xh yl, bV 4 xh xh, bV 4 (xl + zi) (yl + zj), a0 / 12, a8, a9, a2, a3, a4, a5, a6, a7]) run146 aR w (hT := ⟨awakeS, hS hx, hS hy, hS (onesS (n := xh) (by omega)), trivial⟩) (h4 := ⟨dO ei, dO ej, dO e2, dO bz0.1, dO bz1.1, dO bz2.1, dO bz3.1, dO bz4.1, trivial⟩)
  | false =>
    obtain ⟨xl, xh, hx, x1, x2, x3⟩ := ends5 (a := a2) (b := a4) (far := a6) (by omega) (by omega) (by omega)
    obtain ⟨yl, yh, hy, y1, y2, y3⟩ := ends5 (a := a3) (b := a5) (far := a7) (by omega) (by omega) (by omega)
    obtain ⟨zi, ei, i1, i3, i4⟩ := remP (x := a8) (y := 1 + (xh - xl)) (by omega) (by omega)
    obtain ⟨zj, ej, j1, j3, j4⟩ := remP (x := a9) (y := 1 + (yh - yl)) (by omega) (by omega)
    obtain ⟨i2, e2, k1, k2, k3⟩ := remP (x := a8) (y := 2) (by omega) (by omega)
    rcases (show (xl = xh ∧ yl = yh) ∨ ((xl < xh ∨ yl < yh) ∧ xl ≤ -1) ∨ ((xl < xh ∨ yl < yh) ∧ 0 ≤ xl ∧ yl ≤ -1) ∨ ((xl < xh ∨ yl < yh) ∧ 0 ≤ xl ∧ 0 ≤ yl) by omega) with h0 | h0 | h0 | h0
    · obtain rfl : xl = xh := by omega
      obtain rfl : yl = yh := by omega
      have ix := onesIn (n := xl) (by omega)
      have iy := onesIn (n := yl) (by omega)
      have bz0 := bV_I (n := 4) (by decide) (x := xl) (y := yl) (by omega) (by omega)
      exact fx8 (xs := [xl, xl, yl, yl, 0, 0, i2, onesV xl, onesV yl, bV 4 xl yl, a0 / 12, a8, a9, a2, a3, a4, a5, a6, a7]) run147 aR w (hT := ⟨awakeS, hS hx, hS hy, hS (onesS (n := xl) (by omega)), hS (onesS (n := yl) (by omega)), trivial⟩) (h4 := ⟨dO e2, dO bz0.1, trivial⟩)
    · have ix := onesIn (n := xh) (by omega)
      have iy := onesIn (n := yh) (by omega)
      have bz0 := bV_I (n := 4) (by decide) (x := xl) (y := yl) (by omega) (by omega)
      have bz1 := bV_I (n := 4) (by decide) (x := xl) (y := yh) (by omega) (by omega)
      have bz2 := bV_I (n := 4) (by decide) (x := xh) (y := yl) (by omega) (by omega)
      have bz3 := bV_I (n := 4) (by decide) (x := xh) (y := yh) (by omega) (by omega)
      have bz4 := bV_I (n := 4) (by decide) (x := (xl + zi)) (y := (yl + zj)) (by omega) (by omega)
      exact fx8 (xs := [xl, xh, yl, yh, zi, zj, i2, onesV xh, onesV yh, bV 4 xl yl, bV 4 xl yh, bV 4 xh yl, bV 4 xh yh, bV 4 (xl + zi) (yl + zj), a0 / 12, a8, a9, a2, a3, a4, a5, a6, a7]) run148 aR w (hT := ⟨awakeS, hS hx, hS hy, hS (onesS (n := xh) (by omega)), hS (onesS (n := yh) (by omega)), trivial⟩) (h4 := ⟨dO ei, dO ej, dO e2, dO bz0.1, dO bz1.1, dO bz2.1, dO bz3.1, dO bz4.1, trivial⟩)
    · have ix := onesIn (n := xh) (by omega)
      have iy := onesIn (n := yh) (by omega)
      have bz0 := bV_I (n := 4) (by decide) (x := xl) (y := yl) (by omega) (by omega)
      have bz1 := bV_I (n := 4) (by decide) (x := xl) (y := yh) (by omega) (by omega)
      have bz2 := bV_I (n := 4) (by decide) (x := xh) (y := yl) (by omega) (by omega)
      have bz3 := bV_I (n := 4) (by decide) (x := xh) (y := yh) (by omega) (by omega)
      have bz4 := bV_I (n := 4) (by decide) (x := (xl + zi)) (y := (yl + zj)) (by omega) (by omega)
      exact fx8 (xs := [xl, xh, yl, yh, zi, zj, i2, onesV xh, onesV yh, bV 4 xl yl, bV 4 xl yh, bV 4 xh yl, bV 4 xh yh, bV 4 (xl + zi) (yl + zj), a0 / 12, a8, a9, a2, a3, a4, a5, a6, a7]) run149 aR w (hT := ⟨awakeS, hS hx, hS hy, hS (onesS (n := xh) (by omega)), hS (onesS (n := yh) (by omega)), trivial⟩) (h4 := ⟨dO ei, dO ej, dO e2, dO bz0.1, dO bz1.1, dO bz2.1, dO bz3.1, dO bz4.1, trivial⟩)
    · rcases (show (xh < yh) ∨ (yh < xh) ∨ (xh = yh) by omega) with h1 | h1 | h1
      · have ix := onesIn (n := xh) (by omega)
        have iy := onesIn (n := yh) (by omega)
        have bz0 := bV_I (n := 4) (by decide) (x := xl) (y := yl) (by omega) (by omega)
        have cz0 := bV_P4 (x := xl) (y := yl) (by omega) (by omega) (m := yh) (by omega) (by omega) (by omega)
        have bz1 := bV_I (n := 4) (by decide) (x := xl) (y := yh) (by omega) (by omega)
        have cz1 := bV_P4 (x := xl) (y := yh) (by omega) (by omega) (m := yh) (by omega) (by omega) (by omega)
        have bz2 := bV_I (n := 4) (by decide) (x := xh) (y := yl) (by omega) (by omega)
        have cz2 := bV_P4 (x := xh) (y := yl) (by omega) (by omega) (m := yh) (by omega) (by omega) (by omega)
        have bz3 := bV_I (n := 4) (by decide) (x := xh) (y := yh) (by omega) (by omega)
        have cz3 := bV_P4 (x := xh) (y := yh) (by omega) (by omega) (m := yh) (by omega) (by omega) (by omega)
        have bz4 := bV_I (n := 4) (by decide) (x := (xl + zi)) (y := (yl + zj)) (by omega) (by omega)
        have cz4 := bV_P4 (x := (xl + zi)) (y := (yl + zj)) (by omega) (by omega) (m := yh) (by omega) (by omega) (by omega)
        exact fx8 (xs := [xl, xh, yl, yh, zi, zj, i2, onesV xh, onesV yh, bV 4 xl yl, bV 4 xl yh, bV 4 xh yl, bV 4 xh yh, bV 4 (xl + zi) (yl + zj), a0 / 12, a8, a9, a2, a3, a4, a5, a6, a7]) run150 aR w (hT := ⟨awakeS, hS hx, hS hy, hS (onesS (n := xh) (by omega)), hS (onesS (n := yh) (by omega)), trivial⟩) (h4 := ⟨dO ei, dO ej, dO e2, dO bz0.1, dO bz1.1, dO bz2.1, dO bz3.1, dO bz4.1, trivial⟩)
      · have ix := onesIn (n := xh) (by omega)
        have iy := onesIn (n := yh) (by omega)
        have bz0 := bV_I (n := 4) (by decide) (x := xl) (y := yl) (by omega) (by omega)
        have cz0 := bV_P4 (x := xl) (y := yl) (by omega) (by omega) (m := xh) (by omega) (by omega) (by omega)
        have bz1 := bV_I (n := 4) (by decide) (x := xl) (y := yh) (by omega) (by omega)
        have cz1 := bV_P4 (x := xl) (y := yh) (by omega) (by omega) (m := xh) (by omega) (by omega) (by omega)
        have bz2 := bV_I (n := 4) (by decide) (x := xh) (y := yl) (by omega) (by omega)
        have cz2 := bV_P4 (x := xh) (y := yl) (by omega) (by omega) (m := xh) (by omega) (by omega) (by omega)
        have bz3 := bV_I (n := 4) (by decide) (x := xh) (y := yh) (by omega) (by omega)
        have cz3 := bV_P4 (x := xh) (y := yh) (by omega) (by omega) (m := xh) (by omega) (by omega) (by omega)
        have bz4 := bV_I (n := 4) (by decide) (x := (xl + zi)) (y := (yl + zj)) (by omega) (by omega)
        have cz4 := bV_P4 (x := (xl + zi)) (y := (yl + zj)) (by omega) (by omega) (m := xh) (by omega) (by omega) (by omega)
        exact fx8 (xs := [xl, xh, yl, yh, zi, zj, i2, onesV xh, onesV yh, bV 4 xl yl, bV 4 xl yh, bV 4 xh yl, bV 4 xh yh, bV 4 (xl + zi) (yl + zj), a0 / 12, a8, a9, a2, a3, a4, a5, a6, a7]) run151 aR w (hT := ⟨awakeS, hS hx, hS hy, hS (onesS (n := xh) (by omega)), hS (onesS (n := yh) (by omega)), trivial⟩) (h4 := ⟨dO ei, dO ej, dO e2, dO bz0.1, dO bz1.1, dO bz2.1, dO bz3.1, dO bz4.1, trivial⟩)
      · obtain rfl : xh = yh := by omega
        have ix := onesIn (n := xh) (by omega)
        have bz0 := bV_I (n := 4) (by decide) (x := xl) (y := yl) (by omega) (by omega)
        have cz0 := bV_P4 (x := xl) (y := yl) (by omega) (by omega) (m := xh) (by omega) (by omega) (by omega)
        have bz1 := bV_I (n := 4) (by decide) (x := xl) (y := xh) (by omega) (by omega)
        have cz1 := bV_P4 (x := xl) (y := xh) (by omega) (by omega) (m := xh) (by omega) (by omega) (by omega)
        have bz2 := bV_I (n := 4) (by decide) (x := xh) (y := yl) (by omega) (by omega)
        have cz2 := bV_P4 (x := xh) (y := yl) (by omega) (by omega) (m := xh) (by omega) (by omega) (by omega)
        have bz3 := bV_I (n := 4) (by decide) (x := xh) (y := xh) (by omega) (by omega)
        have cz3 := bV_P4 (x := xh) (y := xh) (by omega) (by omega) (m := xh) (by omega) (by omega) (by omega)
        have bz4 := bV_I (n := 4) (by decide) (x := (xl + zi)) (y := (yl + zj)) (by omega) (by omega)
        have cz4 := bV_P4 (x := (xl + zi)) (y := (yl + zj)) (by omega) (by omega) (m := xh) (by omega) (by omega) (by omega)
        exact fx8 (xs := [xl, xh, yl, xh, zi, zj, i2, onesV xh, bV 4 xl yl, bV 4 xl xh, bV 4 xh yl, bV 4 xh xh, bV 4 (xl + zi) (yl + zj), a0 / 12, a8, a9, a2, a3, a4, a5, a6, a7]) run152 aR w (hT := ⟨awakeS, hS hx, hS hy, hS (onesS (n := xh) (by omega)), trivial⟩) (h4 := ⟨dO ei, dO ej, dO e2, dO bz0.1, dO bz1.1, dO bz2.1, dO bz3.1, dO bz4.1, trivial⟩)
end Go.Proofs.Ytcjnmphpfdlikaa.fwdSound
