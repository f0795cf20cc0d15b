/- FwdSound, part 1: it answers true at all inputs of that part. -/
import Derived.Test.YtcjnmphpfdlikaaDrawD
import Derived.Test.YtcjnmphpfdlikaaSumsSD
import Derived.KernelRfl
set_option linter.unusedVariables false
set_option linter.unusedSimpArgs false
set_option maxRecDepth 1000000
set_option maxHeartbeats 100000000
namespace Go.Proofs.Ytcjnmphpfdlikaa.fwdSound
open Go Go.Sx Go.RowKit Go.Fx Go.Proofs.Ytcjnmphpfdlikaa.fs
theorem fx1 {args : List KV} {cx : Cx} {xs : List Int} {args' : List Value} {T : Tab} (h : runK Try.prog (tabK (fstF sums) T) 100000 3 args cx = true) (hargs : VRels noMap (absL (rho xs) args) args') (w : World) (hT : tabAll (entS sums) (rho xs) T := by exact ⟨awakeS, hS hx, hS hy, trivial⟩) (h4 : dfAll xs cx.df := by exact trivial) (h1 : boxAll xs cx.box := by simp only [boxAll, and_true, bU, bI, bL] <;> omega) (h2 : csAll xs cx.cs := by first | exact trivial | (simp [csAll, evT, rho, cl, cg] <;> omega)) (h3 : noSv cx.box = true := by rfl) : Calls Try.prog 3 args'.toArray w fun e w' => e = .returned (.bool true) ∧ Grown w w' := calls_tab kdD.progOK kdD.mixed sumsOK sumsBody h h1 h2 h4 hT hargs w (h3 := h3)
theorem run2 : R1 1 true 6 7 (.agg [n64 0, n64 1]) (.agg [n64 2, n64 3]) [] ⟨[bU, bU, bU, bU, bU, bU, (0, 1), (0, 21), bU, bU], [cl 0 1 0, (0, [(0, 1), (1, (-1)), (4, 1)]), cl 2 3 0, (0, [(2, 1), (3, (-1)), (5, 1)])], [⟨2, .i64, v1 8, .a 1 [(0, (-1)), (1, 1)], 4⟩, ⟨2, .i64, v1 9, .a 1 [(2, (-1)), (3, 1)], 5⟩, ⟨2, .i64, v1 8, .p 2, 6⟩]⟩ = true := by kernel_rfl
theorem run3 : R1 1 false 5 7 (.agg [n64 0, n64 1]) (.agg [n64 2, n64 3]) [] ⟨[bI, bI, bI, bI, bU, bU, (0, 1), (0, 21), bU, bU], [cl 0 1 0, (0, [(0, 1), (1, (-1)), (4, 1)]), cl 2 3 0, (0, [(2, 1), (3, (-1)), (5, 1)])], [⟨2, .i64, v1 8, .a 1 [(0, (-1)), (1, 1)], 4⟩, ⟨2, .i64, v1 9, .a 1 [(2, (-1)), (3, 1)], 5⟩, ⟨2, .i64, v1 8, .p 2, 6⟩]⟩ = true := by kernel_rfl
theorem op1 {a0 a2 a3 a4 a5 a6 a7 a8 a9 : Int} (r0 : 0 ≤ a0 ∧ a0 ≤ 255) (r2 : 0 ≤ a2 ∧ a2 ≤ 4294967295) (r3 : 0 ≤ a3 ∧ a3 ≤ 4294967295) (r4 : 0 ≤ a4 ∧ a4 ≤ 4294967295) (r5 : 0 ≤ a5 ∧ a5 ≤ 4294967295) (r6 : 0 ≤ a6 ∧ a6 ≤ 255) (r7 : 0 ≤ a7 ∧ a7 ≤ 255) (r8 : 0 ≤ a8 ∧ a8 ≤ 4294967295) (r9 : 0 ≤ a9 ∧ a9 ≤ 4294967295) (a1 : Bool) (hk : a0 % 12 = 1) (w : World) : Calls Try.prog 3 #[.int .u8 a0, .bool a1, .int .u32 a2, .int .u32 a3, .int .u32 a4, .int .u32 a5, .int .u8 a6, .int .u8 a7, .int .u32 a8, .int .u32 a9] w fun e w' => e = .returned (.bool true) ∧ Grown w w' := by
  cases a1 with
  | true =>
    obtain ⟨xl, xh, hx, x1, x2, x3⟩ := ends6 (a := a2) (b := a4) (far := a6) (by omega) (by omega) (by omega)
    obtain ⟨yl, yh, hy, y1, y2, y3⟩ := ends6 (a := a3) (b := a5) (far := a7) (by omega) (by omega) (by omega)
    obtain ⟨zi, ei, i1, i3, i4⟩ := remP (x := a8) (y := 1 + (xh - xl)) (by omega) (by omega)
    obtain ⟨zj, ej, j1, j3, j4⟩ := remP (x := a9) (y := 1 + (yh - yl)) (by omega) (by omega)
    obtain ⟨i2, e2, k1, k2, k3⟩ := remP (x := a8) (y := 2) (by omega) (by omega)
    exact fx1 (xs := [xl, xh, yl, yh, zi, zj, i2, a0 / 12, a8, a9, a2, a3, a4, a5, a6, a7]) run2 aR w (h4 := ⟨dO ei, dO ej, dO e2, trivial⟩)
  | false =>
    obtain ⟨xl, xh, hx, x1, x2, x3⟩ := ends5 (a := a2) (b := a4) (far := a6) (by omega) (by omega) (by omega)
    obtain ⟨yl, yh, hy, y1, y2, y3⟩ := ends5 (a := a3) (b := a5) (far := a7) (by omega) (by omega) (by omega)
    obtain ⟨zi, ei, i1, i3, i4⟩ := remP (x := a8) (y := 1 + (xh - xl)) (by omega) (by omega)
    obtain ⟨zj, ej, j1, j3, j4⟩ := remP (x := a9) (y := 1 + (yh - yl)) (by omega) (by omega)
    obtain ⟨i2, e2, k1, k2, k3⟩ := remP (x := a8) (y := 2) (by omega) (by omega)
    exact fx1 (xs := [xl, xh, yl, yh, zi, zj, i2, a0 / 12, a8, a9, a2, a3, a4, a5, a6, a7]) run3 aR w (h4 := ⟨dO ei, dO ej, dO e2, trivial⟩)
end Go.Proofs.Ytcjnmphpfdlikaa.fwdSound
