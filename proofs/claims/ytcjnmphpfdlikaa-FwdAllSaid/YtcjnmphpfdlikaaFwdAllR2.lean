/- FwdAll, part 2: runs of the kernel, and what follows of them at all inputs of that part. No condition but these. Written by program. -/
import Derived.Test.YtcjnmphpfdlikaaDrawC
import Derived.Test.YtcjnmphpfdlikaaSumsC
import Derived.KernelRfl
set_option linter.unusedVariables false
set_option linter.unusedSimpArgs false
set_option maxRecDepth 1000000
set_option maxHeartbeats 100000000
namespace Go.Proofs.Ytcjnmphpfdlikaa.fwdAll
open Go Go.Sx Go.RowKit Go.Fx Go.Proofs.Ytcjnmphpfdlikaa.fs
theorem fx2 {args : List KV} {cx : Cx} {xs : List Int} {args' : List Value} {T : Tab} (h : runK Try.prog (tabK (fstF sums) T) 100000 4 args cx = true) (hargs : VRels noMap (absL (rho xs) args) args') (w : World) (hT : tabAll (entS sums) (rho xs) T) (h4 : dfAll xs cx.df := by exact trivial) (h1 : boxAll xs cx.box := by simp only [boxAll, and_true] <;> omega) (h2 : csAll xs cx.cs := by first | exact trivial | (simp [csAll, evT, rho] <;> omega)) (h3 : noSv cx.box = true := by rfl) : Calls Try.prog 4 args'.toArray w fun e w' => e = .returned (.bool true) ∧ Grown w w' := calls_tab kdC.progOK kdC.mixed sumsOK sumsBody h h1 h2 h4 hT hargs w (h3 := h3)
theorem run4 (y n : Bool) : runK Try.prog (tabK (fstF sums) [(11, [], .bool true), (7, [.int .i64 (.p 6), n32 5, n32 7, n8 9], .agg [n64 0, n64 1]), (7, [.int .i64 (.p 6), n32 6, n32 8, n8 10], .agg [n64 2, n64 3]), (13, [n64 11, .agg [n64 0, n64 1], .agg [n64 2, n64 3]], .tuple [.bool y, .bool n]), (14, [n64 11, .agg [n64 0, n64 1], .agg [n64 2, n64 3]], .tuple [.bool y, .bool n])]) 100000 4 [.int .u8 (.a 2 [(4, 13)]), .bool true, n32 5, n32 6, n32 7, n32 8, n8 9, n8 10, n64 11] ⟨[(0, 4294967295), (0, 4294967295), (0, 4294967295), (0, 4294967295), (0, 19)], [(0, [(0, 1), (1, (-1))]), (0, [(2, 1), (3, (-1))])], []⟩ = true := by cases y <;> cases n <;> kernel_rfl
theorem run5 (y n : Bool) : runK Try.prog (tabK (fstF sums) [(11, [], .bool true), (7, [.int .i64 (.p 5), n32 5, n32 7, n8 9], .agg [n64 0, n64 1]), (7, [.int .i64 (.p 5), n32 6, n32 8, n8 10], .agg [n64 2, n64 3]), (13, [n64 11, .agg [n64 0, n64 1], .agg [n64 2, n64 3]], .tuple [.bool y, .bool n]), (14, [n64 11, .agg [n64 0, n64 1], .agg [n64 2, n64 3]], .tuple [.bool y, .bool n])]) 100000 4 [.int .u8 (.a 2 [(4, 13)]), .bool false, n32 5, n32 6, n32 7, n32 8, n8 9, n8 10, n64 11] ⟨[((-2147483648), 2147483647), ((-2147483648), 2147483647), ((-2147483648), 2147483647), ((-2147483648), 2147483647), (0, 19)], [(0, [(0, 1), (1, (-1))]), (0, [(2, 1), (3, (-1))])], []⟩ = true := by cases y <;> cases n <;> kernel_rfl
theorem op2 {a0 a2 a3 a4 a5 a6 a7 a8 : Int} (r0 : 0 ≤ a0 ∧ a0 ≤ 255) (r2 : 0 ≤ a2 ∧ a2 ≤ 4294967295) (r3 : 0 ≤ a3 ∧ a3 ≤ 4294967295) (r4 : 0 ≤ a4 ∧ a4 ≤ 4294967295) (r5 : 0 ≤ a5 ∧ a5 ≤ 4294967295) (r6 : 0 ≤ a6 ∧ a6 ≤ 255) (r7 : 0 ≤ a7 ∧ a7 ≤ 255) (r8 : (-9223372036854775808) ≤ a8 ∧ a8 ≤ 9223372036854775807) (a1 : Bool) (hk : a0 % 13 = 2) (w : World) : Calls Try.prog 4 #[.int .u8 a0, .bool a1, .int .u32 a2, .int .u32 a3, .int .u32 a4, .int .u32 a5, .int .u8 a6, .int .u8 a7, .int .i64 a8] w fun e w' => e = .returned (.bool true) ∧ Grown w w' := by
  cases a1 with
  | true =>
    obtain ⟨xl, xh, hx, x1, x2, x3⟩ := ends6 (a := a2) (b := a4) (far := a6) (by omega) (by omega) (by omega)
    obtain ⟨yl, yh, hy, y1, y2, y3⟩ := ends6 (a := a3) (b := a5) (far := a7) (by omega) (by omega) (by omega)
    exact fx2 (xs := [xl, xh, yl, yh, a0 / 13, a2, a3, a4, a5, a6, a7, a8]) (run4 (relY a8 xl xh yl yh) (relN a8 xl xh yl yh)) (args_cons ri (args_cons rel_bool (args_cons ri (args_cons ri (args_cons ri (args_cons ri (args_cons ri (args_cons ri (args_cons ri args_nil))))))))) w (hT := ⟨awakeS, hS hx, hS hy, hS (fS a8 xl xh yl yh), hS (rS a8 xl xh yl yh), trivial⟩)
  | false =>
    obtain ⟨xl, xh, hx, x1, x2, x3⟩ := ends5 (a := a2) (b := a4) (far := a6) (by omega) (by omega) (by omega)
    obtain ⟨yl, yh, hy, y1, y2, y3⟩ := ends5 (a := a3) (b := a5) (far := a7) (by omega) (by omega) (by omega)
    exact fx2 (xs := [xl, xh, yl, yh, a0 / 13, a2, a3, a4, a5, a6, a7, a8]) (run5 (relY a8 xl xh yl yh) (relN a8 xl xh yl yh)) (args_cons ri (args_cons rel_bool (args_cons ri (args_cons ri (args_cons ri (args_cons ri (args_cons ri (args_cons ri (args_cons ri args_nil))))))))) w (hT := ⟨awakeS, hS hx, hS hy, hS (fS a8 xl xh yl yh), hS (rS a8 xl xh yl yh), trivial⟩)
end Go.Proofs.Ytcjnmphpfdlikaa.fwdAll
