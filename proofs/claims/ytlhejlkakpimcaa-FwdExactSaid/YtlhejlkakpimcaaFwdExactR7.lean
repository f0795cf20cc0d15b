/- FwdExact, part 7: runs of the kernel, and what follows of them at all inputs of that part. No condition but these. Written by program. -/
import Derived.Test.YtlhejlkakpimcaaDrawB
import Derived.Test.YtlhejlkakpimcaaFwdB
import Derived.KernelRfl
set_option linter.unusedVariables false
set_option linter.unusedSimpArgs false
set_option maxRecDepth 1000000
set_option maxHeartbeats 100000000
namespace Go.Proofs.Ytlhejlkakpimcaa.fwdExact
open Go Go.Sx Go.RowKit Go.Fx
theorem fx7 {args : List KV} {cx : Cx} {xs : List Int} {args' : List Value} (h : runK Try.prog (oneK1 12) 100000 4 args cx = true) (hargs : VRels noMap (absL (rho xs) args) args') (w : World) (h4 : dfAll xs cx.df := by exact trivial) (h1 : boxAll xs cx.box := by simp only [boxAll, and_true] <;> omega) (h2 : csAll xs cx.cs := by first | exact trivial | (simp [csAll, evT, rho] <;> omega)) (h3 : noSv cx.box = true := by rfl) : Calls Try.prog 4 args'.toArray w fun e w' => e = .returned (.bool true) ∧ Grown w w' := calls_fin kdB.progOK kdB.mixed kdB.awake12 kdB.has12 h h1 h2 hargs w (h3 := h3) (h4 := h4)
theorem run39 : runK Try.prog (oneK1 12) 100000 4 [.int .u8 (.a 7 [(0, 12)]), .bool true, .int .u32 (.a 0 [(1, 1)]), .int .u32 (.a 0 [(2, 1)]), .int .i16 (.a 0 [(3, 1)]), .int .i16 (.a 0 [(4, 1)]), .int .u8 (.a 0 [(5, 1)]), .int .u8 (.a 0 [(6, 1)])] ⟨[(0, 20), (0, 4294967295), (0, 4294967295), ((-32768), 32767), ((-32768), 32767), (0, 255), (0, 255), (0, 4294967295)], [], [⟨3, .i64, .a 0 [(1, 1)], .a 0 [(2, 1)], 7⟩]⟩ = true := by kernel_rfl
theorem run40 : runK Try.prog (oneK1 12) 100000 4 [.int .u8 (.a 7 [(0, 12)]), .bool false, .int .u32 (.a 0 [(1, 1)]), .int .u32 (.a 0 [(2, 1)]), .int .i16 (.a 0 [(3, 1)]), .int .i16 (.a 0 [(4, 1)]), .int .u8 (.a 0 [(5, 1)]), .int .u8 (.a 0 [(6, 1)])] ⟨[(0, 20), (0, 2147483647), (0, 2147483647), ((-32768), 32767), ((-32768), 32767), (0, 255), (0, 255), ((-2147483648), 2147483647)], [], [⟨3, .i64, .a 0 [(1, 1)], .a 0 [(2, 1)], 7⟩]⟩ = true := by kernel_rfl
theorem run41 : runK Try.prog (oneK1 12) 100000 4 [.int .u8 (.a 7 [(0, 12)]), .bool false, .int .u32 (.a 0 [(1, 1)]), .int .u32 (.a 4294967296 [(2, 1)]), .int .i16 (.a 0 [(3, 1)]), .int .i16 (.a 0 [(4, 1)]), .int .u8 (.a 0 [(5, 1)]), .int .u8 (.a 0 [(6, 1)])] ⟨[(0, 20), (0, 2147483647), ((-2147483648), -1), ((-32768), 32767), ((-32768), 32767), (0, 255), (0, 255), ((-2147483648), 2147483647)], [], [⟨3, .i64, .a 0 [(1, 1)], .a 0 [(2, 1)], 7⟩]⟩ = true := by kernel_rfl
theorem run42 : runK Try.prog (oneK1 12) 100000 4 [.int .u8 (.a 7 [(0, 12)]), .bool false, .int .u32 (.a 4294967296 [(1, 1)]), .int .u32 (.a 0 [(2, 1)]), .int .i16 (.a 0 [(3, 1)]), .int .i16 (.a 0 [(4, 1)]), .int .u8 (.a 0 [(5, 1)]), .int .u8 (.a 0 [(6, 1)])] ⟨[(0, 20), ((-2147483648), -1), (0, 2147483647), ((-32768), 32767), ((-32768), 32767), (0, 255), (0, 255), ((-2147483648), 2147483647)], [], [⟨3, .i64, .a 0 [(1, 1)], .a 0 [(2, 1)], 7⟩]⟩ = true := by kernel_rfl
theorem run43 : runK Try.prog (oneK1 12) 100000 4 [.int .u8 (.a 7 [(0, 12)]), .bool false, .int .u32 (.a 4294967296 [(1, 1)]), .int .u32 (.a 4294967296 [(2, 1)]), .int .i16 (.a 0 [(3, 1)]), .int .i16 (.a 0 [(4, 1)]), .int .u8 (.a 0 [(5, 1)]), .int .u8 (.a 0 [(6, 1)])] ⟨[(0, 20), ((-2147483648), -1), ((-2147483648), -1), ((-32768), 32767), ((-32768), 32767), (0, 255), (0, 255), ((-2147483648), 2147483647)], [], [⟨3, .i64, .a 0 [(1, 1)], .a 0 [(2, 1)], 7⟩]⟩ = true := by kernel_rfl
theorem op7 {a0 a2 a3 a4 a5 a6 a7 : Int} (r0 : 0 ≤ a0 ∧ a0 ≤ 255) (r2 : 0 ≤ a2 ∧ a2 ≤ 4294967295) (r3 : 0 ≤ a3 ∧ a3 ≤ 4294967295) (r4 : (-32768) ≤ a4 ∧ a4 ≤ 32767) (r5 : (-32768) ≤ a5 ∧ a5 ≤ 32767) (r6 : 0 ≤ a6 ∧ a6 ≤ 255) (r7 : 0 ≤ a7 ∧ a7 ≤ 255) (a1 : Bool) (hk : a0 % 12 = 7) (w : World) : Calls Try.prog 4 #[.int .u8 a0, .bool a1, .int .u32 a2, .int .u32 a3, .int .i16 a4, .int .i16 a5, .int .u8 a6, .int .u8 a7] w fun e w' => e = .returned (.bool true) ∧ Grown w w' := by
  cases a1 with
  | true =>
    obtain ⟨z0, e0, g0, g1⟩ := Fx.bitU (n := 3) (by decide) (x := a2) (y := a3) (by omega) (by omega)
    exact fx7 (xs := [a0 / 12, a2, a3, a4, a5, a6, a7, z0]) run39 (args_cons ri (args_cons rel_bool (args_cons ri (args_cons ri (args_cons ri (args_cons ri (args_cons ri (args_cons ri args_nil)))))))) w (h4 := ⟨dO e0, trivial⟩)
  | false =>
    rcases (show (a2 ≤ 2147483647) ∨ (2147483648 ≤ a2) by omega) with h0 | h0
    · rcases (show (a3 ≤ 2147483647) ∨ (2147483648 ≤ a3) by omega) with h1 | h1
      · obtain ⟨z0, e0, g0, g1⟩ := Fx.bitI (n := 3) (by decide) (x := a2) (y := a3) (by omega) (by omega)
        exact fx7 (xs := [a0 / 12, a2, a3, a4, a5, a6, a7, z0]) run40 (args_cons ri (args_cons rel_bool (args_cons ri (args_cons ri (args_cons ri (args_cons ri (args_cons ri (args_cons ri args_nil)))))))) w (h4 := ⟨dO e0, trivial⟩)
      · obtain ⟨z0, e0, g0, g1⟩ := Fx.bitI (n := 3) (by decide) (x := a2) (y := (a3 - 4294967296)) (by omega) (by omega)
        exact fx7 (xs := [a0 / 12, a2, (a3 - 4294967296), a4, a5, a6, a7, z0]) run41 (args_cons ri (args_cons rel_bool (args_cons ri (args_cons ri (args_cons ri (args_cons ri (args_cons ri (args_cons ri args_nil)))))))) w (h4 := ⟨dO e0, trivial⟩)
    · rcases (show (a3 ≤ 2147483647) ∨ (2147483648 ≤ a3) by omega) with h1 | h1
      · obtain ⟨z0, e0, g0, g1⟩ := Fx.bitI (n := 3) (by decide) (x := (a2 - 4294967296)) (y := a3) (by omega) (by omega)
        exact fx7 (xs := [a0 / 12, (a2 - 4294967296), a3, a4, a5, a6, a7, z0]) run42 (args_cons ri (args_cons rel_bool (args_cons ri (args_cons ri (args_cons ri (args_cons ri (args_cons ri (args_cons ri args_nil)))))))) w (h4 := ⟨dO e0, trivial⟩)
      · obtain ⟨z0, e0, g0, g1⟩ := Fx.bitI (n := 3) (by decide) (x := (a2 - 4294967296)) (y := (a3 - 4294967296)) (by omega) (by omega)
        exact fx7 (xs := [a0 / 12, (a2 - 4294967296), (a3 - 4294967296), a4, a5, a6, a7, z0]) run43 (args_cons ri (args_cons rel_bool (args_cons ri (args_cons ri (args_cons ri (args_cons ri (args_cons ri (args_cons ri args_nil)))))))) w (h4 := ⟨dO e0, trivial⟩)
end Go.Proofs.Ytlhejlkakpimcaa.fwdExact
