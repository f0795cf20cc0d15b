/- FwdExact, part 4: runs of the kernel, and what follows of them at all inputs of that part. No condition but these. Written by program. -/
import Derived.Test.YtlhejlkakpimcaaDrawB
import Derived.Test.YtlhejlkakpimcaaFwdB
import Derived.KernelRfl
set_option linter.unusedVariables false
set_option linter.unusedSimpArgs false
set_option maxRecDepth 1000000
set_option maxHeartbeats 100000000
namespace Go.Proofs.Ytlhejlkakpimcaa.fwdExact
open Go Go.Sx Go.RowKit Go.Fx
theorem fx4 {args : List KV} {cx : Cx} {xs : List Int} {args' : List Value} (h : runK Try.prog (oneK1 12) 100000 4 args cx = true) (hargs : VRels noMap (absL (rho xs) args) args') (w : World) (h4 : dfAll xs cx.df := by exact trivial) (h1 : boxAll xs cx.box := by simp only [boxAll, and_true] <;> omega) (h2 : csAll xs cx.cs := by first | exact trivial | (simp [csAll, evT, rho] <;> omega)) (h3 : noSv cx.box = true := by rfl) : Calls Try.prog 4 args'.toArray w fun e w' => e = .returned (.bool true) ∧ Grown w w' := calls_fin kdB.progOK kdB.mixed kdB.awake12 kdB.has12 h h1 h2 hargs w (h3 := h3) (h4 := h4)
theorem run8 : runK Try.prog (oneK1 12) 100000 4 [.int .u8 (.a 4 [(0, 12)]), .bool true, .int .u32 (.a 0 [(1, 1)]), .int .u32 (.p 0), .int .i16 (.a 0 [(3, 1)]), .int .i16 (.a 0 [(4, 1)]), .int .u8 (.a 0 [(5, 1)]), .int .u8 (.a 0 [(6, 1)])] ⟨[(0, 20), (0, 4294967295), (0, 0), ((-32768), 32767), ((-32768), 32767), (0, 255), (0, 255)], [], []⟩ = true := by kernel_rfl
theorem run9 : runK Try.prog (oneK1 12) 100000 4 [.int .u8 (.a 4 [(0, 12)]), .bool true, .int .u32 (.a 0 [(1, 1)]), .int .u32 (.a 0 [(2, 1)]), .int .i16 (.a 0 [(3, 1)]), .int .i16 (.a 0 [(4, 1)]), .int .u8 (.a 0 [(5, 1)]), .int .u8 (.a 0 [(6, 1)])] ⟨[(0, 20), (0, 4294967295), (1, 4294967295), ((-32768), 32767), ((-32768), 32767), (0, 255), (0, 255), (0, 4294967295), (0, 4294967295)], [(0, [(1, 1), (7, (-1))])], [⟨1, .i64, .p 4294967295, .a 0 [(2, 1)], 7⟩, ⟨0, .i64, .a 0 [(1, 1)], .a 0 [(2, 1)], 8⟩, ⟨0, .u64, .a 0 [(1, 1)], .a 0 [(2, 1)], 8⟩]⟩ = true := by kernel_rfl
theorem run10 : runK Try.prog (oneK1 12) 100000 4 [.int .u8 (.a 4 [(0, 12)]), .bool true, .int .u32 (.a 0 [(1, 1)]), .int .u32 (.a 0 [(2, 1)]), .int .i16 (.a 0 [(3, 1)]), .int .i16 (.a 0 [(4, 1)]), .int .u8 (.a 0 [(5, 1)]), .int .u8 (.a 0 [(6, 1)])] ⟨[(0, 20), (0, 4294967295), (1, 4294967295), ((-32768), 32767), ((-32768), 32767), (0, 255), (0, 255), (0, 4294967295), (0, 18446744073709551615), ((-9223372036854775808), 9223372036854775807), (0, 4294967295)], [(1, [(7, 1), (1, (-1))])], [⟨1, .i64, .p 4294967295, .a 0 [(2, 1)], 7⟩, ⟨0, .u64, .a 0 [(1, 1)], .a 0 [(2, 1)], 8⟩, ⟨7, .i64, .a 0 [(8, 1)], .p 0, 9⟩, ⟨7, .u32, .a 0 [(9, 1)], .p 0, 10⟩]⟩ = true := by kernel_rfl
theorem run11 : runK Try.prog (oneK1 12) 100000 4 [.int .u8 (.a 4 [(0, 12)]), .bool false, .int .u32 (.a 0 [(1, 1)]), .int .u32 (.a 0 [(2, 1)]), .int .i16 (.a 0 [(3, 1)]), .int .i16 (.a 0 [(4, 1)]), .int .u8 (.a 0 [(5, 1)]), .int .u8 (.a 0 [(6, 1)])] ⟨[(0, 20), (0, 2147483647), (0, 2147483647), ((-32768), 32767), ((-32768), 32767), (0, 255), (0, 255), ((-4611686018427387904), 4611686018427387904)], [], [⟨0, .i64, .a 0 [(1, 1)], .a 0 [(2, 1)], 7⟩]⟩ = true := by kernel_rfl
theorem run12 : runK Try.prog (oneK1 12) 100000 4 [.int .u8 (.a 4 [(0, 12)]), .bool false, .int .u32 (.a 0 [(1, 1)]), .int .u32 (.a 4294967296 [(2, 1)]), .int .i16 (.a 0 [(3, 1)]), .int .i16 (.a 0 [(4, 1)]), .int .u8 (.a 0 [(5, 1)]), .int .u8 (.a 0 [(6, 1)])] ⟨[(0, 20), (0, 2147483647), ((-2147483648), -1), ((-32768), 32767), ((-32768), 32767), (0, 255), (0, 255), ((-4611686018427387904), 4611686018427387904)], [], [⟨0, .i64, .a 0 [(1, 1)], .a 0 [(2, 1)], 7⟩]⟩ = true := by kernel_rfl
theorem run13 : runK Try.prog (oneK1 12) 100000 4 [.int .u8 (.a 4 [(0, 12)]), .bool false, .int .u32 (.a 4294967296 [(1, 1)]), .int .u32 (.a 0 [(2, 1)]), .int .i16 (.a 0 [(3, 1)]), .int .i16 (.a 0 [(4, 1)]), .int .u8 (.a 0 [(5, 1)]), .int .u8 (.a 0 [(6, 1)])] ⟨[(0, 20), ((-2147483648), -1), (0, 2147483647), ((-32768), 32767), ((-32768), 32767), (0, 255), (0, 255), ((-4611686018427387904), 4611686018427387904)], [], [⟨0, .i64, .a 0 [(1, 1)], .a 0 [(2, 1)], 7⟩]⟩ = true := by kernel_rfl
theorem run14 : runK Try.prog (oneK1 12) 100000 4 [.int .u8 (.a 4 [(0, 12)]), .bool false, .int .u32 (.a 4294967296 [(1, 1)]), .int .u32 (.a 4294967296 [(2, 1)]), .int .i16 (.a 0 [(3, 1)]), .int .i16 (.a 0 [(4, 1)]), .int .u8 (.a 0 [(5, 1)]), .int .u8 (.a 0 [(6, 1)])] ⟨[(0, 20), ((-2147483648), -1), ((-2147483648), -1), ((-32768), 32767), ((-32768), 32767), (0, 255), (0, 255), ((-4611686018427387904), 4611686018427387904)], [], [⟨0, .i64, .a 0 [(1, 1)], .a 0 [(2, 1)], 7⟩]⟩ = true := by kernel_rfl
theorem op4 {a0 a2 a3 a4 a5 a6 a7 : Int} (r0 : 0 ≤ a0 ∧ a0 ≤ 255) (r2 : 0 ≤ a2 ∧ a2 ≤ 4294967295) (r3 : 0 ≤ a3 ∧ a3 ≤ 4294967295) (r4 : (-32768) ≤ a4 ∧ a4 ≤ 32767) (r5 : (-32768) ≤ a5 ∧ a5 ≤ 32767) (r6 : 0 ≤ a6 ∧ a6 ≤ 255) (r7 : 0 ≤ a7 ∧ a7 ≤ 255) (a1 : Bool) (hk : a0 % 12 = 4) (w : World) : Calls Try.prog 4 #[.int .u8 a0, .bool a1, .int .u32 a2, .int .u32 a3, .int .i16 a4, .int .i16 a5, .int .u8 a6, .int .u8 a7] w fun e w' => e = .returned (.bool true) ∧ Grown w w' := by
  cases a1 with
  | true =>
    rcases (show (a3 = 0) ∨ (1 ≤ a3) by omega) with h0 | h0
    · exact fx4 (xs := [a0 / 12, a2, 0, a4, a5, a6, a7]) run8 (args_cons ri (args_cons rel_bool (args_cons ri (args_cons ri (args_cons ri (args_cons ri (args_cons ri (args_cons ri args_nil)))))))) w
    · rcases (show (a2 * a3 ≤ 4294967295) ∨ (4294967296 ≤ a2 * a3) by omega) with h1 | h1
      · obtain ⟨z0, z1, e0, e1, e2, g0, g1, g2, g3, g4⟩ := Fx.mulUa (x := a2) (y := a3) (by omega) (by omega) (by omega)
        exact fx4 (xs := [a0 / 12, a2, a3, a4, a5, a6, a7, z0, z1]) run9 (args_cons ri (args_cons rel_bool (args_cons ri (args_cons ri (args_cons ri (args_cons ri (args_cons ri (args_cons ri args_nil)))))))) w (h4 := ⟨dO e0, dO e1, dO e2, trivial⟩)
      · obtain ⟨z0, z1, z2, z3, e0, e1, e2, e3, g0, g1, g2, g3, g4, g5, g6, g7, g8⟩ := Fx.mulUb (x := a2) (y := a3) (by omega) (by omega) (by omega)
        exact fx4 (xs := [a0 / 12, a2, a3, a4, a5, a6, a7, z0, z1, z2, z3]) run10 (args_cons ri (args_cons rel_bool (args_cons ri (args_cons ri (args_cons ri (args_cons ri (args_cons ri (args_cons ri args_nil)))))))) w (h4 := ⟨dO e0, dO e1, dO e2, dO e3, trivial⟩)
  | false =>
    rcases (show (a2 ≤ 2147483647) ∨ (2147483648 ≤ a2) by omega) with h0 | h0
    · rcases (show (a3 ≤ 2147483647) ∨ (2147483648 ≤ a3) by omega) with h1 | h1
      · obtain ⟨z0, e0, g0, g1⟩ := Fx.mulI (x := a2) (y := a3) (by omega) (by omega)
        exact fx4 (xs := [a0 / 12, a2, a3, a4, a5, a6, a7, z0]) run11 (args_cons ri (args_cons rel_bool (args_cons ri (args_cons ri (args_cons ri (args_cons ri (args_cons ri (args_cons ri args_nil)))))))) w (h4 := ⟨dO e0, trivial⟩)
      · obtain ⟨z0, e0, g0, g1⟩ := Fx.mulI (x := a2) (y := (a3 - 4294967296)) (by omega) (by omega)
        exact fx4 (xs := [a0 / 12, a2, (a3 - 4294967296), a4, a5, a6, a7, z0]) run12 (args_cons ri (args_cons rel_bool (args_cons ri (args_cons ri (args_cons ri (args_cons ri (args_cons ri (args_cons ri args_nil)))))))) w (h4 := ⟨dO e0, trivial⟩)
    · rcases (show (a3 ≤ 2147483647) ∨ (2147483648 ≤ a3) by omega) with h1 | h1
      · obtain ⟨z0, e0, g0, g1⟩ := Fx.mulI (x := (a2 - 4294967296)) (y := a3) (by omega) (by omega)
        exact fx4 (xs := [a0 / 12, (a2 - 4294967296), a3, a4, a5, a6, a7, z0]) run13 (args_cons ri (args_cons rel_bool (args_cons ri (args_cons ri (args_cons ri (args_cons ri (args_cons ri (args_cons ri args_nil)))))))) w (h4 := ⟨dO e0, trivial⟩)
      · obtain ⟨z0, e0, g0, g1⟩ := Fx.mulI (x := (a2 - 4294967296)) (y := (a3 - 4294967296)) (by omega) (by omega)
        exact fx4 (xs := [a0 / 12, (a2 - 4294967296), (a3 - 4294967296), a4, a5, a6, a7, z0]) run14 (args_cons ri (args_cons rel_bool (args_cons ri (args_cons ri (args_cons ri (args_cons ri (args_cons ri (args_cons ri args_nil)))))))) w (h4 := ⟨dO e0, trivial⟩)
end Go.Proofs.Ytlhejlkakpimcaa.fwdExact
