/- FwdMust, part 6: runs of the kernel, and what follows of them at all inputs of that part. No condition but these. Written by program. -/
import Derived.Test.YtlhejlkakpimcaaDrawB
import Derived.Test.YtlhejlkakpimcaaFwdB
import Derived.KernelRfl
set_option linter.unusedVariables false
set_option linter.unusedSimpArgs false
set_option maxRecDepth 1000000
set_option maxHeartbeats 100000000
namespace Go.Proofs.Ytlhejlkakpimcaa.fwdMust
open Go Go.Sx Go.RowKit Go.Fx
theorem fx6 {args : List KV} {cx : Cx} {xs : List Int} {args' : List Value} (h : runK Try.prog (oneK1 12) 100000 5 args cx = true) (hargs : VRels noMap (absL (rho xs) args) args') (w : World) (h4 : dfAll xs cx.df := by exact trivial) (h1 : boxAll xs cx.box := by simp only [boxAll, and_true] <;> omega) (h2 : csAll xs cx.cs := by first | exact trivial | (simp [csAll, evT, rho] <;> omega)) (h3 : noSv cx.box = true := by rfl) : Calls Try.prog 5 args'.toArray w fun e w' => e = .returned (.bool true) ∧ Grown w w' := calls_fin kdB.progOK kdB.mixed kdB.awake12 kdB.has12 h h1 h2 hargs w (h3 := h3) (h4 := h4)
theorem run36 : runK Try.prog (oneK1 12) 100000 5 [.int .u8 (.a 6 [(0, 12)]), .bool true, .int .u32 (.a 0 [(1, 40), (2, 1)]), .int .u32 (.a 0 [(3, 40), (4, 1)]), .int .u32 (.a 0 [(5, 40), (6, 1)]), .int .u32 (.a 0 [(7, 40), (8, 1)]), .int .u32 (.a 0 [(9, 1)]), .int .u32 (.a 0 [(10, 1)])] ⟨[(0, 20), (0, 107374182), (0, 19), (0, 107374182), (0, 19), (0, 107374182), (0, 39), (0, 107374182), (0, 39), (0, 4294967295), (0, 4294967295), (0, 4294967295), (0, 4294967295), (0, 4294967295), (0, 4294967295), (0, 4294967295), (0, 4294967295), (0, 4294967295), (0, 4294967295)], [], [⟨7, .u32, .a 0 [(1, 40), (2, 1)], .p 0, 11⟩, ⟨7, .u32, .a 0 [(5, 40), (6, 1)], .p 0, 12⟩, ⟨7, .u32, .a (-20) [(6, 1)], .p 0, 13⟩, ⟨7, .u32, .a 0 [(3, 40), (4, 1)], .p 0, 14⟩, ⟨7, .u32, .a 0 [(7, 40), (8, 1)], .p 0, 15⟩, ⟨7, .u32, .a (-20) [(8, 1)], .p 0, 16⟩, ⟨1, .i64, .a 4294967276 [(2, 1)], .a 4294967276 [(4, 1)], 17⟩, ⟨2, .i64, .a 4294967276 [(2, 1)], .a 4294967276 [(4, 1)], 18⟩]⟩ = true := by kernel_rfl
theorem run37 : runK Try.prog (oneK1 12) 100000 5 [.int .u8 (.a 6 [(0, 12)]), .bool true, .int .u32 (.a 0 [(1, 40), (2, 1)]), .int .u32 (.a 0 [(3, 40), (4, 1)]), .int .u32 (.a 0 [(5, 40), (6, 1)]), .int .u32 (.a 0 [(7, 40), (8, 1)]), .int .u32 (.a 0 [(9, 1)]), .int .u32 (.a 0 [(10, 1)])] ⟨[(0, 20), (0, 107374182), (0, 19), (0, 107374182), (20, 20), (0, 107374182), (0, 39), (0, 107374182), (0, 39), (0, 4294967295), (0, 4294967295), (0, 4294967295), (0, 4294967295), (0, 4294967295), (0, 4294967295), (0, 4294967295), (0, 4294967295)], [], [⟨7, .u32, .a 0 [(1, 40), (2, 1)], .p 0, 11⟩, ⟨7, .u32, .a 0 [(5, 40), (6, 1)], .p 0, 12⟩, ⟨7, .u32, .a (-20) [(6, 1)], .p 0, 13⟩, ⟨7, .u32, .a 0 [(3, 40), (4, 1)], .p 0, 14⟩, ⟨7, .u32, .a 0 [(7, 40), (8, 1)], .p 0, 15⟩, ⟨7, .u32, .a (-20) [(8, 1)], .p 0, 16⟩]⟩ = true := by kernel_rfl
theorem run38 : runK Try.prog (oneK1 12) 100000 5 [.int .u8 (.a 6 [(0, 12)]), .bool true, .int .u32 (.a 0 [(1, 40), (2, 1)]), .int .u32 (.a 0 [(3, 40), (4, 1)]), .int .u32 (.a 0 [(5, 40), (6, 1)]), .int .u32 (.a 0 [(7, 40), (8, 1)]), .int .u32 (.a 0 [(9, 1)]), .int .u32 (.a 0 [(10, 1)])] ⟨[(0, 20), (0, 107374182), (0, 19), (0, 107374182), (21, 39), (0, 107374182), (0, 39), (0, 107374182), (0, 39), (0, 4294967295), (0, 4294967295), (0, 4294967295), (0, 4294967295), (0, 4294967295), (0, 4294967295), (0, 4294967295), (0, 4294967295), (0, 4294967295), (0, 4294967295)], [], [⟨7, .u32, .a 0 [(1, 40), (2, 1)], .p 0, 11⟩, ⟨7, .u32, .a 0 [(5, 40), (6, 1)], .p 0, 12⟩, ⟨7, .u32, .a (-20) [(6, 1)], .p 0, 13⟩, ⟨7, .u32, .a 0 [(3, 40), (4, 1)], .p 0, 14⟩, ⟨7, .u32, .a 0 [(7, 40), (8, 1)], .p 0, 15⟩, ⟨7, .u32, .a (-20) [(8, 1)], .p 0, 16⟩, ⟨1, .i64, .a 4294967276 [(2, 1)], .a (-20) [(4, 1)], 17⟩, ⟨2, .i64, .a 4294967276 [(2, 1)], .a (-20) [(4, 1)], 18⟩]⟩ = true := by kernel_rfl
theorem run39 : runK Try.prog (oneK1 12) 100000 5 [.int .u8 (.a 6 [(0, 12)]), .bool true, .int .u32 (.a 0 [(1, 40), (2, 1)]), .int .u32 (.a 0 [(3, 40), (4, 1)]), .int .u32 (.a 0 [(5, 40), (6, 1)]), .int .u32 (.a 0 [(7, 40), (8, 1)]), .int .u32 (.a 0 [(9, 1)]), .int .u32 (.a 0 [(10, 1)])] ⟨[(0, 20), (0, 107374182), (20, 39), (0, 107374182), (0, 19), (0, 107374182), (0, 39), (0, 107374182), (0, 39), (0, 4294967295), (0, 4294967295), (0, 4294967295), (0, 4294967295), (0, 4294967295), (0, 4294967295), (0, 4294967295), (0, 4294967295), (0, 4294967295), (0, 4294967295)], [], [⟨7, .u32, .a 0 [(1, 40), (2, 1)], .p 0, 11⟩, ⟨7, .u32, .a 0 [(5, 40), (6, 1)], .p 0, 12⟩, ⟨7, .u32, .a (-20) [(6, 1)], .p 0, 13⟩, ⟨7, .u32, .a 0 [(3, 40), (4, 1)], .p 0, 14⟩, ⟨7, .u32, .a 0 [(7, 40), (8, 1)], .p 0, 15⟩, ⟨7, .u32, .a (-20) [(8, 1)], .p 0, 16⟩, ⟨1, .i64, .a (-20) [(2, 1)], .a 4294967276 [(4, 1)], 17⟩, ⟨2, .i64, .a (-20) [(2, 1)], .a 4294967276 [(4, 1)], 18⟩]⟩ = true := by kernel_rfl
theorem run40 : runK Try.prog (oneK1 12) 100000 5 [.int .u8 (.a 6 [(0, 12)]), .bool true, .int .u32 (.a 0 [(1, 40), (2, 1)]), .int .u32 (.a 0 [(3, 40), (4, 1)]), .int .u32 (.a 0 [(5, 40), (6, 1)]), .int .u32 (.a 0 [(7, 40), (8, 1)]), .int .u32 (.a 0 [(9, 1)]), .int .u32 (.a 0 [(10, 1)])] ⟨[(0, 20), (0, 107374182), (20, 39), (0, 107374182), (20, 20), (0, 107374182), (0, 39), (0, 107374182), (0, 39), (0, 4294967295), (0, 4294967295), (0, 4294967295), (0, 4294967295), (0, 4294967295), (0, 4294967295), (0, 4294967295), (0, 4294967295)], [], [⟨7, .u32, .a 0 [(1, 40), (2, 1)], .p 0, 11⟩, ⟨7, .u32, .a 0 [(5, 40), (6, 1)], .p 0, 12⟩, ⟨7, .u32, .a (-20) [(6, 1)], .p 0, 13⟩, ⟨7, .u32, .a 0 [(3, 40), (4, 1)], .p 0, 14⟩, ⟨7, .u32, .a 0 [(7, 40), (8, 1)], .p 0, 15⟩, ⟨7, .u32, .a (-20) [(8, 1)], .p 0, 16⟩]⟩ = true := by kernel_rfl
theorem run41 : runK Try.prog (oneK1 12) 100000 5 [.int .u8 (.a 6 [(0, 12)]), .bool true, .int .u32 (.a 0 [(1, 40), (2, 1)]), .int .u32 (.a 0 [(3, 40), (4, 1)]), .int .u32 (.a 0 [(5, 40), (6, 1)]), .int .u32 (.a 0 [(7, 40), (8, 1)]), .int .u32 (.a 0 [(9, 1)]), .int .u32 (.a 0 [(10, 1)])] ⟨[(0, 20), (0, 107374182), (20, 39), (0, 107374182), (21, 39), (0, 107374182), (0, 39), (0, 107374182), (0, 39), (0, 4294967295), (0, 4294967295), (0, 4294967295), (0, 4294967295), (0, 4294967295), (0, 4294967295), (0, 4294967295), (0, 4294967295), (0, 4294967295), (0, 4294967295)], [], [⟨7, .u32, .a 0 [(1, 40), (2, 1)], .p 0, 11⟩, ⟨7, .u32, .a 0 [(5, 40), (6, 1)], .p 0, 12⟩, ⟨7, .u32, .a (-20) [(6, 1)], .p 0, 13⟩, ⟨7, .u32, .a 0 [(3, 40), (4, 1)], .p 0, 14⟩, ⟨7, .u32, .a 0 [(7, 40), (8, 1)], .p 0, 15⟩, ⟨7, .u32, .a (-20) [(8, 1)], .p 0, 16⟩, ⟨1, .i64, .a (-20) [(2, 1)], .a (-20) [(4, 1)], 17⟩, ⟨2, .i64, .a (-20) [(2, 1)], .a (-20) [(4, 1)], 18⟩]⟩ = true := by kernel_rfl
theorem run42 : runK Try.prog (oneK1 12) 100000 5 [.int .u8 (.a 6 [(0, 12)]), .bool false, .int .u32 (.a 0 [(1, 40), (2, 1)]), .int .u32 (.a 0 [(3, 40), (4, 1)]), .int .u32 (.a 0 [(5, 40), (6, 1)]), .int .u32 (.a 0 [(7, 40), (8, 1)]), .int .u32 (.a 0 [(9, 1)]), .int .u32 (.a 0 [(10, 1)])] ⟨[(0, 20), (0, 107374182), (0, 39), (0, 107374182), (0, 19), (0, 107374182), (0, 39), (0, 107374182), (0, 39), (0, 4294967295), (0, 4294967295), ((-2147483648), 2147483647), ((-2147483648), 2147483647), ((-2147483648), 2147483647), ((-2147483648), 2147483647), ((-2147483648), 2147483647), ((-2147483648), 2147483647), ((-20), 20), ((-20), 20)], [], [⟨7, .i32, .a 0 [(1, 40), (2, 1)], .p 0, 11⟩, ⟨7, .i32, .a 0 [(5, 40), (6, 1)], .p 0, 12⟩, ⟨7, .i32, .a (-20) [(6, 1)], .p 0, 13⟩, ⟨7, .i32, .a 0 [(3, 40), (4, 1)], .p 0, 14⟩, ⟨7, .i32, .a 0 [(7, 40), (8, 1)], .p 0, 15⟩, ⟨7, .i32, .a (-20) [(8, 1)], .p 0, 16⟩, ⟨1, .i64, .a (-20) [(2, 1)], .a (-20) [(4, 1)], 17⟩, ⟨2, .i64, .a (-20) [(2, 1)], .a (-20) [(4, 1)], 18⟩]⟩ = true := by kernel_rfl
theorem run43 : runK Try.prog (oneK1 12) 100000 5 [.int .u8 (.a 6 [(0, 12)]), .bool false, .int .u32 (.a 0 [(1, 40), (2, 1)]), .int .u32 (.a 0 [(3, 40), (4, 1)]), .int .u32 (.a 0 [(5, 40), (6, 1)]), .int .u32 (.a 0 [(7, 40), (8, 1)]), .int .u32 (.a 0 [(9, 1)]), .int .u32 (.a 0 [(10, 1)])] ⟨[(0, 20), (0, 107374182), (0, 39), (0, 107374182), (20, 20), (0, 107374182), (0, 39), (0, 107374182), (0, 39), (0, 4294967295), (0, 4294967295), ((-2147483648), 2147483647), ((-2147483648), 2147483647), ((-2147483648), 2147483647), ((-2147483648), 2147483647), ((-2147483648), 2147483647), ((-2147483648), 2147483647)], [], [⟨7, .i32, .a 0 [(1, 40), (2, 1)], .p 0, 11⟩, ⟨7, .i32, .a 0 [(5, 40), (6, 1)], .p 0, 12⟩, ⟨7, .i32, .a (-20) [(6, 1)], .p 0, 13⟩, ⟨7, .i32, .a 0 [(3, 40), (4, 1)], .p 0, 14⟩, ⟨7, .i32, .a 0 [(7, 40), (8, 1)], .p 0, 15⟩, ⟨7, .i32, .a (-20) [(8, 1)], .p 0, 16⟩]⟩ = true := by kernel_rfl
theorem run44 : runK Try.prog (oneK1 12) 100000 5 [.int .u8 (.a 6 [(0, 12)]), .bool false, .int .u32 (.a 0 [(1, 40), (2, 1)]), .int .u32 (.a 0 [(3, 40), (4, 1)]), .int .u32 (.a 0 [(5, 40), (6, 1)]), .int .u32 (.a 0 [(7, 40), (8, 1)]), .int .u32 (.a 0 [(9, 1)]), .int .u32 (.a 0 [(10, 1)])] ⟨[(0, 20), (0, 107374182), (0, 39), (0, 107374182), (21, 39), (0, 107374182), (0, 39), (0, 107374182), (0, 39), (0, 4294967295), (0, 4294967295), ((-2147483648), 2147483647), ((-2147483648), 2147483647), ((-2147483648), 2147483647), ((-2147483648), 2147483647), ((-2147483648), 2147483647), ((-2147483648), 2147483647), ((-20), 20), ((-20), 20)], [], [⟨7, .i32, .a 0 [(1, 40), (2, 1)], .p 0, 11⟩, ⟨7, .i32, .a 0 [(5, 40), (6, 1)], .p 0, 12⟩, ⟨7, .i32, .a (-20) [(6, 1)], .p 0, 13⟩, ⟨7, .i32, .a 0 [(3, 40), (4, 1)], .p 0, 14⟩, ⟨7, .i32, .a 0 [(7, 40), (8, 1)], .p 0, 15⟩, ⟨7, .i32, .a (-20) [(8, 1)], .p 0, 16⟩, ⟨1, .i64, .a (-20) [(2, 1)], .a (-20) [(4, 1)], 17⟩, ⟨2, .i64, .a (-20) [(2, 1)], .a (-20) [(4, 1)], 18⟩]⟩ = true := by kernel_rfl
theorem op6 {a0 a2 a3 a4 a5 a6 a7 : Int} (r0 : 0 ≤ a0 ∧ a0 ≤ 255) (r2 : 0 ≤ a2 ∧ a2 ≤ 4294967295) (r3 : 0 ≤ a3 ∧ a3 ≤ 4294967295) (r4 : 0 ≤ a4 ∧ a4 ≤ 4294967295) (r5 : 0 ≤ a5 ∧ a5 ≤ 4294967295) (r6 : 0 ≤ a6 ∧ a6 ≤ 4294967295) (r7 : 0 ≤ a7 ∧ a7 ≤ 4294967295) (a1 : Bool) (hk : a0 % 12 = 6) (w : World) : Calls Try.prog 5 #[.int .u8 a0, .bool a1, .int .u32 a2, .int .u32 a3, .int .u32 a4, .int .u32 a5, .int .u32 a6, .int .u32 a7] w fun e w' => e = .returned (.bool true) ∧ Grown w w' := by
  cases a1 with
  | true =>
    rcases (show (a2 % 40 ≤ 19) ∨ (20 ≤ a2 % 40) by omega) with h0 | h0
    · rcases (show (a3 % 40 ≤ 19) ∨ (a3 % 40 = 20) ∨ (21 ≤ a3 % 40) by omega) with h1 | h1 | h1
      · obtain ⟨y0, d0, p0, q0⟩ := Fx.conv32 (a2)
        obtain ⟨y1, d1, p1, q1⟩ := Fx.conv32 (a4)
        obtain ⟨y2, d2, p2, q2⟩ := Fx.conv32 ((-20 + a4 % 40))
        obtain ⟨y3, d3, p3, q3⟩ := Fx.conv32 (a3)
        obtain ⟨y4, d4, p4, q4⟩ := Fx.conv32 (a5)
        obtain ⟨y5, d5, p5, q5⟩ := Fx.conv32 ((-20 + a5 % 40))
        obtain ⟨z0, e0, g0, g1, g2, g3, g4, g5⟩ := Fx.quo (x := (4294967276 + a2 % 40)) (y := (4294967276 + a3 % 40)) (by omega) (by omega)
        obtain ⟨z1, e1, k0, k1, k2, k3, k4⟩ := Fx.rem (x := (4294967276 + a2 % 40)) (y := (4294967276 + a3 % 40)) (by omega)
        exact fx6 (xs := [a0 / 12, a2 / 40, a2 % 40, a3 / 40, a3 % 40, a4 / 40, a4 % 40, a5 / 40, a5 % 40, a6, a7, y0, y1, y2, y3, y4, y5, z0, z1]) run36 (args_cons ri (args_cons rel_bool (args_cons ri (args_cons ri (args_cons ri (args_cons ri (args_cons ri (args_cons ri args_nil)))))))) w (h4 := ⟨dO d0, dO d1, dO d2, dO d3, dO d4, dO d5, dO e0, dO e1, trivial⟩)
      · obtain ⟨y0, d0, p0, q0⟩ := Fx.conv32 (a2)
        obtain ⟨y1, d1, p1, q1⟩ := Fx.conv32 (a4)
        obtain ⟨y2, d2, p2, q2⟩ := Fx.conv32 ((-20 + a4 % 40))
        obtain ⟨y3, d3, p3, q3⟩ := Fx.conv32 (a3)
        obtain ⟨y4, d4, p4, q4⟩ := Fx.conv32 (a5)
        obtain ⟨y5, d5, p5, q5⟩ := Fx.conv32 ((-20 + a5 % 40))
        exact fx6 (xs := [a0 / 12, a2 / 40, a2 % 40, a3 / 40, a3 % 40, a4 / 40, a4 % 40, a5 / 40, a5 % 40, a6, a7, y0, y1, y2, y3, y4, y5]) run37 (args_cons ri (args_cons rel_bool (args_cons ri (args_cons ri (args_cons ri (args_cons ri (args_cons ri (args_cons ri args_nil)))))))) w (h4 := ⟨dO d0, dO d1, dO d2, dO d3, dO d4, dO d5, trivial⟩)
      · obtain ⟨y0, d0, p0, q0⟩ := Fx.conv32 (a2)
        obtain ⟨y1, d1, p1, q1⟩ := Fx.conv32 (a4)
        obtain ⟨y2, d2, p2, q2⟩ := Fx.conv32 ((-20 + a4 % 40))
        obtain ⟨y3, d3, p3, q3⟩ := Fx.conv32 (a3)
        obtain ⟨y4, d4, p4, q4⟩ := Fx.conv32 (a5)
        obtain ⟨y5, d5, p5, q5⟩ := Fx.conv32 ((-20 + a5 % 40))
        obtain ⟨z0, e0, g0, g1, g2, g3, g4, g5⟩ := Fx.quo (x := (4294967276 + a2 % 40)) (y := (-20 + a3 % 40)) (by omega) (by omega)
        obtain ⟨z1, e1, k0, k1, k2, k3, k4⟩ := Fx.rem (x := (4294967276 + a2 % 40)) (y := (-20 + a3 % 40)) (by omega)
        exact fx6 (xs := [a0 / 12, a2 / 40, a2 % 40, a3 / 40, a3 % 40, a4 / 40, a4 % 40, a5 / 40, a5 % 40, a6, a7, y0, y1, y2, y3, y4, y5, z0, z1]) run38 (args_cons ri (args_cons rel_bool (args_cons ri (args_cons ri (args_cons ri (args_cons ri (args_cons ri (args_cons ri args_nil)))))))) w (h4 := ⟨dO d0, dO d1, dO d2, dO d3, dO d4, dO d5, dO e0, dO e1, trivial⟩)
    · rcases (show (a3 % 40 ≤ 19) ∨ (a3 % 40 = 20) ∨ (21 ≤ a3 % 40) by omega) with h1 | h1 | h1
      · obtain ⟨y0, d0, p0, q0⟩ := Fx.conv32 (a2)
        obtain ⟨y1, d1, p1, q1⟩ := Fx.conv32 (a4)
        obtain ⟨y2, d2, p2, q2⟩ := Fx.conv32 ((-20 + a4 % 40))
        obtain ⟨y3, d3, p3, q3⟩ := Fx.conv32 (a3)
        obtain ⟨y4, d4, p4, q4⟩ := Fx.conv32 (a5)
        obtain ⟨y5, d5, p5, q5⟩ := Fx.conv32 ((-20 + a5 % 40))
        obtain ⟨z0, e0, g0, g1, g2, g3, g4, g5⟩ := Fx.quo (x := (-20 + a2 % 40)) (y := (4294967276 + a3 % 40)) (by omega) (by omega)
        obtain ⟨z1, e1, k0, k1, k2, k3, k4⟩ := Fx.rem (x := (-20 + a2 % 40)) (y := (4294967276 + a3 % 40)) (by omega)
        exact fx6 (xs := [a0 / 12, a2 / 40, a2 % 40, a3 / 40, a3 % 40, a4 / 40, a4 % 40, a5 / 40, a5 % 40, a6, a7, y0, y1, y2, y3, y4, y5, z0, z1]) run39 (args_cons ri (args_cons rel_bool (args_cons ri (args_cons ri (args_cons ri (args_cons ri (args_cons ri (args_cons ri args_nil)))))))) w (h4 := ⟨dO d0, dO d1, dO d2, dO d3, dO d4, dO d5, dO e0, dO e1, trivial⟩)
      · obtain ⟨y0, d0, p0, q0⟩ := Fx.conv32 (a2)
        obtain ⟨y1, d1, p1, q1⟩ := Fx.conv32 (a4)
        obtain ⟨y2, d2, p2, q2⟩ := Fx.conv32 ((-20 + a4 % 40))
        obtain ⟨y3, d3, p3, q3⟩ := Fx.conv32 (a3)
        obtain ⟨y4, d4, p4, q4⟩ := Fx.conv32 (a5)
        obtain ⟨y5, d5, p5, q5⟩ := Fx.conv32 ((-20 + a5 % 40))
        exact fx6 (xs := [a0 / 12, a2 / 40, a2 % 40, a3 / 40, a3 % 40, a4 / 40, a4 % 40, a5 / 40, a5 % 40, a6, a7, y0, y1, y2, y3, y4, y5]) run40 (args_cons ri (args_cons rel_bool (args_cons ri (args_cons ri (args_cons ri (args_cons ri (args_cons ri (args_cons ri args_nil)))))))) w (h4 := ⟨dO d0, dO d1, dO d2, dO d3, dO d4, dO d5, trivial⟩)
      · obtain ⟨y0, d0, p0, q0⟩ := Fx.conv32 (a2)
        obtain ⟨y1, d1, p1, q1⟩ := Fx.conv32 (a4)
        obtain ⟨y2, d2, p2, q2⟩ := Fx.conv32 ((-20 + a4 % 40))
        obtain ⟨y3, d3, p3, q3⟩ := Fx.conv32 (a3)
        obtain ⟨y4, d4, p4, q4⟩ := Fx.conv32 (a5)
        obtain ⟨y5, d5, p5, q5⟩ := Fx.conv32 ((-20 + a5 % 40))
        obtain ⟨z0, e0, g0, g1, g2, g3, g4, g5⟩ := Fx.quo (x := (-20 + a2 % 40)) (y := (-20 + a3 % 40)) (by omega) (by omega)
        obtain ⟨z1, e1, k0, k1, k2, k3, k4⟩ := Fx.rem (x := (-20 + a2 % 40)) (y := (-20 + a3 % 40)) (by omega)
        exact fx6 (xs := [a0 / 12, a2 / 40, a2 % 40, a3 / 40, a3 % 40, a4 / 40, a4 % 40, a5 / 40, a5 % 40, a6, a7, y0, y1, y2, y3, y4, y5, z0, z1]) run41 (args_cons ri (args_cons rel_bool (args_cons ri (args_cons ri (args_cons ri (args_cons ri (args_cons ri (args_cons ri args_nil)))))))) w (h4 := ⟨dO d0, dO d1, dO d2, dO d3, dO d4, dO d5, dO e0, dO e1, trivial⟩)
  | false =>
    rcases (show (a3 % 40 ≤ 19) ∨ (a3 % 40 = 20) ∨ (21 ≤ a3 % 40) by omega) with h0 | h0 | h0
    · obtain ⟨y0, d0, p0, q0⟩ := Fx.convI (a2)
      obtain ⟨y1, d1, p1, q1⟩ := Fx.convI (a4)
      obtain ⟨y2, d2, p2, q2⟩ := Fx.convI ((-20 + a4 % 40))
      obtain ⟨y3, d3, p3, q3⟩ := Fx.convI (a3)
      obtain ⟨y4, d4, p4, q4⟩ := Fx.convI (a5)
      obtain ⟨y5, d5, p5, q5⟩ := Fx.convI ((-20 + a5 % 40))
      obtain ⟨z0, e0, g0, g1, g2, g3, g4, g5⟩ := Fx.quo (x := (-20 + a2 % 40)) (y := (-20 + a3 % 40)) (by omega) (by omega)
      obtain ⟨z1, e1, k0, k1, k2, k3, k4⟩ := Fx.rem (x := (-20 + a2 % 40)) (y := (-20 + a3 % 40)) (by omega)
      exact fx6 (xs := [a0 / 12, a2 / 40, a2 % 40, a3 / 40, a3 % 40, a4 / 40, a4 % 40, a5 / 40, a5 % 40, a6, a7, y0, y1, y2, y3, y4, y5, z0, z1]) run42 (args_cons ri (args_cons rel_bool (args_cons ri (args_cons ri (args_cons ri (args_cons ri (args_cons ri (args_cons ri args_nil)))))))) w (h4 := ⟨dO d0, dO d1, dO d2, dO d3, dO d4, dO d5, dO e0, dO e1, trivial⟩)
    · obtain ⟨y0, d0, p0, q0⟩ := Fx.convI (a2)
      obtain ⟨y1, d1, p1, q1⟩ := Fx.convI (a4)
      obtain ⟨y2, d2, p2, q2⟩ := Fx.convI ((-20 + a4 % 40))
      obtain ⟨y3, d3, p3, q3⟩ := Fx.convI (a3)
      obtain ⟨y4, d4, p4, q4⟩ := Fx.convI (a5)
      obtain ⟨y5, d5, p5, q5⟩ := Fx.convI ((-20 + a5 % 40))
      exact fx6 (xs := [a0 / 12, a2 / 40, a2 % 40, a3 / 40, a3 % 40, a4 / 40, a4 % 40, a5 / 40, a5 % 40, a6, a7, y0, y1, y2, y3, y4, y5]) run43 (args_cons ri (args_cons rel_bool (args_cons ri (args_cons ri (args_cons ri (args_cons ri (args_cons ri (args_cons ri args_nil)))))))) w (h4 := ⟨dO d0, dO d1, dO d2, dO d3, dO d4, dO d5, trivial⟩)
    · obtain ⟨y0, d0, p0, q0⟩ := Fx.convI (a2)
      obtain ⟨y1, d1, p1, q1⟩ := Fx.convI (a4)
      obtain ⟨y2, d2, p2, q2⟩ := Fx.convI ((-20 + a4 % 40))
      obtain ⟨y3, d3, p3, q3⟩ := Fx.convI (a3)
      obtain ⟨y4, d4, p4, q4⟩ := Fx.convI (a5)
      obtain ⟨y5, d5, p5, q5⟩ := Fx.convI ((-20 + a5 % 40))
      obtain ⟨z0, e0, g0, g1, g2, g3, g4, g5⟩ := Fx.quo (x := (-20 + a2 % 40)) (y := (-20 + a3 % 40)) (by omega) (by omega)
      obtain ⟨z1, e1, k0, k1, k2, k3, k4⟩ := Fx.rem (x := (-20 + a2 % 40)) (y := (-20 + a3 % 40)) (by omega)
      exact fx6 (xs := [a0 / 12, a2 / 40, a2 % 40, a3 / 40, a3 % 40, a4 / 40, a4 % 40, a5 / 40, a5 % 40, a6, a7, y0, y1, y2, y3, y4, y5, z0, z1]) run44 (args_cons ri (args_cons rel_bool (args_cons ri (args_cons ri (args_cons ri (args_cons ri (args_cons ri (args_cons ri args_nil)))))))) w (h4 := ⟨dO d0, dO d1, dO d2, dO d3, dO d4, dO d5, dO e0, dO e1, trivial⟩)
end Go.Proofs.Ytlhejlkakpimcaa.fwdMust
