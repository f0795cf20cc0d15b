/- Runs of WalkEnds in the kernel, part 0: it answers true at the numbers that each theorem names. No condition but these. Written by program. -/
import Derived.Test.YthojgmaolbjppaaGreatDrawB
import Derived.KernelRfl
set_option linter.unusedVariables false
set_option linter.unusedSimpArgs false
set_option maxRecDepth 1000000
namespace Go.Proofs.YthojgmaolbjppaaGreat.walkEnds
open Go.Sx Go.RowKit
theorem run0 : runK Tryz.prog (oneK1 26) 100000 8 [.int .i8 (.a 0 [(0, 1)]), .int .u8 (.a 0 [(1, 3)])] ⟨[(0, 9), (0, 85)], []⟩ = true := by decide +kernel
theorem case0 (a0 : Int) (a1 : Int) (w0 : ((-128) ≤ a0 ∧ a0 ≤ 127)) (w1 : (0 ≤ a1 ∧ a1 ≤ 255)) (h0 : (0 ≤ a0 ∧ a0 ≤ 9)) (h1 : (a1 % 3 = 0)) (w : World) : Calls Tryz.prog 8 #[.int .i8 a0, .int .u8 a1] w fun e w' => e = .returned (.bool true) ∧ Grown w w' :=
  calls_fin kdB.progOK kdB.mixed kdB.awake26 kdB.has26 (xs := [a0, a1 / 3]) run0 (by simp only [boxAll, and_true] <;> omega) trivial (args_cons (rel_int (by simp [KI.ev, evT, rho] <;> omega)) (args_cons (rel_int (by simp [KI.ev, evT, rho] <;> omega)) args_nil)) w
theorem run1 : runK Tryz.prog (oneK1 26) 100000 8 [.int .i8 (.a 0 [(0, 1)]), .int .u8 (.a 1 [(1, 3)])] ⟨[(0, 9), (0, 84)], []⟩ = true := by decide +kernel
theorem case1 (a0 : Int) (a1 : Int) (w0 : ((-128) ≤ a0 ∧ a0 ≤ 127)) (w1 : (0 ≤ a1 ∧ a1 ≤ 255)) (h0 : (0 ≤ a0 ∧ a0 ≤ 9)) (h1 : (a1 % 3 = 1)) (w : World) : Calls Tryz.prog 8 #[.int .i8 a0, .int .u8 a1] w fun e w' => e = .returned (.bool true) ∧ Grown w w' :=
  calls_fin kdB.progOK kdB.mixed kdB.awake26 kdB.has26 (xs := [a0, a1 / 3]) run1 (by simp only [boxAll, and_true] <;> omega) trivial (args_cons (rel_int (by simp [KI.ev, evT, rho] <;> omega)) (args_cons (rel_int (by simp [KI.ev, evT, rho] <;> omega)) args_nil)) w
theorem run2 : runK Tryz.prog (oneK1 26) 100000 8 [.int .i8 (.a 0 [(0, 1)]), .int .u8 (.a 2 [(1, 3)])] ⟨[(0, 9), (0, 84)], []⟩ = true := by decide +kernel
theorem case2 (a0 : Int) (a1 : Int) (w0 : ((-128) ≤ a0 ∧ a0 ≤ 127)) (w1 : (0 ≤ a1 ∧ a1 ≤ 255)) (h0 : (0 ≤ a0 ∧ a0 ≤ 9)) (h1 : (a1 % 3 = 2)) (w : World) : Calls Tryz.prog 8 #[.int .i8 a0, .int .u8 a1] w fun e w' => e = .returned (.bool true) ∧ Grown w w' :=
  calls_fin kdB.progOK kdB.mixed kdB.awake26 kdB.has26 (xs := [a0, a1 / 3]) run2 (by simp only [boxAll, and_true] <;> omega) trivial (args_cons (rel_int (by simp [KI.ev, evT, rho] <;> omega)) (args_cons (rel_int (by simp [KI.ev, evT, rho] <;> omega)) args_nil)) w
end Go.Proofs.YthojgmaolbjppaaGreat.walkEnds
