/- Runs of WalkRelations in the kernel, part 14: it answers true at the numbers that each theorem names. No condition but these. Written by program. -/
import Derived.Test.YthojgmaolbjppaaGreatDrawB
import Derived.KernelRfl
set_option linter.unusedVariables false
set_option linter.unusedSimpArgs false
set_option maxRecDepth 1000000
namespace Go.Proofs.YthojgmaolbjppaaGreat.walkRelations
open Go Go.Sx Go.RowKit
theorem run28 : runK Tryz.prog (oneK1 26) 100000 9 [.int .u8 (.a 0 [(0, 1), (1, 10)]), .int .u8 (.a (-1) [(2, 1), (3, 10)])] ⟨[(0, 9), (1, 9), (0, 9), (1, 9)], [(10, [(0, (-1)), (2, (-1))]), ((-8), [(1, 1), (3, 1)])]⟩ = true := by kernel_rfl
theorem case28 (a0 : Int) (a1 : Int) (w0 : (0 ≤ a0 ∧ a0 ≤ 255)) (w1 : (0 ≤ a1 ∧ a1 ≤ 255)) (h0 : (10 ≤ a0 ∧ a0 ≤ 99)) (h1 : (10 ≤ (a1 + 1) ∧ (a1 + 1) ≤ 99)) (h2 : (10 ≤ (a0 % 10 + (a1 + 1) % 10))) (h3 : ((a0 / 10 + (a1 + 1) / 10 + 1) ≤ 9)) (w : World) : Calls Tryz.prog 9 #[.int .u8 a0, .int .u8 a1] w fun e w' => e = .returned (.bool true) ∧ Grown w w' :=
  calls_fin kdB.progOK kdB.mixed kdB.awake26 kdB.has26 (xs := [a0 % 10, a0 / 10, (a1 + 1) % 10, (a1 + 1) / 10]) run28 (by simp only [boxAll, and_true] <;> omega) (by simp [csAll, evT, rho] <;> omega) (args_cons (rel_int (by simp [KI.ev, evT, rho] <;> omega)) (args_cons (rel_int (by simp [KI.ev, evT, rho] <;> omega)) args_nil)) w
theorem run29 : runK Tryz.prog (oneK1 26) 100000 9 [.int .u8 (.a 0 [(0, 1), (1, 10)]), .int .u8 (.a (-1) [(2, 1), (3, 10)])] ⟨[(0, 9), (1, 9), (0, 9), (1, 9)], [(10, [(0, (-1)), (2, (-1))]), (9, [(1, (-1)), (3, (-1))])]⟩ = true := by kernel_rfl
theorem case29 (a0 : Int) (a1 : Int) (w0 : (0 ≤ a0 ∧ a0 ≤ 255)) (w1 : (0 ≤ a1 ∧ a1 ≤ 255)) (h0 : (10 ≤ a0 ∧ a0 ≤ 99)) (h1 : (10 ≤ (a1 + 1) ∧ (a1 + 1) ≤ 99)) (h2 : (10 ≤ (a0 % 10 + (a1 + 1) % 10))) (h3 : (10 ≤ (a0 / 10 + (a1 + 1) / 10 + 1))) (w : World) : Calls Tryz.prog 9 #[.int .u8 a0, .int .u8 a1] w fun e w' => e = .returned (.bool true) ∧ Grown w w' :=
  calls_fin kdB.progOK kdB.mixed kdB.awake26 kdB.has26 (xs := [a0 % 10, a0 / 10, (a1 + 1) % 10, (a1 + 1) / 10]) run29 (by simp only [boxAll, and_true] <;> omega) (by simp [csAll, evT, rho] <;> omega) (args_cons (rel_int (by simp [KI.ev, evT, rho] <;> omega)) (args_cons (rel_int (by simp [KI.ev, evT, rho] <;> omega)) args_nil)) w
end Go.Proofs.YthojgmaolbjppaaGreat.walkRelations
