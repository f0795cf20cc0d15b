/- Runs of WalkRelations in the kernel, part 19: it answers true at the numbers that each theorem names. No condition but these. Written by program. -/
import Derived.Test.YthojgmaolbjppaaGreatDrawB
import Derived.KernelRfl
set_option linter.unusedVariables false
set_option linter.unusedSimpArgs false
set_option maxRecDepth 1000000
namespace Go.Proofs.YthojgmaolbjppaaGreat.walkRelations
open Go Go.Sx Go.RowKit
theorem run38 : runK Tryz.prog (oneK1 26) 100000 9 [.int .u8 (.a 0 [(0, 1), (1, 10), (2, 100)]), .int .u8 (.p 1)] ⟨[(0, 9), (0, 9), (1, 2)], [((-255), [(0, 1), (1, 10), (2, 100)]), (8, [(0, (-1))]), ((-8), [(1, 1)])]⟩ = true := by kernel_rfl
theorem case38 (a0 : Int) (a1 : Int) (w0 : (0 ≤ a0 ∧ a0 ≤ 255)) (w1 : (0 ≤ a1 ∧ a1 ≤ 255)) (h0 : (100 ≤ a0 ∧ a0 ≤ 255)) (h1 : (2 ≤ (a1 + 1) ∧ (a1 + 1) ≤ 2)) (h2 : (10 ≤ (a0 % 10 + 2))) (h3 : ((a0 / 10 % 10 + 1) ≤ 9)) (w : World) : Calls Tryz.prog 9 #[.int .u8 a0, .int .u8 a1] w fun e w' => e = .returned (.bool true) ∧ Grown w w' :=
  calls_fin kdB.progOK kdB.mixed kdB.awake26 kdB.has26 (xs := [a0 % 10, a0 / 10 % 10, a0 / 100]) run38 (by simp only [boxAll, and_true] <;> omega) (by simp [csAll, evT, rho] <;> omega) (args_cons (rel_int (by simp [KI.ev, evT, rho] <;> omega)) (args_cons (rel_int (by simp [KI.ev] <;> omega)) args_nil)) w
theorem run39 : runK Tryz.prog (oneK1 26) 100000 9 [.int .u8 (.a 0 [(0, 1), (1, 10), (2, 100)]), .int .u8 (.p 1)] ⟨[(0, 9), (0, 9), (1, 2)], [((-255), [(0, 1), (1, 10), (2, 100)]), (8, [(0, (-1))]), (9, [(1, (-1))])]⟩ = true := by kernel_rfl
theorem case39 (a0 : Int) (a1 : Int) (w0 : (0 ≤ a0 ∧ a0 ≤ 255)) (w1 : (0 ≤ a1 ∧ a1 ≤ 255)) (h0 : (100 ≤ a0 ∧ a0 ≤ 255)) (h1 : (2 ≤ (a1 + 1) ∧ (a1 + 1) ≤ 2)) (h2 : (10 ≤ (a0 % 10 + 2))) (h3 : (10 ≤ (a0 / 10 % 10 + 1))) (w : World) : Calls Tryz.prog 9 #[.int .u8 a0, .int .u8 a1] w fun e w' => e = .returned (.bool true) ∧ Grown w w' :=
  calls_fin kdB.progOK kdB.mixed kdB.awake26 kdB.has26 (xs := [a0 % 10, a0 / 10 % 10, a0 / 100]) run39 (by simp only [boxAll, and_true] <;> omega) (by simp [csAll, evT, rho] <;> omega) (args_cons (rel_int (by simp [KI.ev, evT, rho] <;> omega)) (args_cons (rel_int (by simp [KI.ev] <;> omega)) args_nil)) w
end Go.Proofs.YthojgmaolbjppaaGreat.walkRelations
