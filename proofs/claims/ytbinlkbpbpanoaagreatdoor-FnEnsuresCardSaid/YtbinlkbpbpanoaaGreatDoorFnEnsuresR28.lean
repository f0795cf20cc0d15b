/- Runs of FnEnsures in the kernel, part 28: it answers true at the numbers that each theorem names. No condition but these. Written by program. -/
import Derived.Test.YtbinlkbpbpanoaaGreatDoorDrawH
import Derived.KernelRfl
set_option linter.unusedVariables false
set_option linter.unusedSimpArgs false
set_option maxRecDepth 1000000
set_option maxHeartbeats 100000000
namespace Go.Proofs.YtbinlkbpbpanoaaGreatDoor.fnEnsures
open Go Go.Sx Go.RowKit
theorem run28 : runG Tryz.prog noK 100000 3 [.int .i8 (.a (-200) [(0, 1), (1, 10), (2, 100)]), .int .i8 (.a (-200) [(3, 1), (4, 10), (5, 100)]), .int .u8 (.a 2 [(6, 4)])] ⟨[(0, 9), (0, 9), (1, 3), (0, 9), (0, 9), (1, 3), (0, 63)], [((-327), [(0, 1), (1, 10), (2, 100)]), ((-327), [(3, 1), (4, 10), (5, 100)]), (1, [(0, (-1)), (1, (-10)), (2, (-100)), (3, 1), (4, 10), (5, 100)])]⟩ kdH.gl kdH.nx = true := by kernel_rfl
theorem case28 (a0 : Int) (a1 : Int) (a2 : Int) (w0 : ((-128) ≤ a0 ∧ a0 ≤ 127)) (w1 : ((-128) ≤ a1 ∧ a1 ≤ 127)) (w2 : (0 ≤ a2 ∧ a2 ≤ 255)) (h0 : (100 ≤ (a0 + 200) ∧ (a0 + 200) ≤ 327)) (h1 : (100 ≤ (a1 + 200) ∧ (a1 + 200) ≤ 327)) (h2 : (a2 % 4 = 2)) (h3 : (1 ≤ (a0 - a1))) (w : World) (hin : ∀ ρ, GlobIn ρ kdH.gl w) : Calls Tryz.prog 3 #[.int .i8 a0, .int .i8 a1, .int .u8 a2] w fun e w' => e = .returned (.bool true) ∧ Grown w w' :=
  calls_finG kdH.progOK kdH.mixed (xs := [(a0 + 200) % 10, (a0 + 200) / 10 % 10, (a0 + 200) / 100, (a1 + 200) % 10, (a1 + 200) / 10 % 10, (a1 + 200) / 100, a2 / 4]) run28 (by simp only [boxAll, and_true] <;> omega) (by simp [csAll, evT, rho] <;> omega) (args_cons (rel_int (by simp [KI.ev, evT, rho] <;> omega)) (args_cons (rel_int (by simp [KI.ev, evT, rho] <;> omega)) (args_cons (rel_int (by simp [KI.ev, evT, rho] <;> omega)) args_nil))) w (hin _) kdH.glIs
end Go.Proofs.YtbinlkbpbpanoaaGreatDoor.fnEnsures
