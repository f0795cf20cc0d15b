/- Runs of RulesScopes in the kernel, part 3: it answers true at the numbers that each theorem names. No condition but these. Written by program. -/
import Derived.Test.YtgghpeppngofdaaGreatDoorDraw
import Derived.KernelRfl
set_option linter.unusedVariables false
set_option linter.unusedSimpArgs false
set_option maxRecDepth 1000000
set_option maxHeartbeats 100000000
namespace Go.Proofs.YtgghpeppngofdaaGreatDoor.rulesScopes
open Go Go.Sx Go.RowKit
theorem run9 : runK Tryz.prog noK 100000 3 [.int .u8 (.a 9 [(0, 11)])] ⟨[(0, 22)], []⟩ = true := by kernel_rfl
theorem case9 (a0 : Int) (w0 : (0 ≤ a0 ∧ a0 ≤ 255)) (h0 : (a0 % 11 = 9)) (w : World) (hin : LowOK w.heap.size w) : Calls Tryz.prog 3 #[.int .u8 a0] w fun e w' => e = .returned (.bool true) ∧ Grown w w' :=
  calls_num kd.progOK kd.mixed (xs := [a0 / 11]) run9 (by simp only [boxAll, and_true] <;> omega) trivial (args_cons (rel_int (by simp [KI.ev, evT, rho] <;> omega)) args_nil) w hin
theorem run10 : runK Tryz.prog noK 100000 3 [.int .u8 (.a 10 [(0, 11)])] ⟨[(0, 22)], []⟩ = true := by kernel_rfl
theorem case10 (a0 : Int) (w0 : (0 ≤ a0 ∧ a0 ≤ 255)) (h0 : (a0 % 11 = 10)) (w : World) (hin : LowOK w.heap.size w) : Calls Tryz.prog 3 #[.int .u8 a0] w fun e w' => e = .returned (.bool true) ∧ Grown w w' :=
  calls_num kd.progOK kd.mixed (xs := [a0 / 11]) run10 (by simp only [boxAll, and_true] <;> omega) trivial (args_cons (rel_int (by simp [KI.ev, evT, rho] <;> omega)) args_nil) w hin
end Go.Proofs.YtgghpeppngofdaaGreatDoor.rulesScopes
