/- Runs of RulesCalls in the kernel, part 2: it answers true at the numbers that each theorem names. No condition but these. Written by program. -/
import Derived.Test.YtgghpeppngofdaaGreatDoorDraw
import Derived.KernelRfl
set_option linter.unusedVariables false
set_option linter.unusedSimpArgs false
set_option maxRecDepth 1000000
set_option maxHeartbeats 100000000
namespace Go.Proofs.YtgghpeppngofdaaGreatDoor.rulesCalls
open Go Go.Sx Go.RowKit
theorem run8 : runK Tryz.prog noK 100000 5 [.int .u8 (.a 8 [(0, 12)])] ⟨[(0, 20)], []⟩ = true := by kernel_rfl
theorem case8 (a0 : Int) (w0 : (0 ≤ a0 ∧ a0 ≤ 255)) (h0 : (a0 % 12 = 8)) (w : World) (hin : LowOK w.heap.size w) : Calls Tryz.prog 5 #[.int .u8 a0] w fun e w' => e = .returned (.bool true) ∧ Grown w w' :=
  calls_num kd.progOK kd.mixed (xs := [a0 / 12]) run8 (by simp only [boxAll, and_true] <;> omega) trivial (args_cons (rel_int (by simp [KI.ev, evT, rho] <;> omega)) args_nil) w hin
theorem run9 : runK Tryz.prog noK 100000 5 [.int .u8 (.a 9 [(0, 12)])] ⟨[(0, 20)], []⟩ = true := by kernel_rfl
theorem case9 (a0 : Int) (w0 : (0 ≤ a0 ∧ a0 ≤ 255)) (h0 : (a0 % 12 = 9)) (w : World) (hin : LowOK w.heap.size w) : Calls Tryz.prog 5 #[.int .u8 a0] w fun e w' => e = .returned (.bool true) ∧ Grown w w' :=
  calls_num kd.progOK kd.mixed (xs := [a0 / 12]) run9 (by simp only [boxAll, and_true] <;> omega) trivial (args_cons (rel_int (by simp [KI.ev, evT, rho] <;> omega)) args_nil) w hin
theorem run10 : runK Tryz.prog noK 100000 5 [.int .u8 (.a 10 [(0, 12)])] ⟨[(0, 20)], []⟩ = true := by kernel_rfl
theorem case10 (a0 : Int) (w0 : (0 ≤ a0 ∧ a0 ≤ 255)) (h0 : (a0 % 12 = 10)) (w : World) (hin : LowOK w.heap.size w) : Calls Tryz.prog 5 #[.int .u8 a0] w fun e w' => e = .returned (.bool true) ∧ Grown w w' :=
  calls_num kd.progOK kd.mixed (xs := [a0 / 12]) run10 (by simp only [boxAll, and_true] <;> omega) trivial (args_cons (rel_int (by simp [KI.ev, evT, rho] <;> omega)) args_nil) w hin
theorem run11 : runK Tryz.prog noK 100000 5 [.int .u8 (.a 11 [(0, 12)])] ⟨[(0, 20)], []⟩ = true := by kernel_rfl
theorem case11 (a0 : Int) (w0 : (0 ≤ a0 ∧ a0 ≤ 255)) (h0 : (a0 % 12 = 11)) (w : World) (hin : LowOK w.heap.size w) : Calls Tryz.prog 5 #[.int .u8 a0] w fun e w' => e = .returned (.bool true) ∧ Grown w w' :=
  calls_num kd.progOK kd.mixed (xs := [a0 / 12]) run11 (by simp only [boxAll, and_true] <;> omega) trivial (args_cons (rel_int (by simp [KI.ev, evT, rho] <;> omega)) args_nil) w hin
end Go.Proofs.YtgghpeppngofdaaGreatDoor.rulesCalls
