/- Runs of RulesWrites in the kernel, part 0: it answers true at the numbers that each theorem names. No condition but these. Written by program. -/
import Derived.Test.YtgghpeppngofdaaGreatDoorDraw
import Derived.KernelRfl
set_option linter.unusedVariables false
set_option linter.unusedSimpArgs false
set_option maxRecDepth 1000000
set_option maxHeartbeats 100000000
namespace Go.Proofs.YtgghpeppngofdaaGreatDoor.rulesWrites
open Go Go.Sx Go.RowKit
theorem run0 : runK Tryz.prog noK 100000 4 [.int .u8 (.a 0 [(0, 12)])] ⟨[(0, 21)], []⟩ = true := by kernel_rfl
theorem case0 (a0 : Int) (w0 : (0 ≤ a0 ∧ a0 ≤ 255)) (h0 : (a0 % 12 = 0)) (w : World) (hin : LowOK w.heap.size w) : Calls Tryz.prog 4 #[.int .u8 a0] w fun e w' => e = .returned (.bool true) ∧ Grown w w' :=
  calls_num kd.progOK kd.mixed (xs := [a0 / 12]) run0 (by simp only [boxAll, and_true] <;> omega) trivial (args_cons (rel_int (by simp [KI.ev, evT, rho] <;> omega)) args_nil) w hin
theorem run1 : runK Tryz.prog noK 100000 4 [.int .u8 (.a 1 [(0, 12)])] ⟨[(0, 21)], []⟩ = true := by kernel_rfl
theorem case1 (a0 : Int) (w0 : (0 ≤ a0 ∧ a0 ≤ 255)) (h0 : (a0 % 12 = 1)) (w : World) (hin : LowOK w.heap.size w) : Calls Tryz.prog 4 #[.int .u8 a0] w fun e w' => e = .returned (.bool true) ∧ Grown w w' :=
  calls_num kd.progOK kd.mixed (xs := [a0 / 12]) run1 (by simp only [boxAll, and_true] <;> omega) trivial (args_cons (rel_int (by simp [KI.ev, evT, rho] <;> omega)) args_nil) w hin
theorem run2 : runK Tryz.prog noK 100000 4 [.int .u8 (.a 2 [(0, 12)])] ⟨[(0, 21)], []⟩ = true := by kernel_rfl
theorem case2 (a0 : Int) (w0 : (0 ≤ a0 ∧ a0 ≤ 255)) (h0 : (a0 % 12 = 2)) (w : World) (hin : LowOK w.heap.size w) : Calls Tryz.prog 4 #[.int .u8 a0] w fun e w' => e = .returned (.bool true) ∧ Grown w w' :=
  calls_num kd.progOK kd.mixed (xs := [a0 / 12]) run2 (by simp only [boxAll, and_true] <;> omega) trivial (args_cons (rel_int (by simp [KI.ev, evT, rho] <;> omega)) args_nil) w hin
theorem run3 : runK Tryz.prog noK 100000 4 [.int .u8 (.a 3 [(0, 12)])] ⟨[(0, 21)], []⟩ = true := by kernel_rfl
theorem case3 (a0 : Int) (w0 : (0 ≤ a0 ∧ a0 ≤ 255)) (h0 : (a0 % 12 = 3)) (w : World) (hin : LowOK w.heap.size w) : Calls Tryz.prog 4 #[.int .u8 a0] w fun e w' => e = .returned (.bool true) ∧ Grown w w' :=
  calls_num kd.progOK kd.mixed (xs := [a0 / 12]) run3 (by simp only [boxAll, and_true] <;> omega) trivial (args_cons (rel_int (by simp [KI.ev, evT, rho] <;> omega)) args_nil) w hin
end Go.Proofs.YtgghpeppngofdaaGreatDoor.rulesWrites
