/- Runs of RulesWrites in the kernel, part 1: it answers true at the numbers that each theorem names. No condition but these. Written by program. -/
import Derived.Test.YtgghpeppngofdaaGreatDoorDraw
import Derived.KernelRfl
set_option linter.unusedVariables false
set_option linter.unusedSimpArgs false
set_option maxRecDepth 1000000
set_option maxHeartbeats 100000000
namespace Go.Proofs.YtgghpeppngofdaaGreatDoor.rulesWrites
open Go Go.Sx Go.RowKit
theorem run4 : runK Tryz.prog noK 100000 4 [.int .u8 (.a 4 [(0, 12)])] ⟨[(0, 20)], []⟩ = true := by kernel_rfl
theorem case4 (a0 : Int) (w0 : (0 ≤ a0 ∧ a0 ≤ 255)) (h0 : (a0 % 12 = 4)) (w : World) (hin : LowOK w.heap.size w) : Calls Tryz.prog 4 #[.int .u8 a0] w fun e w' => e = .returned (.bool true) ∧ Grown w w' :=
  calls_num kd.progOK kd.mixed (xs := [a0 / 12]) run4 (by simp only [boxAll, and_true] <;> omega) trivial (args_cons (rel_int (by simp [KI.ev, evT, rho] <;> omega)) args_nil) w hin
theorem run5 : runK Tryz.prog noK 100000 4 [.int .u8 (.a 5 [(0, 12)])] ⟨[(0, 20)], []⟩ = true := by kernel_rfl
theorem case5 (a0 : Int) (w0 : (0 ≤ a0 ∧ a0 ≤ 255)) (h0 : (a0 % 12 = 5)) (w : World) (hin : LowOK w.heap.size w) : Calls Tryz.prog 4 #[.int .u8 a0] w fun e w' => e = .returned (.bool true) ∧ Grown w w' :=
  calls_num kd.progOK kd.mixed (xs := [a0 / 12]) run5 (by simp only [boxAll, and_true] <;> omega) trivial (args_cons (rel_int (by simp [KI.ev, evT, rho] <;> omega)) args_nil) w hin
theorem run6 : runK Tryz.prog noK 100000 4 [.int .u8 (.a 6 [(0, 12)])] ⟨[(0, 20)], []⟩ = true := by kernel_rfl
theorem case6 (a0 : Int) (w0 : (0 ≤ a0 ∧ a0 ≤ 255)) (h0 : (a0 % 12 = 6)) (w : World) (hin : LowOK w.heap.size w) : Calls Tryz.prog 4 #[.int .u8 a0] w fun e w' => e = .returned (.bool true) ∧ Grown w w' :=
  calls_num kd.progOK kd.mixed (xs := [a0 / 12]) run6 (by simp only [boxAll, and_true] <;> omega) trivial (args_cons (rel_int (by simp [KI.ev, evT, rho] <;> omega)) args_nil) w hin
theorem run7 : runK Tryz.prog noK 100000 4 [.int .u8 (.a 7 [(0, 12)])] ⟨[(0, 20)], []⟩ = true := by kernel_rfl
theorem case7 (a0 : Int) (w0 : (0 ≤ a0 ∧ a0 ≤ 255)) (h0 : (a0 % 12 = 7)) (w : World) (hin : LowOK w.heap.size w) : Calls Tryz.prog 4 #[.int .u8 a0] w fun e w' => e = .returned (.bool true) ∧ Grown w w' :=
  calls_num kd.progOK kd.mixed (xs := [a0 / 12]) run7 (by simp only [boxAll, and_true] <;> omega) trivial (args_cons (rel_int (by simp [KI.ev, evT, rho] <;> omega)) args_nil) w hin
end Go.Proofs.YtgghpeppngofdaaGreatDoor.rulesWrites
