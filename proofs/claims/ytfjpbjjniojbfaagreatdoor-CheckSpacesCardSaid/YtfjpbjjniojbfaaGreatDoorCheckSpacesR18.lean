/- Runs of CheckSpaces in the kernel, part 18: it answers true at the numbers that each theorem names. No condition but these. Written by program. -/
import Derived.Test.YtfjpbjjniojbfaaGreatDoorIdx
import Derived.KernelRfl
set_option linter.unusedVariables false
set_option linter.unusedSimpArgs false
set_option maxRecDepth 1000000
set_option maxHeartbeats 100000000
namespace Go.Proofs.YtfjpbjjniojbfaaGreatDoor.checkSpaces
open Go Go.Sx Go.RowKit
theorem run72 : runG Tryz.prog (idxK 146) 100000 4 [.int .u8 (.a 18 [(0, 20)]), .int .u8 (.a 0 [(1, 4)])] ⟨[(0, 11), (0, 63)], []⟩ kd.gl kd.nx = true := by kernel_rfl
theorem case72 (a0 : Int) (a1 : Int) (w0 : (0 ≤ a0 ∧ a0 ≤ 255)) (w1 : (0 ≤ a1 ∧ a1 ≤ 255)) (h0 : (a0 % 20 = 18)) (h1 : (a1 % 4 = 0)) (w : World) (hin : ∀ ρ, GlobIn ρ kd.gl w) : Calls Tryz.prog 4 #[.int .u8 a0, .int .u8 a1] w fun e w' => e = .returned (.bool true) ∧ Grown w w' :=
  calls_finI kd.progOK kd.mixed kd.idx kd.hasIdx (xs := [a0 / 20, a1 / 4]) run72 (by simp only [boxAll, and_true] <;> omega) trivial (args_cons (rel_int (by simp [KI.ev, evT, rho] <;> omega)) (args_cons (rel_int (by simp [KI.ev, evT, rho] <;> omega)) args_nil)) w (hin _) kd.glIs
theorem run73 : runG Tryz.prog (idxK 146) 100000 4 [.int .u8 (.a 18 [(0, 20)]), .int .u8 (.a 1 [(1, 4)])] ⟨[(0, 11), (0, 63)], []⟩ kd.gl kd.nx = true := by kernel_rfl
theorem case73 (a0 : Int) (a1 : Int) (w0 : (0 ≤ a0 ∧ a0 ≤ 255)) (w1 : (0 ≤ a1 ∧ a1 ≤ 255)) (h0 : (a0 % 20 = 18)) (h1 : (a1 % 4 = 1)) (w : World) (hin : ∀ ρ, GlobIn ρ kd.gl w) : Calls Tryz.prog 4 #[.int .u8 a0, .int .u8 a1] w fun e w' => e = .returned (.bool true) ∧ Grown w w' :=
  calls_finI kd.progOK kd.mixed kd.idx kd.hasIdx (xs := [a0 / 20, a1 / 4]) run73 (by simp only [boxAll, and_true] <;> omega) trivial (args_cons (rel_int (by simp [KI.ev, evT, rho] <;> omega)) (args_cons (rel_int (by simp [KI.ev, evT, rho] <;> omega)) args_nil)) w (hin _) kd.glIs
theorem run74 : runG Tryz.prog (idxK 146) 100000 4 [.int .u8 (.a 18 [(0, 20)]), .int .u8 (.a 2 [(1, 4)])] ⟨[(0, 11), (0, 63)], []⟩ kd.gl kd.nx = true := by kernel_rfl
theorem case74 (a0 : Int) (a1 : Int) (w0 : (0 ≤ a0 ∧ a0 ≤ 255)) (w1 : (0 ≤ a1 ∧ a1 ≤ 255)) (h0 : (a0 % 20 = 18)) (h1 : (a1 % 4 = 2)) (w : World) (hin : ∀ ρ, GlobIn ρ kd.gl w) : Calls Tryz.prog 4 #[.int .u8 a0, .int .u8 a1] w fun e w' => e = .returned (.bool true) ∧ Grown w w' :=
  calls_finI kd.progOK kd.mixed kd.idx kd.hasIdx (xs := [a0 / 20, a1 / 4]) run74 (by simp only [boxAll, and_true] <;> omega) trivial (args_cons (rel_int (by simp [KI.ev, evT, rho] <;> omega)) (args_cons (rel_int (by simp [KI.ev, evT, rho] <;> omega)) args_nil)) w (hin _) kd.glIs
theorem run75 : runG Tryz.prog (idxK 146) 100000 4 [.int .u8 (.a 18 [(0, 20)]), .int .u8 (.a 3 [(1, 4)])] ⟨[(0, 11), (0, 63)], []⟩ kd.gl kd.nx = true := by kernel_rfl
theorem case75 (a0 : Int) (a1 : Int) (w0 : (0 ≤ a0 ∧ a0 ≤ 255)) (w1 : (0 ≤ a1 ∧ a1 ≤ 255)) (h0 : (a0 % 20 = 18)) (h1 : (a1 % 4 = 3)) (w : World) (hin : ∀ ρ, GlobIn ρ kd.gl w) : Calls Tryz.prog 4 #[.int .u8 a0, .int .u8 a1] w fun e w' => e = .returned (.bool true) ∧ Grown w w' :=
  calls_finI kd.progOK kd.mixed kd.idx kd.hasIdx (xs := [a0 / 20, a1 / 4]) run75 (by simp only [boxAll, and_true] <;> omega) trivial (args_cons (rel_int (by simp [KI.ev, evT, rho] <;> omega)) (args_cons (rel_int (by simp [KI.ev, evT, rho] <;> omega)) args_nil)) w (hin _) kd.glIs
end Go.Proofs.YtfjpbjjniojbfaaGreatDoor.checkSpaces
