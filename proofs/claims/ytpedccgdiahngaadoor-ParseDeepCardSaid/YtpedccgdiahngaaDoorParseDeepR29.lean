/- Runs of ParseDeep in the kernel, part 29: it answers true at the numbers that each theorem names. No condition but these. Written by program. -/
import Derived.Test.YtpedccgdiahngaaDoorIdx
import Derived.KernelRfl
set_option linter.unusedVariables false
set_option linter.unusedSimpArgs false
set_option maxRecDepth 1000000
set_option maxHeartbeats 100000000
namespace Go.Proofs.YtpedccgdiahngaaDoor.parseDeep
open Go Go.Sx Go.RowKit
theorem run232 : runG Tryd.prog (idxK 62) 100000 3 [.int .u8 (.a 38 [(0, 45)]), .int .u8 (.a 4 [(1, 6)])] ⟨[(0, 4), (0, 41)], [], []⟩ kd.gl kd.nx = true := by kernel_rfl
theorem case232 (a0 : Int) (a1 : Int) (w0 : (0 ≤ a0 ∧ a0 ≤ 255)) (w1 : (0 ≤ a1 ∧ a1 ≤ 255)) (h0 : (a0 % 45 = 38)) (h1 : (a1 % 6 = 4)) (w : World) (hin : ∀ ρ, GlobIn ρ kd.gl w) : Calls Tryd.prog 3 #[.int .u8 a0, .int .u8 a1] w fun e w' => e = .returned (.bool true) ∧ Grown w w' :=
  calls_finI kd.progOK kd.mixed kd.idx kd.hasIdx (xs := [a0 / 45, a1 / 6]) run232 (by simp only [boxAll, and_true] <;> omega) trivial (args_cons (rel_int (by simp [KI.ev, evT, rho] <;> omega)) (args_cons (rel_int (by simp [KI.ev, evT, rho] <;> omega)) args_nil)) w (hin _) kd.glIs
theorem run233 : runG Tryd.prog (idxK 62) 100000 3 [.int .u8 (.a 38 [(0, 45)]), .int .u8 (.a 5 [(1, 6)])] ⟨[(0, 4), (0, 41)], [], []⟩ kd.gl kd.nx = true := by kernel_rfl
theorem case233 (a0 : Int) (a1 : Int) (w0 : (0 ≤ a0 ∧ a0 ≤ 255)) (w1 : (0 ≤ a1 ∧ a1 ≤ 255)) (h0 : (a0 % 45 = 38)) (h1 : (a1 % 6 = 5)) (w : World) (hin : ∀ ρ, GlobIn ρ kd.gl w) : Calls Tryd.prog 3 #[.int .u8 a0, .int .u8 a1] w fun e w' => e = .returned (.bool true) ∧ Grown w w' :=
  calls_finI kd.progOK kd.mixed kd.idx kd.hasIdx (xs := [a0 / 45, a1 / 6]) run233 (by simp only [boxAll, and_true] <;> omega) trivial (args_cons (rel_int (by simp [KI.ev, evT, rho] <;> omega)) (args_cons (rel_int (by simp [KI.ev, evT, rho] <;> omega)) args_nil)) w (hin _) kd.glIs
theorem run234 : runG Tryd.prog (idxK 62) 100000 3 [.int .u8 (.a 39 [(0, 45)]), .int .u8 (.a 0 [(1, 6)])] ⟨[(0, 4), (0, 42)], [], []⟩ kd.gl kd.nx = true := by kernel_rfl
theorem case234 (a0 : Int) (a1 : Int) (w0 : (0 ≤ a0 ∧ a0 ≤ 255)) (w1 : (0 ≤ a1 ∧ a1 ≤ 255)) (h0 : (a0 % 45 = 39)) (h1 : (a1 % 6 = 0)) (w : World) (hin : ∀ ρ, GlobIn ρ kd.gl w) : Calls Tryd.prog 3 #[.int .u8 a0, .int .u8 a1] w fun e w' => e = .returned (.bool true) ∧ Grown w w' :=
  calls_finI kd.progOK kd.mixed kd.idx kd.hasIdx (xs := [a0 / 45, a1 / 6]) run234 (by simp only [boxAll, and_true] <;> omega) trivial (args_cons (rel_int (by simp [KI.ev, evT, rho] <;> omega)) (args_cons (rel_int (by simp [KI.ev, evT, rho] <;> omega)) args_nil)) w (hin _) kd.glIs
theorem run235 : runG Tryd.prog (idxK 62) 100000 3 [.int .u8 (.a 39 [(0, 45)]), .int .u8 (.a 1 [(1, 6)])] ⟨[(0, 4), (0, 42)], [], []⟩ kd.gl kd.nx = true := by kernel_rfl
theorem case235 (a0 : Int) (a1 : Int) (w0 : (0 ≤ a0 ∧ a0 ≤ 255)) (w1 : (0 ≤ a1 ∧ a1 ≤ 255)) (h0 : (a0 % 45 = 39)) (h1 : (a1 % 6 = 1)) (w : World) (hin : ∀ ρ, GlobIn ρ kd.gl w) : Calls Tryd.prog 3 #[.int .u8 a0, .int .u8 a1] w fun e w' => e = .returned (.bool true) ∧ Grown w w' :=
  calls_finI kd.progOK kd.mixed kd.idx kd.hasIdx (xs := [a0 / 45, a1 / 6]) run235 (by simp only [boxAll, and_true] <;> omega) trivial (args_cons (rel_int (by simp [KI.ev, evT, rho] <;> omega)) (args_cons (rel_int (by simp [KI.ev, evT, rho] <;> omega)) args_nil)) w (hin _) kd.glIs
theorem run236 : runG Tryd.prog (idxK 62) 100000 3 [.int .u8 (.a 39 [(0, 45)]), .int .u8 (.a 2 [(1, 6)])] ⟨[(0, 4), (0, 42)], [], []⟩ kd.gl kd.nx = true := by kernel_rfl
theorem case236 (a0 : Int) (a1 : Int) (w0 : (0 ≤ a0 ∧ a0 ≤ 255)) (w1 : (0 ≤ a1 ∧ a1 ≤ 255)) (h0 : (a0 % 45 = 39)) (h1 : (a1 % 6 = 2)) (w : World) (hin : ∀ ρ, GlobIn ρ kd.gl w) : Calls Tryd.prog 3 #[.int .u8 a0, .int .u8 a1] w fun e w' => e = .returned (.bool true) ∧ Grown w w' :=
  calls_finI kd.progOK kd.mixed kd.idx kd.hasIdx (xs := [a0 / 45, a1 / 6]) run236 (by simp only [boxAll, and_true] <;> omega) trivial (args_cons (rel_int (by simp [KI.ev, evT, rho] <;> omega)) (args_cons (rel_int (by simp [KI.ev, evT, rho] <;> omega)) args_nil)) w (hin _) kd.glIs
theorem run237 : runG Tryd.prog (idxK 62) 100000 3 [.int .u8 (.a 39 [(0, 45)]), .int .u8 (.a 3 [(1, 6)])] ⟨[(0, 4), (0, 42)], [], []⟩ kd.gl kd.nx = true := by kernel_rfl
theorem case237 (a0 : Int) (a1 : Int) (w0 : (0 ≤ a0 ∧ a0 ≤ 255)) (w1 : (0 ≤ a1 ∧ a1 ≤ 255)) (h0 : (a0 % 45 = 39)) (h1 : (a1 % 6 = 3)) (w : World) (hin : ∀ ρ, GlobIn ρ kd.gl w) : Calls Tryd.prog 3 #[.int .u8 a0, .int .u8 a1] w fun e w' => e = .returned (.bool true) ∧ Grown w w' :=
  calls_finI kd.progOK kd.mixed kd.idx kd.hasIdx (xs := [a0 / 45, a1 / 6]) run237 (by simp only [boxAll, and_true] <;> omega) trivial (args_cons (rel_int (by simp [KI.ev, evT, rho] <;> omega)) (args_cons (rel_int (by simp [KI.ev, evT, rho] <;> omega)) args_nil)) w (hin _) kd.glIs
theorem run238 : runG Tryd.prog (idxK 62) 100000 3 [.int .u8 (.a 39 [(0, 45)]), .int .u8 (.a 4 [(1, 6)])] ⟨[(0, 4), (0, 41)], [], []⟩ kd.gl kd.nx = true := by kernel_rfl
theorem case238 (a0 : Int) (a1 : Int) (w0 : (0 ≤ a0 ∧ a0 ≤ 255)) (w1 : (0 ≤ a1 ∧ a1 ≤ 255)) (h0 : (a0 % 45 = 39)) (h1 : (a1 % 6 = 4)) (w : World) (hin : ∀ ρ, GlobIn ρ kd.gl w) : Calls Tryd.prog 3 #[.int .u8 a0, .int .u8 a1] w fun e w' => e = .returned (.bool true) ∧ Grown w w' :=
  calls_finI kd.progOK kd.mixed kd.idx kd.hasIdx (xs := [a0 / 45, a1 / 6]) run238 (by simp only [boxAll, and_true] <;> omega) trivial (args_cons (rel_int (by simp [KI.ev, evT, rho] <;> omega)) (args_cons (rel_int (by simp [KI.ev, evT, rho] <;> omega)) args_nil)) w (hin _) kd.glIs
theorem run239 : runG Tryd.prog (idxK 62) 100000 3 [.int .u8 (.a 39 [(0, 45)]), .int .u8 (.a 5 [(1, 6)])] ⟨[(0, 4), (0, 41)], [], []⟩ kd.gl kd.nx = true := by kernel_rfl
theorem case239 (a0 : Int) (a1 : Int) (w0 : (0 ≤ a0 ∧ a0 ≤ 255)) (w1 : (0 ≤ a1 ∧ a1 ≤ 255)) (h0 : (a0 % 45 = 39)) (h1 : (a1 % 6 = 5)) (w : World) (hin : ∀ ρ, GlobIn ρ kd.gl w) : Calls Tryd.prog 3 #[.int .u8 a0, .int .u8 a1] w fun e w' => e = .returned (.bool true) ∧ Grown w w' :=
  calls_finI kd.progOK kd.mixed kd.idx kd.hasIdx (xs := [a0 / 45, a1 / 6]) run239 (by simp only [boxAll, and_true] <;> omega) trivial (args_cons (rel_int (by simp [KI.ev, evT, rho] <;> omega)) (args_cons (rel_int (by simp [KI.ev, evT, rho] <;> omega)) args_nil)) w (hin _) kd.glIs
end Go.Proofs.YtpedccgdiahngaaDoor.parseDeep
