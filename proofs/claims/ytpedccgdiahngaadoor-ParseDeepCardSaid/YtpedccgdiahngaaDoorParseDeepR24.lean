/- Runs of ParseDeep in the kernel, part 24: it answers true at the numbers that each theorem names. No condition but these. Written by program. -/
import Derived.Test.YtpedccgdiahngaaDoorIdx
import Derived.KernelRfl
set_option linter.unusedVariables false
set_option linter.unusedSimpArgs false
set_option maxRecDepth 1000000
set_option maxHeartbeats 100000000
namespace Go.Proofs.YtpedccgdiahngaaDoor.parseDeep
open Go Go.Sx Go.RowKit
theorem run192 : runG Tryd.prog (idxK 62) 100000 3 [.int .u8 (.a 32 [(0, 45)]), .int .u8 (.a 0 [(1, 6)])] ⟨[(0, 4), (0, 42)], [], []⟩ kd.gl kd.nx = true := by kernel_rfl
theorem case192 (a0 : Int) (a1 : Int) (w0 : (0 ≤ a0 ∧ a0 ≤ 255)) (w1 : (0 ≤ a1 ∧ a1 ≤ 255)) (h0 : (a0 % 45 = 32)) (h1 : (a1 % 6 = 0)) (w : World) (hin : ∀ ρ, GlobIn ρ kd.gl w) : Calls Tryd.prog 3 #[.int .u8 a0, .int .u8 a1] w fun e w' => e = .returned (.bool true) ∧ Grown w w' :=
  calls_finI kd.progOK kd.mixed kd.idx kd.hasIdx (xs := [a0 / 45, a1 / 6]) run192 (by simp only [boxAll, and_true] <;> omega) trivial (args_cons (rel_int (by simp [KI.ev, evT, rho] <;> omega)) (args_cons (rel_int (by simp [KI.ev, evT, rho] <;> omega)) args_nil)) w (hin _) kd.glIs
theorem run193 : runG Tryd.prog (idxK 62) 100000 3 [.int .u8 (.a 32 [(0, 45)]), .int .u8 (.a 1 [(1, 6)])] ⟨[(0, 4), (0, 42)], [], []⟩ kd.gl kd.nx = true := by kernel_rfl
theorem case193 (a0 : Int) (a1 : Int) (w0 : (0 ≤ a0 ∧ a0 ≤ 255)) (w1 : (0 ≤ a1 ∧ a1 ≤ 255)) (h0 : (a0 % 45 = 32)) (h1 : (a1 % 6 = 1)) (w : World) (hin : ∀ ρ, GlobIn ρ kd.gl w) : Calls Tryd.prog 3 #[.int .u8 a0, .int .u8 a1] w fun e w' => e = .returned (.bool true) ∧ Grown w w' :=
  calls_finI kd.progOK kd.mixed kd.idx kd.hasIdx (xs := [a0 / 45, a1 / 6]) run193 (by simp only [boxAll, and_true] <;> omega) trivial (args_cons (rel_int (by simp [KI.ev, evT, rho] <;> omega)) (args_cons (rel_int (by simp [KI.ev, evT, rho] <;> omega)) args_nil)) w (hin _) kd.glIs
theorem run194 : runG Tryd.prog (idxK 62) 100000 3 [.int .u8 (.a 32 [(0, 45)]), .int .u8 (.a 2 [(1, 6)])] ⟨[(0, 4), (0, 42)], [], []⟩ kd.gl kd.nx = true := by kernel_rfl
theorem case194 (a0 : Int) (a1 : Int) (w0 : (0 ≤ a0 ∧ a0 ≤ 255)) (w1 : (0 ≤ a1 ∧ a1 ≤ 255)) (h0 : (a0 % 45 = 32)) (h1 : (a1 % 6 = 2)) (w : World) (hin : ∀ ρ, GlobIn ρ kd.gl w) : Calls Tryd.prog 3 #[.int .u8 a0, .int .u8 a1] w fun e w' => e = .returned (.bool true) ∧ Grown w w' :=
  calls_finI kd.progOK kd.mixed kd.idx kd.hasIdx (xs := [a0 / 45, a1 / 6]) run194 (by simp only [boxAll, and_true] <;> omega) trivial (args_cons (rel_int (by simp [KI.ev, evT, rho] <;> omega)) (args_cons (rel_int (by simp [KI.ev, evT, rho] <;> omega)) args_nil)) w (hin _) kd.glIs
theorem run195 : runG Tryd.prog (idxK 62) 100000 3 [.int .u8 (.a 32 [(0, 45)]), .int .u8 (.a 3 [(1, 6)])] ⟨[(0, 4), (0, 42)], [], []⟩ kd.gl kd.nx = true := by kernel_rfl
theorem case195 (a0 : Int) (a1 : Int) (w0 : (0 ≤ a0 ∧ a0 ≤ 255)) (w1 : (0 ≤ a1 ∧ a1 ≤ 255)) (h0 : (a0 % 45 = 32)) (h1 : (a1 % 6 = 3)) (w : World) (hin : ∀ ρ, GlobIn ρ kd.gl w) : Calls Tryd.prog 3 #[.int .u8 a0, .int .u8 a1] w fun e w' => e = .returned (.bool true) ∧ Grown w w' :=
  calls_finI kd.progOK kd.mixed kd.idx kd.hasIdx (xs := [a0 / 45, a1 / 6]) run195 (by simp only [boxAll, and_true] <;> omega) trivial (args_cons (rel_int (by simp [KI.ev, evT, rho] <;> omega)) (args_cons (rel_int (by simp [KI.ev, evT, rho] <;> omega)) args_nil)) w (hin _) kd.glIs
theorem run196 : runG Tryd.prog (idxK 62) 100000 3 [.int .u8 (.a 32 [(0, 45)]), .int .u8 (.a 4 [(1, 6)])] ⟨[(0, 4), (0, 41)], [], []⟩ kd.gl kd.nx = true := by kernel_rfl
theorem case196 (a0 : Int) (a1 : Int) (w0 : (0 ≤ a0 ∧ a0 ≤ 255)) (w1 : (0 ≤ a1 ∧ a1 ≤ 255)) (h0 : (a0 % 45 = 32)) (h1 : (a1 % 6 = 4)) (w : World) (hin : ∀ ρ, GlobIn ρ kd.gl w) : Calls Tryd.prog 3 #[.int .u8 a0, .int .u8 a1] w fun e w' => e = .returned (.bool true) ∧ Grown w w' :=
  calls_finI kd.progOK kd.mixed kd.idx kd.hasIdx (xs := [a0 / 45, a1 / 6]) run196 (by simp only [boxAll, and_true] <;> omega) trivial (args_cons (rel_int (by simp [KI.ev, evT, rho] <;> omega)) (args_cons (rel_int (by simp [KI.ev, evT, rho] <;> omega)) args_nil)) w (hin _) kd.glIs
theorem run197 : runG Tryd.prog (idxK 62) 100000 3 [.int .u8 (.a 32 [(0, 45)]), .int .u8 (.a 5 [(1, 6)])] ⟨[(0, 4), (0, 41)], [], []⟩ kd.gl kd.nx = true := by kernel_rfl
theorem case197 (a0 : Int) (a1 : Int) (w0 : (0 ≤ a0 ∧ a0 ≤ 255)) (w1 : (0 ≤ a1 ∧ a1 ≤ 255)) (h0 : (a0 % 45 = 32)) (h1 : (a1 % 6 = 5)) (w : World) (hin : ∀ ρ, GlobIn ρ kd.gl w) : Calls Tryd.prog 3 #[.int .u8 a0, .int .u8 a1] w fun e w' => e = .returned (.bool true) ∧ Grown w w' :=
  calls_finI kd.progOK kd.mixed kd.idx kd.hasIdx (xs := [a0 / 45, a1 / 6]) run197 (by simp only [boxAll, and_true] <;> omega) trivial (args_cons (rel_int (by simp [KI.ev, evT, rho] <;> omega)) (args_cons (rel_int (by simp [KI.ev, evT, rho] <;> omega)) args_nil)) w (hin _) kd.glIs
theorem run198 : runG Tryd.prog (idxK 62) 100000 3 [.int .u8 (.a 33 [(0, 45)]), .int .u8 (.a 0 [(1, 6)])] ⟨[(0, 4), (0, 42)], [], []⟩ kd.gl kd.nx = true := by kernel_rfl
theorem case198 (a0 : Int) (a1 : Int) (w0 : (0 ≤ a0 ∧ a0 ≤ 255)) (w1 : (0 ≤ a1 ∧ a1 ≤ 255)) (h0 : (a0 % 45 = 33)) (h1 : (a1 % 6 = 0)) (w : World) (hin : ∀ ρ, GlobIn ρ kd.gl w) : Calls Tryd.prog 3 #[.int .u8 a0, .int .u8 a1] w fun e w' => e = .returned (.bool true) ∧ Grown w w' :=
  calls_finI kd.progOK kd.mixed kd.idx kd.hasIdx (xs := [a0 / 45, a1 / 6]) run198 (by simp only [boxAll, and_true] <;> omega) trivial (args_cons (rel_int (by simp [KI.ev, evT, rho] <;> omega)) (args_cons (rel_int (by simp [KI.ev, evT, rho] <;> omega)) args_nil)) w (hin _) kd.glIs
theorem run199 : runG Tryd.prog (idxK 62) 100000 3 [.int .u8 (.a 33 [(0, 45)]), .int .u8 (.a 1 [(1, 6)])] ⟨[(0, 4), (0, 42)], [], []⟩ kd.gl kd.nx = true := by kernel_rfl
theorem case199 (a0 : Int) (a1 : Int) (w0 : (0 ≤ a0 ∧ a0 ≤ 255)) (w1 : (0 ≤ a1 ∧ a1 ≤ 255)) (h0 : (a0 % 45 = 33)) (h1 : (a1 % 6 = 1)) (w : World) (hin : ∀ ρ, GlobIn ρ kd.gl w) : Calls Tryd.prog 3 #[.int .u8 a0, .int .u8 a1] w fun e w' => e = .returned (.bool true) ∧ Grown w w' :=
  calls_finI kd.progOK kd.mixed kd.idx kd.hasIdx (xs := [a0 / 45, a1 / 6]) run199 (by simp only [boxAll, and_true] <;> omega) trivial (args_cons (rel_int (by simp [KI.ev, evT, rho] <;> omega)) (args_cons (rel_int (by simp [KI.ev, evT, rho] <;> omega)) args_nil)) w (hin _) kd.glIs
end Go.Proofs.YtpedccgdiahngaaDoor.parseDeep
