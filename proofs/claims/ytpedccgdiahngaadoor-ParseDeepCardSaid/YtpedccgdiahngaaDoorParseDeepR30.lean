/- Runs of ParseDeep in the kernel, part 30: it answers true at the numbers that each theorem names. No condition but these. Written by program. -/
import Derived.Test.YtpedccgdiahngaaDoorIdx
import Derived.KernelRfl
set_option linter.unusedVariables false
set_option linter.unusedSimpArgs false
set_option maxRecDepth 1000000
set_option maxHeartbeats 100000000
namespace Go.Proofs.YtpedccgdiahngaaDoor.parseDeep
open Go Go.Sx Go.RowKit
theorem run240 : runG Tryd.prog (idxK 62) 100000 3 [.int .u8 (.a 40 [(0, 45)]), .int .u8 (.a 0 [(1, 6)])] ⟨[(0, 4), (0, 42)], [], []⟩ kd.gl kd.nx = true := by kernel_rfl
theorem case240 (a0 : Int) (a1 : Int) (w0 : (0 ≤ a0 ∧ a0 ≤ 255)) (w1 : (0 ≤ a1 ∧ a1 ≤ 255)) (h0 : (a0 % 45 = 40)) (h1 : (a1 % 6 = 0)) (w : World) (hin : ∀ ρ, GlobIn ρ kd.gl w) : Calls Tryd.prog 3 #[.int .u8 a0, .int .u8 a1] w fun e w' => e = .returned (.bool true) ∧ Grown w w' :=
  calls_finI kd.progOK kd.mixed kd.idx kd.hasIdx (xs := [a0 / 45, a1 / 6]) run240 (by simp only [boxAll, and_true] <;> omega) trivial (args_cons (rel_int (by simp [KI.ev, evT, rho] <;> omega)) (args_cons (rel_int (by simp [KI.ev, evT, rho] <;> omega)) args_nil)) w (hin _) kd.glIs
theorem run241 : runG Tryd.prog (idxK 62) 100000 3 [.int .u8 (.a 40 [(0, 45)]), .int .u8 (.a 1 [(1, 6)])] ⟨[(0, 4), (0, 42)], [], []⟩ kd.gl kd.nx = true := by kernel_rfl
theorem case241 (a0 : Int) (a1 : Int) (w0 : (0 ≤ a0 ∧ a0 ≤ 255)) (w1 : (0 ≤ a1 ∧ a1 ≤ 255)) (h0 : (a0 % 45 = 40)) (h1 : (a1 % 6 = 1)) (w : World) (hin : ∀ ρ, GlobIn ρ kd.gl w) : Calls Tryd.prog 3 #[.int .u8 a0, .int .u8 a1] w fun e w' => e = .returned (.bool true) ∧ Grown w w' :=
  calls_finI kd.progOK kd.mixed kd.idx kd.hasIdx (xs := [a0 / 45, a1 / 6]) run241 (by simp only [boxAll, and_true] <;> omega) trivial (args_cons (rel_int (by simp [KI.ev, evT, rho] <;> omega)) (args_cons (rel_int (by simp [KI.ev, evT, rho] <;> omega)) args_nil)) w (hin _) kd.glIs
theorem run242 : runG Tryd.prog (idxK 62) 100000 3 [.int .u8 (.a 40 [(0, 45)]), .int .u8 (.a 2 [(1, 6)])] ⟨[(0, 4), (0, 42)], [], []⟩ kd.gl kd.nx = true := by kernel_rfl
theorem case242 (a0 : Int) (a1 : Int) (w0 : (0 ≤ a0 ∧ a0 ≤ 255)) (w1 : (0 ≤ a1 ∧ a1 ≤ 255)) (h0 : (a0 % 45 = 40)) (h1 : (a1 % 6 = 2)) (w : World) (hin : ∀ ρ, GlobIn ρ kd.gl w) : Calls Tryd.prog 3 #[.int .u8 a0, .int .u8 a1] w fun e w' => e = .returned (.bool true) ∧ Grown w w' :=
  calls_finI kd.progOK kd.mixed kd.idx kd.hasIdx (xs := [a0 / 45, a1 / 6]) run242 (by simp only [boxAll, and_true] <;> omega) trivial (args_cons (rel_int (by simp [KI.ev, evT, rho] <;> omega)) (args_cons (rel_int (by simp [KI.ev, evT, rho] <;> omega)) args_nil)) w (hin _) kd.glIs
theorem run243 : runG Tryd.prog (idxK 62) 100000 3 [.int .u8 (.a 40 [(0, 45)]), .int .u8 (.a 3 [(1, 6)])] ⟨[(0, 4), (0, 42)], [], []⟩ kd.gl kd.nx = true := by kernel_rfl
theorem case243 (a0 : Int) (a1 : Int) (w0 : (0 ≤ a0 ∧ a0 ≤ 255)) (w1 : (0 ≤ a1 ∧ a1 ≤ 255)) (h0 : (a0 % 45 = 40)) (h1 : (a1 % 6 = 3)) (w : World) (hin : ∀ ρ, GlobIn ρ kd.gl w) : Calls Tryd.prog 3 #[.int .u8 a0, .int .u8 a1] w fun e w' => e = .returned (.bool true) ∧ Grown w w' :=
  calls_finI kd.progOK kd.mixed kd.idx kd.hasIdx (xs := [a0 / 45, a1 / 6]) run243 (by simp only [boxAll, and_true] <;> omega) trivial (args_cons (rel_int (by simp [KI.ev, evT, rho] <;> omega)) (args_cons (rel_int (by simp [KI.ev, evT, rho] <;> omega)) args_nil)) w (hin _) kd.glIs
theorem run244 : runG Tryd.prog (idxK 62) 100000 3 [.int .u8 (.a 40 [(0, 45)]), .int .u8 (.a 4 [(1, 6)])] ⟨[(0, 4), (0, 41)], [], []⟩ kd.gl kd.nx = true := by kernel_rfl
theorem case244 (a0 : Int) (a1 : Int) (w0 : (0 ≤ a0 ∧ a0 ≤ 255)) (w1 : (0 ≤ a1 ∧ a1 ≤ 255)) (h0 : (a0 % 45 = 40)) (h1 : (a1 % 6 = 4)) (w : World) (hin : ∀ ρ, GlobIn ρ kd.gl w) : Calls Tryd.prog 3 #[.int .u8 a0, .int .u8 a1] w fun e w' => e = .returned (.bool true) ∧ Grown w w' :=
  calls_finI kd.progOK kd.mixed kd.idx kd.hasIdx (xs := [a0 / 45, a1 / 6]) run244 (by simp only [boxAll, and_true] <;> omega) trivial (args_cons (rel_int (by simp [KI.ev, evT, rho] <;> omega)) (args_cons (rel_int (by simp [KI.ev, evT, rho] <;> omega)) args_nil)) w (hin _) kd.glIs
theorem run245 : runG Tryd.prog (idxK 62) 100000 3 [.int .u8 (.a 40 [(0, 45)]), .int .u8 (.a 5 [(1, 6)])] ⟨[(0, 4), (0, 41)], [], []⟩ kd.gl kd.nx = true := by kernel_rfl
theorem case245 (a0 : Int) (a1 : Int) (w0 : (0 ≤ a0 ∧ a0 ≤ 255)) (w1 : (0 ≤ a1 ∧ a1 ≤ 255)) (h0 : (a0 % 45 = 40)) (h1 : (a1 % 6 = 5)) (w : World) (hin : ∀ ρ, GlobIn ρ kd.gl w) : Calls Tryd.prog 3 #[.int .u8 a0, .int .u8 a1] w fun e w' => e = .returned (.bool true) ∧ Grown w w' :=
  calls_finI kd.progOK kd.mixed kd.idx kd.hasIdx (xs := [a0 / 45, a1 / 6]) run245 (by simp only [boxAll, and_true] <;> omega) trivial (args_cons (rel_int (by simp [KI.ev, evT, rho] <;> omega)) (args_cons (rel_int (by simp [KI.ev, evT, rho] <;> omega)) args_nil)) w (hin _) kd.glIs
theorem run246 : runG Tryd.prog (idxK 62) 100000 3 [.int .u8 (.a 41 [(0, 45)]), .int .u8 (.a 0 [(1, 6)])] ⟨[(0, 4), (0, 42)], [], []⟩ kd.gl kd.nx = true := by kernel_rfl
theorem case246 (a0 : Int) (a1 : Int) (w0 : (0 ≤ a0 ∧ a0 ≤ 255)) (w1 : (0 ≤ a1 ∧ a1 ≤ 255)) (h0 : (a0 % 45 = 41)) (h1 : (a1 % 6 = 0)) (w : World) (hin : ∀ ρ, GlobIn ρ kd.gl w) : Calls Tryd.prog 3 #[.int .u8 a0, .int .u8 a1] w fun e w' => e = .returned (.bool true) ∧ Grown w w' :=
  calls_finI kd.progOK kd.mixed kd.idx kd.hasIdx (xs := [a0 / 45, a1 / 6]) run246 (by simp only [boxAll, and_true] <;> omega) trivial (args_cons (rel_int (by simp [KI.ev, evT, rho] <;> omega)) (args_cons (rel_int (by simp [KI.ev, evT, rho] <;> omega)) args_nil)) w (hin _) kd.glIs
theorem run247 : runG Tryd.prog (idxK 62) 100000 3 [.int .u8 (.a 41 [(0, 45)]), .int .u8 (.a 1 [(1, 6)])] ⟨[(0, 4), (0, 42)], [], []⟩ kd.gl kd.nx = true := by kernel_rfl
theorem case247 (a0 : Int) (a1 : Int) (w0 : (0 ≤ a0 ∧ a0 ≤ 255)) (w1 : (0 ≤ a1 ∧ a1 ≤ 255)) (h0 : (a0 % 45 = 41)) (h1 : (a1 % 6 = 1)) (w : World) (hin : ∀ ρ, GlobIn ρ kd.gl w) : Calls Tryd.prog 3 #[.int .u8 a0, .int .u8 a1] w fun e w' => e = .returned (.bool true) ∧ Grown w w' :=
  calls_finI kd.progOK kd.mixed kd.idx kd.hasIdx (xs := [a0 / 45, a1 / 6]) run247 (by simp only [boxAll, and_true] <;> omega) trivial (args_cons (rel_int (by simp [KI.ev, evT, rho] <;> omega)) (args_cons (rel_int (by simp [KI.ev, evT, rho] <;> omega)) args_nil)) w (hin _) kd.glIs
end Go.Proofs.YtpedccgdiahngaaDoor.parseDeep
