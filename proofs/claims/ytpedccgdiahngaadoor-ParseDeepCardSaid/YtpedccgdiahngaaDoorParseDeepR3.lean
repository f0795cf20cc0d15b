/- Runs of ParseDeep in the kernel, part 3: it answers true at the numbers that each theorem names. No condition but these. Written by program. -/
import Derived.Test.YtpedccgdiahngaaDoorIdx
import Derived.KernelRfl
set_option linter.unusedVariables false
set_option linter.unusedSimpArgs false
set_option maxRecDepth 1000000
set_option maxHeartbeats 100000000
namespace Go.Proofs.YtpedccgdiahngaaDoor.parseDeep
open Go Go.Sx Go.RowKit
theorem run24 : runG Tryd.prog (idxK 62) 100000 3 [.int .u8 (.a 4 [(0, 45)]), .int .u8 (.a 0 [(1, 6)])] ⟨[(0, 5), (0, 42)], [], []⟩ kd.gl kd.nx = true := by kernel_rfl
theorem case24 (a0 : Int) (a1 : Int) (w0 : (0 ≤ a0 ∧ a0 ≤ 255)) (w1 : (0 ≤ a1 ∧ a1 ≤ 255)) (h0 : (a0 % 45 = 4)) (h1 : (a1 % 6 = 0)) (w : World) (hin : ∀ ρ, GlobIn ρ kd.gl w) : Calls Tryd.prog 3 #[.int .u8 a0, .int .u8 a1] w fun e w' => e = .returned (.bool true) ∧ Grown w w' :=
  calls_finI kd.progOK kd.mixed kd.idx kd.hasIdx (xs := [a0 / 45, a1 / 6]) run24 (by simp only [boxAll, and_true] <;> omega) trivial (args_cons (rel_int (by simp [KI.ev, evT, rho] <;> omega)) (args_cons (rel_int (by simp [KI.ev, evT, rho] <;> omega)) args_nil)) w (hin _) kd.glIs
theorem run25 : runG Tryd.prog (idxK 62) 100000 3 [.int .u8 (.a 4 [(0, 45)]), .int .u8 (.a 1 [(1, 6)])] ⟨[(0, 5), (0, 42)], [], []⟩ kd.gl kd.nx = true := by kernel_rfl
theorem case25 (a0 : Int) (a1 : Int) (w0 : (0 ≤ a0 ∧ a0 ≤ 255)) (w1 : (0 ≤ a1 ∧ a1 ≤ 255)) (h0 : (a0 % 45 = 4)) (h1 : (a1 % 6 = 1)) (w : World) (hin : ∀ ρ, GlobIn ρ kd.gl w) : Calls Tryd.prog 3 #[.int .u8 a0, .int .u8 a1] w fun e w' => e = .returned (.bool true) ∧ Grown w w' :=
  calls_finI kd.progOK kd.mixed kd.idx kd.hasIdx (xs := [a0 / 45, a1 / 6]) run25 (by simp only [boxAll, and_true] <;> omega) trivial (args_cons (rel_int (by simp [KI.ev, evT, rho] <;> omega)) (args_cons (rel_int (by simp [KI.ev, evT, rho] <;> omega)) args_nil)) w (hin _) kd.glIs
theorem run26 : runG Tryd.prog (idxK 62) 100000 3 [.int .u8 (.a 4 [(0, 45)]), .int .u8 (.a 2 [(1, 6)])] ⟨[(0, 5), (0, 42)], [], []⟩ kd.gl kd.nx = true := by kernel_rfl
theorem case26 (a0 : Int) (a1 : Int) (w0 : (0 ≤ a0 ∧ a0 ≤ 255)) (w1 : (0 ≤ a1 ∧ a1 ≤ 255)) (h0 : (a0 % 45 = 4)) (h1 : (a1 % 6 = 2)) (w : World) (hin : ∀ ρ, GlobIn ρ kd.gl w) : Calls Tryd.prog 3 #[.int .u8 a0, .int .u8 a1] w fun e w' => e = .returned (.bool true) ∧ Grown w w' :=
  calls_finI kd.progOK kd.mixed kd.idx kd.hasIdx (xs := [a0 / 45, a1 / 6]) run26 (by simp only [boxAll, and_true] <;> omega) trivial (args_cons (rel_int (by simp [KI.ev, evT, rho] <;> omega)) (args_cons (rel_int (by simp [KI.ev, evT, rho] <;> omega)) args_nil)) w (hin _) kd.glIs
theorem run27 : runG Tryd.prog (idxK 62) 100000 3 [.int .u8 (.a 4 [(0, 45)]), .int .u8 (.a 3 [(1, 6)])] ⟨[(0, 5), (0, 42)], [], []⟩ kd.gl kd.nx = true := by kernel_rfl
theorem case27 (a0 : Int) (a1 : Int) (w0 : (0 ≤ a0 ∧ a0 ≤ 255)) (w1 : (0 ≤ a1 ∧ a1 ≤ 255)) (h0 : (a0 % 45 = 4)) (h1 : (a1 % 6 = 3)) (w : World) (hin : ∀ ρ, GlobIn ρ kd.gl w) : Calls Tryd.prog 3 #[.int .u8 a0, .int .u8 a1] w fun e w' => e = .returned (.bool true) ∧ Grown w w' :=
  calls_finI kd.progOK kd.mixed kd.idx kd.hasIdx (xs := [a0 / 45, a1 / 6]) run27 (by simp only [boxAll, and_true] <;> omega) trivial (args_cons (rel_int (by simp [KI.ev, evT, rho] <;> omega)) (args_cons (rel_int (by simp [KI.ev, evT, rho] <;> omega)) args_nil)) w (hin _) kd.glIs
theorem run28 : runG Tryd.prog (idxK 62) 100000 3 [.int .u8 (.a 4 [(0, 45)]), .int .u8 (.a 4 [(1, 6)])] ⟨[(0, 5), (0, 41)], [], []⟩ kd.gl kd.nx = true := by kernel_rfl
theorem case28 (a0 : Int) (a1 : Int) (w0 : (0 ≤ a0 ∧ a0 ≤ 255)) (w1 : (0 ≤ a1 ∧ a1 ≤ 255)) (h0 : (a0 % 45 = 4)) (h1 : (a1 % 6 = 4)) (w : World) (hin : ∀ ρ, GlobIn ρ kd.gl w) : Calls Tryd.prog 3 #[.int .u8 a0, .int .u8 a1] w fun e w' => e = .returned (.bool true) ∧ Grown w w' :=
  calls_finI kd.progOK kd.mixed kd.idx kd.hasIdx (xs := [a0 / 45, a1 / 6]) run28 (by simp only [boxAll, and_true] <;> omega) trivial (args_cons (rel_int (by simp [KI.ev, evT, rho] <;> omega)) (args_cons (rel_int (by simp [KI.ev, evT, rho] <;> omega)) args_nil)) w (hin _) kd.glIs
theorem run29 : runG Tryd.prog (idxK 62) 100000 3 [.int .u8 (.a 4 [(0, 45)]), .int .u8 (.a 5 [(1, 6)])] ⟨[(0, 5), (0, 41)], [], []⟩ kd.gl kd.nx = true := by kernel_rfl
theorem case29 (a0 : Int) (a1 : Int) (w0 : (0 ≤ a0 ∧ a0 ≤ 255)) (w1 : (0 ≤ a1 ∧ a1 ≤ 255)) (h0 : (a0 % 45 = 4)) (h1 : (a1 % 6 = 5)) (w : World) (hin : ∀ ρ, GlobIn ρ kd.gl w) : Calls Tryd.prog 3 #[.int .u8 a0, .int .u8 a1] w fun e w' => e = .returned (.bool true) ∧ Grown w w' :=
  calls_finI kd.progOK kd.mixed kd.idx kd.hasIdx (xs := [a0 / 45, a1 / 6]) run29 (by simp only [boxAll, and_true] <;> omega) trivial (args_cons (rel_int (by simp [KI.ev, evT, rho] <;> omega)) (args_cons (rel_int (by simp [KI.ev, evT, rho] <;> omega)) args_nil)) w (hin _) kd.glIs
theorem run30 : runG Tryd.prog (idxK 62) 100000 3 [.int .u8 (.a 5 [(0, 45)]), .int .u8 (.a 0 [(1, 6)])] ⟨[(0, 5), (0, 42)], [], []⟩ kd.gl kd.nx = true := by kernel_rfl
theorem case30 (a0 : Int) (a1 : Int) (w0 : (0 ≤ a0 ∧ a0 ≤ 255)) (w1 : (0 ≤ a1 ∧ a1 ≤ 255)) (h0 : (a0 % 45 = 5)) (h1 : (a1 % 6 = 0)) (w : World) (hin : ∀ ρ, GlobIn ρ kd.gl w) : Calls Tryd.prog 3 #[.int .u8 a0, .int .u8 a1] w fun e w' => e = .returned (.bool true) ∧ Grown w w' :=
  calls_finI kd.progOK kd.mixed kd.idx kd.hasIdx (xs := [a0 / 45, a1 / 6]) run30 (by simp only [boxAll, and_true] <;> omega) trivial (args_cons (rel_int (by simp [KI.ev, evT, rho] <;> omega)) (args_cons (rel_int (by simp [KI.ev, evT, rho] <;> omega)) args_nil)) w (hin _) kd.glIs
theorem run31 : runG Tryd.prog (idxK 62) 100000 3 [.int .u8 (.a 5 [(0, 45)]), .int .u8 (.a 1 [(1, 6)])] ⟨[(0, 5), (0, 42)], [], []⟩ kd.gl kd.nx = true := by kernel_rfl
theorem case31 (a0 : Int) (a1 : Int) (w0 : (0 ≤ a0 ∧ a0 ≤ 255)) (w1 : (0 ≤ a1 ∧ a1 ≤ 255)) (h0 : (a0 % 45 = 5)) (h1 : (a1 % 6 = 1)) (w : World) (hin : ∀ ρ, GlobIn ρ kd.gl w) : Calls Tryd.prog 3 #[.int .u8 a0, .int .u8 a1] w fun e w' => e = .returned (.bool true) ∧ Grown w w' :=
  calls_finI kd.progOK kd.mixed kd.idx kd.hasIdx (xs := [a0 / 45, a1 / 6]) run31 (by simp only [boxAll, and_true] <;> omega) trivial (args_cons (rel_int (by simp [KI.ev, evT, rho] <;> omega)) (args_cons (rel_int (by simp [KI.ev, evT, rho] <;> omega)) args_nil)) w (hin _) kd.glIs
end Go.Proofs.YtpedccgdiahngaaDoor.parseDeep
