/- Runs of ParseDeep in the kernel, part 1: it answers true at the numbers that each theorem names. No condition but these. Written by program. -/
import Derived.Test.YtpedccgdiahngaaDoorIdx
import Derived.KernelRfl
set_option linter.unusedVariables false
set_option linter.unusedSimpArgs false
set_option maxRecDepth 1000000
set_option maxHeartbeats 100000000
namespace Go.Proofs.YtpedccgdiahngaaDoor.parseDeep
open Go Go.Sx Go.RowKit
theorem run8 : runG Tryd.prog (idxK 62) 100000 3 [.int .u8 (.a 1 [(0, 45)]), .int .u8 (.a 2 [(1, 6)])] ⟨[(0, 5), (0, 42)], [], []⟩ kd.gl kd.nx = true := by kernel_rfl
theorem case8 (a0 : Int) (a1 : Int) (w0 : (0 ≤ a0 ∧ a0 ≤ 255)) (w1 : (0 ≤ a1 ∧ a1 ≤ 255)) (h0 : (a0 % 45 = 1)) (h1 : (a1 % 6 = 2)) (w : World) (hin : ∀ ρ, GlobIn ρ kd.gl w) : Calls Tryd.prog 3 #[.int .u8 a0, .int .u8 a1] w fun e w' => e = .returned (.bool true) ∧ Grown w w' :=
  calls_finI kd.progOK kd.mixed kd.idx kd.hasIdx (xs := [a0 / 45, a1 / 6]) run8 (by simp only [boxAll, and_true] <;> omega) trivial (args_cons (rel_int (by simp [KI.ev, evT, rho] <;> omega)) (args_cons (rel_int (by simp [KI.ev, evT, rho] <;> omega)) args_nil)) w (hin _) kd.glIs
theorem run9 : runG Tryd.prog (idxK 62) 100000 3 [.int .u8 (.a 1 [(0, 45)]), .int .u8 (.a 3 [(1, 6)])] ⟨[(0, 5), (0, 42)], [], []⟩ kd.gl kd.nx = true := by kernel_rfl
theorem case9 (a0 : Int) (a1 : Int) (w0 : (0 ≤ a0 ∧ a0 ≤ 255)) (w1 : (0 ≤ a1 ∧ a1 ≤ 255)) (h0 : (a0 % 45 = 1)) (h1 : (a1 % 6 = 3)) (w : World) (hin : ∀ ρ, GlobIn ρ kd.gl w) : Calls Tryd.prog 3 #[.int .u8 a0, .int .u8 a1] w fun e w' => e = .returned (.bool true) ∧ Grown w w' :=
  calls_finI kd.progOK kd.mixed kd.idx kd.hasIdx (xs := [a0 / 45, a1 / 6]) run9 (by simp only [boxAll, and_true] <;> omega) trivial (args_cons (rel_int (by simp [KI.ev, evT, rho] <;> omega)) (args_cons (rel_int (by simp [KI.ev, evT, rho] <;> omega)) args_nil)) w (hin _) kd.glIs
theorem run10 : runG Tryd.prog (idxK 62) 100000 3 [.int .u8 (.a 1 [(0, 45)]), .int .u8 (.a 4 [(1, 6)])] ⟨[(0, 5), (0, 41)], [], []⟩ kd.gl kd.nx = true := by kernel_rfl
theorem case10 (a0 : Int) (a1 : Int) (w0 : (0 ≤ a0 ∧ a0 ≤ 255)) (w1 : (0 ≤ a1 ∧ a1 ≤ 255)) (h0 : (a0 % 45 = 1)) (h1 : (a1 % 6 = 4)) (w : World) (hin : ∀ ρ, GlobIn ρ kd.gl w) : Calls Tryd.prog 3 #[.int .u8 a0, .int .u8 a1] w fun e w' => e = .returned (.bool true) ∧ Grown w w' :=
  calls_finI kd.progOK kd.mixed kd.idx kd.hasIdx (xs := [a0 / 45, a1 / 6]) run10 (by simp only [boxAll, and_true] <;> omega) trivial (args_cons (rel_int (by simp [KI.ev, evT, rho] <;> omega)) (args_cons (rel_int (by simp [KI.ev, evT, rho] <;> omega)) args_nil)) w (hin _) kd.glIs
theorem run11 : runG Tryd.prog (idxK 62) 100000 3 [.int .u8 (.a 1 [(0, 45)]), .int .u8 (.a 5 [(1, 6)])] ⟨[(0, 5), (0, 41)], [], []⟩ kd.gl kd.nx = true := by kernel_rfl
theorem case11 (a0 : Int) (a1 : Int) (w0 : (0 ≤ a0 ∧ a0 ≤ 255)) (w1 : (0 ≤ a1 ∧ a1 ≤ 255)) (h0 : (a0 % 45 = 1)) (h1 : (a1 % 6 = 5)) (w : World) (hin : ∀ ρ, GlobIn ρ kd.gl w) : Calls Tryd.prog 3 #[.int .u8 a0, .int .u8 a1] w fun e w' => e = .returned (.bool true) ∧ Grown w w' :=
  calls_finI kd.progOK kd.mixed kd.idx kd.hasIdx (xs := [a0 / 45, a1 / 6]) run11 (by simp only [boxAll, and_true] <;> omega) trivial (args_cons (rel_int (by simp [KI.ev, evT, rho] <;> omega)) (args_cons (rel_int (by simp [KI.ev, evT, rho] <;> omega)) args_nil)) w (hin _) kd.glIs
theorem run12 : runG Tryd.prog (idxK 62) 100000 3 [.int .u8 (.a 2 [(0, 45)]), .int .u8 (.a 0 [(1, 6)])] ⟨[(0, 5), (0, 42)], [], []⟩ kd.gl kd.nx = true := by kernel_rfl
theorem case12 (a0 : Int) (a1 : Int) (w0 : (0 ≤ a0 ∧ a0 ≤ 255)) (w1 : (0 ≤ a1 ∧ a1 ≤ 255)) (h0 : (a0 % 45 = 2)) (h1 : (a1 % 6 = 0)) (w : World) (hin : ∀ ρ, GlobIn ρ kd.gl w) : Calls Tryd.prog 3 #[.int .u8 a0, .int .u8 a1] w fun e w' => e = .returned (.bool true) ∧ Grown w w' :=
  calls_finI kd.progOK kd.mixed kd.idx kd.hasIdx (xs := [a0 / 45, a1 / 6]) run12 (by simp only [boxAll, and_true] <;> omega) trivial (args_cons (rel_int (by simp [KI.ev, evT, rho] <;> omega)) (args_cons (rel_int (by simp [KI.ev, evT, rho] <;> omega)) args_nil)) w (hin _) kd.glIs
theorem run13 : runG Tryd.prog (idxK 62) 100000 3 [.int .u8 (.a 2 [(0, 45)]), .int .u8 (.a 1 [(1, 6)])] ⟨[(0, 5), (0, 42)], [], []⟩ kd.gl kd.nx = true := by kernel_rfl
theorem case13 (a0 : Int) (a1 : Int) (w0 : (0 ≤ a0 ∧ a0 ≤ 255)) (w1 : (0 ≤ a1 ∧ a1 ≤ 255)) (h0 : (a0 % 45 = 2)) (h1 : (a1 % 6 = 1)) (w : World) (hin : ∀ ρ, GlobIn ρ kd.gl w) : Calls Tryd.prog 3 #[.int .u8 a0, .int .u8 a1] w fun e w' => e = .returned (.bool true) ∧ Grown w w' :=
  calls_finI kd.progOK kd.mixed kd.idx kd.hasIdx (xs := [a0 / 45, a1 / 6]) run13 (by simp only [boxAll, and_true] <;> omega) trivial (args_cons (rel_int (by simp [KI.ev, evT, rho] <;> omega)) (args_cons (rel_int (by simp [KI.ev, evT, rho] <;> omega)) args_nil)) w (hin _) kd.glIs
theorem run14 : runG Tryd.prog (idxK 62) 100000 3 [.int .u8 (.a 2 [(0, 45)]), .int .u8 (.a 2 [(1, 6)])] ⟨[(0, 5), (0, 42)], [], []⟩ kd.gl kd.nx = true := by kernel_rfl
theorem case14 (a0 : Int) (a1 : Int) (w0 : (0 ≤ a0 ∧ a0 ≤ 255)) (w1 : (0 ≤ a1 ∧ a1 ≤ 255)) (h0 : (a0 % 45 = 2)) (h1 : (a1 % 6 = 2)) (w : World) (hin : ∀ ρ, GlobIn ρ kd.gl w) : Calls Tryd.prog 3 #[.int .u8 a0, .int .u8 a1] w fun e w' => e = .returned (.bool true) ∧ Grown w w' :=
  calls_finI kd.progOK kd.mixed kd.idx kd.hasIdx (xs := [a0 / 45, a1 / 6]) run14 (by simp only [boxAll, and_true] <;> omega) trivial (args_cons (rel_int (by simp [KI.ev, evT, rho] <;> omega)) (args_cons (rel_int (by simp [KI.ev, evT, rho] <;> omega)) args_nil)) w (hin _) kd.glIs
theorem run15 : runG Tryd.prog (idxK 62) 100000 3 [.int .u8 (.a 2 [(0, 45)]), .int .u8 (.a 3 [(1, 6)])] ⟨[(0, 5), (0, 42)], [], []⟩ kd.gl kd.nx = true := by kernel_rfl
theorem case15 (a0 : Int) (a1 : Int) (w0 : (0 ≤ a0 ∧ a0 ≤ 255)) (w1 : (0 ≤ a1 ∧ a1 ≤ 255)) (h0 : (a0 % 45 = 2)) (h1 : (a1 % 6 = 3)) (w : World) (hin : ∀ ρ, GlobIn ρ kd.gl w) : Calls Tryd.prog 3 #[.int .u8 a0, .int .u8 a1] w fun e w' => e = .returned (.bool true) ∧ Grown w w' :=
  calls_finI kd.progOK kd.mixed kd.idx kd.hasIdx (xs := [a0 / 45, a1 / 6]) run15 (by simp only [boxAll, and_true] <;> omega) trivial (args_cons (rel_int (by simp [KI.ev, evT, rho] <;> omega)) (args_cons (rel_int (by simp [KI.ev, evT, rho] <;> omega)) args_nil)) w (hin _) kd.glIs
end Go.Proofs.YtpedccgdiahngaaDoor.parseDeep
