/- Runs of ShowOrder in the kernel, part 8: it answers true at the numbers that each theorem names. No condition but these. Written by program. -/
import Derived.Test.YtgcjjicdmpgiiaaGreatDoorIdx
import Derived.KernelRfl
set_option linter.unusedVariables false
set_option linter.unusedSimpArgs false
set_option maxRecDepth 1000000
set_option maxHeartbeats 100000000
namespace Go.Proofs.YtgcjjicdmpgiiaaGreatDoor.showOrder
open Go Go.Sx Go.RowKit
theorem run8 : runG Tryz.prog (idxK 141) 100000 3 [.int .u8 (.a 8 [(0, 10)])] ⟨[(0, 24)], [], []⟩ kd.gl kd.nx = true := by kernel_rfl
theorem case8 (a0 : Int) (w0 : (0 ≤ a0 ∧ a0 ≤ 255)) (h0 : (a0 % 10 = 8)) (w : World) (hin : ∀ ρ, GlobIn ρ kd.gl w) : Calls Tryz.prog 3 #[.int .u8 a0] w fun e w' => e = .returned (.bool true) ∧ Quiet w w' :=
  calls_finI kd.progOK kd.mixed kd.idx kd.hasIdx (xs := [a0 / 10]) run8 (by simp only [boxAll, and_true] <;> omega) trivial (args_cons (rel_int (by simp [KI.ev, evT, rho] <;> omega)) args_nil) w (hin _) kd.glIs
end Go.Proofs.YtgcjjicdmpgiiaaGreatDoor.showOrder
