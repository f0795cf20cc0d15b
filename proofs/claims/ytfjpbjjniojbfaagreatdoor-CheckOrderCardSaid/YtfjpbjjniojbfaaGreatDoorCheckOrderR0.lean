/- Runs of CheckOrder in the kernel, part 0: it answers true at the numbers that each theorem names. No condition but these. Written by program. -/
import Derived.Test.YtfjpbjjniojbfaaGreatDoorIdxJ
import Derived.KernelRfl
set_option linter.unusedVariables false
set_option linter.unusedSimpArgs false
set_option maxRecDepth 1000000
set_option maxHeartbeats 100000000
namespace Go.Proofs.YtfjpbjjniojbfaaGreatDoor.checkOrder
open Go Go.Sx Go.RowKit
theorem run0 : runG Tryz.prog (idxK 146) 100000 3 [.bool true, .bool true, .bool true] ⟨[], []⟩ kdJ.gl kdJ.nx = true := by kernel_rfl
theorem case0  (w : World) (hin : ∀ ρ, GlobIn ρ kdJ.gl w) : Calls Tryz.prog 3 #[.bool true, .bool true, .bool true] w fun e w' => e = .returned (.bool true) ∧ Grown w w' :=
  calls_finI kdJ.progOK kdJ.mixed kdJ.idx kdJ.hasIdx (xs := []) run0 trivial trivial (args_cons rel_bool (args_cons rel_bool (args_cons rel_bool args_nil))) w (hin _) kdJ.glIs
end Go.Proofs.YtfjpbjjniojbfaaGreatDoor.checkOrder
