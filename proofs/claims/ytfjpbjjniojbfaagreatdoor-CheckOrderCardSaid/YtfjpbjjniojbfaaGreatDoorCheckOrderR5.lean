/- Runs of CheckOrder in the kernel, part 5: it answers true at the numbers that each theorem names. No condition but these. Written by program. -/
import Derived.Test.YtfjpbjjniojbfaaGreatDoorIdxJ
import Derived.KernelRfl
set_option linter.unusedVariables false
set_option linter.unusedSimpArgs false
set_option maxRecDepth 1000000
set_option maxHeartbeats 100000000
namespace Go.Proofs.YtfjpbjjniojbfaaGreatDoor.checkOrder
open Go Go.Sx Go.RowKit
theorem run5 : runG Tryz.prog (idxK 146) 100000 3 [.bool false, .bool true, .bool false] ⟨[], []⟩ kdJ.gl kdJ.nx = true := by kernel_rfl
theorem case5  (w : World) (hin : ∀ ρ, GlobIn ρ kdJ.gl w) : Calls Tryz.prog 3 #[.bool false, .bool true, .bool false] w fun e w' => e = .returned (.bool true) ∧ Grown w w' :=
  calls_finI kdJ.progOK kdJ.mixed kdJ.idx kdJ.hasIdx (xs := []) run5 trivial trivial (args_cons rel_bool (args_cons rel_bool (args_cons rel_bool args_nil))) w (hin _) kdJ.glIs
end Go.Proofs.YtfjpbjjniojbfaaGreatDoor.checkOrder
