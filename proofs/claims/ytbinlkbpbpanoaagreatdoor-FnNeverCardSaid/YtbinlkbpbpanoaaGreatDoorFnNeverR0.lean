/- Runs of FnNever in the kernel, part 0: it answers true at the numbers that each theorem names. No condition but these. Written by program. -/
import Derived.Test.YtbinlkbpbpanoaaGreatDoorDraw
import Derived.KernelRfl
set_option linter.unusedVariables false
set_option linter.unusedSimpArgs false
set_option maxRecDepth 1000000
namespace Go.Proofs.YtbinlkbpbpanoaaGreatDoor.fnNever
open Go Go.Sx Go.RowKit
theorem run0 : runG Tryz.prog noK 100000 4 [.int .u8 (.a (-255) [(0, 1), (1, 10), (2, 100)]), .bool true] ⟨[(0, 9), (0, 9), (2, 5)], [((-510), [(0, 1), (1, 10), (2, 100)]), (255, [(0, (-1)), (1, (-10)), (2, (-100))])]⟩ kd.gl kd.nx = true := by kernel_rfl
theorem case0 (a0 : Int) (w0 : (0 ≤ a0 ∧ a0 ≤ 255)) (h0 : (255 ≤ (a0 + 255) ∧ (a0 + 255) ≤ 510)) (w : World) (hin : ∀ ρ, GlobIn ρ kd.gl w) : Calls Tryz.prog 4 #[.int .u8 a0, .bool true] w fun e w' => e = .returned (.bool true) ∧ Grown w w' :=
  calls_finG kd.progOK kd.mixed (xs := [(a0 + 255) % 10, (a0 + 255) / 10 % 10, (a0 + 255) / 100]) run0 (by simp only [boxAll, and_true] <;> omega) (by simp [csAll, evT, rho] <;> omega) (args_cons (rel_int (by simp [KI.ev, evT, rho] <;> omega)) (args_cons rel_bool args_nil)) w (hin _) kd.glIs
end Go.Proofs.YtbinlkbpbpanoaaGreatDoor.fnNever
