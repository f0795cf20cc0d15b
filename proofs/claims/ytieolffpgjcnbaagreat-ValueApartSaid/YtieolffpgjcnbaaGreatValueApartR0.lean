/- Runs of ValueApart in the kernel, part 0: it answers true at the numbers that each theorem names. No condition but these. Written by program. -/
import Derived.Test.YtieolffpgjcnbaaGreatDraw
import Derived.KernelRfl
set_option linter.unusedVariables false
set_option linter.unusedSimpArgs false
set_option maxRecDepth 1000000
namespace Go.Proofs.YtieolffpgjcnbaaGreat.valueApart
open Go.Sx Go.RowKit
theorem run0 : runK Tryz.prog (oneK1 12) 100000 3 [.int .u8 (.a 0 [(0, 1)]), .int .u8 (.a 0 [(1, 1)])] ⟨[(0, 255), (0, 255)], []⟩ = true := by decide +kernel
theorem case0 (a0 : Int) (a1 : Int) (w0 : (0 ≤ a0 ∧ a0 ≤ 255)) (w1 : (0 ≤ a1 ∧ a1 ≤ 255)) (w : World) : Calls Tryz.prog 3 #[.int .u8 a0, .int .u8 a1] w fun e w' => e = .returned (.bool true) ∧ Grown w w' :=
  calls_fin kd.progOK kd.mixed kd.awake12 kd.has12 (xs := [a0, a1]) run0 (by simp only [boxAll, and_true] <;> omega) trivial (args_cons (rel_int (by simp [KI.ev, evT, rho] <;> omega)) (args_cons (rel_int (by simp [KI.ev, evT, rho] <;> omega)) args_nil)) w
end Go.Proofs.YtieolffpgjcnbaaGreat.valueApart
