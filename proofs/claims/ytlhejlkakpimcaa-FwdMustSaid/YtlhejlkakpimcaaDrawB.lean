/- What the proofs of this seat share: all regions of the program that draw their order may be drawn in any; the examples answer true. No condition. Written by program. -/
import Derived.Test.YtlhejlkakpimcaaKitB5
import Derived.Test.YtlhejlkakpimcaaProg
import Derived.KernelRfl
set_option linter.unusedVariables false
set_option maxRecDepth 1000000
namespace Go.Proofs.Ytlhejlkakpimcaa.kdB
open Go Go.Sx
theorem draw0 : rangeDraws Try.prog 50 0 = true := by kernel_rfl
theorem draw1 : rangeDraws Try.prog 23 50 = true := by kernel_rfl
theorem size : Try.prog.funcs.size = 73 := by kernel_rfl
theorem progOK : ProgOK Try.prog := progOK_of (hbk := by exact fun _ _ _ h => by cases h) fun f hf => by
  rw [size] at hf
  rcases Nat.lt_or_ge f 50 with h | h
  · exact rangeDraws_ok 50 0 draw0 f (by omega) (by omega)
  exact rangeDraws_ok 23 50 draw1 f (by omega) (by omega)
theorem mixed : Try.prog.follows .mixedOrders = true := by kernel_rfl
theorem run12 : runK Try.prog noK 100000 12 [] ⟨[], [], []⟩ = true := by kernel_rfl
theorem awake12 (w : World) : Calls Try.prog 12 #[] w fun e w' => e = .returned (.bool true) ∧ Quiet w w' := calls_closed progOK mixed run12 w
theorem has12 : ∃ fn b, Try.prog.funcs[12]? = some fn ∧ fn.body = some b := ⟨Try.f12, _, Try.func12, rfl⟩
end Go.Proofs.Ytlhejlkakpimcaa.kdB
