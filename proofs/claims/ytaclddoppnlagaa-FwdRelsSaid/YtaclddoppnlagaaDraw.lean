/- What the proofs of this seat share: all regions of the program that draw their order may be drawn in any; the examples answer true. No condition. Written by program. -/
import Derived.Test.YtaclddoppnlagaaKit5
import Derived.Test.YtaclddoppnlagaaProg
import Derived.KernelRfl
set_option linter.unusedVariables false
set_option maxRecDepth 1000000
namespace Go.Proofs.Ytaclddoppnlagaa.kd
open Go Go.Sx
theorem draw0 : rangeDraws Try.prog 50 0 = true := by kernel_rfl
theorem draw1 : rangeDraws Try.prog 10 50 = true := by kernel_rfl
theorem size : Try.prog.funcs.size = 60 := by kernel_rfl
theorem progOK : ProgOK Try.prog := progOK_of (hbk := by exact fun _ _ _ h => by cases h) fun f hf => by
  rw [size] at hf
  rcases Nat.lt_or_ge f 50 with h | h
  · exact rangeDraws_ok 50 0 draw0 f (by omega) (by omega)
  exact rangeDraws_ok 10 50 draw1 f (by omega) (by omega)
theorem mixed : Try.prog.follows .mixedOrders = true := by kernel_rfl
theorem run6 : runK Try.prog noK 100000 6 [] ⟨[], [], []⟩ = true := by kernel_rfl
theorem awake6 (w : World) : Calls Try.prog 6 #[] w fun e w' => e = .returned (.bool true) ∧ Quiet w w' := calls_closed progOK mixed run6 w
theorem has6 : ∃ fn b, Try.prog.funcs[6]? = some fn ∧ fn.body = some b := ⟨Try.f6, _, Try.func6, rfl⟩
end Go.Proofs.Ytaclddoppnlagaa.kd
