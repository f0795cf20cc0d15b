/- What the proofs of this seat share: all regions of the program that draw their order may be drawn in any; the examples answer true. No condition. Written by program. -/
import Derived.Test.YtmknidbkhdnmlaaDoorKit4
import Derived.Test.YtmknidbkhdnmlaaDoorProg
import Derived.KernelRfl
set_option linter.unusedVariables false
set_option maxRecDepth 1000000
namespace Go.Proofs.YtmknidbkhdnmlaaDoor.kd
open Go.Sx
theorem draw0 : rangeDraws Tryd.prog 50 0 = true := by decide +kernel
theorem size : Tryd.prog.funcs.size = 50 := by kernel_rfl
theorem progOK : ProgOK Tryd.prog := progOK_of fun f hf => by
  rw [size] at hf
  exact rangeDraws_ok 50 0 draw0 f (by omega) (by omega)
theorem mixed : Tryd.prog.follows .mixedOrders = true := by kernel_rfl
theorem run5 : runK Tryd.prog noK 100000 5 [] ⟨[], []⟩ = true := by decide +kernel
theorem awake5 (w : World) : Calls Tryd.prog 5 #[] w fun e w' => e = .returned (.bool true) ∧ Quiet w w' := calls_closed progOK mixed run5 w
theorem has5 : ∃ fn b, Tryd.prog.funcs[5]? = some fn ∧ fn.body = some b := ⟨Tryd.f5, _, Tryd.func5, rfl⟩
end Go.Proofs.YtmknidbkhdnmlaaDoor.kd
