/- What the proofs of this seat share: all regions of the program that draw their order may be drawn in any; the examples answer true. No condition. Written by program. -/
import Derived.Test.YthojgmaolbjppaaGreatKitB4
import Derived.Test.YthojgmaolbjppaaGreatProg
import Derived.KernelRfl
set_option linter.unusedVariables false
set_option maxRecDepth 1000000
namespace Go.Proofs.YthojgmaolbjppaaGreat.kdB
open Go.Sx
theorem draw0 : rangeDraws Tryz.prog 50 0 = true := by decide +kernel
theorem draw1 : rangeDraws Tryz.prog 50 50 = true := by decide +kernel
theorem draw2 : rangeDraws Tryz.prog 50 100 = true := by decide +kernel
theorem draw3 : rangeDraws Tryz.prog 50 150 = true := by decide +kernel
theorem draw4 : rangeDraws Tryz.prog 50 200 = true := by decide +kernel
theorem draw5 : rangeDraws Tryz.prog 50 250 = true := by decide +kernel
theorem draw6 : rangeDraws Tryz.prog 50 300 = true := by decide +kernel
theorem draw7 : rangeDraws Tryz.prog 13 350 = true := by decide +kernel
theorem size : Tryz.prog.funcs.size = 363 := by kernel_rfl
theorem progOK : ProgOK Tryz.prog := progOK_of fun f hf => by
  rw [size] at hf
  rcases Nat.lt_or_ge f 50 with h | h
  · exact rangeDraws_ok 50 0 draw0 f (by omega) (by omega)
  rcases Nat.lt_or_ge f 100 with h | h
  · exact rangeDraws_ok 50 50 draw1 f (by omega) (by omega)
  rcases Nat.lt_or_ge f 150 with h | h
  · exact rangeDraws_ok 50 100 draw2 f (by omega) (by omega)
  rcases Nat.lt_or_ge f 200 with h | h
  · exact rangeDraws_ok 50 150 draw3 f (by omega) (by omega)
  rcases Nat.lt_or_ge f 250 with h | h
  · exact rangeDraws_ok 50 200 draw4 f (by omega) (by omega)
  rcases Nat.lt_or_ge f 300 with h | h
  · exact rangeDraws_ok 50 250 draw5 f (by omega) (by omega)
  rcases Nat.lt_or_ge f 350 with h | h
  · exact rangeDraws_ok 50 300 draw6 f (by omega) (by omega)
  exact rangeDraws_ok 13 350 draw7 f (by omega) (by omega)
theorem mixed : Tryz.prog.follows .mixedOrders = true := by kernel_rfl
theorem run26 : runK Tryz.prog noK 100000 26 [] ⟨[], []⟩ = true := by decide +kernel
theorem awake26 (w : World) : Calls Tryz.prog 26 #[] w fun e w' => e = .returned (.bool true) ∧ Quiet w w' := calls_closed progOK mixed run26 w
theorem has26 : ∃ fn b, Tryz.prog.funcs[26]? = some fn ∧ fn.body = some b := ⟨Tryz.f26, _, Tryz.func26, rfl⟩
theorem run16 : runK Tryz.prog noK 100000 16 [] ⟨[], []⟩ = true := by decide +kernel
theorem awake16 (w : World) : Calls Tryz.prog 16 #[] w fun e w' => e = .returned (.bool true) ∧ Quiet w w' := calls_closed progOK mixed run16 w
theorem has16 : ∃ fn b, Tryz.prog.funcs[16]? = some fn ∧ fn.body = some b := ⟨Tryz.f16, _, Tryz.func16, rfl⟩
end Go.Proofs.YthojgmaolbjppaaGreat.kdB
