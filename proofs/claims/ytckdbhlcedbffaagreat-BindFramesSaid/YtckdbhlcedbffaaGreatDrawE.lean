/- What the proofs of this seat share: all regions of the program that draw their order may be drawn in any; the examples answer true. No condition. Written by program. -/
import Derived.Test.YtckdbhlcedbffaaGreatKitE5
import Derived.Test.YtckdbhlcedbffaaGreatProg
import Derived.KernelRfl
set_option linter.unusedVariables false
set_option maxRecDepth 1000000
namespace Go.Proofs.YtckdbhlcedbffaaGreat.kdE
open Go Go.Sx
theorem draw0 : rangeDraws Tryz.prog 50 0 = true := by kernel_rfl
theorem draw1 : rangeDraws Tryz.prog 50 50 = true := by kernel_rfl
theorem draw2 : rangeDraws Tryz.prog 50 100 = true := by kernel_rfl
theorem draw3 : rangeDraws Tryz.prog 50 150 = true := by kernel_rfl
theorem draw4 : rangeDraws Tryz.prog 50 200 = true := by kernel_rfl
theorem draw5 : rangeDraws Tryz.prog 46 250 = true := by kernel_rfl
theorem size : Tryz.prog.funcs.size = 296 := by kernel_rfl
theorem progOK : ProgOK Tryz.prog := progOK_of (hbk := by exact fun _ _ _ h => by cases h) fun f hf => by
  rw [size] at hf
  rcases Nat.lt_or_ge f 50 with h | h
  · exact rangeDraws_ok 50 0 draw0 f (by omega) (by omega)
  rcases Nat.lt_or_ge f 100 with h | h
  · exact rangeDraws_ok 50 50 draw1 f (by omega) (by omega)
  rcases Nat.lt_or_ge f 150 with h | h
  · exact rangeDraws_ok 50 100 draw2 f (by omega) (by omega)
  rcases Nat.lt_or_ge f 200 with h | h
  · exact rangeDraws_ok 50 150 draw3 f (by omega) (by omega)
  rcases Nat.lt_or_ge f 250 with h | h
  · exact rangeDraws_ok 50 200 draw4 f (by omega) (by omega)
  exact rangeDraws_ok 46 250 draw5 f (by omega) (by omega)
theorem mixed : Tryz.prog.follows .mixedOrders = true := by kernel_rfl
theorem run10 : runK Tryz.prog noK 100000 10 [] ⟨[], [], []⟩ = true := by kernel_rfl
theorem awake10 (w : World) : Calls Tryz.prog 10 #[] w fun e w' => e = .returned (.bool true) ∧ Quiet w w' := calls_closed progOK mixed run10 w
theorem has10 : ∃ fn b, Tryz.prog.funcs[10]? = some fn ∧ fn.body = some b := ⟨Tryz.f10, _, Tryz.func10, rfl⟩
end Go.Proofs.YtckdbhlcedbffaaGreat.kdE
