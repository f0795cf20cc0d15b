/- What the proofs of this seat share: all regions of the program that draw their order may be drawn in any; the examples answer true. No condition. Written by program. -/
import Derived.Test.YtgcjjicdmpgiiaaGreatDoorKit5
import Derived.Test.YtgcjjicdmpgiiaaGreatDoorProg
import Derived.Test.YtgcjjicdmpgiiaaGreatDoorEff
import Derived.KernelRfl
set_option linter.unusedVariables false
set_option maxRecDepth 1000000
namespace Go.Proofs.YtgcjjicdmpgiiaaGreatDoor.kd
open Go Go.Sx
theorem draw0 : rangeDraws Tryz.prog 50 0 = true := by kernel_rfl
theorem draw1 : rangeDraws Tryz.prog 50 50 = true := by kernel_rfl
theorem draw2 : rangeDraws Tryz.prog 50 100 = true := by kernel_rfl
theorem draw3 : rangeDraws Tryz.prog 50 150 = true := by kernel_rfl
theorem draw4 : rangeDraws Tryz.prog 46 200 = true := by kernel_rfl
theorem size : Tryz.prog.funcs.size = 246 := by kernel_rfl
theorem progOK : ProgOK Tryz.prog := progOK_of (hbk := by exact fun _ _ _ h => by cases h) (heff := Go.Proofs.YtgcjjicdmpgiiaaGreatDoor.as2.effOK) fun f hf => by
  rw [size] at hf
  rcases Nat.lt_or_ge f 50 with h | h
  · exact rangeDraws_ok 50 0 draw0 f (by omega) (by omega)
  rcases Nat.lt_or_ge f 100 with h | h
  · exact rangeDraws_ok 50 50 draw1 f (by omega) (by omega)
  rcases Nat.lt_or_ge f 150 with h | h
  · exact rangeDraws_ok 50 100 draw2 f (by omega) (by omega)
  rcases Nat.lt_or_ge f 200 with h | h
  · exact rangeDraws_ok 50 150 draw3 f (by omega) (by omega)
  exact rangeDraws_ok 46 200 draw4 f (by omega) (by omega)
theorem mixed : Tryz.prog.follows .mixedOrders = true := by kernel_rfl
/-- What is known of package variables: each holds an interface value of that type. -/
def gl : GC := [(0, [.iface 238 .none]), (1, [.iface 238 .none])]
def nx : Nat := 2
theorem glIs : ∀ g, globIs g = true → (gcAt gl g).isSome = true := fun g h => by
  simp only [globIs, Bool.or_eq_true] at h
  rcases h with (h | h) <;> (have := Nat.eq_of_beq_eq_true h; subst this; rfl)
end Go.Proofs.YtgcjjicdmpgiiaaGreatDoor.kd
