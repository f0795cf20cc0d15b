/- What the proofs of this seat share: all regions of the program that draw their order may be drawn in any; the examples answer true. No condition. Written by program. -/
import Derived.Test.YtbinlkbpbpanoaaGreatDoorKitH5
import Derived.Test.YtbinlkbpbpanoaaGreatDoorProg
import Derived.KernelRfl
set_option linter.unusedVariables false
set_option maxRecDepth 1000000
namespace Go.Proofs.YtbinlkbpbpanoaaGreatDoor.kdH
open Go Go.Sx
theorem draw0 : rangeDraws Tryz.prog 50 0 = true := by kernel_rfl
theorem draw1 : rangeDraws Tryz.prog 50 50 = true := by kernel_rfl
theorem draw2 : rangeDraws Tryz.prog 50 100 = true := by kernel_rfl
theorem draw3 : rangeDraws Tryz.prog 50 150 = true := by kernel_rfl
theorem draw4 : rangeDraws Tryz.prog 50 200 = true := by kernel_rfl
theorem draw5 : rangeDraws Tryz.prog 50 250 = true := by kernel_rfl
theorem draw6 : rangeDraws Tryz.prog 18 300 = true := by kernel_rfl
theorem size : Tryz.prog.funcs.size = 318 := by kernel_rfl
theorem progOK : ProgOK Tryz.prog := progOK_of fun f hf => by
  rw [size] at hf
  rcases Nat.lt_or_ge f 50 with h | h
  · exact rangeDraws_ok 50 0 draw0 f (by omega) (by omega)
  rcases Nat.lt_or_ge f 100 with h | h
  · exact rangeDraws_ok 50 50 draw1 f (by omega) (by omega)
  rcases Nat.lt_or_ge f 150 with h | h
  · exact rangeDraws_ok 50 100 draw2 f (by omega) (by omega)
  rcases Nat.lt_or_ge f 200 with h | h
  · exact rangeDraws_ok 50 150 draw3 f (by omega) (by omega)
  rcases Nat.lt_or_ge f 250 with h | h
  · exact rangeDraws_ok 50 200 draw4 f (by omega) (by omega)
  rcases Nat.lt_or_ge f 300 with h | h
  · exact rangeDraws_ok 50 250 draw5 f (by omega) (by omega)
  exact rangeDraws_ok 18 300 draw6 f (by omega) (by omega)
theorem mixed : Tryz.prog.follows .mixedOrders = true := by kernel_rfl
/-- What is known of package variables: each holds an interface value of that type. -/
def gl : GC := [(0, [.iface 367 .none])]
def nx : Nat := 1
theorem glIs : ∀ g, globIs g = true → (gcAt gl g).isSome = true := fun g h => by
  have := Nat.eq_of_beq_eq_true h
  subst this
  rfl
end Go.Proofs.YtbinlkbpbpanoaaGreatDoor.kdH
