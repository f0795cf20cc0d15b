/- What the proofs of this seat share: all regions of the program that draw their order may be drawn in any; the examples answer true. No condition. Written by program. -/
import Derived.Test.YtgghpeppngofdaaGreatDoorKit5
import Derived.Test.YtgghpeppngofdaaGreatDoorProg
import Derived.Test.YtgghpeppngofdaaGreatDoorEff
import Derived.KernelRfl
set_option linter.unusedVariables false
set_option maxRecDepth 1000000
namespace Go.Proofs.YtgghpeppngofdaaGreatDoor.kd
open Go Go.Sx
theorem draw0 : rangeDraws Tryz.prog 50 0 = true := by kernel_rfl
theorem draw1 : rangeDraws Tryz.prog 50 50 = true := by kernel_rfl
theorem draw2 : rangeDraws Tryz.prog 45 100 = true := by kernel_rfl
theorem size : Tryz.prog.funcs.size = 145 := by kernel_rfl
theorem back70 (z : Nat) (hz : sizeD Tryz.prog 80 = some z) : BackAt Tryz.prog 70 80 z := back_at (fn := Tryz.f70) (b := (Tryz.f70.body).getD .skip) Tryz.func70 (by kernel_rfl) (by kernel_rfl) (by kernel_rfl) (by kernel_rfl) (ts := 63) (e := 80) (t3 := 3) (t4 := 4) (by kernel_rfl) (by kernel_rfl) z hz
theorem back105 (z : Nat) (hz : sizeD Tryz.prog 167 = some z) : BackAt Tryz.prog 105 167 z := back_at (fn := Tryz.f105) (b := (Tryz.f105.body).getD .skip) Tryz.func105 (by kernel_rfl) (by kernel_rfl) (by kernel_rfl) (by kernel_rfl) (ts := 118) (e := 167) (t3 := 3) (t4 := 4) (by kernel_rfl) (by kernel_rfl) z hz
theorem backOK : BackOK Tryz.prog := by
  intro gf e z h hz
  unfold backOf backTab at h
  cases q70 : Nat.beq gf 70 with
  | true =>
    rw [q70] at h
    have := Nat.eq_of_beq_eq_true q70
    subst this
    simp only [cond_true, Option.some.injEq] at h
    subst h
    exact back70 z hz
  | false =>
  rw [q70] at h
  simp only [cond_false] at h
  cases q105 : Nat.beq gf 105 with
  | true =>
    rw [q105] at h
    have := Nat.eq_of_beq_eq_true q105
    subst this
    simp only [cond_true, Option.some.injEq] at h
    subst h
    exact back105 z hz
  | false =>
  rw [q105] at h
  simp only [cond_false] at h
  cases h
theorem progOK : ProgOK Tryz.prog := progOK_of (hbk := backOK) (heff := Go.Proofs.YtgghpeppngofdaaGreatDoor.as2.effOK) fun f hf => by
  rw [size] at hf
  rcases Nat.lt_or_ge f 50 with h | h
  · exact rangeDraws_ok 50 0 draw0 f (by omega) (by omega)
  rcases Nat.lt_or_ge f 100 with h | h
  · exact rangeDraws_ok 50 50 draw1 f (by omega) (by omega)
  exact rangeDraws_ok 45 100 draw2 f (by omega) (by omega)
theorem mixed : Tryz.prog.follows .mixedOrders = true := by kernel_rfl
end Go.Proofs.YtgghpeppngofdaaGreatDoor.kd
