/- What the proofs of this seat share: all regions of the program that draw their order may be drawn in any; the examples answer true. No condition. Written by program. -/
import Derived.Test.YtfjpbjjniojbfaaGreatDoorKit5
import Derived.Test.YtfjpbjjniojbfaaGreatDoorProg
import Derived.KernelRfl
set_option linter.unusedVariables false
set_option maxRecDepth 1000000
namespace Go.Proofs.YtfjpbjjniojbfaaGreatDoor.kd
open Go Go.Sx
theorem draw0 : rangeDraws Tryz.prog 50 0 = true := by kernel_rfl
theorem draw1 : rangeDraws Tryz.prog 50 50 = true := by kernel_rfl
theorem draw2 : rangeDraws Tryz.prog 50 100 = true := by kernel_rfl
theorem draw3 : rangeDraws Tryz.prog 50 150 = true := by kernel_rfl
theorem draw4 : rangeDraws Tryz.prog 50 200 = true := by kernel_rfl
theorem draw5 : rangeDraws Tryz.prog 50 250 = true := by kernel_rfl
theorem draw6 : rangeDraws Tryz.prog 50 300 = true := by kernel_rfl
theorem draw7 : rangeDraws Tryz.prog 25 350 = true := by kernel_rfl
theorem size : Tryz.prog.funcs.size = 375 := by kernel_rfl
theorem back119 (z : Nat) (hz : sizeD Tryz.prog 142 = some z) : BackAt Tryz.prog 119 142 z := back_at (fn := Tryz.f119) (b := (Tryz.f119.body).getD .skip) Tryz.func119 (by kernel_rfl) (by kernel_rfl) (by kernel_rfl) (by kernel_rfl) (ts := 127) (e := 142) (t3 := 3) (t4 := 4) (by kernel_rfl) (by kernel_rfl) z hz
theorem back225 (z : Nat) (hz : sizeD Tryz.prog 280 = some z) : BackAt Tryz.prog 225 280 z := back_at (fn := Tryz.f225) (b := (Tryz.f225.body).getD .skip) Tryz.func225 (by kernel_rfl) (by kernel_rfl) (by kernel_rfl) (by kernel_rfl) (ts := 193) (e := 280) (t3 := 3) (t4 := 4) (by kernel_rfl) (by kernel_rfl) z hz
theorem backOK : BackOK Tryz.prog := by
  intro gf e z h hz
  unfold backOf backTab at h
  cases q119 : Nat.beq gf 119 with
  | true =>
    rw [q119] at h
    have := Nat.eq_of_beq_eq_true q119
    subst this
    simp only [cond_true, Option.some.injEq] at h
    subst h
    exact back119 z hz
  | false =>
  rw [q119] at h
  simp only [cond_false] at h
  cases q225 : Nat.beq gf 225 with
  | true =>
    rw [q225] at h
    have := Nat.eq_of_beq_eq_true q225
    subst this
    simp only [cond_true, Option.some.injEq] at h
    subst h
    exact back225 z hz
  | false =>
  rw [q225] at h
  simp only [cond_false] at h
  cases h
theorem progOK : ProgOK Tryz.prog := progOK_of (hbk := backOK) fun f hf => by
  rw [size] at hf
  rcases Nat.lt_or_ge f 50 with h | h
  · exact rangeDraws_ok 50 0 draw0 f (by omega) (by omega)
  rcases Nat.lt_or_ge f 100 with h | h
  · exact rangeDraws_ok 50 50 draw1 f (by omega) (by omega)
  rcases Nat.lt_or_ge f 150 with h | h
  · exact rangeDraws_ok 50 100 draw2 f (by omega) (by omega)
  rcases Nat.lt_or_ge f 200 with h | h
  · exact rangeDraws_ok 50 150 draw3 f (by omega) (by omega)
  rcases Nat.lt_or_ge f 250 with h | h
  · exact rangeDraws_ok 50 200 draw4 f (by omega) (by omega)
  rcases Nat.lt_or_ge f 300 with h | h
  · exact rangeDraws_ok 50 250 draw5 f (by omega) (by omega)
  rcases Nat.lt_or_ge f 350 with h | h
  · exact rangeDraws_ok 50 300 draw6 f (by omega) (by omega)
  exact rangeDraws_ok 25 350 draw7 f (by omega) (by omega)
theorem mixed : Tryz.prog.follows .mixedOrders = true := by kernel_rfl
/-- What is known of package variables: each holds an interface value of that type. -/
def gl : GC := [(0, [.iface 455 .none]), (2, [.iface 455 .none]), (3, [.iface 455 .none]), (4, [.iface 455 .none])]
def nx : Nat := 5
theorem glIs : ∀ g, globIs g = true → (gcAt gl g).isSome = true := fun g h => by
  simp only [globIs, Bool.or_eq_true] at h
  rcases h with (((h | h) | h) | h) <;> (have := Nat.eq_of_beq_eq_true h; subst this; rfl)
end Go.Proofs.YtfjpbjjniojbfaaGreatDoor.kd
