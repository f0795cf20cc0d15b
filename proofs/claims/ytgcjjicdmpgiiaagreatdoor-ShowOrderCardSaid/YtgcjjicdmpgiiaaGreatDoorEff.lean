/- strings.Join as the evaluator sums it up: by the shelf's contract. No condition. -/
import Derived.Test.YtgcjjicdmpgiiaaGreatDoorKit5
import Derived.Test.YtgcjjicdmpgiiaaGreatDoorShelf
set_option linter.unusedVariables false
set_option linter.unusedSimpArgs false
namespace Go.Proofs.YtgcjjicdmpgiiaaGreatDoor.as2
open Go Go.Sx Go.RowKit
theorem joinB_eq (sep : List UInt8) (l : List (List UInt8)) : joinB sep l = Lib.join l sep := by
  cases l with
  | nil => rfl
  | cons x r => rw [Lib.join_cons]; rfl
theorem below_quiet {w w' : World} (h : Below w.heap.size w w') : Quiet w w' :=
  { os := h.os, tape := h.tape, output := h.output, size := h.size, heap := fun c hc => h.block c hc
    fz := fun a ha => by
      have := h.block a.block (ha rfl)
      unfold World.frozen?
      rw [this] }
theorem eff : EffAt Tryz.prog 14 ⟨0, 0, 0, 0, true⟩ := by
  refine ⟨⟨Tryz.f14, _, Tryz.func14, rfl⟩, fun _ => ⟨fun x w => Tryz.strings_Join_none none 0 x w, fun l sep c p cap w hc hb h0 h1 h2 => ?_⟩, fun h => Bool.noConfusion h, fun h => Bool.noConfusion h⟩
  have em : (l.map fun x => (⟨x.toArray⟩ : ByteArray)).map (·.data.toList) = l := by
    rw [List.map_map]
    have : ((fun x : ByteArray => x.data.toList) ∘ fun x : List UInt8 => (⟨x.toArray⟩ : ByteArray)) = id := by funext x; simp
    rw [this, List.map_id]
  have hs : (⟨sep.toArray⟩ : ByteArray).data.toList = sep := by simp
  have key := Tryz.strings_Join c p cap (l.map fun x => ⟨x.toArray⟩) ⟨sep.toArray⟩ w (fun j x hx => by
      rw [List.getElem?_map, Option.map_eq_some_iff] at hx
      obtain ⟨y, hy, rfl⟩ := hx
      exact hc j y hy) hb (by rw [List.length_map]; omega) (by rw [List.length_map]; omega) (by rw [em, hs, ← joinB_eq]; omega)
  rw [List.length_map, em, hs, ← joinB_eq] at key
  exact key.mono fun e w' h => ⟨h.1, below_quiet h.2⟩
theorem effOK : EffOK Tryz.prog := by
  intro f s h
  unfold effTab at h
  cases q : Nat.beq f 14 with
  | true =>
    rw [q] at h
    have := Nat.eq_of_beq_eq_true q
    subst this
    simp only [cond_true, Option.some.injEq] at h
    subst h
    exact eff
  | false =>
    rw [q] at h
    simp only [cond_false] at h
    cases h
end Go.Proofs.YtgcjjicdmpgiiaaGreatDoor.as2
