/- errors.As as the evaluator sums it up. No condition. -/
import Derived.Test.YtgghpeppngofdaaGreatDoorKit5
import Derived.Test.YtgghpeppngofdaaGreatDoorAs
set_option linter.unusedVariables false
set_option linter.unusedSimpArgs false
namespace Go.Proofs.YtgghpeppngofdaaGreatDoor.as2
open Go Go.Sx Go.RowKit
theorem alloc_quiet (w : World) (c : Array Value) (t : TypeId) : Quiet w (w.alloc (.cells c t)) :=
  { os := rfl, tape := rfl, output := rfl, size := by rw [Sx.size_alloc]; omega, fz := fun a => frozen?_alloc_cells _ _ _ _, heap := fun k hk => Sx.heap_alloc_old _ _ _ hk }
theorem quiet_trans {w w1 w2 : World} (h : Quiet w w1) (k : Quiet w1 w2) : Quiet w w2 :=
  { os := k.os.trans h.os, tape := k.tape.trans h.tape, output := k.output.trans h.output, size := Nat.le_trans h.size k.size, fz := fun a => (k.fz a).trans (h.fz a), heap := fun c hc => (k.heap c (Nat.lt_of_lt_of_le hc h.size)).trans (h.heap c hc) }
theorem quiet_cell {w w1 : World} (h : Quiet w w1) {a : Addr} {v : Value} (hc : w.cell? a = some v) : w1.cell? a = some v := by
  have hlt : a.block < w.heap.size := by
    rcases Nat.lt_or_ge a.block w.heap.size with h | h
    · exact h
    · simp [World.cell?, Array.getElem?_eq_none h] at hc
  have := h.heap _ hlt
  unfold World.cell? at hc ⊢
  rw [this]; exact hc
theorem eff : EffAt Tryz.prog 48 ⟨107, 102, 104, 1⟩ := by
  refine ⟨⟨Tryz.f48, _, Tryz.func48, rfl⟩, as_nil, fun B c p c2 p2 x old w hlow hw ht hf => ?_⟩
  have hg : w.cell? ⟨0, 0, none⟩ = some (.iface 151 (.agg #[.pointer (some ⟨1, 70, none⟩)])) := (hlow _ (List.mem_cons_self ..)).2
  refine (as_hit c p ⟨c2, p2, none⟩ x old w hg hw ht hf).mono fun e w' he => ?_
  obtain ⟨rfl, rfl⟩ := he
  have q := quiet_trans (quiet_trans (quiet_trans (alloc_quiet w #[.pointer (some ⟨c2, p2, none⟩)] 104) (alloc_quiet _ #[.pointer (some ⟨1, 104, none⟩), .pointer (some ⟨w.heap.size, 0, none⟩), .int .u64 150] 133)) (alloc_quiet _ #[.pointer (some ⟨1, 104, none⟩), .pointer (some ⟨w.heap.size, 0, none⟩), .int .u64 150] 133)) (alloc_quiet _ #[.pointer x] 102)
  refine ⟨rfl, _, q, ?_⟩
  have h1 := quiet_cell q ht
  have h2 := (q.fz ⟨c2, p2, none⟩).trans hf
  simp [storeCells, Addr.add, Sem.run_bind, Result.andThen]
  rw [run_store Tryz.prog _ _ _ _ (by rfl)]
  simp [h1, h2]
theorem effOK : EffOK Tryz.prog := by
  intro f s h
  unfold effTab at h
  cases q : Nat.beq f 48 with
  | true =>
    rw [q] at h
    have := Nat.eq_of_beq_eq_true q
    subst this
    simp only [cond_true, Option.some.injEq] at h
    subst h
    exact eff
  | false =>
    rw [q] at h
    simp only [cond_false] at h
    cases h
end Go.Proofs.YtgghpeppngofdaaGreatDoor.as2
