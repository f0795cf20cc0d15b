/- The end of a row whose inputs have no places, behind a call that leaves what was there: new blocks may be frozen in part. No condition. -/
import Derived.Test.YtgcjjicdmpgiiaaGreatDoorKit5
import Derived.WalkKit
set_option linter.unusedVariables false
namespace Go.Fx
open Go Go.Sx Go.RowKit Go.ChangeShapes
theorem kept_quiet {w w' : World} (q : Quiet w w') (may : MemPlace → Prop) : w.keptBut w' may := by
  refine ⟨q.os, q.output, fun i hi => ?_⟩
  rw [q.heap i hi]
  cases w.heap[i]? with
  | none => rfl
  | some x => cases x <;> simp
theorem post_quiet {H : Type} {enc : TypeId × Value → H} {P : Program} {f : Func} {s : ChangeSpec} {apart fresh handsOn again : Bool} {W W' : World} {args : Array Value} {v : Value} {ds gs : List (DataW H)}
    (hW : DataW.Whole enc P f.params.toList s.vars apart W args.toList ds gs [])
    (hr : ∀ (b : Nat) (sp : Nat → Bool) (hd : Bool), DataW.TrodAll enc P W' b sp hd f.resultTypes.toList (v.resultList f.resultTypes.size) (s.fn H (ds ++ gs)).results [])
    (ha : ∀ sp : Nat → Bool, (∀ p ∈ ([] : List MemPlace), sp p.block = true) → DataW.TrodAll enc P W' 0 sp true f.params.toList args.toList (s.fn H (ds ++ gs)).args [])
    (hv : ∀ sp : Nat → Bool, (∀ p ∈ ([] : List MemPlace), sp p.block = true) → DataW.TrodVars enc P W' sp s.vars (s.fn H (ds ++ gs)).vars [])
    (q : Quiet W W')
    (hok : ∀ (j : Nat) (t : TypeId) (r : Value), f.resultTypes[j]? = some t → (v.resultList f.resultTypes.size)[j]? = some r → Value.okWide P W' .any 0 t r) :
    s.post enc P f apart fresh handsOn again W args v W' := by
  have nil : ∀ sp : Nat → Bool, ∀ p ∈ ([] : List MemPlace), sp p.block = true := fun sp p h => absurd h List.not_mem_nil
  exact ⟨ds, gs, [], [], [], [], hW, hr _ _ _, ha _ (fun p h => absurd h List.not_mem_nil), hv _ (fun p h => absurd h List.not_mem_nil), kept_quiet q _, fun _ => ⟨hok, _, _, [],
    ⟨[], [], trodAll_append (ha _ (fun p h => absurd h List.not_mem_nil)) (hr _ _ _), hv _ (fun p h => absurd h List.not_mem_nil), rfl, fun b off h => absurd h List.not_mem_nil, fun _ => List.nodup_nil⟩, fun p h => absurd h List.not_mem_nil⟩⟩
end Go.Fx
