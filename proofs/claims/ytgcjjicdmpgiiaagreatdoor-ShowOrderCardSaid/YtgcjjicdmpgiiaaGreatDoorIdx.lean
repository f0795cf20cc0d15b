/- What strings.IndexByte answers, in this program: after the shelf's own templates. No condition. -/
import Derived.Test.YtgcjjicdmpgiiaaGreatDoorDraw
import Derived.Lib.Strings
import Derived.Lib.Slices
import Derived.Lib.Walk
import Derived.Lib.Bytealg
set_option linter.unusedVariables false
namespace Go.Proofs.YtgcjjicdmpgiiaaGreatDoor.kd
open Go

set_option maxHeartbeats 1000000 in
set_option maxRecDepth 100000 in
theorem idxLite (s : ByteArray) (c : Int) (w : World) :
    Calls Tryz.prog 163 #[.string s, .int .u8 c] w fun e w' => e = .returned (.int .i64 (Lib.indexByte s.data.toList c.toNat.toUInt8)) ∧ w' = w := by
  go_enter Tryz.func163, Tryz.ntmps163
  go_wp2
  rw [run_callFunc_extern Tryz.func180 (by kernel_rfl) (by kernel_rfl) (by kernel_rfl) (e := Extern.BytealgIndexByte.indexByte) (by kernel_rfl), Lib.run_indexByteString]
  simp only [Result.andThen]
  rw [Oper.upon_value]
  go_wp2
  go_ret
  exact ⟨rfl, rfl⟩
set_option maxHeartbeats 1000000 in
theorem idx (s : ByteArray) (c : Int) (w : World) :
    Calls Tryz.prog 141 #[.string s, .int .u8 c] w fun e w' => e = .returned (.int .i64 (Lib.indexByte s.data.toList c.toNat.toUInt8)) ∧ w' = w := by
  go_enter Tryz.func141, Tryz.ntmps141
  go_wp2_with (go_at_call 163; refine (idxLite _ _ _).mono ?_; rintro e w' ⟨rfl, rfl⟩)
  go_ret
  exact ⟨rfl, rfl⟩
theorem hasIdx : ∃ fn b, Tryz.prog.funcs[141]? = some fn ∧ fn.body = some b := ⟨Tryz.f141, _, Tryz.func141, rfl⟩
end Go.Proofs.YtgcjjicdmpgiiaaGreatDoor.kd
