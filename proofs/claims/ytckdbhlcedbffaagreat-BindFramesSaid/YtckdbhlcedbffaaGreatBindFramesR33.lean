/- Runs of BindFrames in the kernel, part 33: it answers true at the numbers that each theorem names. No condition but these. Written by program. -/
import Derived.Test.YtckdbhlcedbffaaGreatDrawE
import Derived.Test.YtckdbhlcedbffaaGreatNatE
import Derived.KernelRfl
set_option linter.unusedVariables false
set_option linter.unusedSimpArgs false
set_option maxRecDepth 1000000
set_option maxHeartbeats 100000000
namespace Go.Proofs.YtckdbhlcedbffaaGreat.bindFrames
open Go Go.Sx Go.RowKit
theorem run66 : runK Tryz.prog (natSK 10 nt.natL) 100000 3 [.int .i8 (.a 0 [(0, (-1)), (1, (-10))]), .int .i8 (.a 0 [(2, (-1)), (3, (-10))]), .int .i16 (.a 0 [(4, 1)]), .bool false] ⟨[(0, 9), (1, 9), (0, 9), (1, 9), ((-32768), 32767)], [(0, [(0, (-1)), (1, (-10)), (2, 1), (3, 10)])], []⟩ = true := by kernel_rfl
theorem case66 (a0 : Int) (a1 : Int) (a2 : Int) (w0 : ((-128) ≤ a0 ∧ a0 ≤ 127)) (w1 : ((-128) ≤ a1 ∧ a1 ≤ 127)) (w2 : ((-32768) ≤ a2 ∧ a2 ≤ 32767)) (h0 : (10 ≤ (-a0) ∧ (-a0) ≤ 99)) (h1 : (10 ≤ (-a1) ∧ (-a1) ≤ 99)) (h4 : ((a0 - a1) ≤ 0)) (w : World) : Calls Tryz.prog 3 #[.int .i8 a0, .int .i8 a1, .int .i16 a2, .bool false] w fun e w' => e = .returned (.bool true) ∧ Grown w w' :=
  calls_nat kdE.progOK kdE.mixed nt.natOK nt.natBody (xs := [(-a0) % 10, (-a0) / 10, (-a1) % 10, (-a1) / 10, a2]) run66 (by simp only [boxAll, and_true] <;> omega) (by simp [csAll, evT, rho] <;> omega) (args_cons (rel_int (by simp [KI.ev, evT, rho] <;> omega)) (args_cons (rel_int (by simp [KI.ev, evT, rho] <;> omega)) (args_cons (rel_int (by simp [KI.ev, evT, rho] <;> omega)) (args_cons rel_bool args_nil)))) w
theorem run67 : runK Tryz.prog (natSK 10 nt.natL) 100000 3 [.int .i8 (.a 0 [(0, (-1)), (1, (-10))]), .int .i8 (.a 0 [(2, (-1)), (3, (-10))]), .int .i16 (.a 0 [(4, 1)]), .bool false] ⟨[(0, 9), (1, 9), (0, 9), (1, 9), ((-32768), 32767)], [(1, [(0, 1), (1, 10), (2, (-1)), (3, (-10))])], []⟩ = true := by kernel_rfl
theorem case67 (a0 : Int) (a1 : Int) (a2 : Int) (w0 : ((-128) ≤ a0 ∧ a0 ≤ 127)) (w1 : ((-128) ≤ a1 ∧ a1 ≤ 127)) (w2 : ((-32768) ≤ a2 ∧ a2 ≤ 32767)) (h0 : (10 ≤ (-a0) ∧ (-a0) ≤ 99)) (h1 : (10 ≤ (-a1) ∧ (-a1) ≤ 99)) (h4 : (1 ≤ (a0 - a1))) (w : World) : Calls Tryz.prog 3 #[.int .i8 a0, .int .i8 a1, .int .i16 a2, .bool false] w fun e w' => e = .returned (.bool true) ∧ Grown w w' :=
  calls_nat kdE.progOK kdE.mixed nt.natOK nt.natBody (xs := [(-a0) % 10, (-a0) / 10, (-a1) % 10, (-a1) / 10, a2]) run67 (by simp only [boxAll, and_true] <;> omega) (by simp [csAll, evT, rho] <;> omega) (args_cons (rel_int (by simp [KI.ev, evT, rho] <;> omega)) (args_cons (rel_int (by simp [KI.ev, evT, rho] <;> omega)) (args_cons (rel_int (by simp [KI.ev, evT, rho] <;> omega)) (args_cons rel_bool args_nil)))) w
end Go.Proofs.YtckdbhlcedbffaaGreat.bindFrames
