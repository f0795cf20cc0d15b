/- FwdAll, part 11: runs of the kernel, and what follows of them at all inputs of that part. No condition but these. Written by program. -/
import Derived.Test.YtcjnmphpfdlikaaDrawC
import Derived.Test.YtcjnmphpfdlikaaSumsC
import Derived.Test.YtcjnmphpfdlikaaShortC
import Derived.KernelRfl
set_option linter.unusedVariables false
set_option linter.unusedSimpArgs false
set_option maxRecDepth 1000000
set_option maxHeartbeats 100000000
namespace Go.Proofs.Ytcjnmphpfdlikaa.fwdAll
open Go Go.Sx Go.RowKit Go.Fx Go.Proofs.Ytcjnmphpfdlikaa.fs
theorem fx11 {args : List KV} {cx : Cx} {xs : List Int} {args' : List Value} {T : Tab} (h : runK Try.prog (tabK (fstF sums) T) 100000 4 args cx = true) (hargs : VRels noMap (absL (rho xs) args) args') (w : World) (hT : tabAll (entS sums) (rho xs) T) (h4 : dfAll xs cx.df := by exact trivial) (h1 : boxAll xs cx.box := by simp only [boxAll, and_true, bU, bI, bL] <;> omega) (h2 : csAll xs cx.cs := by first | exact trivial | (simp [csAll, evT, rho, cl, cg] <;> omega)) (h3 : noSv cx.box = true := by rfl) : Calls Try.prog 4 args'.toArray w fun e w' => e = .returned (.bool true) ∧ Grown w w' := calls_tab kdC.progOK kdC.mixed sumsOK sumsBody h h1 h2 h4 hT hargs w (h3 := h3)
theorem run138 (y n : Bool) : RB 11 true 6 4 (.agg [n64 0, n64 1]) (.agg [.int .i64 (.a (-6) [(2, 1)]), .int .i64 (.a (-6) [(3, 1)])]) y n ⟨[bU, bU, (0, 43), (0, 43), (0, 18), bU, bU], [cl 0 1 0, cl 2 3 1, ((-5), [(3, 1)])], [⟨2, .i64, v1 5, .p 44, 2⟩, ⟨2, .i64, v1 6, .p 44, 3⟩]⟩ = true := by cases y <;> cases n <;> kernel_rfl
theorem run139 (y n : Bool) : RB 11 true 6 10 (.agg [n64 0, n64 1]) (.agg [.int .i64 (.a (-6) [(2, 1)]), .int .i64 (.a (-6) [(3, 1)])]) y n ⟨[bU, bU, (0, 43), (0, 43), ((-4294967296), 4294967296), ((-4294967296), 4294967296), ((-4294967296), 4294967296), ((-4294967296), 4294967296), ((-4294967296), 4294967296), ((-4294967296), 4294967296), (0, 18), bU, bU], [cl 0 1 0, cl 2 3 1, ((-5), [(2, 1)]), (6, [(3, (-1))])], [⟨2, .i64, v1 11, .p 44, 2⟩, ⟨2, .i64, v1 12, .p 44, 3⟩, ⟨6, .i64, v1 0, .a (-6) [(3, 1)], 4⟩, ⟨6, .i64, v1 0, .p 0, 5⟩, ⟨6, .i64, v1 0, .p 31, 6⟩, ⟨6, .i64, v1 1, .a (-6) [(3, 1)], 7⟩, ⟨6, .i64, v1 1, .p 0, 8⟩, ⟨6, .i64, v1 1, .p 31, 9⟩]⟩ = true := by cases y <;> cases n <;> kernel_rfl
theorem run140 (y n : Bool) : RB 11 true 6 12 (.agg [n64 0, n64 1]) (.agg [.int .i64 (.a (-6) [(2, 1)]), .int .i64 (.a (-6) [(3, 1)])]) y n ⟨[bU, bU, (0, 43), (0, 43), ((-4294967296), 4294967296), ((-4294967296), 4294967296), ((-4294967296), 4294967296), ((-4294967296), 4294967296), ((-4294967296), 4294967296), ((-4294967296), 4294967296), ((-4294967296), 4294967296), ((-4294967296), 4294967296), (0, 18), bU, bU], [cl 0 1 0, cl 2 3 1, (6, [(2, (-1))])], [⟨2, .i64, v1 13, .p 44, 2⟩, ⟨2, .i64, v1 14, .p 44, 3⟩, ⟨6, .i64, v1 0, .a (-6) [(2, 1)], 4⟩, ⟨6, .i64, v1 0, .a (-6) [(3, 1)], 5⟩, ⟨6, .i64, v1 0, .p 0, 6⟩, ⟨6, .i64, v1 0, .p 31, 7⟩, ⟨6, .i64, v1 1, .a (-6) [(2, 1)], 8⟩, ⟨6, .i64, v1 1, .a (-6) [(3, 1)], 9⟩, ⟨6, .i64, v1 1, .p 0, 10⟩, ⟨6, .i64, v1 1, .p 31, 11⟩]⟩ = true := by cases y <;> cases n <;> kernel_rfl
theorem run141 (y n : Bool) : RB 11 true 6 4 (.agg [n64 0, n64 1]) (.agg [.int .i64 (.a (-6) [(3, 1)]), .int .i64 (.a (-6) [(2, 1)])]) y n ⟨[bU, bU, (0, 43), (0, 43), (0, 18), bU, bU], [cl 0 1 0, cg 2 3 1, ((-5), [(2, 1)])], [⟨2, .i64, v1 5, .p 44, 2⟩, ⟨2, .i64, v1 6, .p 44, 3⟩]⟩ = true := by cases y <;> cases n <;> kernel_rfl
theorem run142 (y n : Bool) : RB 11 true 6 10 (.agg [n64 0, n64 1]) (.agg [.int .i64 (.a (-6) [(3, 1)]), .int .i64 (.a (-6) [(2, 1)])]) y n ⟨[bU, bU, (0, 43), (0, 43), ((-4294967296), 4294967296), ((-4294967296), 4294967296), ((-4294967296), 4294967296), ((-4294967296), 4294967296), ((-4294967296), 4294967296), ((-4294967296), 4294967296), (0, 18), bU, bU], [cl 0 1 0, cg 2 3 1, ((-5), [(3, 1)]), (6, [(2, (-1))])], [⟨2, .i64, v1 11, .p 44, 2⟩, ⟨2, .i64, v1 12, .p 44, 3⟩, ⟨6, .i64, v1 0, .a (-6) [(2, 1)], 4⟩, ⟨6, .i64, v1 0, .p 0, 5⟩, ⟨6, .i64, v1 0, .p 31, 6⟩, ⟨6, .i64, v1 1, .a (-6) [(2, 1)], 7⟩, ⟨6, .i64, v1 1, .p 0, 8⟩, ⟨6, .i64, v1 1, .p 31, 9⟩]⟩ = true := by cases y <;> cases n <;> kernel_rfl
theorem run143 (y n : Bool) : RB 11 true 6 12 (.agg [n64 0, n64 1]) (.agg [.int .i64 (.a (-6) [(3, 1)]), .int .i64 (.a (-6) [(2, 1)])]) y n ⟨[bU, bU, (0, 43), (0, 43), ((-4294967296), 4294967296), ((-4294967296), 4294967296), ((-4294967296), 4294967296), ((-4294967296), 4294967296), ((-4294967296), 4294967296), ((-4294967296), 4294967296), ((-4294967296), 4294967296), ((-4294967296), 4294967296), (0, 18), bU, bU], [cl 0 1 0, cg 2 3 1, (6, [(3, (-1))])], [⟨2, .i64, v1 13, .p 44, 2⟩, ⟨2, .i64, v1 14, .p 44, 3⟩, ⟨6, .i64, v1 0, .a (-6) [(3, 1)], 4⟩, ⟨6, .i64, v1 0, .a (-6) [(2, 1)], 5⟩, ⟨6, .i64, v1 0, .p 0, 6⟩, ⟨6, .i64, v1 0, .p 31, 7⟩, ⟨6, .i64, v1 1, .a (-6) [(3, 1)], 8⟩, ⟨6, .i64, v1 1, .a (-6) [(2, 1)], 9⟩, ⟨6, .i64, v1 1, .p 0, 10⟩, ⟨6, .i64, v1 1, .p 31, 11⟩]⟩ = true := by cases y <;> cases n <;> kernel_rfl
theorem run144 (y n : Bool) : RB 11 true 6 4 (.agg [n64 0, n64 1]) (.agg [.int .i64 (.a (-6) [(2, 1)]), .int .i64 (.a (-6) [(2, 1)])]) y n ⟨[bU, bU, (0, 43), (0, 43), (0, 18), bU, bU], [cl 0 1 0, ((-5), [(2, 1)])], [⟨2, .i64, v1 5, .p 44, 2⟩, ⟨2, .i64, v1 6, .p 44, 2⟩]⟩ = true := by cases y <;> cases n <;> kernel_rfl
theorem run145 (y n : Bool) : RB 11 true 6 10 (.agg [n64 0, n64 1]) (.agg [.int .i64 (.a (-6) [(2, 1)]), .int .i64 (.a (-6) [(2, 1)])]) y n ⟨[bU, bU, (0, 43), (0, 43), ((-4294967296), 4294967296), ((-4294967296), 4294967296), ((-4294967296), 4294967296), ((-4294967296), 4294967296), ((-4294967296), 4294967296), ((-4294967296), 4294967296), (0, 18), bU, bU], [cl 0 1 0, (6, [(2, (-1))])], [⟨2, .i64, v1 11, .p 44, 2⟩, ⟨2, .i64, v1 12, .p 44, 2⟩, ⟨6, .i64, v1 0, .a (-6) [(2, 1)], 4⟩, ⟨6, .i64, v1 0, .p 0, 5⟩, ⟨6, .i64, v1 0, .p 31, 6⟩, ⟨6, .i64, v1 1, .a (-6) [(2, 1)], 7⟩, ⟨6, .i64, v1 1, .p 0, 8⟩, ⟨6, .i64, v1 1, .p 31, 9⟩]⟩ = true := by cases y <;> cases n <;> kernel_rfl
theorem run146 (y n : Bool) : RB 11 false 5 4 (.agg [n64 0, n64 1]) (.agg [.int .i64 (.a (-6) [(2, 1)]), .int .i64 (.a (-6) [(3, 1)])]) y n ⟨[bI, bI, (0, 43), (0, 43), (0, 18), bU, bU], [cl 0 1 0, cl 2 3 1, (0, [(0, (-1))]), ((-5), [(3, 1)])], [⟨2, .i64, v1 5, .p 44, 2⟩, ⟨2, .i64, v1 6, .p 44, 3⟩]⟩ = true := by cases y <;> cases n <;> kernel_rfl
theorem run147 (y n : Bool) : RB 11 false 5 10 (.agg [n64 0, n64 1]) (.agg [.int .i64 (.a (-6) [(2, 1)]), .int .i64 (.a (-6) [(3, 1)])]) y n ⟨[bI, bI, (0, 43), (0, 43), ((-4294967296), 4294967296), ((-4294967296), 4294967296), ((-4294967296), 4294967296), ((-4294967296), 4294967296), ((-4294967296), 4294967296), ((-4294967296), 4294967296), (0, 18), bU, bU], [cl 0 1 0, cl 2 3 1, (0, [(0, (-1))]), ((-5), [(2, 1)]), (6, [(3, (-1))])], [⟨2, .i64, v1 11, .p 44, 2⟩, ⟨2, .i64, v1 12, .p 44, 3⟩, ⟨6, .i64, v1 0, .a (-6) [(3, 1)], 4⟩, ⟨6, .i64, v1 0, .p 0, 5⟩, ⟨6, .i64, v1 0, .p 31, 6⟩, ⟨6, .i64, v1 1, .a (-6) [(3, 1)], 7⟩, ⟨6, .i64, v1 1, .p 0, 8⟩, ⟨6, .i64, v1 1, .p 31, 9⟩]⟩ = true := by cases y <;> cases n <;> kernel_rfl
theorem run148 (y n : Bool) : RB 11 false 5 12 (.agg [n64 0, n64 1]) (.agg [.int .i64 (.a (-6) [(2, 1)]), .int .i64 (.a (-6) [(3, 1)])]) y n ⟨[bI, bI, (0, 43), (0, 43), ((-4294967296), 4294967296), ((-4294967296), 4294967296), ((-4294967296), 4294967296), ((-4294967296), 4294967296), ((-4294967296), 4294967296), ((-4294967296), 4294967296), ((-4294967296), 4294967296), ((-4294967296), 4294967296), (0, 18), bU, bU], [cl 0 1 0, cl 2 3 1, (0, [(0, (-1))]), (6, [(2, (-1))])], [⟨2, .i64, v1 13, .p 44, 2⟩, ⟨2, .i64, v1 14, .p 44, 3⟩, ⟨6, .i64, v1 0, .a (-6) [(2, 1)], 4⟩, ⟨6, .i64, v1 0, .a (-6) [(3, 1)], 5⟩, ⟨6, .i64, v1 0, .p 0, 6⟩, ⟨6, .i64, v1 0, .p 31, 7⟩, ⟨6, .i64, v1 1, .a (-6) [(2, 1)], 8⟩, ⟨6, .i64, v1 1, .a (-6) [(3, 1)], 9⟩, ⟨6, .i64, v1 1, .p 0, 10⟩, ⟨6, .i64, v1 1, .p 31, 11⟩]⟩ = true := by cases y <;> cases n <;> kernel_rfl
theorem run149 (y n : Bool) : RB 11 false 5 4 (.agg [n64 0, n64 1]) (.agg [.int .i64 (.a (-6) [(3, 1)]), .int .i64 (.a (-6) [(2, 1)])]) y n ⟨[bI, bI, (0, 43), (0, 43), (0, 18), bU, bU], [cl 0 1 0, cg 2 3 1, (0, [(0, (-1))]), ((-5), [(2, 1)])], [⟨2, .i64, v1 5, .p 44, 2⟩, ⟨2, .i64, v1 6, .p 44, 3⟩]⟩ = true := by cases y <;> cases n <;> kernel_rfl
theorem run150 (y n : Bool) : RB 11 false 5 10 (.agg [n64 0, n64 1]) (.agg [.int .i64 (.a (-6) [(3, 1)]), .int .i64 (.a (-6) [(2, 1)])]) y n ⟨[bI, bI, (0, 43), (0, 43), ((-4294967296), 4294967296), ((-4294967296), 4294967296), ((-4294967296), 4294967296), ((-4294967296), 4294967296), ((-4294967296), 4294967296), ((-4294967296), 4294967296), (0, 18), bU, bU], [cl 0 1 0, cg 2 3 1, (0, [(0, (-1))]), ((-5), [(3, 1)]), (6, [(2, (-1))])], [⟨2, .i64, v1 11, .p 44, 2⟩, ⟨2, .i64, v1 12, .p 44, 3⟩, ⟨6, .i64, v1 0, .a (-6) [(2, 1)], 4⟩, ⟨6, .i64, v1 0, .p 0, 5⟩, ⟨6, .i64, v1 0, .p 31, 6⟩, ⟨6, .i64, v1 1, .a (-6) [(2, 1)], 7⟩, ⟨6, .i64, v1 1, .p 0, 8⟩, ⟨6, .i64, v1 1, .p 31, 9⟩]⟩ = true := by cases y <;> cases n <;> kernel_rfl
theorem run151 (y n : Bool) : RB 11 false 5 12 (.agg [n64 0, n64 1]) (.agg [.int .i64 (.a (-6) [(3, 1)]), .int .i64 (.a (-6) [(2, 1)])]) y n ⟨[bI, bI, (0, 43), (0, 43), ((-4294967296), 4294967296), ((-4294967296), 4294967296), ((-4294967296), 4294967296), ((-4294967296), 4294967296), ((-4294967296), 4294967296), ((-4294967296), 4294967296), ((-4294967296), 4294967296), ((-4294967296), 4294967296), (0, 18), bU, bU], [cl 0 1 0, cg 2 3 1, (0, [(0, (-1))]), (6, [(3, (-1))])], [⟨2, .i64, v1 13, .p 44, 2⟩, ⟨2, .i64, v1 14, .p 44, 3⟩, ⟨6, .i64, v1 0, .a (-6) [(3, 1)], 4⟩, ⟨6, .i64, v1 0, .a (-6) [(2, 1)], 5⟩, ⟨6, .i64, v1 0, .p 0, 6⟩, ⟨6, .i64, v1 0, .p 31, 7⟩, ⟨6, .i64, v1 1, .a (-6) [(3, 1)], 8⟩, ⟨6, .i64, v1 1, .a (-6) [(2, 1)], 9⟩, ⟨6, .i64, v1 1, .p 0, 10⟩, ⟨6, .i64, v1 1, .p 31, 11⟩]⟩ = true := by cases y <;> cases n <;> kernel_rfl
theorem run152 (y n : Bool) : RB 11 false 5 4 (.agg [n64 0, n64 1]) (.agg [.int .i64 (.a (-6) [(2, 1)]), .int .i64 (.a (-6) [(2, 1)])]) y n ⟨[bI, bI, (0, 43), (0, 43), (0, 18), bU, bU], [cl 0 1 0, (0, [(0, (-1))]), ((-5), [(2, 1)])], [⟨2, .i64, v1 5, .p 44, 2⟩, ⟨2, .i64, v1 6, .p 44, 2⟩]⟩ = true := by cases y <;> cases n <;> kernel_rfl
theorem run153 (y n : Bool) : RB 11 false 5 10 (.agg [n64 0, n64 1]) (.agg [.int .i64 (.a (-6) [(2, 1)]), .int .i64 (.a (-6) [(2, 1)])]) y n ⟨[bI, bI, (0, 43), (0, 43), ((-4294967296), 4294967296), ((-4294967296), 4294967296), ((-4294967296), 4294967296), ((-4294967296), 4294967296), ((-4294967296), 4294967296), ((-4294967296), 4294967296), (0, 18), bU, bU], [cl 0 1 0, (0, [(0, (-1))]), (6, [(2, (-1))])], [⟨2, .i64, v1 11, .p 44, 2⟩, ⟨2, .i64, v1 12, .p 44, 2⟩, ⟨6, .i64, v1 0, .a (-6) [(2, 1)], 4⟩, ⟨6, .i64, v1 0, .p 0, 5⟩, ⟨6, .i64, v1 0, .p 31, 6⟩, ⟨6, .i64, v1 1, .a (-6) [(2, 1)], 7⟩, ⟨6, .i64, v1 1, .p 0, 8⟩, ⟨6, .i64, v1 1, .p 31, 9⟩]⟩ = true := by cases y <;> cases n <;> kernel_rfl
theorem run154 (y n : Bool) : RB 11 false 5 4 (.agg [n64 0, n64 1]) (.agg [.int .i64 (.a (-6) [(2, 1)]), .int .i64 (.a (-6) [(3, 1)])]) y n ⟨[bI, bI, (0, 43), (0, 43), (0, 18), bU, bU], [cl 0 1 0, cl 2 3 1, (1, [(1, 1)]), ((-5), [(3, 1)])], [⟨2, .i64, v1 5, .p 44, 2⟩, ⟨2, .i64, v1 6, .p 44, 3⟩]⟩ = true := by cases y <;> cases n <;> kernel_rfl
theorem run155 (y n : Bool) : RB 11 false 5 10 (.agg [n64 0, n64 1]) (.agg [.int .i64 (.a (-6) [(2, 1)]), .int .i64 (.a (-6) [(3, 1)])]) y n ⟨[bI, bI, (0, 43), (0, 43), ((-4294967296), 4294967296), ((-4294967296), 4294967296), ((-4294967296), 4294967296), ((-4294967296), 4294967296), ((-4294967296), 4294967296), ((-4294967296), 4294967296), (0, 18), bU, bU], [cl 0 1 0, cl 2 3 1, (1, [(1, 1)]), ((-5), [(2, 1)]), (6, [(3, (-1))])], [⟨2, .i64, v1 11, .p 44, 2⟩, ⟨2, .i64, v1 12, .p 44, 3⟩, ⟨6, .i64, v1 0, .a (-6) [(3, 1)], 4⟩, ⟨6, .i64, v1 0, .p 0, 5⟩, ⟨6, .i64, v1 0, .p 31, 6⟩, ⟨6, .i64, v1 1, .a (-6) [(3, 1)], 7⟩, ⟨6, .i64, v1 1, .p 0, 8⟩, ⟨6, .i64, v1 1, .p 31, 9⟩]⟩ = true := by cases y <;> cases n <;> kernel_rfl
theorem run156 (y n : Bool) : RB 11 false 5 12 (.agg [n64 0, n64 1]) (.agg [.int .i64 (.a (-6) [(2, 1)]), .int .i64 (.a (-6) [(3, 1)])]) y n ⟨[bI, bI, (0, 43), (0, 43), ((-4294967296), 4294967296), ((-4294967296), 4294967296), ((-4294967296), 4294967296), ((-4294967296), 4294967296), ((-4294967296), 4294967296), ((-4294967296), 4294967296), ((-4294967296), 4294967296), ((-4294967296), 4294967296), (0, 18), bU, bU], [cl 0 1 0, cl 2 3 1, (1, [(1, 1)]), (6, [(2, (-1))])], [⟨2, .i64, v1 13, .p 44, 2⟩, ⟨2, .i64, v1 14, .p 44, 3⟩, ⟨6, .i64, v1 0, .a (-6) [(2, 1)], 4⟩, ⟨6, .i64, v1 0, .a (-6) [(3, 1)], 5⟩, ⟨6, .i64, v1 0, .p 0, 6⟩, ⟨6, .i64, v1 0, .p 31, 7⟩, ⟨6, .i64, v1 1, .a (-6) [(2, 1)], 8⟩, ⟨6, .i64, v1 1, .a (-6) [(3, 1)], 9⟩, ⟨6, .i64, v1 1, .p 0, 10⟩, ⟨6, .i64, v1 1, .p 31, 11⟩]⟩ = true := by cases y <;> cases n <;> kernel_rfl
theorem run157 (y n : Bool) : RB 11 false 5 4 (.agg [n64 0, n64 1]) (.agg [.int .i64 (.a (-6) [(3, 1)]), .int .i64 (.a (-6) [(2, 1)])]) y n ⟨[bI, bI, (0, 43), (0, 43), (0, 18), bU, bU], [cl 0 1 0, cg 2 3 1, (1, [(1, 1)]), ((-5), [(2, 1)])], [⟨2, .i64, v1 5, .p 44, 2⟩, ⟨2, .i64, v1 6, .p 44, 3⟩]⟩ = true := by cases y <;> cases n <;> kernel_rfl
theorem run158 (y n : Bool) : RB 11 false 5 10 (.agg [n64 0, n64 1]) (.agg [.int .i64 (.a (-6) [(3, 1)]), .int .i64 (.a (-6) [(2, 1)])]) y n ⟨[bI, bI, (0, 43), (0, 43), ((-4294967296), 4294967296), ((-4294967296), 4294967296), ((-4294967296), 4294967296), ((-4294967296), 4294967296), ((-4294967296), 4294967296), ((-4294967296), 4294967296), (0, 18), bU, bU], [cl 0 1 0, cg 2 3 1, (1, [(1, 1)]), ((-5), [(3, 1)]), (6, [(2, (-1))])], [⟨2, .i64, v1 11, .p 44, 2⟩, ⟨2, .i64, v1 12, .p 44, 3⟩, ⟨6, .i64, v1 0, .a (-6) [(2, 1)], 4⟩, ⟨6, .i64, v1 0, .p 0, 5⟩, ⟨6, .i64, v1 0, .p 31, 6⟩, ⟨6, .i64, v1 1, .a (-6) [(2, 1)], 7⟩, ⟨6, .i64, v1 1, .p 0, 8⟩, ⟨6, .i64, v1 1, .p 31, 9⟩]⟩ = true := by cases y <;> cases n <;> kernel_rfl
theorem run159 (y n : Bool) : RB 11 false 5 12 (.agg [n64 0, n64 1]) (.agg [.int .i64 (.a (-6) [(3, 1)]), .int .i64 (.a (-6) [(2, 1)])]) y n ⟨[bI, bI, (0, 43), (0, 43), ((-4294967296), 4294967296), ((-4294967296), 4294967296), ((-4294967296), 4294967296), ((-4294967296), 4294967296), ((-4294967296), 4294967296), ((-4294967296), 4294967296), ((-4294967296), 4294967296), ((-4294967296), 4294967296), (0, 18), bU, bU], [cl 0 1 0, cg 2 3 1, (1, [(1, 1)]), (6, [(3, (-1))])], [⟨2, .i64, v1 13, .p 44, 2⟩, ⟨2, .i64, v1 14, .p 44, 3⟩, ⟨6, .i64, v1 0, .a (-6) [(3, 1)], 4⟩, ⟨6, .i64, v1 0, .a (-6) [(2, 1)], 5⟩, ⟨6, .i64, v1 0, .p 0, 6⟩, ⟨6, .i64, v1 0, .p 31, 7⟩, ⟨6, .i64, v1 1, .a (-6) [(3, 1)], 8⟩, ⟨6, .i64, v1 1, .a (-6) [(2, 1)], 9⟩, ⟨6, .i64, v1 1, .p 0, 10⟩, ⟨6, .i64, v1 1, .p 31, 11⟩]⟩ = true := by cases y <;> cases n <;> kernel_rfl
theorem run160 (y n : Bool) : RB 11 false 5 4 (.agg [n64 0, n64 1]) (.agg [.int .i64 (.a (-6) [(2, 1)]), .int .i64 (.a (-6) [(2, 1)])]) y n ⟨[bI, bI, (0, 43), (0, 43), (0, 18), bU, bU], [cl 0 1 0, (1, [(1, 1)]), ((-5), [(2, 1)])], [⟨2, .i64, v1 5, .p 44, 2⟩, ⟨2, .i64, v1 6, .p 44, 2⟩]⟩ = true := by cases y <;> cases n <;> kernel_rfl
theorem run161 (y n : Bool) : RB 11 false 5 10 (.agg [n64 0, n64 1]) (.agg [.int .i64 (.a (-6) [(2, 1)]), .int .i64 (.a (-6) [(2, 1)])]) y n ⟨[bI, bI, (0, 43), (0, 43), ((-4294967296), 4294967296), ((-4294967296), 4294967296), ((-4294967296), 4294967296), ((-4294967296), 4294967296), ((-4294967296), 4294967296), ((-4294967296), 4294967296), (0, 18), bU, bU], [cl 0 1 0, (1, [(1, 1)]), (6, [(2, (-1))])], [⟨2, .i64, v1 11, .p 44, 2⟩, ⟨2, .i64, v1 12, .p 44, 2⟩, ⟨6, .i64, v1 0, .a (-6) [(2, 1)], 4⟩, ⟨6, .i64, v1 0, .p 0, 5⟩, ⟨6, .i64, v1 0, .p 31, 6⟩, ⟨6, .i64, v1 1, .a (-6) [(2, 1)], 7⟩, ⟨6, .i64, v1 1, .p 0, 8⟩, ⟨6, .i64, v1 1, .p 31, 9⟩]⟩ = true := by cases y <;> cases n <;> kernel_rfl
theorem run162 (y n : Bool) : RB 11 false 5 4 (.agg [n64 0, n64 1]) (.agg [.int .i64 (.a (-6) [(2, 1)]), .int .i64 (.a (-6) [(3, 1)])]) y n ⟨[bI, bI, (0, 43), (0, 43), (0, 18), bU, bU], [cl 0 1 0, cl 2 3 1, (1, [(0, 1)]), (0, [(1, (-1))]), ((-5), [(3, 1)])], [⟨2, .i64, v1 5, .p 44, 2⟩, ⟨2, .i64, v1 6, .p 44, 3⟩]⟩ = true := by cases y <;> cases n <;> kernel_rfl
theorem run163 (y n : Bool) : RB 11 false 5 10 (.agg [n64 0, n64 1]) (.agg [.int .i64 (.a (-6) [(2, 1)]), .int .i64 (.a (-6) [(3, 1)])]) y n ⟨[bI, bI, (0, 43), (0, 43), ((-4294967296), 4294967296), ((-4294967296), 4294967296), ((-4294967296), 4294967296), ((-4294967296), 4294967296), ((-4294967296), 4294967296), ((-4294967296), 4294967296), (0, 18), bU, bU], [cl 0 1 0, cl 2 3 1, (1, [(0, 1)]), (0, [(1, (-1))]), ((-5), [(2, 1)]), (6, [(3, (-1))])], [⟨2, .i64, v1 11, .p 44, 2⟩, ⟨2, .i64, v1 12, .p 44, 3⟩, ⟨6, .i64, v1 0, .a (-6) [(3, 1)], 4⟩, ⟨6, .i64, v1 0, .p 0, 5⟩, ⟨6, .i64, v1 0, .p 31, 6⟩, ⟨6, .i64, v1 1, .a (-6) [(3, 1)], 7⟩, ⟨6, .i64, v1 1, .p 0, 8⟩, ⟨6, .i64, v1 1, .p 31, 9⟩]⟩ = true := by cases y <;> cases n <;> kernel_rfl
theorem run164 (y n : Bool) : RB 11 false 5 12 (.agg [n64 0, n64 1]) (.agg [.int .i64 (.a (-6) [(2, 1)]), .int .i64 (.a (-6) [(3, 1)])]) y n ⟨[bI, bI, (0, 43), (0, 43), ((-4294967296), 4294967296), ((-4294967296), 4294967296), ((-4294967296), 4294967296), ((-4294967296), 4294967296), ((-4294967296), 4294967296), ((-4294967296), 4294967296), ((-4294967296), 4294967296), ((-4294967296), 4294967296), (0, 18), bU, bU], [cl 0 1 0, cl 2 3 1, (1, [(0, 1)]), (0, [(1, (-1))]), (6, [(2, (-1))])], [⟨2, .i64, v1 13, .p 44, 2⟩, ⟨2, .i64, v1 14, .p 44, 3⟩, ⟨6, .i64, v1 0, .a (-6) [(2, 1)], 4⟩, ⟨6, .i64, v1 0, .a (-6) [(3, 1)], 5⟩, ⟨6, .i64, v1 0, .p 0, 6⟩, ⟨6, .i64, v1 0, .p 31, 7⟩, ⟨6, .i64, v1 1, .a (-6) [(2, 1)], 8⟩, ⟨6, .i64, v1 1, .a (-6) [(3, 1)], 9⟩, ⟨6, .i64, v1 1, .p 0, 10⟩, ⟨6, .i64, v1 1, .p 31, 11⟩]⟩ = true := by cases y <;> cases n <;> kernel_rfl
theorem run165 (y n : Bool) : RB 11 false 5 4 (.agg [n64 0, n64 1]) (.agg [.int .i64 (.a (-6) [(3, 1)]), .int .i64 (.a (-6) [(2, 1)])]) y n ⟨[bI, bI, (0, 43), (0, 43), (0, 18), bU, bU], [cl 0 1 0, cg 2 3 1, (1, [(0, 1)]), (0, [(1, (-1))]), ((-5), [(2, 1)])], [⟨2, .i64, v1 5, .p 44, 2⟩, ⟨2, .i64, v1 6, .p 44, 3⟩]⟩ = true := by cases y <;> cases n <;> kernel_rfl
theorem run166 (y n : Bool) : RB 11 false 5 10 (.agg [n64 0, n64 1]) (.agg [.int .i64 (.a (-6) [(3, 1)]), .int .i64 (.a (-6) [(2, 1)])]) y n ⟨[bI, bI, (0, 43), (0, 43), ((-4294967296), 4294967296), ((-4294967296), 4294967296), ((-4294967296), 4294967296), ((-4294967296), 4294967296), ((-4294967296), 4294967296), ((-4294967296), 4294967296), (0, 18), bU, bU], [cl 0 1 0, cg 2 3 1, (1, [(0, 1)]), (0, [(1, (-1))]), ((-5), [(3, 1)]), (6, [(2, (-1))])], [⟨2, .i64, v1 11, .p 44, 2⟩, ⟨2, .i64, v1 12, .p 44, 3⟩, ⟨6, .i64, v1 0, .a (-6) [(2, 1)], 4⟩, ⟨6, .i64, v1 0, .p 0, 5⟩, ⟨6, .i64, v1 0, .p 31, 6⟩, ⟨6, .i64, v1 1, .a (-6) [(2, 1)], 7⟩, ⟨6, .i64, v1 1, .p 0, 8⟩, ⟨6, .i64, v1 1, .p 31, 9⟩]⟩ = true := by cases y <;> cases n <;> kernel_rfl
theorem run167 (y n : Bool) : RB 11 false 5 12 (.agg [n64 0, n64 1]) (.agg [.int .i64 (.a (-6) [(3, 1)]), .int .i64 (.a (-6) [(2, 1)])]) y n ⟨[bI, bI, (0, 43), (0, 43), ((-4294967296), 4294967296), ((-4294967296), 4294967296), ((-4294967296), 4294967296), ((-4294967296), 4294967296), ((-4294967296), 4294967296), ((-4294967296), 4294967296), ((-4294967296), 4294967296), ((-4294967296), 4294967296), (0, 18), bU, bU], [cl 0 1 0, cg 2 3 1, (1, [(0, 1)]), (0, [(1, (-1))]), (6, [(3, (-1))])], [⟨2, .i64, v1 13, .p 44, 2⟩, ⟨2, .i64, v1 14, .p 44, 3⟩, ⟨6, .i64, v1 0, .a (-6) [(3, 1)], 4⟩, ⟨6, .i64, v1 0, .a (-6) [(2, 1)], 5⟩, ⟨6, .i64, v1 0, .p 0, 6⟩, ⟨6, .i64, v1 0, .p 31, 7⟩, ⟨6, .i64, v1 1, .a (-6) [(3, 1)], 8⟩, ⟨6, .i64, v1 1, .a (-6) [(2, 1)], 9⟩, ⟨6, .i64, v1 1, .p 0, 10⟩, ⟨6, .i64, v1 1, .p 31, 11⟩]⟩ = true := by cases y <;> cases n <;> kernel_rfl
theorem run168 (y n : Bool) : RB 11 false 5 4 (.agg [n64 0, n64 1]) (.agg [.int .i64 (.a (-6) [(2, 1)]), .int .i64 (.a (-6) [(2, 1)])]) y n ⟨[bI, bI, (0, 43), (0, 43), (0, 18), bU, bU], [cl 0 1 0, (1, [(0, 1)]), (0, [(1, (-1))]), ((-5), [(2, 1)])], [⟨2, .i64, v1 5, .p 44, 2⟩, ⟨2, .i64, v1 6, .p 44, 2⟩]⟩ = true := by cases y <;> cases n <;> kernel_rfl
theorem run169 (y n : Bool) : RB 11 false 5 10 (.agg [n64 0, n64 1]) (.agg [.int .i64 (.a (-6) [(2, 1)]), .int .i64 (.a (-6) [(2, 1)])]) y n ⟨[bI, bI, (0, 43), (0, 43), ((-4294967296), 4294967296), ((-4294967296), 4294967296), ((-4294967296), 4294967296), ((-4294967296), 4294967296), ((-4294967296), 4294967296), ((-4294967296), 4294967296), (0, 18), bU, bU], [cl 0 1 0, (1, [(0, 1)]), (0, [(1, (-1))]), (6, [(2, (-1))])], [⟨2, .i64, v1 11, .p 44, 2⟩, ⟨2, .i64, v1 12, .p 44, 2⟩, ⟨6, .i64, v1 0, .a (-6) [(2, 1)], 4⟩, ⟨6, .i64, v1 0, .p 0, 5⟩, ⟨6, .i64, v1 0, .p 31, 6⟩, ⟨6, .i64, v1 1, .a (-6) [(2, 1)], 7⟩, ⟨6, .i64, v1 1, .p 0, 8⟩, ⟨6, .i64, v1 1, .p 31, 9⟩]⟩ = true := by cases y <;> cases n <;> kernel_rfl
theorem op11 {a0 a2 a3 a4 a5 a6 a7 a8 : Int} (r0 : 0 ≤ a0 ∧ a0 ≤ 255) (r2 : 0 ≤ a2 ∧ a2 ≤ 4294967295) (r3 : 0 ≤ a3 ∧ a3 ≤ 4294967295) (r4 : 0 ≤ a4 ∧ a4 ≤ 4294967295) (r5 : 0 ≤ a5 ∧ a5 ≤ 4294967295) (r6 : 0 ≤ a6 ∧ a6 ≤ 255) (r7 : 0 ≤ a7 ∧ a7 ≤ 255) (r8 : (-9223372036854775808) ≤ a8 ∧ a8 ≤ 9223372036854775807) (a1 : Bool) (hk : a0 % 13 = 11) (w : World) : Calls Try.prog 4 #[.int .u8 a0, .bool a1, .int .u32 a2, .int .u32 a3, .int .u32 a4, .int .u32 a5, .int .u8 a6, .int .u8 a7, .int .i64 a8] w fun e w' => e = .returned (.bool true) ∧ Grown w w' := by
  cases a1 with
  | true =>
    obtain ⟨xl, xh, hx, x1, x2, x3⟩ := ends6 (a := a2) (b := a4) (far := a6) (by omega) (by omega) (by omega)
    obtain ⟨yl, eb, y1, y2⟩ : ∃ z, dfV 2 .i64 a3 44 = some z ∧ 0 ≤ z ∧ z ≤ 43 := ⟨_, remAny 44 (by omega) (by omega), by omega, by omega⟩
    obtain ⟨yh, ed, y3, y4⟩ : ∃ z, dfV 2 .i64 a5 44 = some z ∧ 0 ≤ z ∧ z ≤ 43 := ⟨_, remAny 44 (by omega) (by omega), by omega, by omega⟩
    rcases (show (yl < yh) ∨ (yh < yl) ∨ (yl = yh) by omega) with h0 | h0 | h0
    · rcases (show (yh ≤ 5) ∨ (yl ≤ 5 ∧ 6 ≤ yh) ∨ (6 ≤ yl) by omega) with h1 | h1 | h1
      · exact fx11 (xs := [xl, xh, yl, yh, a0 / 13, a3, a5, a2, a4, a6, a7, a8]) (run138 (relY a8 xl xh (-6 + yl) (-6 + yh)) (relN a8 xl xh (-6 + yl) (-6 + yh))) aB w (hT := ⟨awakeS, hS hx, hS (fS a8 xl xh (-6 + yl) (-6 + yh)), hS (rS a8 xl xh (-6 + yl) (-6 + yh)), trivial⟩) (h4 := ⟨dP eb, dP ed, trivial⟩)
      · obtain ⟨z0, e0, gz0a, gz0b⟩ := shrAny (x := xl) (y := (-6 + yh)) (by omega) (by omega)
        obtain ⟨z1, e1, gz1a, gz1b⟩ := shrAny (x := xl) (y := 0) (by omega) (by omega)
        obtain ⟨z2, e2, gz2a, gz2b⟩ := shrAny (x := xl) (y := 31) (by omega) (by omega)
        obtain ⟨z3, e3, gz3a, gz3b⟩ := shrAny (x := xh) (y := (-6 + yh)) (by omega) (by omega)
        obtain ⟨z4, e4, gz4a, gz4b⟩ := shrAny (x := xh) (y := 0) (by omega) (by omega)
        obtain ⟨z5, e5, gz5a, gz5b⟩ := shrAny (x := xh) (y := 31) (by omega) (by omega)
        exact fx11 (xs := [xl, xh, yl, yh, z0, z1, z2, z3, z4, z5, a0 / 13, a3, a5, a2, a4, a6, a7, a8]) (run139 (relY a8 xl xh (-6 + yl) (-6 + yh)) (relN a8 xl xh (-6 + yl) (-6 + yh))) aB w (hT := ⟨awakeS, hS hx, hS (fS a8 xl xh (-6 + yl) (-6 + yh)), hS (rS a8 xl xh (-6 + yl) (-6 + yh)), trivial⟩) (h4 := ⟨dP eb, dP ed, dP e0, dP e1, dP e2, dP e3, dP e4, dP e5, trivial⟩)
      · obtain ⟨z0, e0, gz0a, gz0b⟩ := shrAny (x := xl) (y := (-6 + yl)) (by omega) (by omega)
        obtain ⟨z1, e1, gz1a, gz1b⟩ := shrAny (x := xl) (y := (-6 + yh)) (by omega) (by omega)
        obtain ⟨z2, e2, gz2a, gz2b⟩ := shrAny (x := xl) (y := 0) (by omega) (by omega)
        obtain ⟨z3, e3, gz3a, gz3b⟩ := shrAny (x := xl) (y := 31) (by omega) (by omega)
        obtain ⟨z4, e4, gz4a, gz4b⟩ := shrAny (x := xh) (y := (-6 + yl)) (by omega) (by omega)
        obtain ⟨z5, e5, gz5a, gz5b⟩ := shrAny (x := xh) (y := (-6 + yh)) (by omega) (by omega)
        obtain ⟨z6, e6, gz6a, gz6b⟩ := shrAny (x := xh) (y := 0) (by omega) (by omega)
        obtain ⟨z7, e7, gz7a, gz7b⟩ := shrAny (x := xh) (y := 31) (by omega) (by omega)
        exact fx11 (xs := [xl, xh, yl, yh, z0, z1, z2, z3, z4, z5, z6, z7, a0 / 13, a3, a5, a2, a4, a6, a7, a8]) (run140 (relY a8 xl xh (-6 + yl) (-6 + yh)) (relN a8 xl xh (-6 + yl) (-6 + yh))) aB w (hT := ⟨awakeS, hS hx, hS (fS a8 xl xh (-6 + yl) (-6 + yh)), hS (rS a8 xl xh (-6 + yl) (-6 + yh)), trivial⟩) (h4 := ⟨dP eb, dP ed, dP e0, dP e1, dP e2, dP e3, dP e4, dP e5, dP e6, dP e7, trivial⟩)
    · rcases (show (yl ≤ 5) ∨ (yh ≤ 5 ∧ 6 ≤ yl) ∨ (6 ≤ yh) by omega) with h1 | h1 | h1
      · exact fx11 (xs := [xl, xh, yl, yh, a0 / 13, a3, a5, a2, a4, a6, a7, a8]) (run141 (relY a8 xl xh (-6 + yh) (-6 + yl)) (relN a8 xl xh (-6 + yh) (-6 + yl))) aB w (hT := ⟨awakeS, hS hx, hS (fS a8 xl xh (-6 + yh) (-6 + yl)), hS (rS a8 xl xh (-6 + yh) (-6 + yl)), trivial⟩) (h4 := ⟨dP eb, dP ed, trivial⟩)
      · obtain ⟨z0, e0, gz0a, gz0b⟩ := shrAny (x := xl) (y := (-6 + yl)) (by omega) (by omega)
        obtain ⟨z1, e1, gz1a, gz1b⟩ := shrAny (x := xl) (y := 0) (by omega) (by omega)
        obtain ⟨z2, e2, gz2a, gz2b⟩ := shrAny (x := xl) (y := 31) (by omega) (by omega)
        obtain ⟨z3, e3, gz3a, gz3b⟩ := shrAny (x := xh) (y := (-6 + yl)) (by omega) (by omega)
        obtain ⟨z4, e4, gz4a, gz4b⟩ := shrAny (x := xh) (y := 0) (by omega) (by omega)
        obtain ⟨z5, e5, gz5a, gz5b⟩ := shrAny (x := xh) (y := 31) (by omega) (by omega)
        exact fx11 (xs := [xl, xh, yl, yh, z0, z1, z2, z3, z4, z5, a0 / 13, a3, a5, a2, a4, a6, a7, a8]) (run142 (relY a8 xl xh (-6 + yh) (-6 + yl)) (relN a8 xl xh (-6 + yh) (-6 + yl))) aB w (hT := ⟨awakeS, hS hx, hS (fS a8 xl xh (-6 + yh) (-6 + yl)), hS (rS a8 xl xh (-6 + yh) (-6 + yl)), trivial⟩) (h4 := ⟨dP eb, dP ed, dP e0, dP e1, dP e2, dP e3, dP e4, dP e5, trivial⟩)
      · obtain ⟨z0, e0, gz0a, gz0b⟩ := shrAny (x := xl) (y := (-6 + yh)) (by omega) (by omega)
        obtain ⟨z1, e1, gz1a, gz1b⟩ := shrAny (x := xl) (y := (-6 + yl)) (by omega) (by omega)
        obtain ⟨z2, e2, gz2a, gz2b⟩ := shrAny (x := xl) (y := 0) (by omega) (by omega)
        obtain ⟨z3, e3, gz3a, gz3b⟩ := shrAny (x := xl) (y := 31) (by omega) (by omega)
        obtain ⟨z4, e4, gz4a, gz4b⟩ := shrAny (x := xh) (y := (-6 + yh)) (by omega) (by omega)
        obtain ⟨z5, e5, gz5a, gz5b⟩ := shrAny (x := xh) (y := (-6 + yl)) (by omega) (by omega)
        obtain ⟨z6, e6, gz6a, gz6b⟩ := shrAny (x := xh) (y := 0) (by omega) (by omega)
        obtain ⟨z7, e7, gz7a, gz7b⟩ := shrAny (x := xh) (y := 31) (by omega) (by omega)
        exact fx11 (xs := [xl, xh, yl, yh, z0, z1, z2, z3, z4, z5, z6, z7, a0 / 13, a3, a5, a2, a4, a6, a7, a8]) (run143 (relY a8 xl xh (-6 + yh) (-6 + yl)) (relN a8 xl xh (-6 + yh) (-6 + yl))) aB w (hT := ⟨awakeS, hS hx, hS (fS a8 xl xh (-6 + yh) (-6 + yl)), hS (rS a8 xl xh (-6 + yh) (-6 + yl)), trivial⟩) (h4 := ⟨dP eb, dP ed, dP e0, dP e1, dP e2, dP e3, dP e4, dP e5, dP e6, dP e7, trivial⟩)
    · obtain rfl : yl = yh := by omega
      rcases (show (yl ≤ 5) ∨ (6 ≤ yl) by omega) with h1 | h1
      · exact fx11 (xs := [xl, xh, yl, yl, a0 / 13, a3, a5, a2, a4, a6, a7, a8]) (run144 (relY a8 xl xh (-6 + yl) (-6 + yl)) (relN a8 xl xh (-6 + yl) (-6 + yl))) aB w (hT := ⟨awakeS, hS hx, hS (fS a8 xl xh (-6 + yl) (-6 + yl)), hS (rS a8 xl xh (-6 + yl) (-6 + yl)), trivial⟩) (h4 := ⟨dP eb, dP ed, trivial⟩)
      · obtain ⟨z0, e0, gz0a, gz0b⟩ := shrAny (x := xl) (y := (-6 + yl)) (by omega) (by omega)
        obtain ⟨z1, e1, gz1a, gz1b⟩ := shrAny (x := xl) (y := 0) (by omega) (by omega)
        obtain ⟨z2, e2, gz2a, gz2b⟩ := shrAny (x := xl) (y := 31) (by omega) (by omega)
        obtain ⟨z3, e3, gz3a, gz3b⟩ := shrAny (x := xh) (y := (-6 + yl)) (by omega) (by omega)
        obtain ⟨z4, e4, gz4a, gz4b⟩ := shrAny (x := xh) (y := 0) (by omega) (by omega)
        obtain ⟨z5, e5, gz5a, gz5b⟩ := shrAny (x := xh) (y := 31) (by omega) (by omega)
        exact fx11 (xs := [xl, xh, yl, yl, z0, z1, z2, z3, z4, z5, a0 / 13, a3, a5, a2, a4, a6, a7, a8]) (run145 (relY a8 xl xh (-6 + yl) (-6 + yl)) (relN a8 xl xh (-6 + yl) (-6 + yl))) aB w (hT := ⟨awakeS, hS hx, hS (fS a8 xl xh (-6 + yl) (-6 + yl)), hS (rS a8 xl xh (-6 + yl) (-6 + yl)), trivial⟩) (h4 := ⟨dP eb, dP ed, dP e0, dP e1, dP e2, dP e3, dP e4, dP e5, trivial⟩)
  | false =>
    obtain ⟨xl, xh, hx, x1, x2, x3⟩ := ends5 (a := a2) (b := a4) (far := a6) (by omega) (by omega) (by omega)
    obtain ⟨yl, eb, y1, y2⟩ : ∃ z, dfV 2 .i64 a3 44 = some z ∧ 0 ≤ z ∧ z ≤ 43 := ⟨_, remAny 44 (by omega) (by omega), by omega, by omega⟩
    obtain ⟨yh, ed, y3, y4⟩ : ∃ z, dfV 2 .i64 a5 44 = some z ∧ 0 ≤ z ∧ z ≤ 43 := ⟨_, remAny 44 (by omega) (by omega), by omega, by omega⟩
    rcases (show (0 ≤ xl) ∨ (xh ≤ -1) ∨ (xl ≤ -1 ∧ 0 ≤ xh) by omega) with h0 | h0 | h0
    · rcases (show (yl < yh) ∨ (yh < yl) ∨ (yl = yh) by omega) with h1 | h1 | h1
      · rcases (show (yh ≤ 5) ∨ (yl ≤ 5 ∧ 6 ≤ yh) ∨ (6 ≤ yl) by omega) with h2 | h2 | h2
        · exact fx11 (xs := [xl, xh, yl, yh, a0 / 13, a3, a5, a2, a4, a6, a7, a8]) (run146 (relY a8 xl xh (-6 + yl) (-6 + yh)) (relN a8 xl xh (-6 + yl) (-6 + yh))) aB w (hT := ⟨awakeS, hS hx, hS (fS a8 xl xh (-6 + yl) (-6 + yh)), hS (rS a8 xl xh (-6 + yl) (-6 + yh)), trivial⟩) (h4 := ⟨dP eb, dP ed, trivial⟩)
        · obtain ⟨z0, e0, gz0a, gz0b⟩ := shrAny (x := xl) (y := (-6 + yh)) (by omega) (by omega)
          obtain ⟨z1, e1, gz1a, gz1b⟩ := shrAny (x := xl) (y := 0) (by omega) (by omega)
          obtain ⟨z2, e2, gz2a, gz2b⟩ := shrAny (x := xl) (y := 31) (by omega) (by omega)
          obtain ⟨z3, e3, gz3a, gz3b⟩ := shrAny (x := xh) (y := (-6 + yh)) (by omega) (by omega)
          obtain ⟨z4, e4, gz4a, gz4b⟩ := shrAny (x := xh) (y := 0) (by omega) (by omega)
          obtain ⟨z5, e5, gz5a, gz5b⟩ := shrAny (x := xh) (y := 31) (by omega) (by omega)
          exact fx11 (xs := [xl, xh, yl, yh, z0, z1, z2, z3, z4, z5, a0 / 13, a3, a5, a2, a4, a6, a7, a8]) (run147 (relY a8 xl xh (-6 + yl) (-6 + yh)) (relN a8 xl xh (-6 + yl) (-6 + yh))) aB w (hT := ⟨awakeS, hS hx, hS (fS a8 xl xh (-6 + yl) (-6 + yh)), hS (rS a8 xl xh (-6 + yl) (-6 + yh)), trivial⟩) (h4 := ⟨dP eb, dP ed, dP e0, dP e1, dP e2, dP e3, dP e4, dP e5, trivial⟩)
        · obtain ⟨z0, e0, gz0a, gz0b⟩ := shrAny (x := xl) (y := (-6 + yl)) (by omega) (by omega)
          obtain ⟨z1, e1, gz1a, gz1b⟩ := shrAny (x := xl) (y := (-6 + yh)) (by omega) (by omega)
          obtain ⟨z2, e2, gz2a, gz2b⟩ := shrAny (x := xl) (y := 0) (by omega) (by omega)
          obtain ⟨z3, e3, gz3a, gz3b⟩ := shrAny (x := xl) (y := 31) (by omega) (by omega)
          obtain ⟨z4, e4, gz4a, gz4b⟩ := shrAny (x := xh) (y := (-6 + yl)) (by omega) (by omega)
          obtain ⟨z5, e5, gz5a, gz5b⟩ := shrAny (x := xh) (y := (-6 + yh)) (by omega) (by omega)
          obtain ⟨z6, e6, gz6a, gz6b⟩ := shrAny (x := xh) (y := 0) (by omega) (by omega)
          obtain ⟨z7, e7, gz7a, gz7b⟩ := shrAny (x := xh) (y := 31) (by omega) (by omega)
          exact fx11 (xs := [xl, xh, yl, yh, z0, z1, z2, z3, z4, z5, z6, z7, a0 / 13, a3, a5, a2, a4, a6, a7, a8]) (run148 (relY a8 xl xh (-6 + yl) (-6 + yh)) (relN a8 xl xh (-6 + yl) (-6 + yh))) aB w (hT := ⟨awakeS, hS hx, hS (fS a8 xl xh (-6 + yl) (-6 + yh)), hS (rS a8 xl xh (-6 + yl) (-6 + yh)), trivial⟩) (h4 := ⟨dP eb, dP ed, dP e0, dP e1, dP e2, dP e3, dP e4, dP e5, dP e6, dP e7, trivial⟩)
      · rcases (show (yl ≤ 5) ∨ (yh ≤ 5 ∧ 6 ≤ yl) ∨ (6 ≤ yh) by omega) with h2 | h2 | h2
        · exact fx11 (xs := [xl, xh, yl, yh, a0 / 13, a3, a5, a2, a4, a6, a7, a8]) (run149 (relY a8 xl xh (-6 + yh) (-6 + yl)) (relN a8 xl xh (-6 + yh) (-6 + yl))) aB w (hT := ⟨awakeS, hS hx, hS (fS a8 xl xh (-6 + yh) (-6 + yl)), hS (rS a8 xl xh (-6 + yh) (-6 + yl)), trivial⟩) (h4 := ⟨dP eb, dP ed, trivial⟩)
        · obtain ⟨z0, e0, gz0a, gz0b⟩ := shrAny (x := xl) (y := (-6 + yl)) (by omega) (by omega)
          obtain ⟨z1, e1, gz1a, gz1b⟩ := shrAny (x := xl) (y := 0) (by omega) (by omega)
          obtain ⟨z2, e2, gz2a, gz2b⟩ := shrAny (x := xl) (y := 31) (by omega) (by omega)
          obtain ⟨z3, e3, gz3a, gz3b⟩ := shrAny (x := xh) (y := (-6 + yl)) (by omega) (by omega)
          obtain ⟨z4, e4, gz4a, gz4b⟩ := shrAny (x := xh) (y := 0) (by omega) (by omega)
          obtain ⟨z5, e5, gz5a, gz5b⟩ := shrAny (x := xh) (y := 31) (by omega) (by omega)
          exact fx11 (xs := [xl, xh, yl, yh, z0, z1, z2, z3, z4, z5, a0 / 13, a3, a5, a2, a4, a6, a7, a8]) (run150 (relY a8 xl xh (-6 + yh) (-6 + yl)) (relN a8 xl xh (-6 + yh) (-6 + yl))) aB w (hT := ⟨awakeS, hS hx, hS (fS a8 xl xh (-6 + yh) (-6 + yl)), hS (rS a8 xl xh (-6 + yh) (-6 + yl)), trivial⟩) (h4 := ⟨dP eb, dP ed, dP e0, dP e1, dP e2, dP e3, dP e4, dP e5, trivial⟩)
        · obtain ⟨z0, e0, gz0a, gz0b⟩ := shrAny (x := xl) (y := (-6 + yh)) (by omega) (by omega)
          obtain ⟨z1, e1, gz1a, gz1b⟩ := shrAny (x := xl) (y := (-6 + yl)) (by omega) (by omega)
          obtain ⟨z2, e2, gz2a, gz2b⟩ := shrAny (x := xl) (y := 0) (by omega) (by omega)
          obtain ⟨z3, e3, gz3a, gz3b⟩ := shrAny (x := xl) (y := 31) (by omega) (by omega)
          obtain ⟨z4, e4, gz4a, gz4b⟩ := shrAny (x := xh) (y := (-6 + yh)) (by omega) (by omega)
          obtain ⟨z5, e5, gz5a, gz5b⟩ := shrAny (x := xh) (y := (-6 + yl)) (by omega) (by omega)
          obtain ⟨z6, e6, gz6a, gz6b⟩ := shrAny (x := xh) (y := 0) (by omega) (by omega)
          obtain ⟨z7, e7, gz7a, gz7b⟩ := shrAny (x := xh) (y := 31) (by omega) (by omega)
          exact fx11 (xs := [xl, xh, yl, yh, z0, z1, z2, z3, z4, z5, z6, z7, a0 / 13, a3, a5, a2, a4, a6, a7, a8]) (run151 (relY a8 xl xh (-6 + yh) (-6 + yl)) (relN a8 xl xh (-6 + yh) (-6 + yl))) aB w (hT := ⟨awakeS, hS hx, hS (fS a8 xl xh (-6 + yh) (-6 + yl)), hS (rS a8 xl xh (-6 + yh) (-6 + yl)), trivial⟩) (h4 := ⟨dP eb, dP ed, dP e0, dP e1, dP e2, dP e3, dP e4, dP e5, dP e6, dP e7, trivial⟩)
      · obtain rfl : yl = yh := by omega
        rcases (show (yl ≤ 5) ∨ (6 ≤ yl) by omega) with h2 | h2
        · exact fx11 (xs := [xl, xh, yl, yl, a0 / 13, a3, a5, a2, a4, a6, a7, a8]) (run152 (relY a8 xl xh (-6 + yl) (-6 + yl)) (relN a8 xl xh (-6 + yl) (-6 + yl))) aB w (hT := ⟨awakeS, hS hx, hS (fS a8 xl xh (-6 + yl) (-6 + yl)), hS (rS a8 xl xh (-6 + yl) (-6 + yl)), trivial⟩) (h4 := ⟨dP eb, dP ed, trivial⟩)
        · obtain ⟨z0, e0, gz0a, gz0b⟩ := shrAny (x := xl) (y := (-6 + yl)) (by omega) (by omega)
          obtain ⟨z1, e1, gz1a, gz1b⟩ := shrAny (x := xl) (y := 0) (by omega) (by omega)
          obtain ⟨z2, e2, gz2a, gz2b⟩ := shrAny (x := xl) (y := 31) (by omega) (by omega)
          obtain ⟨z3, e3, gz3a, gz3b⟩ := shrAny (x := xh) (y := (-6 + yl)) (by omega) (by omega)
          obtain ⟨z4, e4, gz4a, gz4b⟩ := shrAny (x := xh) (y := 0) (by omega) (by omega)
          obtain ⟨z5, e5, gz5a, gz5b⟩ := shrAny (x := xh) (y := 31) (by omega) (by omega)
          exact fx11 (xs := [xl, xh, yl, yl, z0, z1, z2, z3, z4, z5, a0 / 13, a3, a5, a2, a4, a6, a7, a8]) (run153 (relY a8 xl xh (-6 + yl) (-6 + yl)) (relN a8 xl xh (-6 + yl) (-6 + yl))) aB w (hT := ⟨awakeS, hS hx, hS (fS a8 xl xh (-6 + yl) (-6 + yl)), hS (rS a8 xl xh (-6 + yl) (-6 + yl)), trivial⟩) (h4 := ⟨dP eb, dP ed, dP e0, dP e1, dP e2, dP e3, dP e4, dP e5, trivial⟩)
    · rcases (show (yl < yh) ∨ (yh < yl) ∨ (yl = yh) by omega) with h1 | h1 | h1
      · rcases (show (yh ≤ 5) ∨ (yl ≤ 5 ∧ 6 ≤ yh) ∨ (6 ≤ yl) by omega) with h2 | h2 | h2
        · exact fx11 (xs := [xl, xh, yl, yh, a0 / 13, a3, a5, a2, a4, a6, a7, a8]) (run154 (relY a8 xl xh (-6 + yl) (-6 + yh)) (relN a8 xl xh (-6 + yl) (-6 + yh))) aB w (hT := ⟨awakeS, hS hx, hS (fS a8 xl xh (-6 + yl) (-6 + yh)), hS (rS a8 xl xh (-6 + yl) (-6 + yh)), trivial⟩) (h4 := ⟨dP eb, dP ed, trivial⟩)
        · obtain ⟨z0, e0, gz0a, gz0b⟩ := shrAny (x := xl) (y := (-6 + yh)) (by omega) (by omega)
          obtain ⟨z1, e1, gz1a, gz1b⟩ := shrAny (x := xl) (y := 0) (by omega) (by omega)
          obtain ⟨z2, e2, gz2a, gz2b⟩ := shrAny (x := xl) (y := 31) (by omega) (by omega)
          obtain ⟨z3, e3, gz3a, gz3b⟩ := shrAny (x := xh) (y := (-6 + yh)) (by omega) (by omega)
          obtain ⟨z4, e4, gz4a, gz4b⟩ := shrAny (x := xh) (y := 0) (by omega) (by omega)
          obtain ⟨z5, e5, gz5a, gz5b⟩ := shrAny (x := xh) (y := 31) (by omega) (by omega)
          exact fx11 (xs := [xl, xh, yl, yh, z0, z1, z2, z3, z4, z5, a0 / 13, a3, a5, a2, a4, a6, a7, a8]) (run155 (relY a8 xl xh (-6 + yl) (-6 + yh)) (relN a8 xl xh (-6 + yl) (-6 + yh))) aB w (hT := ⟨awakeS, hS hx, hS (fS a8 xl xh (-6 + yl) (-6 + yh)), hS (rS a8 xl xh (-6 + yl) (-6 + yh)), trivial⟩) (h4 := ⟨dP eb, dP ed, dP e0, dP e1, dP e2, dP e3, dP e4, dP e5, trivial⟩)
        · obtain ⟨z0, e0, gz0a, gz0b⟩ := shrAny (x := xl) (y := (-6 + yl)) (by omega) (by omega)
          obtain ⟨z1, e1, gz1a, gz1b⟩ := shrAny (x := xl) (y := (-6 + yh)) (by omega) (by omega)
          obtain ⟨z2, e2, gz2a, gz2b⟩ := shrAny (x := xl) (y := 0) (by omega) (by omega)
          obtain ⟨z3, e3, gz3a, gz3b⟩ := shrAny (x := xl) (y := 31) (by omega) (by omega)
          obtain ⟨z4, e4, gz4a, gz4b⟩ := shrAny (x := xh) (y := (-6 + yl)) (by omega) (by omega)
          obtain ⟨z5, e5, gz5a, gz5b⟩ := shrAny (x := xh) (y := (-6 + yh)) (by omega) (by omega)
          obtain ⟨z6, e6, gz6a, gz6b⟩ := shrAny (x := xh) (y := 0) (by omega) (by omega)
          obtain ⟨z7, e7, gz7a, gz7b⟩ := shrAny (x := xh) (y := 31) (by omega) (by omega)
          exact fx11 (xs := [xl, xh, yl, yh, z0, z1, z2, z3, z4, z5, z6, z7, a0 / 13, a3, a5, a2, a4, a6, a7, a8]) (run156 (relY a8 xl xh (-6 + yl) (-6 + yh)) (relN a8 xl xh (-6 + yl) (-6 + yh))) aB w (hT := ⟨awakeS, hS hx, hS (fS a8 xl xh (-6 + yl) (-6 + yh)), hS (rS a8 xl xh (-6 + yl) (-6 + yh)), trivial⟩) (h4 := ⟨dP eb, dP ed, dP e0, dP e1, dP e2, dP e3, dP e4, dP e5, dP e6, dP e7, trivial⟩)
      · rcases (show (yl ≤ 5) ∨ (yh ≤ 5 ∧ 6 ≤ yl) ∨ (6 ≤ yh) by omega) with h2 | h2 | h2
        · exact fx11 (xs := [xl, xh, yl, yh, a0 / 13, a3, a5, a2, a4, a6, a7, a8]) (run157 (relY a8 xl xh (-6 + yh) (-6 + yl)) (relN a8 xl xh (-6 + yh) (-6 + yl))) aB w (hT := ⟨awakeS, hS hx, hS (fS a8 xl xh (-6 + yh) (-6 + yl)), hS (rS a8 xl xh (-6 + yh) (-6 + yl)), trivial⟩) (h4 := ⟨dP eb, dP ed, trivial⟩)
        · obtain ⟨z0, e0, gz0a, gz0b⟩ := shrAny (x := xl) (y := (-6 + yl)) (by omega) (by omega)
          obtain ⟨z1, e1, gz1a, gz1b⟩ := shrAny (x := xl) (y := 0) (by omega) (by omega)
          obtain ⟨z2, e2, gz2a, gz2b⟩ := shrAny (x := xl) (y := 31) (by omega) (by omega)
          obtain ⟨z3, e3, gz3a, gz3b⟩ := shrAny (x := xh) (y := (-6 + yl)) (by omega) (by omega)
          obtain ⟨z4, e4, gz4a, gz4b⟩ := shrAny (x := xh) (y := 0) (by omega) (by omega)
          obtain ⟨z5, e5, gz5a, gz5b⟩ := shrAny (x := xh) (y := 31) (by omega) (by omega)
          exact fx11 (xs := [xl, xh, yl, yh, z0, z1, z2, z3, z4, z5, a0 / 13, a3, a5, a2, a4, a6, a7, a8]) (run158 (relY a8 xl xh (-6 + yh) (-6 + yl)) (relN a8 xl xh (-6 + yh) (-6 + yl))) aB w (hT := ⟨awakeS, hS hx, hS (fS a8 xl xh (-6 + yh) (-6 + yl)), hS (rS a8 xl xh (-6 + yh) (-6 + yl)), trivial⟩) (h4 := ⟨dP eb, dP ed, dP e0, dP e1, dP e2, dP e3, dP e4, dP e5, trivial⟩)
        · obtain ⟨z0, e0, gz0a, gz0b⟩ := shrAny (x := xl) (y := (-6 + yh)) (by omega) (by omega)
          obtain ⟨z1, e1, gz1a, gz1b⟩ := shrAny (x := xl) (y := (-6 + yl)) (by omega) (by omega)
          obtain ⟨z2, e2, gz2a, gz2b⟩ := shrAny (x := xl) (y := 0) (by omega) (by omega)
          obtain ⟨z3, e3, gz3a, gz3b⟩ := shrAny (x := xl) (y := 31) (by omega) (by omega)
          obtain ⟨z4, e4, gz4a, gz4b⟩ := shrAny (x := xh) (y := (-6 + yh)) (by omega) (by omega)
          obtain ⟨z5, e5, gz5a, gz5b⟩ := shrAny (x := xh) (y := (-6 + yl)) (by omega) (by omega)
          obtain ⟨z6, e6, gz6a, gz6b⟩ := shrAny (x := xh) (y := 0) (by omega) (by omega)
          obtain ⟨z7, e7, gz7a, gz7b⟩ := shrAny (x := xh) (y := 31) (by omega) (by omega)
          exact fx11 (xs := [xl, xh, yl, yh, z0, z1, z2, z3, z4, z5, z6, z7, a0 / 13, a3, a5, a2, a4, a6, a7, a8]) (run159 (relY a8 xl xh (-6 + yh) (-6 + yl)) (relN a8 xl xh (-6 + yh) (-6 + yl))) aB w (hT := ⟨awakeS, hS hx, hS (fS a8 xl xh (-6 + yh) (-6 + yl)), hS (rS a8 xl xh (-6 + yh) (-6 + yl)), trivial⟩) (h4 := ⟨dP eb, dP ed, dP e0, dP e1, dP e2, dP e3, dP e4, dP e5, dP e6, dP e7, trivial⟩)
      · obtain rfl : yl = yh := by omega
        rcases (show (yl ≤ 5) ∨ (6 ≤ yl) by omega) with h2 | h2
        · exact fx11 (xs := [xl, xh, yl, yl, a0 / 13, a3, a5, a2, a4, a6, a7, a8]) (run160 (relY a8 xl xh (-6 + yl) (-6 + yl)) (relN a8 xl xh (-6 + yl) (-6 + yl))) aB w (hT := ⟨awakeS, hS hx, hS (fS a8 xl xh (-6 + yl) (-6 + yl)), hS (rS a8 xl xh (-6 + yl) (-6 + yl)), trivial⟩) (h4 := ⟨dP eb, dP ed, trivial⟩)
        · obtain ⟨z0, e0, gz0a, gz0b⟩ := shrAny (x := xl) (y := (-6 + yl)) (by omega) (by omega)
          obtain ⟨z1, e1, gz1a, gz1b⟩ := shrAny (x := xl) (y := 0) (by omega) (by omega)
          obtain ⟨z2, e2, gz2a, gz2b⟩ := shrAny (x := xl) (y := 31) (by omega) (by omega)
          obtain ⟨z3, e3, gz3a, gz3b⟩ := shrAny (x := xh) (y := (-6 + yl)) (by omega) (by omega)
          obtain ⟨z4, e4, gz4a, gz4b⟩ := shrAny (x := xh) (y := 0) (by omega) (by omega)
          obtain ⟨z5, e5, gz5a, gz5b⟩ := shrAny (x := xh) (y := 31) (by omega) (by omega)
          exact fx11 (xs := [xl, xh, yl, yl, z0, z1, z2, z3, z4, z5, a0 / 13, a3, a5, a2, a4, a6, a7, a8]) (run161 (relY a8 xl xh (-6 + yl) (-6 + yl)) (relN a8 xl xh (-6 + yl) (-6 + yl))) aB w (hT := ⟨awakeS, hS hx, hS (fS a8 xl xh (-6 + yl) (-6 + yl)), hS (rS a8 xl xh (-6 + yl) (-6 + yl)), trivial⟩) (h4 := ⟨dP eb, dP ed, dP e0, dP e1, dP e2, dP e3, dP e4, dP e5, trivial⟩)
    · rcases (show (yl < yh) ∨ (yh < yl) ∨ (yl = yh) by omega) with h1 | h1 | h1
      · rcases (show (yh ≤ 5) ∨ (yl ≤ 5 ∧ 6 ≤ yh) ∨ (6 ≤ yl) by omega) with h2 | h2 | h2
        · exact fx11 (xs := [xl, xh, yl, yh, a0 / 13, a3, a5, a2, a4, a6, a7, a8]) (run162 (relY a8 xl xh (-6 + yl) (-6 + yh)) (relN a8 xl xh (-6 + yl) (-6 + yh))) aB w (hT := ⟨awakeS, hS hx, hS (fS a8 xl xh (-6 + yl) (-6 + yh)), hS (rS a8 xl xh (-6 + yl) (-6 + yh)), trivial⟩) (h4 := ⟨dP eb, dP ed, trivial⟩)
        · obtain ⟨z0, e0, gz0a, gz0b⟩ := shrAny (x := xl) (y := (-6 + yh)) (by omega) (by omega)
          obtain ⟨z1, e1, gz1a, gz1b⟩ := shrAny (x := xl) (y := 0) (by omega) (by omega)
          obtain ⟨z2, e2, gz2a, gz2b⟩ := shrAny (x := xl) (y := 31) (by omega) (by omega)
          obtain ⟨z3, e3, gz3a, gz3b⟩ := shrAny (x := xh) (y := (-6 + yh)) (by omega) (by omega)
          obtain ⟨z4, e4, gz4a, gz4b⟩ := shrAny (x := xh) (y := 0) (by omega) (by omega)
          obtain ⟨z5, e5, gz5a, gz5b⟩ := shrAny (x := xh) (y := 31) (by omega) (by omega)
          exact fx11 (xs := [xl, xh, yl, yh, z0, z1, z2, z3, z4, z5, a0 / 13, a3, a5, a2, a4, a6, a7, a8]) (run163 (relY a8 xl xh (-6 + yl) (-6 + yh)) (relN a8 xl xh (-6 + yl) (-6 + yh))) aB w (hT := ⟨awakeS, hS hx, hS (fS a8 xl xh (-6 + yl) (-6 + yh)), hS (rS a8 xl xh (-6 + yl) (-6 + yh)), trivial⟩) (h4 := ⟨dP eb, dP ed, dP e0, dP e1, dP e2, dP e3, dP e4, dP e5, trivial⟩)
        · obtain ⟨z0, e0, gz0a, gz0b⟩ := shrAny (x := xl) (y := (-6 + yl)) (by omega) (by omega)
          obtain ⟨z1, e1, gz1a, gz1b⟩ := shrAny (x := xl) (y := (-6 + yh)) (by omega) (by omega)
          obtain ⟨z2, e2, gz2a, gz2b⟩ := shrAny (x := xl) (y := 0) (by omega) (by omega)
          obtain ⟨z3, e3, gz3a, gz3b⟩ := shrAny (x := xl) (y := 31) (by omega) (by omega)
          obtain ⟨z4, e4, gz4a, gz4b⟩ := shrAny (x := xh) (y := (-6 + yl)) (by omega) (by omega)
          obtain ⟨z5, e5, gz5a, gz5b⟩ := shrAny (x := xh) (y := (-6 + yh)) (by omega) (by omega)
          obtain ⟨z6, e6, gz6a, gz6b⟩ := shrAny (x := xh) (y := 0) (by omega) (by omega)
          obtain ⟨z7, e7, gz7a, gz7b⟩ := shrAny (x := xh) (y := 31) (by omega) (by omega)
          exact fx11 (xs := [xl, xh, yl, yh, z0, z1, z2, z3, z4, z5, z6, z7, a0 / 13, a3, a5, a2, a4, a6, a7, a8]) (run164 (relY a8 xl xh (-6 + yl) (-6 + yh)) (relN a8 xl xh (-6 + yl) (-6 + yh))) aB w (hT := ⟨awakeS, hS hx, hS (fS a8 xl xh (-6 + yl) (-6 + yh)), hS (rS a8 xl xh (-6 + yl) (-6 + yh)), trivial⟩) (h4 := ⟨dP eb, dP ed, dP e0, dP e1, dP e2, dP e3, dP e4, dP e5, dP e6, dP e7, trivial⟩)
      · rcases (show (yl ≤ 5) ∨ (yh ≤ 5 ∧ 6 ≤ yl) ∨ (6 ≤ yh) by omega) with h2 | h2 | h2
        · exact fx11 (xs := [xl, xh, yl, yh, a0 / 13, a3, a5, a2, a4, a6, a7, a8]) (run165 (relY a8 xl xh (-6 + yh) (-6 + yl)) (relN a8 xl xh (-6 + yh) (-6 + yl))) aB w (hT := ⟨awakeS, hS hx, hS (fS a8 xl xh (-6 + yh) (-6 + yl)), hS (rS a8 xl xh (-6 + yh) (-6 + yl)), trivial⟩) (h4 := ⟨dP eb, dP ed, trivial⟩)
        · obtain ⟨z0, e0, gz0a, gz0b⟩ := shrAny (x := xl) (y := (-6 + yl)) (by omega) (by omega)
          obtain ⟨z1, e1, gz1a, gz1b⟩ := shrAny (x := xl) (y := 0) (by omega) (by omega)
          obtain ⟨z2, e2, gz2a, gz2b⟩ := shrAny (x := xl) (y := 31) (by omega) (by omega)
          obtain ⟨z3, e3, gz3a, gz3b⟩ := shrAny (x := xh) (y := (-6 + yl)) (by omega) (by omega)
          obtain ⟨z4, e4, gz4a, gz4b⟩ := shrAny (x := xh) (y := 0) (by omega) (by omega)
          obtain ⟨z5, e5, gz5a, gz5b⟩ := shrAny (x := xh) (y := 31) (by omega) (by omega)
          exact fx11 (xs := [xl, xh, yl, yh, z0, z1, z2, z3, z4, z5, a0 / 13, a3, a5, a2, a4, a6, a7, a8]) (run166 (relY a8 xl xh (-6 + yh) (-6 + yl)) (relN a8 xl xh (-6 + yh) (-6 + yl))) aB w (hT := ⟨awakeS, hS hx, hS (fS a8 xl xh (-6 + yh) (-6 + yl)), hS (rS a8 xl xh (-6 + yh) (-6 + yl)), trivial⟩) (h4 := ⟨dP eb, dP ed, dP e0, dP e1, dP e2, dP e3, dP e4, dP e5, trivial⟩)
        · obtain ⟨z0, e0, gz0a, gz0b⟩ := shrAny (x := xl) (y := (-6 + yh)) (by omega) (by omega)
          obtain ⟨z1, e1, gz1a, gz1b⟩ := shrAny (x := xl) (y := (-6 + yl)) (by omega) (by omega)
          obtain ⟨z2, e2, gz2a, gz2b⟩ := shrAny (x := xl) (y := 0) (by omega) (by omega)
          obtain ⟨z3, e3, gz3a, gz3b⟩ := shrAny (x := xl) (y := 31) (by omega) (by omega)
          obtain ⟨z4, e4, gz4a, gz4b⟩ := shrAny (x := xh) (y := (-6 + yh)) (by omega) (by omega)
          obtain ⟨z5, e5, gz5a, gz5b⟩ := shrAny (x := xh) (y := (-6 + yl)) (by omega) (by omega)
          obtain ⟨z6, e6, gz6a, gz6b⟩ := shrAny (x := xh) (y := 0) (by omega) (by omega)
          obtain ⟨z7, e7, gz7a, gz7b⟩ := shrAny (x := xh) (y := 31) (by omega) (by omega)
          exact fx11 (xs := [xl, xh, yl, yh, z0, z1, z2, z3, z4, z5, z6, z7, a0 / 13, a3, a5, a2, a4, a6, a7, a8]) (run167 (relY a8 xl xh (-6 + yh) (-6 + yl)) (relN a8 xl xh (-6 + yh) (-6 + yl))) aB w (hT := ⟨awakeS, hS hx, hS (fS a8 xl xh (-6 + yh) (-6 + yl)), hS (rS a8 xl xh (-6 + yh) (-6 + yl)), trivial⟩) (h4 := ⟨dP eb, dP ed, dP e0, dP e1, dP e2, dP e3, dP e4, dP e5, dP e6, dP e7, trivial⟩)
      · obtain rfl : yl = yh := by omega
        rcases (show (yl ≤ 5) ∨ (6 ≤ yl) by omega) with h2 | h2
        · exact fx11 (xs := [xl, xh, yl, yl, a0 / 13, a3, a5, a2, a4, a6, a7, a8]) (run168 (relY a8 xl xh (-6 + yl) (-6 + yl)) (relN a8 xl xh (-6 + yl) (-6 + yl))) aB w (hT := ⟨awakeS, hS hx, hS (fS a8 xl xh (-6 + yl) (-6 + yl)), hS (rS a8 xl xh (-6 + yl) (-6 + yl)), trivial⟩) (h4 := ⟨dP eb, dP ed, trivial⟩)
        · obtain ⟨z0, e0, gz0a, gz0b⟩ := shrAny (x := xl) (y := (-6 + yl)) (by omega) (by omega)
          obtain ⟨z1, e1, gz1a, gz1b⟩ := shrAny (x := xl) (y := 0) (by omega) (by omega)
          obtain ⟨z2, e2, gz2a, gz2b⟩ := shrAny (x := xl) (y := 31) (by omega) (by omega)
          obtain ⟨z3, e3, gz3a, gz3b⟩ := shrAny (x := xh) (y := (-6 + yl)) (by omega) (by omega)
          obtain ⟨z4, e4, gz4a, gz4b⟩ := shrAny (x := xh) (y := 0) (by omega) (by omega)
          obtain ⟨z5, e5, gz5a, gz5b⟩ := shrAny (x := xh) (y := 31) (by omega) (by omega)
          exact fx11 (xs := [xl, xh, yl, yl, z0, z1, z2, z3, z4, z5, a0 / 13, a3, a5, a2, a4, a6, a7, a8]) (run169 (relY a8 xl xh (-6 + yl) (-6 + yl)) (relN a8 xl xh (-6 + yl) (-6 + yl))) aB w (hT := ⟨awakeS, hS hx, hS (fS a8 xl xh (-6 + yl) (-6 + yl)), hS (rS a8 xl xh (-6 + yl) (-6 + yl)), trivial⟩) (h4 := ⟨dP eb, dP ed, dP e0, dP e1, dP e2, dP e3, dP e4, dP e5, trivial⟩)
end Go.Proofs.Ytcjnmphpfdlikaa.fwdAll
