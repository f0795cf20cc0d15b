/- FwdAll, part 10: runs of the kernel, and what follows of them at all inputs of that part. No condition but these. Written by program. -/
import Derived.Test.YtcjnmphpfdlikaaDrawC
import Derived.Test.YtcjnmphpfdlikaaSumsC
import Derived.Test.YtcjnmphpfdlikaaShortC
import Derived.KernelRfl
set_option linter.unusedVariables false
set_option linter.unusedSimpArgs false
set_option maxRecDepth 1000000
set_option maxHeartbeats 100000000
namespace Go.Proofs.Ytcjnmphpfdlikaa.fwdAll
open Go Go.Sx Go.RowKit Go.Fx Go.Proofs.Ytcjnmphpfdlikaa.fs
theorem fx10 {args : List KV} {cx : Cx} {xs : List Int} {args' : List Value} {T : Tab} (h : runK Try.prog (tabK (fstF sums) T) 100000 4 args cx = true) (hargs : VRels noMap (absL (rho xs) args) args') (w : World) (hT : tabAll (entS sums) (rho xs) T) (h4 : dfAll xs cx.df := by exact trivial) (h1 : boxAll xs cx.box := by simp only [boxAll, and_true, bU, bI, bL] <;> omega) (h2 : csAll xs cx.cs := by first | exact trivial | (simp [csAll, evT, rho, cl, cg] <;> omega)) (h3 : noSv cx.box = true := by rfl) : Calls Try.prog 4 args'.toArray w fun e w' => e = .returned (.bool true) ∧ Grown w w' := calls_tab kdC.progOK kdC.mixed sumsOK sumsBody h h1 h2 h4 hT hargs w (h3 := h3)
theorem run106 (y n : Bool) : RB 10 true 6 4 (.agg [n64 0, n64 1]) (.agg [.int .i64 (.a (-6) [(2, 1)]), .int .i64 (.a (-6) [(3, 1)])]) y n ⟨[bU, bU, (0, 43), (0, 43), (0, 18), bU, bU], [cl 0 1 0, cl 2 3 1, ((-5), [(3, 1)])], [⟨2, .i64, v1 5, .p 44, 2⟩, ⟨2, .i64, v1 6, .p 44, 3⟩]⟩ = true := by cases y <;> cases n <;> kernel_rfl
theorem run107 (y n : Bool) : RB 10 true 6 6 (.agg [n64 0, n64 1]) (.agg [.int .i64 (.a (-6) [(2, 1)]), .int .i64 (.a (-6) [(3, 1)])]) y n ⟨[bU, bU, (0, 43), (0, 43), bL, bL, (0, 18), bU, bU], [cl 0 1 0, cl 2 3 1, ((-5), [(2, 1)]), (6, [(3, (-1))])], [⟨2, .i64, v1 7, .p 44, 2⟩, ⟨2, .i64, v1 8, .p 44, 3⟩, ⟨8, .i64, v1 0, .a (-6) [(3, 1)], 4⟩, ⟨8, .i64, v1 1, .a (-6) [(3, 1)], 5⟩]⟩ = true := by cases y <;> cases n <;> kernel_rfl
theorem run108 (y n : Bool) : RB 10 true 6 8 (.agg [n64 0, n64 1]) (.agg [.int .i64 (.a (-6) [(2, 1)]), .int .i64 (.a (-6) [(3, 1)])]) y n ⟨[bU, bU, (0, 43), (0, 43), bL, bL, bL, bL, (0, 18), bU, bU], [cl 0 1 0, cl 2 3 1, (6, [(2, (-1))])], [⟨2, .i64, v1 9, .p 44, 2⟩, ⟨2, .i64, v1 10, .p 44, 3⟩, ⟨8, .i64, v1 0, .a (-6) [(2, 1)], 4⟩, ⟨8, .i64, v1 0, .a (-6) [(3, 1)], 5⟩, ⟨8, .i64, v1 1, .a (-6) [(2, 1)], 6⟩, ⟨8, .i64, v1 1, .a (-6) [(3, 1)], 7⟩]⟩ = true := by cases y <;> cases n <;> kernel_rfl
theorem run109 (y n : Bool) : RB 10 true 6 4 (.agg [n64 0, n64 1]) (.agg [.int .i64 (.a (-6) [(3, 1)]), .int .i64 (.a (-6) [(2, 1)])]) y n ⟨[bU, bU, (0, 43), (0, 43), (0, 18), bU, bU], [cl 0 1 0, cg 2 3 1, ((-5), [(2, 1)])], [⟨2, .i64, v1 5, .p 44, 2⟩, ⟨2, .i64, v1 6, .p 44, 3⟩]⟩ = true := by cases y <;> cases n <;> kernel_rfl
theorem run110 (y n : Bool) : RB 10 true 6 6 (.agg [n64 0, n64 1]) (.agg [.int .i64 (.a (-6) [(3, 1)]), .int .i64 (.a (-6) [(2, 1)])]) y n ⟨[bU, bU, (0, 43), (0, 43), bL, bL, (0, 18), bU, bU], [cl 0 1 0, cg 2 3 1, ((-5), [(3, 1)]), (6, [(2, (-1))])], [⟨2, .i64, v1 7, .p 44, 2⟩, ⟨2, .i64, v1 8, .p 44, 3⟩, ⟨8, .i64, v1 0, .a (-6) [(2, 1)], 4⟩, ⟨8, .i64, v1 1, .a (-6) [(2, 1)], 5⟩]⟩ = true := by cases y <;> cases n <;> kernel_rfl
theorem run111 (y n : Bool) : RB 10 true 6 8 (.agg [n64 0, n64 1]) (.agg [.int .i64 (.a (-6) [(3, 1)]), .int .i64 (.a (-6) [(2, 1)])]) y n ⟨[bU, bU, (0, 43), (0, 43), bL, bL, bL, bL, (0, 18), bU, bU], [cl 0 1 0, cg 2 3 1, (6, [(3, (-1))])], [⟨2, .i64, v1 9, .p 44, 2⟩, ⟨2, .i64, v1 10, .p 44, 3⟩, ⟨8, .i64, v1 0, .a (-6) [(3, 1)], 4⟩, ⟨8, .i64, v1 0, .a (-6) [(2, 1)], 5⟩, ⟨8, .i64, v1 1, .a (-6) [(3, 1)], 6⟩, ⟨8, .i64, v1 1, .a (-6) [(2, 1)], 7⟩]⟩ = true := by cases y <;> cases n <;> kernel_rfl
theorem run112 (y n : Bool) : RB 10 true 6 4 (.agg [n64 0, n64 1]) (.agg [.int .i64 (.a (-6) [(2, 1)]), .int .i64 (.a (-6) [(2, 1)])]) y n ⟨[bU, bU, (0, 43), (0, 43), (0, 18), bU, bU], [cl 0 1 0, ((-5), [(2, 1)])], [⟨2, .i64, v1 5, .p 44, 2⟩, ⟨2, .i64, v1 6, .p 44, 2⟩]⟩ = true := by cases y <;> cases n <;> kernel_rfl
theorem run113 (y n : Bool) : RB 10 true 6 6 (.agg [n64 0, n64 1]) (.agg [.int .i64 (.a (-6) [(2, 1)]), .int .i64 (.a (-6) [(2, 1)])]) y n ⟨[bU, bU, (0, 43), (0, 43), bL, bL, (0, 18), bU, bU], [cl 0 1 0, (6, [(2, (-1))])], [⟨2, .i64, v1 7, .p 44, 2⟩, ⟨2, .i64, v1 8, .p 44, 2⟩, ⟨8, .i64, v1 0, .a (-6) [(2, 1)], 4⟩, ⟨8, .i64, v1 1, .a (-6) [(2, 1)], 5⟩]⟩ = true := by cases y <;> cases n <;> kernel_rfl
theorem run114 (y n : Bool) : RB 10 false 5 4 (.agg [n64 0, n64 1]) (.agg [.int .i64 (.a (-6) [(2, 1)]), .int .i64 (.a (-6) [(3, 1)])]) y n ⟨[bI, bI, (0, 43), (0, 43), (0, 18), bU, bU], [cl 0 1 0, cl 2 3 1, (0, [(0, (-1))]), ((-5), [(3, 1)])], [⟨2, .i64, v1 5, .p 44, 2⟩, ⟨2, .i64, v1 6, .p 44, 3⟩]⟩ = true := by cases y <;> cases n <;> kernel_rfl
theorem run115 (y n : Bool) : RB 10 false 5 6 (.agg [n64 0, n64 1]) (.agg [.int .i64 (.a (-6) [(2, 1)]), .int .i64 (.a (-6) [(3, 1)])]) y n ⟨[bI, bI, (0, 43), (0, 43), bL, bL, (0, 18), bU, bU], [cl 0 1 0, cl 2 3 1, (0, [(0, (-1))]), ((-5), [(2, 1)]), (6, [(3, (-1))])], [⟨2, .i64, v1 7, .p 44, 2⟩, ⟨2, .i64, v1 8, .p 44, 3⟩, ⟨8, .i64, v1 0, .a (-6) [(3, 1)], 4⟩, ⟨8, .i64, v1 1, .a (-6) [(3, 1)], 5⟩]⟩ = true := by cases y <;> cases n <;> kernel_rfl
theorem run116 (y n : Bool) : RB 10 false 5 8 (.agg [n64 0, n64 1]) (.agg [.int .i64 (.a (-6) [(2, 1)]), .int .i64 (.a (-6) [(3, 1)])]) y n ⟨[bI, bI, (0, 43), (0, 43), bL, bL, bL, bL, (0, 18), bU, bU], [cl 0 1 0, cl 2 3 1, (0, [(0, (-1))]), (6, [(2, (-1))])], [⟨2, .i64, v1 9, .p 44, 2⟩, ⟨2, .i64, v1 10, .p 44, 3⟩, ⟨8, .i64, v1 0, .a (-6) [(2, 1)], 4⟩, ⟨8, .i64, v1 0, .a (-6) [(3, 1)], 5⟩, ⟨8, .i64, v1 1, .a (-6) [(2, 1)], 6⟩, ⟨8, .i64, v1 1, .a (-6) [(3, 1)], 7⟩]⟩ = true := by cases y <;> cases n <;> kernel_rfl
theorem run117 (y n : Bool) : RB 10 false 5 4 (.agg [n64 0, n64 1]) (.agg [.int .i64 (.a (-6) [(3, 1)]), .int .i64 (.a (-6) [(2, 1)])]) y n ⟨[bI, bI, (0, 43), (0, 43), (0, 18), bU, bU], [cl 0 1 0, cg 2 3 1, (0, [(0, (-1))]), ((-5), [(2, 1)])], [⟨2, .i64, v1 5, .p 44, 2⟩, ⟨2, .i64, v1 6, .p 44, 3⟩]⟩ = true := by cases y <;> cases n <;> kernel_rfl
theorem run118 (y n : Bool) : RB 10 false 5 6 (.agg [n64 0, n64 1]) (.agg [.int .i64 (.a (-6) [(3, 1)]), .int .i64 (.a (-6) [(2, 1)])]) y n ⟨[bI, bI, (0, 43), (0, 43), bL, bL, (0, 18), bU, bU], [cl 0 1 0, cg 2 3 1, (0, [(0, (-1))]), ((-5), [(3, 1)]), (6, [(2, (-1))])], [⟨2, .i64, v1 7, .p 44, 2⟩, ⟨2, .i64, v1 8, .p 44, 3⟩, ⟨8, .i64, v1 0, .a (-6) [(2, 1)], 4⟩, ⟨8, .i64, v1 1, .a (-6) [(2, 1)], 5⟩]⟩ = true := by cases y <;> cases n <;> kernel_rfl
theorem run119 (y n : Bool) : RB 10 false 5 8 (.agg [n64 0, n64 1]) (.agg [.int .i64 (.a (-6) [(3, 1)]), .int .i64 (.a (-6) [(2, 1)])]) y n ⟨[bI, bI, (0, 43), (0, 43), bL, bL, bL, bL, (0, 18), bU, bU], [cl 0 1 0, cg 2 3 1, (0, [(0, (-1))]), (6, [(3, (-1))])], [⟨2, .i64, v1 9, .p 44, 2⟩, ⟨2, .i64, v1 10, .p 44, 3⟩, ⟨8, .i64, v1 0, .a (-6) [(3, 1)], 4⟩, ⟨8, .i64, v1 0, .a (-6) [(2, 1)], 5⟩, ⟨8, .i64, v1 1, .a (-6) [(3, 1)], 6⟩, ⟨8, .i64, v1 1, .a (-6) [(2, 1)], 7⟩]⟩ = true := by cases y <;> cases n <;> kernel_rfl
theorem run120 (y n : Bool) : RB 10 false 5 4 (.agg [n64 0, n64 1]) (.agg [.int .i64 (.a (-6) [(2, 1)]), .int .i64 (.a (-6) [(2, 1)])]) y n ⟨[bI, bI, (0, 43), (0, 43), (0, 18), bU, bU], [cl 0 1 0, (0, [(0, (-1))]), ((-5), [(2, 1)])], [⟨2, .i64, v1 5, .p 44, 2⟩, ⟨2, .i64, v1 6, .p 44, 2⟩]⟩ = true := by cases y <;> cases n <;> kernel_rfl
theorem run121 (y n : Bool) : RB 10 false 5 6 (.agg [n64 0, n64 1]) (.agg [.int .i64 (.a (-6) [(2, 1)]), .int .i64 (.a (-6) [(2, 1)])]) y n ⟨[bI, bI, (0, 43), (0, 43), bL, bL, (0, 18), bU, bU], [cl 0 1 0, (0, [(0, (-1))]), (6, [(2, (-1))])], [⟨2, .i64, v1 7, .p 44, 2⟩, ⟨2, .i64, v1 8, .p 44, 2⟩, ⟨8, .i64, v1 0, .a (-6) [(2, 1)], 4⟩, ⟨8, .i64, v1 1, .a (-6) [(2, 1)], 5⟩]⟩ = true := by cases y <;> cases n <;> kernel_rfl
theorem run122 (y n : Bool) : RB 10 false 5 4 (.agg [n64 0, n64 1]) (.agg [.int .i64 (.a (-6) [(2, 1)]), .int .i64 (.a (-6) [(3, 1)])]) y n ⟨[bI, bI, (0, 43), (0, 43), (0, 18), bU, bU], [cl 0 1 0, cl 2 3 1, (1, [(1, 1)]), ((-5), [(3, 1)])], [⟨2, .i64, v1 5, .p 44, 2⟩, ⟨2, .i64, v1 6, .p 44, 3⟩]⟩ = true := by cases y <;> cases n <;> kernel_rfl
theorem run123 (y n : Bool) : RB 10 false 5 6 (.agg [n64 0, n64 1]) (.agg [.int .i64 (.a (-6) [(2, 1)]), .int .i64 (.a (-6) [(3, 1)])]) y n ⟨[bI, bI, (0, 43), (0, 43), bL, bL, (0, 18), bU, bU], [cl 0 1 0, cl 2 3 1, (1, [(1, 1)]), ((-5), [(2, 1)]), (6, [(3, (-1))])], [⟨2, .i64, v1 7, .p 44, 2⟩, ⟨2, .i64, v1 8, .p 44, 3⟩, ⟨8, .i64, v1 0, .a (-6) [(3, 1)], 4⟩, ⟨8, .i64, v1 1, .a (-6) [(3, 1)], 5⟩]⟩ = true := by cases y <;> cases n <;> kernel_rfl
theorem run124 (y n : Bool) : RB 10 false 5 8 (.agg [n64 0, n64 1]) (.agg [.int .i64 (.a (-6) [(2, 1)]), .int .i64 (.a (-6) [(3, 1)])]) y n ⟨[bI, bI, (0, 43), (0, 43), bL, bL, bL, bL, (0, 18), bU, bU], [cl 0 1 0, cl 2 3 1, (1, [(1, 1)]), (6, [(2, (-1))])], [⟨2, .i64, v1 9, .p 44, 2⟩, ⟨2, .i64, v1 10, .p 44, 3⟩, ⟨8, .i64, v1 0, .a (-6) [(2, 1)], 4⟩, ⟨8, .i64, v1 0, .a (-6) [(3, 1)], 5⟩, ⟨8, .i64, v1 1, .a (-6) [(2, 1)], 6⟩, ⟨8, .i64, v1 1, .a (-6) [(3, 1)], 7⟩]⟩ = true := by cases y <;> cases n <;> kernel_rfl
theorem run125 (y n : Bool) : RB 10 false 5 4 (.agg [n64 0, n64 1]) (.agg [.int .i64 (.a (-6) [(3, 1)]), .int .i64 (.a (-6) [(2, 1)])]) y n ⟨[bI, bI, (0, 43), (0, 43), (0, 18), bU, bU], [cl 0 1 0, cg 2 3 1, (1, [(1, 1)]), ((-5), [(2, 1)])], [⟨2, .i64, v1 5, .p 44, 2⟩, ⟨2, .i64, v1 6, .p 44, 3⟩]⟩ = true := by cases y <;> cases n <;> kernel_rfl
theorem run126 (y n : Bool) : RB 10 false 5 6 (.agg [n64 0, n64 1]) (.agg [.int .i64 (.a (-6) [(3, 1)]), .int .i64 (.a (-6) [(2, 1)])]) y n ⟨[bI, bI, (0, 43), (0, 43), bL, bL, (0, 18), bU, bU], [cl 0 1 0, cg 2 3 1, (1, [(1, 1)]), ((-5), [(3, 1)]), (6, [(2, (-1))])], [⟨2, .i64, v1 7, .p 44, 2⟩, ⟨2, .i64, v1 8, .p 44, 3⟩, ⟨8, .i64, v1 0, .a (-6) [(2, 1)], 4⟩, ⟨8, .i64, v1 1, .a (-6) [(2, 1)], 5⟩]⟩ = true := by cases y <;> cases n <;> kernel_rfl
theorem run127 (y n : Bool) : RB 10 false 5 8 (.agg [n64 0, n64 1]) (.agg [.int .i64 (.a (-6) [(3, 1)]), .int .i64 (.a (-6) [(2, 1)])]) y n ⟨[bI, bI, (0, 43), (0, 43), bL, bL, bL, bL, (0, 18), bU, bU], [cl 0 1 0, cg 2 3 1, (1, [(1, 1)]), (6, [(3, (-1))])], [⟨2, .i64, v1 9, .p 44, 2⟩, ⟨2, .i64, v1 10, .p 44, 3⟩, ⟨8, .i64, v1 0, .a (-6) [(3, 1)], 4⟩, ⟨8, .i64, v1 0, .a (-6) [(2, 1)], 5⟩, ⟨8, .i64, v1 1, .a (-6) [(3, 1)], 6⟩, ⟨8, .i64, v1 1, .a (-6) [(2, 1)], 7⟩]⟩ = true := by cases y <;> cases n <;> kernel_rfl
theorem run128 (y n : Bool) : RB 10 false 5 4 (.agg [n64 0, n64 1]) (.agg [.int .i64 (.a (-6) [(2, 1)]), .int .i64 (.a (-6) [(2, 1)])]) y n ⟨[bI, bI, (0, 43), (0, 43), (0, 18), bU, bU], [cl 0 1 0, (1, [(1, 1)]), ((-5), [(2, 1)])], [⟨2, .i64, v1 5, .p 44, 2⟩, ⟨2, .i64, v1 6, .p 44, 2⟩]⟩ = true := by cases y <;> cases n <;> kernel_rfl
theorem run129 (y n : Bool) : RB 10 false 5 6 (.agg [n64 0, n64 1]) (.agg [.int .i64 (.a (-6) [(2, 1)]), .int .i64 (.a (-6) [(2, 1)])]) y n ⟨[bI, bI, (0, 43), (0, 43), bL, bL, (0, 18), bU, bU], [cl 0 1 0, (1, [(1, 1)]), (6, [(2, (-1))])], [⟨2, .i64, v1 7, .p 44, 2⟩, ⟨2, .i64, v1 8, .p 44, 2⟩, ⟨8, .i64, v1 0, .a (-6) [(2, 1)], 4⟩, ⟨8, .i64, v1 1, .a (-6) [(2, 1)], 5⟩]⟩ = true := by cases y <;> cases n <;> kernel_rfl
theorem run130 (y n : Bool) : RB 10 false 5 4 (.agg [n64 0, n64 1]) (.agg [.int .i64 (.a (-6) [(2, 1)]), .int .i64 (.a (-6) [(3, 1)])]) y n ⟨[bI, bI, (0, 43), (0, 43), (0, 18), bU, bU], [cl 0 1 0, cl 2 3 1, (1, [(0, 1)]), (0, [(1, (-1))]), ((-5), [(3, 1)])], [⟨2, .i64, v1 5, .p 44, 2⟩, ⟨2, .i64, v1 6, .p 44, 3⟩]⟩ = true := by cases y <;> cases n <;> kernel_rfl
theorem run131 (y n : Bool) : RB 10 false 5 6 (.agg [n64 0, n64 1]) (.agg [.int .i64 (.a (-6) [(2, 1)]), .int .i64 (.a (-6) [(3, 1)])]) y n ⟨[bI, bI, (0, 43), (0, 43), bL, bL, (0, 18), bU, bU], [cl 0 1 0, cl 2 3 1, (1, [(0, 1)]), (0, [(1, (-1))]), ((-5), [(2, 1)]), (6, [(3, (-1))])], [⟨2, .i64, v1 7, .p 44, 2⟩, ⟨2, .i64, v1 8, .p 44, 3⟩, ⟨8, .i64, v1 0, .a (-6) [(3, 1)], 4⟩, ⟨8, .i64, v1 1, .a (-6) [(3, 1)], 5⟩]⟩ = true := by cases y <;> cases n <;> kernel_rfl
theorem run132 (y n : Bool) : RB 10 false 5 9 (.agg [n64 0, n64 1]) (.agg [.int .i64 (.a (-6) [(2, 1)]), .int .i64 (.a (-6) [(3, 1)])]) y n ⟨[bI, bI, (0, 43), (0, 43), bL, bL, bL, bL, (0, 0), (0, 18), bU, bU], [cl 0 1 0, cl 2 3 1, (1, [(0, 1)]), (0, [(1, (-1))]), (6, [(2, (-1))])], [⟨2, .i64, v1 10, .p 44, 2⟩, ⟨2, .i64, v1 11, .p 44, 3⟩, ⟨8, .i64, v1 0, .a (-6) [(2, 1)], 4⟩, ⟨8, .i64, v1 0, .a (-6) [(3, 1)], 5⟩, ⟨8, .i64, v1 1, .a (-6) [(2, 1)], 6⟩, ⟨8, .i64, v1 1, .a (-6) [(3, 1)], 7⟩, ⟨8, .i64, .p 0, .a (-6) [(2, 1)], 8⟩]⟩ = true := by cases y <;> cases n <;> kernel_rfl
theorem run133 (y n : Bool) : RB 10 false 5 4 (.agg [n64 0, n64 1]) (.agg [.int .i64 (.a (-6) [(3, 1)]), .int .i64 (.a (-6) [(2, 1)])]) y n ⟨[bI, bI, (0, 43), (0, 43), (0, 18), bU, bU], [cl 0 1 0, cg 2 3 1, (1, [(0, 1)]), (0, [(1, (-1))]), ((-5), [(2, 1)])], [⟨2, .i64, v1 5, .p 44, 2⟩, ⟨2, .i64, v1 6, .p 44, 3⟩]⟩ = true := by cases y <;> cases n <;> kernel_rfl
theorem run134 (y n : Bool) : RB 10 false 5 6 (.agg [n64 0, n64 1]) (.agg [.int .i64 (.a (-6) [(3, 1)]), .int .i64 (.a (-6) [(2, 1)])]) y n ⟨[bI, bI, (0, 43), (0, 43), bL, bL, (0, 18), bU, bU], [cl 0 1 0, cg 2 3 1, (1, [(0, 1)]), (0, [(1, (-1))]), ((-5), [(3, 1)]), (6, [(2, (-1))])], [⟨2, .i64, v1 7, .p 44, 2⟩, ⟨2, .i64, v1 8, .p 44, 3⟩, ⟨8, .i64, v1 0, .a (-6) [(2, 1)], 4⟩, ⟨8, .i64, v1 1, .a (-6) [(2, 1)], 5⟩]⟩ = true := by cases y <;> cases n <;> kernel_rfl
theorem run135 (y n : Bool) : RB 10 false 5 9 (.agg [n64 0, n64 1]) (.agg [.int .i64 (.a (-6) [(3, 1)]), .int .i64 (.a (-6) [(2, 1)])]) y n ⟨[bI, bI, (0, 43), (0, 43), bL, bL, bL, bL, (0, 0), (0, 18), bU, bU], [cl 0 1 0, cg 2 3 1, (1, [(0, 1)]), (0, [(1, (-1))]), (6, [(3, (-1))])], [⟨2, .i64, v1 10, .p 44, 2⟩, ⟨2, .i64, v1 11, .p 44, 3⟩, ⟨8, .i64, v1 0, .a (-6) [(3, 1)], 4⟩, ⟨8, .i64, v1 0, .a (-6) [(2, 1)], 5⟩, ⟨8, .i64, v1 1, .a (-6) [(3, 1)], 6⟩, ⟨8, .i64, v1 1, .a (-6) [(2, 1)], 7⟩, ⟨8, .i64, .p 0, .a (-6) [(3, 1)], 8⟩]⟩ = true := by cases y <;> cases n <;> kernel_rfl
theorem run136 (y n : Bool) : RB 10 false 5 4 (.agg [n64 0, n64 1]) (.agg [.int .i64 (.a (-6) [(2, 1)]), .int .i64 (.a (-6) [(2, 1)])]) y n ⟨[bI, bI, (0, 43), (0, 43), (0, 18), bU, bU], [cl 0 1 0, (1, [(0, 1)]), (0, [(1, (-1))]), ((-5), [(2, 1)])], [⟨2, .i64, v1 5, .p 44, 2⟩, ⟨2, .i64, v1 6, .p 44, 2⟩]⟩ = true := by cases y <;> cases n <;> kernel_rfl
theorem run137 (y n : Bool) : RB 10 false 5 7 (.agg [n64 0, n64 1]) (.agg [.int .i64 (.a (-6) [(2, 1)]), .int .i64 (.a (-6) [(2, 1)])]) y n ⟨[bI, bI, (0, 43), (0, 43), bL, bL, (0, 0), (0, 18), bU, bU], [cl 0 1 0, (1, [(0, 1)]), (0, [(1, (-1))]), (6, [(2, (-1))])], [⟨2, .i64, v1 8, .p 44, 2⟩, ⟨2, .i64, v1 9, .p 44, 2⟩, ⟨8, .i64, v1 0, .a (-6) [(2, 1)], 4⟩, ⟨8, .i64, v1 1, .a (-6) [(2, 1)], 5⟩, ⟨8, .i64, .p 0, .a (-6) [(2, 1)], 6⟩]⟩ = true := by cases y <;> cases n <;> kernel_rfl
theorem op10 {a0 a2 a3 a4 a5 a6 a7 a8 : Int} (r0 : 0 ≤ a0 ∧ a0 ≤ 255) (r2 : 0 ≤ a2 ∧ a2 ≤ 4294967295) (r3 : 0 ≤ a3 ∧ a3 ≤ 4294967295) (r4 : 0 ≤ a4 ∧ a4 ≤ 4294967295) (r5 : 0 ≤ a5 ∧ a5 ≤ 4294967295) (r6 : 0 ≤ a6 ∧ a6 ≤ 255) (r7 : 0 ≤ a7 ∧ a7 ≤ 255) (r8 : (-9223372036854775808) ≤ a8 ∧ a8 ≤ 9223372036854775807) (a1 : Bool) (hk : a0 % 13 = 10) (w : World) : Calls Try.prog 4 #[.int .u8 a0, .bool a1, .int .u32 a2, .int .u32 a3, .int .u32 a4, .int .u32 a5, .int .u8 a6, .int .u8 a7, .int .i64 a8] w fun e w' => e = .returned (.bool true) ∧ Grown w w' := by
  cases a1 with
  | true =>
    obtain ⟨xl, xh, hx, x1, x2, x3⟩ := ends6 (a := a2) (b := a4) (far := a6) (by omega) (by omega) (by omega)
    obtain ⟨yl, eb, y1, y2⟩ : ∃ z, dfV 2 .i64 a3 44 = some z ∧ 0 ≤ z ∧ z ≤ 43 := ⟨_, remAny 44 (by omega) (by omega), by omega, by omega⟩
    obtain ⟨yh, ed, y3, y4⟩ : ∃ z, dfV 2 .i64 a5 44 = some z ∧ 0 ≤ z ∧ z ≤ 43 := ⟨_, remAny 44 (by omega) (by omega), by omega, by omega⟩
    rcases (show (yl < yh) ∨ (yh < yl) ∨ (yl = yh) by omega) with h0 | h0 | h0
    · rcases (show (yh ≤ 5) ∨ (yl ≤ 5 ∧ 6 ≤ yh) ∨ (6 ≤ yl) by omega) with h1 | h1 | h1
      · exact fx10 (xs := [xl, xh, yl, yh, a0 / 13, a3, a5, a2, a4, a6, a7, a8]) (run106 (relY a8 xl xh (-6 + yl) (-6 + yh)) (relN a8 xl xh (-6 + yl) (-6 + yh))) aB w (hT := ⟨awakeS, hS hx, hS (fS a8 xl xh (-6 + yl) (-6 + yh)), hS (rS a8 xl xh (-6 + yl) (-6 + yh)), trivial⟩) (h4 := ⟨dP eb, dP ed, trivial⟩)
      · obtain ⟨z0, e0, gz0a, gz0b⟩ := shlAny xl (y := (-6 + yh)) (by omega)
        obtain ⟨z1, e1, gz1a, gz1b⟩ := shlAny xh (y := (-6 + yh)) (by omega)
        exact fx10 (xs := [xl, xh, yl, yh, z0, z1, a0 / 13, a3, a5, a2, a4, a6, a7, a8]) (run107 (relY a8 xl xh (-6 + yl) (-6 + yh)) (relN a8 xl xh (-6 + yl) (-6 + yh))) aB w (hT := ⟨awakeS, hS hx, hS (fS a8 xl xh (-6 + yl) (-6 + yh)), hS (rS a8 xl xh (-6 + yl) (-6 + yh)), trivial⟩) (h4 := ⟨dP eb, dP ed, dP e0, dP e1, trivial⟩)
      · obtain ⟨z0, e0, gz0a, gz0b⟩ := shlAny xl (y := (-6 + yl)) (by omega)
        obtain ⟨z1, e1, gz1a, gz1b⟩ := shlAny xl (y := (-6 + yh)) (by omega)
        obtain ⟨z2, e2, gz2a, gz2b⟩ := shlAny xh (y := (-6 + yl)) (by omega)
        obtain ⟨z3, e3, gz3a, gz3b⟩ := shlAny xh (y := (-6 + yh)) (by omega)
        exact fx10 (xs := [xl, xh, yl, yh, z0, z1, z2, z3, a0 / 13, a3, a5, a2, a4, a6, a7, a8]) (run108 (relY a8 xl xh (-6 + yl) (-6 + yh)) (relN a8 xl xh (-6 + yl) (-6 + yh))) aB w (hT := ⟨awakeS, hS hx, hS (fS a8 xl xh (-6 + yl) (-6 + yh)), hS (rS a8 xl xh (-6 + yl) (-6 + yh)), trivial⟩) (h4 := ⟨dP eb, dP ed, dP e0, dP e1, dP e2, dP e3, trivial⟩)
    · rcases (show (yl ≤ 5) ∨ (yh ≤ 5 ∧ 6 ≤ yl) ∨ (6 ≤ yh) by omega) with h1 | h1 | h1
      · exact fx10 (xs := [xl, xh, yl, yh, a0 / 13, a3, a5, a2, a4, a6, a7, a8]) (run109 (relY a8 xl xh (-6 + yh) (-6 + yl)) (relN a8 xl xh (-6 + yh) (-6 + yl))) aB w (hT := ⟨awakeS, hS hx, hS (fS a8 xl xh (-6 + yh) (-6 + yl)), hS (rS a8 xl xh (-6 + yh) (-6 + yl)), trivial⟩) (h4 := ⟨dP eb, dP ed, trivial⟩)
      · obtain ⟨z0, e0, gz0a, gz0b⟩ := shlAny xl (y := (-6 + yl)) (by omega)
        obtain ⟨z1, e1, gz1a, gz1b⟩ := shlAny xh (y := (-6 + yl)) (by omega)
        exact fx10 (xs := [xl, xh, yl, yh, z0, z1, a0 / 13, a3, a5, a2, a4, a6, a7, a8]) (run110 (relY a8 xl xh (-6 + yh) (-6 + yl)) (relN a8 xl xh (-6 + yh) (-6 + yl))) aB w (hT := ⟨awakeS, hS hx, hS (fS a8 xl xh (-6 + yh) (-6 + yl)), hS (rS a8 xl xh (-6 + yh) (-6 + yl)), trivial⟩) (h4 := ⟨dP eb, dP ed, dP e0, dP e1, trivial⟩)
      · obtain ⟨z0, e0, gz0a, gz0b⟩ := shlAny xl (y := (-6 + yh)) (by omega)
        obtain ⟨z1, e1, gz1a, gz1b⟩ := shlAny xl (y := (-6 + yl)) (by omega)
        obtain ⟨z2, e2, gz2a, gz2b⟩ := shlAny xh (y := (-6 + yh)) (by omega)
        obtain ⟨z3, e3, gz3a, gz3b⟩ := shlAny xh (y := (-6 + yl)) (by omega)
        exact fx10 (xs := [xl, xh, yl, yh, z0, z1, z2, z3, a0 / 13, a3, a5, a2, a4, a6, a7, a8]) (run111 (relY a8 xl xh (-6 + yh) (-6 + yl)) (relN a8 xl xh (-6 + yh) (-6 + yl))) aB w (hT := ⟨awakeS, hS hx, hS (fS a8 xl xh (-6 + yh) (-6 + yl)), hS (rS a8 xl xh (-6 + yh) (-6 + yl)), trivial⟩) (h4 := ⟨dP eb, dP ed, dP e0, dP e1, dP e2, dP e3, trivial⟩)
    · obtain rfl : yl = yh := by omega
      rcases (show (yl ≤ 5) ∨ (6 ≤ yl) by omega) with h1 | h1
      · exact fx10 (xs := [xl, xh, yl, yl, a0 / 13, a3, a5, a2, a4, a6, a7, a8]) (run112 (relY a8 xl xh (-6 + yl) (-6 + yl)) (relN a8 xl xh (-6 + yl) (-6 + yl))) aB w (hT := ⟨awakeS, hS hx, hS (fS a8 xl xh (-6 + yl) (-6 + yl)), hS (rS a8 xl xh (-6 + yl) (-6 + yl)), trivial⟩) (h4 := ⟨dP eb, dP ed, trivial⟩)
      · obtain ⟨z0, e0, gz0a, gz0b⟩ := shlAny xl (y := (-6 + yl)) (by omega)
        obtain ⟨z1, e1, gz1a, gz1b⟩ := shlAny xh (y := (-6 + yl)) (by omega)
        exact fx10 (xs := [xl, xh, yl, yl, z0, z1, a0 / 13, a3, a5, a2, a4, a6, a7, a8]) (run113 (relY a8 xl xh (-6 + yl) (-6 + yl)) (relN a8 xl xh (-6 + yl) (-6 + yl))) aB w (hT := ⟨awakeS, hS hx, hS (fS a8 xl xh (-6 + yl) (-6 + yl)), hS (rS a8 xl xh (-6 + yl) (-6 + yl)), trivial⟩) (h4 := ⟨dP eb, dP ed, dP e0, dP e1, trivial⟩)
  | false =>
    obtain ⟨xl, xh, hx, x1, x2, x3⟩ := ends5 (a := a2) (b := a4) (far := a6) (by omega) (by omega) (by omega)
    obtain ⟨yl, eb, y1, y2⟩ : ∃ z, dfV 2 .i64 a3 44 = some z ∧ 0 ≤ z ∧ z ≤ 43 := ⟨_, remAny 44 (by omega) (by omega), by omega, by omega⟩
    obtain ⟨yh, ed, y3, y4⟩ : ∃ z, dfV 2 .i64 a5 44 = some z ∧ 0 ≤ z ∧ z ≤ 43 := ⟨_, remAny 44 (by omega) (by omega), by omega, by omega⟩
    rcases (show (0 ≤ xl) ∨ (xh ≤ -1) ∨ (xl ≤ -1 ∧ 0 ≤ xh) by omega) with h0 | h0 | h0
    · rcases (show (yl < yh) ∨ (yh < yl) ∨ (yl = yh) by omega) with h1 | h1 | h1
      · rcases (show (yh ≤ 5) ∨ (yl ≤ 5 ∧ 6 ≤ yh) ∨ (6 ≤ yl) by omega) with h2 | h2 | h2
        · exact fx10 (xs := [xl, xh, yl, yh, a0 / 13, a3, a5, a2, a4, a6, a7, a8]) (run114 (relY a8 xl xh (-6 + yl) (-6 + yh)) (relN a8 xl xh (-6 + yl) (-6 + yh))) aB w (hT := ⟨awakeS, hS hx, hS (fS a8 xl xh (-6 + yl) (-6 + yh)), hS (rS a8 xl xh (-6 + yl) (-6 + yh)), trivial⟩) (h4 := ⟨dP eb, dP ed, trivial⟩)
        · obtain ⟨z0, e0, gz0a, gz0b⟩ := shlAny xl (y := (-6 + yh)) (by omega)
          obtain ⟨z1, e1, gz1a, gz1b⟩ := shlAny xh (y := (-6 + yh)) (by omega)
          exact fx10 (xs := [xl, xh, yl, yh, z0, z1, a0 / 13, a3, a5, a2, a4, a6, a7, a8]) (run115 (relY a8 xl xh (-6 + yl) (-6 + yh)) (relN a8 xl xh (-6 + yl) (-6 + yh))) aB w (hT := ⟨awakeS, hS hx, hS (fS a8 xl xh (-6 + yl) (-6 + yh)), hS (rS a8 xl xh (-6 + yl) (-6 + yh)), trivial⟩) (h4 := ⟨dP eb, dP ed, dP e0, dP e1, trivial⟩)
        · obtain ⟨z0, e0, gz0a, gz0b⟩ := shlAny xl (y := (-6 + yl)) (by omega)
          obtain ⟨z1, e1, gz1a, gz1b⟩ := shlAny xl (y := (-6 + yh)) (by omega)
          obtain ⟨z2, e2, gz2a, gz2b⟩ := shlAny xh (y := (-6 + yl)) (by omega)
          obtain ⟨z3, e3, gz3a, gz3b⟩ := shlAny xh (y := (-6 + yh)) (by omega)
          exact fx10 (xs := [xl, xh, yl, yh, z0, z1, z2, z3, a0 / 13, a3, a5, a2, a4, a6, a7, a8]) (run116 (relY a8 xl xh (-6 + yl) (-6 + yh)) (relN a8 xl xh (-6 + yl) (-6 + yh))) aB w (hT := ⟨awakeS, hS hx, hS (fS a8 xl xh (-6 + yl) (-6 + yh)), hS (rS a8 xl xh (-6 + yl) (-6 + yh)), trivial⟩) (h4 := ⟨dP eb, dP ed, dP e0, dP e1, dP e2, dP e3, trivial⟩)
      · rcases (show (yl ≤ 5) ∨ (yh ≤ 5 ∧ 6 ≤ yl) ∨ (6 ≤ yh) by omega) with h2 | h2 | h2
        · exact fx10 (xs := [xl, xh, yl, yh, a0 / 13, a3, a5, a2, a4, a6, a7, a8]) (run117 (relY a8 xl xh (-6 + yh) (-6 + yl)) (relN a8 xl xh (-6 + yh) (-6 + yl))) aB w (hT := ⟨awakeS, hS hx, hS (fS a8 xl xh (-6 + yh) (-6 + yl)), hS (rS a8 xl xh (-6 + yh) (-6 + yl)), trivial⟩) (h4 := ⟨dP eb, dP ed, trivial⟩)
        · obtain ⟨z0, e0, gz0a, gz0b⟩ := shlAny xl (y := (-6 + yl)) (by omega)
          obtain ⟨z1, e1, gz1a, gz1b⟩ := shlAny xh (y := (-6 + yl)) (by omega)
          exact fx10 (xs := [xl, xh, yl, yh, z0, z1, a0 / 13, a3, a5, a2, a4, a6, a7, a8]) (run118 (relY a8 xl xh (-6 + yh) (-6 + yl)) (relN a8 xl xh (-6 + yh) (-6 + yl))) aB w (hT := ⟨awakeS, hS hx, hS (fS a8 xl xh (-6 + yh) (-6 + yl)), hS (rS a8 xl xh (-6 + yh) (-6 + yl)), trivial⟩) (h4 := ⟨dP eb, dP ed, dP e0, dP e1, trivial⟩)
        · obtain ⟨z0, e0, gz0a, gz0b⟩ := shlAny xl (y := (-6 + yh)) (by omega)
          obtain ⟨z1, e1, gz1a, gz1b⟩ := shlAny xl (y := (-6 + yl)) (by omega)
          obtain ⟨z2, e2, gz2a, gz2b⟩ := shlAny xh (y := (-6 + yh)) (by omega)
          obtain ⟨z3, e3, gz3a, gz3b⟩ := shlAny xh (y := (-6 + yl)) (by omega)
          exact fx10 (xs := [xl, xh, yl, yh, z0, z1, z2, z3, a0 / 13, a3, a5, a2, a4, a6, a7, a8]) (run119 (relY a8 xl xh (-6 + yh) (-6 + yl)) (relN a8 xl xh (-6 + yh) (-6 + yl))) aB w (hT := ⟨awakeS, hS hx, hS (fS a8 xl xh (-6 + yh) (-6 + yl)), hS (rS a8 xl xh (-6 + yh) (-6 + yl)), trivial⟩) (h4 := ⟨dP eb, dP ed, dP e0, dP e1, dP e2, dP e3, trivial⟩)
      · obtain rfl : yl = yh := by omega
        rcases (show (yl ≤ 5) ∨ (6 ≤ yl) by omega) with h2 | h2
        · exact fx10 (xs := [xl, xh, yl, yl, a0 / 13, a3, a5, a2, a4, a6, a7, a8]) (run120 (relY a8 xl xh (-6 + yl) (-6 + yl)) (relN a8 xl xh (-6 + yl) (-6 + yl))) aB w (hT := ⟨awakeS, hS hx, hS (fS a8 xl xh (-6 + yl) (-6 + yl)), hS (rS a8 xl xh (-6 + yl) (-6 + yl)), trivial⟩) (h4 := ⟨dP eb, dP ed, trivial⟩)
        · obtain ⟨z0, e0, gz0a, gz0b⟩ := shlAny xl (y := (-6 + yl)) (by omega)
          obtain ⟨z1, e1, gz1a, gz1b⟩ := shlAny xh (y := (-6 + yl)) (by omega)
          exact fx10 (xs := [xl, xh, yl, yl, z0, z1, a0 / 13, a3, a5, a2, a4, a6, a7, a8]) (run121 (relY a8 xl xh (-6 + yl) (-6 + yl)) (relN a8 xl xh (-6 + yl) (-6 + yl))) aB w (hT := ⟨awakeS, hS hx, hS (fS a8 xl xh (-6 + yl) (-6 + yl)), hS (rS a8 xl xh (-6 + yl) (-6 + yl)), trivial⟩) (h4 := ⟨dP eb, dP ed, dP e0, dP e1, trivial⟩)
    · rcases (show (yl < yh) ∨ (yh < yl) ∨ (yl = yh) by omega) with h1 | h1 | h1
      · rcases (show (yh ≤ 5) ∨ (yl ≤ 5 ∧ 6 ≤ yh) ∨ (6 ≤ yl) by omega) with h2 | h2 | h2
        · exact fx10 (xs := [xl, xh, yl, yh, a0 / 13, a3, a5, a2, a4, a6, a7, a8]) (run122 (relY a8 xl xh (-6 + yl) (-6 + yh)) (relN a8 xl xh (-6 + yl) (-6 + yh))) aB w (hT := ⟨awakeS, hS hx, hS (fS a8 xl xh (-6 + yl) (-6 + yh)), hS (rS a8 xl xh (-6 + yl) (-6 + yh)), trivial⟩) (h4 := ⟨dP eb, dP ed, trivial⟩)
        · obtain ⟨z0, e0, gz0a, gz0b⟩ := shlAny xl (y := (-6 + yh)) (by omega)
          obtain ⟨z1, e1, gz1a, gz1b⟩ := shlAny xh (y := (-6 + yh)) (by omega)
          exact fx10 (xs := [xl, xh, yl, yh, z0, z1, a0 / 13, a3, a5, a2, a4, a6, a7, a8]) (run123 (relY a8 xl xh (-6 + yl) (-6 + yh)) (relN a8 xl xh (-6 + yl) (-6 + yh))) aB w (hT := ⟨awakeS, hS hx, hS (fS a8 xl xh (-6 + yl) (-6 + yh)), hS (rS a8 xl xh (-6 + yl) (-6 + yh)), trivial⟩) (h4 := ⟨dP eb, dP ed, dP e0, dP e1, trivial⟩)
        · obtain ⟨z0, e0, gz0a, gz0b⟩ := shlAny xl (y := (-6 + yl)) (by omega)
          obtain ⟨z1, e1, gz1a, gz1b⟩ := shlAny xl (y := (-6 + yh)) (by omega)
          obtain ⟨z2, e2, gz2a, gz2b⟩ := shlAny xh (y := (-6 + yl)) (by omega)
          obtain ⟨z3, e3, gz3a, gz3b⟩ := shlAny xh (y := (-6 + yh)) (by omega)
          exact fx10 (xs := [xl, xh, yl, yh, z0, z1, z2, z3, a0 / 13, a3, a5, a2, a4, a6, a7, a8]) (run124 (relY a8 xl xh (-6 + yl) (-6 + yh)) (relN a8 xl xh (-6 + yl) (-6 + yh))) aB w (hT := ⟨awakeS, hS hx, hS (fS a8 xl xh (-6 + yl) (-6 + yh)), hS (rS a8 xl xh (-6 + yl) (-6 + yh)), trivial⟩) (h4 := ⟨dP eb, dP ed, dP e0, dP e1, dP e2, dP e3, trivial⟩)
      · rcases (show (yl ≤ 5) ∨ (yh ≤ 5 ∧ 6 ≤ yl) ∨ (6 ≤ yh) by omega) with h2 | h2 | h2
        · exact fx10 (xs := [xl, xh, yl, yh, a0 / 13, a3, a5, a2, a4, a6, a7, a8]) (run125 (relY a8 xl xh (-6 + yh) (-6 + yl)) (relN a8 xl xh (-6 + yh) (-6 + yl))) aB w (hT := ⟨awakeS, hS hx, hS (fS a8 xl xh (-6 + yh) (-6 + yl)), hS (rS a8 xl xh (-6 + yh) (-6 + yl)), trivial⟩) (h4 := ⟨dP eb, dP ed, trivial⟩)
        · obtain ⟨z0, e0, gz0a, gz0b⟩ := shlAny xl (y := (-6 + yl)) (by omega)
          obtain ⟨z1, e1, gz1a, gz1b⟩ := shlAny xh (y := (-6 + yl)) (by omega)
          exact fx10 (xs := [xl, xh, yl, yh, z0, z1, a0 / 13, a3, a5, a2, a4, a6, a7, a8]) (run126 (relY a8 xl xh (-6 + yh) (-6 + yl)) (relN a8 xl xh (-6 + yh) (-6 + yl))) aB w (hT := ⟨awakeS, hS hx, hS (fS a8 xl xh (-6 + yh) (-6 + yl)), hS (rS a8 xl xh (-6 + yh) (-6 + yl)), trivial⟩) (h4 := ⟨dP eb, dP ed, dP e0, dP e1, trivial⟩)
        · obtain ⟨z0, e0, gz0a, gz0b⟩ := shlAny xl (y := (-6 + yh)) (by omega)
          obtain ⟨z1, e1, gz1a, gz1b⟩ := shlAny xl (y := (-6 + yl)) (by omega)
          obtain ⟨z2, e2, gz2a, gz2b⟩ := shlAny xh (y := (-6 + yh)) (by omega)
          obtain ⟨z3, e3, gz3a, gz3b⟩ := shlAny xh (y := (-6 + yl)) (by omega)
          exact fx10 (xs := [xl, xh, yl, yh, z0, z1, z2, z3, a0 / 13, a3, a5, a2, a4, a6, a7, a8]) (run127 (relY a8 xl xh (-6 + yh) (-6 + yl)) (relN a8 xl xh (-6 + yh) (-6 + yl))) aB w (hT := ⟨awakeS, hS hx, hS (fS a8 xl xh (-6 + yh) (-6 + yl)), hS (rS a8 xl xh (-6 + yh) (-6 + yl)), trivial⟩) (h4 := ⟨dP eb, dP ed, dP e0, dP e1, dP e2, dP e3, trivial⟩)
      · obtain rfl : yl = yh := by omega
        rcases (show (yl ≤ 5) ∨ (6 ≤ yl) by omega) with h2 | h2
        · exact fx10 (xs := [xl, xh, yl, yl, a0 / 13, a3, a5, a2, a4, a6, a7, a8]) (run128 (relY a8 xl xh (-6 + yl) (-6 + yl)) (relN a8 xl xh (-6 + yl) (-6 + yl))) aB w (hT := ⟨awakeS, hS hx, hS (fS a8 xl xh (-6 + yl) (-6 + yl)), hS (rS a8 xl xh (-6 + yl) (-6 + yl)), trivial⟩) (h4 := ⟨dP eb, dP ed, trivial⟩)
        · obtain ⟨z0, e0, gz0a, gz0b⟩ := shlAny xl (y := (-6 + yl)) (by omega)
          obtain ⟨z1, e1, gz1a, gz1b⟩ := shlAny xh (y := (-6 + yl)) (by omega)
          exact fx10 (xs := [xl, xh, yl, yl, z0, z1, a0 / 13, a3, a5, a2, a4, a6, a7, a8]) (run129 (relY a8 xl xh (-6 + yl) (-6 + yl)) (relN a8 xl xh (-6 + yl) (-6 + yl))) aB w (hT := ⟨awakeS, hS hx, hS (fS a8 xl xh (-6 + yl) (-6 + yl)), hS (rS a8 xl xh (-6 + yl) (-6 + yl)), trivial⟩) (h4 := ⟨dP eb, dP ed, dP e0, dP e1, trivial⟩)
    · rcases (show (yl < yh) ∨ (yh < yl) ∨ (yl = yh) by omega) with h1 | h1 | h1
      · rcases (show (yh ≤ 5) ∨ (yl ≤ 5 ∧ 6 ≤ yh) ∨ (6 ≤ yl) by omega) with h2 | h2 | h2
        · exact fx10 (xs := [xl, xh, yl, yh, a0 / 13, a3, a5, a2, a4, a6, a7, a8]) (run130 (relY a8 xl xh (-6 + yl) (-6 + yh)) (relN a8 xl xh (-6 + yl) (-6 + yh))) aB w (hT := ⟨awakeS, hS hx, hS (fS a8 xl xh (-6 + yl) (-6 + yh)), hS (rS a8 xl xh (-6 + yl) (-6 + yh)), trivial⟩) (h4 := ⟨dP eb, dP ed, trivial⟩)
        · obtain ⟨z0, e0, gz0a, gz0b⟩ := shlAny xl (y := (-6 + yh)) (by omega)
          obtain ⟨z1, e1, gz1a, gz1b⟩ := shlAny xh (y := (-6 + yh)) (by omega)
          exact fx10 (xs := [xl, xh, yl, yh, z0, z1, a0 / 13, a3, a5, a2, a4, a6, a7, a8]) (run131 (relY a8 xl xh (-6 + yl) (-6 + yh)) (relN a8 xl xh (-6 + yl) (-6 + yh))) aB w (hT := ⟨awakeS, hS hx, hS (fS a8 xl xh (-6 + yl) (-6 + yh)), hS (rS a8 xl xh (-6 + yl) (-6 + yh)), trivial⟩) (h4 := ⟨dP eb, dP ed, dP e0, dP e1, trivial⟩)
        · obtain ⟨z0, e0, gz0a, gz0b⟩ := shlAny xl (y := (-6 + yl)) (by omega)
          obtain ⟨z1, e1, gz1a, gz1b⟩ := shlAny xl (y := (-6 + yh)) (by omega)
          obtain ⟨z2, e2, gz2a, gz2b⟩ := shlAny xh (y := (-6 + yl)) (by omega)
          obtain ⟨z3, e3, gz3a, gz3b⟩ := shlAny xh (y := (-6 + yh)) (by omega)
          obtain ⟨z4, e4, gz4a, gz4b⟩ : ∃ z, dfV 8 .i64 0 (-6 + yl) = some z ∧ 0 ≤ z ∧ z ≤ 0 := ⟨0, shl0 (by omega), by omega, by omega⟩
          exact fx10 (xs := [xl, xh, yl, yh, z0, z1, z2, z3, z4, a0 / 13, a3, a5, a2, a4, a6, a7, a8]) (run132 (relY a8 xl xh (-6 + yl) (-6 + yh)) (relN a8 xl xh (-6 + yl) (-6 + yh))) aB w (hT := ⟨awakeS, hS hx, hS (fS a8 xl xh (-6 + yl) (-6 + yh)), hS (rS a8 xl xh (-6 + yl) (-6 + yh)), trivial⟩) (h4 := ⟨dP eb, dP ed, dP e0, dP e1, dP e2, dP e3, dP e4, trivial⟩)
      · rcases (show (yl ≤ 5) ∨ (yh ≤ 5 ∧ 6 ≤ yl) ∨ (6 ≤ yh) by omega) with h2 | h2 | h2
        · exact fx10 (xs := [xl, xh, yl, yh, a0 / 13, a3, a5, a2, a4, a6, a7, a8]) (run133 (relY a8 xl xh (-6 + yh) (-6 + yl)) (relN a8 xl xh (-6 + yh) (-6 + yl))) aB w (hT := ⟨awakeS, hS hx, hS (fS a8 xl xh (-6 + yh) (-6 + yl)), hS (rS a8 xl xh (-6 + yh) (-6 + yl)), trivial⟩) (h4 := ⟨dP eb, dP ed, trivial⟩)
        · obtain ⟨z0, e0, gz0a, gz0b⟩ := shlAny xl (y := (-6 + yl)) (by omega)
          obtain ⟨z1, e1, gz1a, gz1b⟩ := shlAny xh (y := (-6 + yl)) (by omega)
          exact fx10 (xs := [xl, xh, yl, yh, z0, z1, a0 / 13, a3, a5, a2, a4, a6, a7, a8]) (run134 (relY a8 xl xh (-6 + yh) (-6 + yl)) (relN a8 xl xh (-6 + yh) (-6 + yl))) aB w (hT := ⟨awakeS, hS hx, hS (fS a8 xl xh (-6 + yh) (-6 + yl)), hS (rS a8 xl xh (-6 + yh) (-6 + yl)), trivial⟩) (h4 := ⟨dP eb, dP ed, dP e0, dP e1, trivial⟩)
        · obtain ⟨z0, e0, gz0a, gz0b⟩ := shlAny xl (y := (-6 + yh)) (by omega)
          obtain ⟨z1, e1, gz1a, gz1b⟩ := shlAny xl (y := (-6 + yl)) (by omega)
          obtain ⟨z2, e2, gz2a, gz2b⟩ := shlAny xh (y := (-6 + yh)) (by omega)
          obtain ⟨z3, e3, gz3a, gz3b⟩ := shlAny xh (y := (-6 + yl)) (by omega)
          obtain ⟨z4, e4, gz4a, gz4b⟩ : ∃ z, dfV 8 .i64 0 (-6 + yh) = some z ∧ 0 ≤ z ∧ z ≤ 0 := ⟨0, shl0 (by omega), by omega, by omega⟩
          exact fx10 (xs := [xl, xh, yl, yh, z0, z1, z2, z3, z4, a0 / 13, a3, a5, a2, a4, a6, a7, a8]) (run135 (relY a8 xl xh (-6 + yh) (-6 + yl)) (relN a8 xl xh (-6 + yh) (-6 + yl))) aB w (hT := ⟨awakeS, hS hx, hS (fS a8 xl xh (-6 + yh) (-6 + yl)), hS (rS a8 xl xh (-6 + yh) (-6 + yl)), trivial⟩) (h4 := ⟨dP eb, dP ed, dP e0, dP e1, dP e2, dP e3, dP e4, trivial⟩)
      · obtain rfl : yl = yh := by omega
        rcases (show (yl ≤ 5) ∨ (6 ≤ yl) by omega) with h2 | h2
        · exact fx10 (xs := [xl, xh, yl, yl, a0 / 13, a3, a5, a2, a4, a6, a7, a8]) (run136 (relY a8 xl xh (-6 + yl) (-6 + yl)) (relN a8 xl xh (-6 + yl) (-6 + yl))) aB w (hT := ⟨awakeS, hS hx, hS (fS a8 xl xh (-6 + yl) (-6 + yl)), hS (rS a8 xl xh (-6 + yl) (-6 + yl)), trivial⟩) (h4 := ⟨dP eb, dP ed, trivial⟩)
        · obtain ⟨z0, e0, gz0a, gz0b⟩ := shlAny xl (y := (-6 + yl)) (by omega)
          obtain ⟨z1, e1, gz1a, gz1b⟩ := shlAny xh (y := (-6 + yl)) (by omega)
          obtain ⟨z2, e2, gz2a, gz2b⟩ : ∃ z, dfV 8 .i64 0 (-6 + yl) = some z ∧ 0 ≤ z ∧ z ≤ 0 := ⟨0, shl0 (by omega), by omega, by omega⟩
          exact fx10 (xs := [xl, xh, yl, yl, z0, z1, z2, a0 / 13, a3, a5, a2, a4, a6, a7, a8]) (run137 (relY a8 xl xh (-6 + yl) (-6 + yl)) (relN a8 xl xh (-6 + yl) (-6 + yl))) aB w (hT := ⟨awakeS, hS hx, hS (fS a8 xl xh (-6 + yl) (-6 + yl)), hS (rS a8 xl xh (-6 + yl) (-6 + yl)), trivial⟩) (h4 := ⟨dP eb, dP ed, dP e0, dP e1, dP e2, trivial⟩)
end Go.Proofs.Ytcjnmphpfdlikaa.fwdAll
