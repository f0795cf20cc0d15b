/- FwdAll, part 5: runs of the kernel, and what follows of them at all inputs of that part. No condition but these. Written by program. -/
import Derived.Test.YtcjnmphpfdlikaaFwdAllQ5x0
import Derived.Test.YtcjnmphpfdlikaaFwdAllQ5x1
import Derived.Test.YtcjnmphpfdlikaaFwdAllQ5x2
import Derived.Test.YtcjnmphpfdlikaaFwdAllQ5x3
import Derived.Test.YtcjnmphpfdlikaaFwdAllQ5x4
import Derived.Test.YtcjnmphpfdlikaaFwdAllQ5x5
import Derived.Test.YtcjnmphpfdlikaaDrawC
import Derived.Test.YtcjnmphpfdlikaaSumsC
import Derived.Test.YtcjnmphpfdlikaaShortC
import Derived.KernelRfl
set_option linter.unusedVariables false
set_option linter.unusedSimpArgs false
set_option maxRecDepth 1000000
set_option maxHeartbeats 100000000
namespace Go.Proofs.Ytcjnmphpfdlikaa.fwdAll
open Go Go.Sx Go.RowKit Go.Fx Go.Proofs.Ytcjnmphpfdlikaa.fs
theorem fx5 {args : List KV} {cx : Cx} {xs : List Int} {args' : List Value} {T : Tab} (h : runK Try.prog (tabK (fstF sums) T) 100000 4 args cx = true) (hargs : VRels noMap (absL (rho xs) args) args') (w : World) (hT : tabAll (entS sums) (rho xs) T) (h4 : dfAll xs cx.df := by exact trivial) (h1 : boxAll xs cx.box := by simp only [boxAll, and_true, bU, bI, bL] <;> omega) (h2 : csAll xs cx.cs := by first | exact trivial | (simp [csAll, evT, rho, cl, cg] <;> omega)) (h3 : noSv cx.box = true := by rfl) : Calls Try.prog 4 args'.toArray w fun e w' => e = .returned (.bool true) ∧ Grown w w' := calls_tab kdC.progOK kdC.mixed sumsOK sumsBody h h1 h2 h4 hT hargs w (h3 := h3)
theorem op5 {a0 a2 a3 a4 a5 a6 a7 a8 : Int} (r0 : 0 ≤ a0 ∧ a0 ≤ 255) (r2 : 0 ≤ a2 ∧ a2 ≤ 4294967295) (r3 : 0 ≤ a3 ∧ a3 ≤ 4294967295) (r4 : 0 ≤ a4 ∧ a4 ≤ 4294967295) (r5 : 0 ≤ a5 ∧ a5 ≤ 4294967295) (r6 : 0 ≤ a6 ∧ a6 ≤ 255) (r7 : 0 ≤ a7 ∧ a7 ≤ 255) (r8 : (-9223372036854775808) ≤ a8 ∧ a8 ≤ 9223372036854775807) (a1 : Bool) (hk : a0 % 13 = 5) (w : World) : Calls Try.prog 4 #[.int .u8 a0, .bool a1, .int .u32 a2, .int .u32 a3, .int .u32 a4, .int .u32 a5, .int .u8 a6, .int .u8 a7, .int .i64 a8] w fun e w' => e = .returned (.bool true) ∧ Grown w w' := by
  cases a1 with
  | true =>
    obtain ⟨xl, xh, hx, x1, x2, x3⟩ := ends6 (a := a2) (b := a4) (far := a6) (by omega) (by omega) (by omega)
    obtain ⟨yl, yh, hy, y1, y2, y3⟩ := ends6 (a := a3) (b := a5) (far := a7) (by omega) (by omega) (by omega)
    rcases (show (1 ≤ yl) ∨ (yl = 0 ∧ 1 ≤ yh) ∨ (yl = 0 ∧ yh = 0) by omega) with h0 | h0 | h0
    · have dz0 := qD xl yl
      have fz0 := q1 xl yl
      have rz0 := (qI xl xl xh yl yl yh).1 (by omega)
      have dz1 := qD xl yh
      have fz1 := q1 xl yh
      have rz1 := (qI xl xl xh yl yh yh).1 (by omega)
      have dz2 := qD xh yl
      have fz2 := q1 xh yl
      have rz2 := (qI xl xh xh yl yl yh).1 (by omega)
      have dz3 := qD xh yh
      have fz3 := q1 xh yh
      have rz3 := (qI xl xh xh yl yh yh).1 (by omega)
      exact fx5 (xs := [xl, xh, yl, yh, qV xl yl, qV xl yh, qV xh yl, qV xh yh, a0 / 13, a2, a3, a4, a5, a6, a7, a8]) (run172 (relY a8 xl xh yl yh) (relN a8 xl xh yl yh)) aA w (hT := ⟨awakeS, hS hx, hS hy, hS (fS a8 xl xh yl yh), hS (rS a8 xl xh yl yh), trivial⟩) (h4 := ⟨dP dz0, dP dz1, dP dz2, dP dz3, trivial⟩)
    · obtain rfl : yl = 0 := by omega
      have dz0 := qD xl 1
      have fz0 := q1 xl 1
      have rz0 := (qI xl xl xh 1 1 yh).1 (by omega)
      have dz1 := qD xl yh
      have fz1 := q1 xl yh
      have rz1 := (qI xl xl xh 1 yh yh).1 (by omega)
      have dz2 := qD xh 1
      have fz2 := q1 xh 1
      have rz2 := (qI xl xh xh 1 1 yh).1 (by omega)
      have dz3 := qD xh yh
      have fz3 := q1 xh yh
      have rz3 := (qI xl xh xh 1 yh yh).1 (by omega)
      exact fx5 (xs := [xl, xh, 0, yh, qV xl 1, qV xl yh, qV xh 1, qV xh yh, a0 / 13, a2, a3, a4, a5, a6, a7, a8]) (run173 (relY a8 xl xh 0 yh) (relN a8 xl xh 0 yh)) aA w (hT := ⟨awakeS, hS hx, hS hy, hS (fS a8 xl xh 0 yh), hS (rS a8 xl xh 0 yh), trivial⟩) (h4 := ⟨dP dz0, dP dz1, dP dz2, dP dz3, trivial⟩)
    · obtain rfl : yl = 0 := by omega
      obtain rfl : yh = 0 := by omega
      exact fx5 (xs := [xl, xh, 0, 0, a0 / 13, a2, a3, a4, a5, a6, a7, a8]) (run174 (relY a8 xl xh 0 0) (relN a8 xl xh 0 0)) aA w (hT := ⟨awakeS, hS hx, hS hy, hS (fS a8 xl xh 0 0), hS (rS a8 xl xh 0 0), trivial⟩)
  | false =>
    obtain ⟨xl, xh, hx, x1, x2, x3⟩ := ends5 (a := a2) (b := a4) (far := a6) (by omega) (by omega) (by omega)
    obtain ⟨yl, yh, hy, y1, y2, y3⟩ := ends5 (a := a3) (b := a5) (far := a7) (by omega) (by omega) (by omega)
    rcases (show (0 ≤ xl) ∨ (xl = -2147483648 ∧ xh = -2147483648) ∨ (xl = -2147483648 ∧ -2147483648 < xh ∧ xh ≤ -1) ∨ (-2147483648 < xl ∧ xh ≤ -1) ∨ (xl = -2147483648 ∧ 0 ≤ xh) ∨ (-2147483648 < xl ∧ xl ≤ -1 ∧ 0 ≤ xh) by omega) with h0 | h0 | h0 | h0 | h0 | h0
    · rcases (show (1 ≤ yl) ∨ (yl = 0 ∧ 1 ≤ yh) ∨ (yl ≤ -2 ∧ yh = -1) ∨ (yh ≤ -2) ∨ (yl ≤ -2 ∧ yh = 0) ∨ (yl ≤ -2 ∧ 1 ≤ yh) ∨ (yl = -1 ∧ yh = -1) ∨ (yl = -1 ∧ yh = 0) ∨ (yl = -1 ∧ 1 ≤ yh) ∨ (yl = 0 ∧ yh = 0) by omega) with h1 | h1 | h1 | h1 | h1 | h1 | h1 | h1 | h1 | h1
      · have dz0 := qD xl yl
        have fz0 := q1 xl yl
        have rz0 := (qI xl xl xh yl yl yh).1 (by omega)
        have dz1 := qD xl yh
        have fz1 := q1 xl yh
        have rz1 := (qI xl xl xh yl yh yh).1 (by omega)
        have dz2 := qD xh yl
        have fz2 := q1 xh yl
        have rz2 := (qI xl xh xh yl yl yh).1 (by omega)
        have dz3 := qD xh yh
        have fz3 := q1 xh yh
        have rz3 := (qI xl xh xh yl yh yh).1 (by omega)
        exact fx5 (xs := [xl, xh, yl, yh, qV xl yl, qV xl yh, qV xh yl, qV xh yh, a0 / 13, a2, a3, a4, a5, a6, a7, a8]) (run175 (relY a8 xl xh yl yh) (relN a8 xl xh yl yh)) aA w (hT := ⟨awakeS, hS hx, hS hy, hS (fS a8 xl xh yl yh), hS (rS a8 xl xh yl yh), trivial⟩) (h4 := ⟨dP dz0, dP dz1, dP dz2, dP dz3, trivial⟩)
      · obtain rfl : yl = 0 := by omega
        have dz0 := qD xl 1
        have fz0 := q1 xl 1
        have rz0 := (qI xl xl xh 1 1 yh).1 (by omega)
        have dz1 := qD xl yh
        have fz1 := q1 xl yh
        have rz1 := (qI xl xl xh 1 yh yh).1 (by omega)
        have dz2 := qD xh 1
        have fz2 := q1 xh 1
        have rz2 := (qI xl xh xh 1 1 yh).1 (by omega)
        have dz3 := qD xh yh
        have fz3 := q1 xh yh
        have rz3 := (qI xl xh xh 1 yh yh).1 (by omega)
        exact fx5 (xs := [xl, xh, 0, yh, qV xl 1, qV xl yh, qV xh 1, qV xh yh, a0 / 13, a2, a3, a4, a5, a6, a7, a8]) (run176 (relY a8 xl xh 0 yh) (relN a8 xl xh 0 yh)) aA w (hT := ⟨awakeS, hS hx, hS hy, hS (fS a8 xl xh 0 yh), hS (rS a8 xl xh 0 yh), trivial⟩) (h4 := ⟨dP dz0, dP dz1, dP dz2, dP dz3, trivial⟩)
      · obtain rfl : yh = -1 := by omega
        have dw0 := qD xl yl
        have fw0 := q3 xl yl
        have gw0 := q6 xl yl
        have rw0 := (qJ xl xl xh yl yl (-1)).1 (by omega)
        have dw1 := qD xl (-1)
        have fw1 := q3 xl (-1)
        have nw1 := q5 xl (-1)
        have rw1 := (qJ xl xl xh yl (-1) (-1)).1 (by omega)
        have dw2 := qD xh yl
        have fw2 := q3 xh yl
        have gw2 := q6 xh yl
        have rw2 := (qJ xl xh xh yl yl (-1)).1 (by omega)
        have dw3 := qD xh (-1)
        have fw3 := q3 xh (-1)
        have nw3 := q5 xh (-1)
        have rw3 := (qJ xl xh xh yl (-1) (-1)).1 (by omega)
        exact fx5 (xs := [xl, xh, yl, (-1), qV xl yl, qV xl (-1), qV xh yl, qV xh (-1), a0 / 13, a2, a3, a4, a5, a6, a7, a8]) (run177 (relY a8 xl xh yl (-1)) (relN a8 xl xh yl (-1))) aA w (hT := ⟨awakeS, hS hx, hS hy, hS (fS a8 xl xh yl (-1)), hS (rS a8 xl xh yl (-1)), trivial⟩) (h4 := ⟨dP dw0, dP dw1, dP dw2, dP dw3, trivial⟩)
      · have dw0 := qD xl yl
        have fw0 := q3 xl yl
        have gw0 := q6 xl yl
        have rw0 := (qJ xl xl xh yl yl yh).1 (by omega)
        have dw1 := qD xl yh
        have fw1 := q3 xl yh
        have gw1 := q6 xl yh
        have rw1 := (qJ xl xl xh yl yh yh).1 (by omega)
        have dw2 := qD xh yl
        have fw2 := q3 xh yl
        have gw2 := q6 xh yl
        have rw2 := (qJ xl xh xh yl yl yh).1 (by omega)
        have dw3 := qD xh yh
        have fw3 := q3 xh yh
        have gw3 := q6 xh yh
        have rw3 := (qJ xl xh xh yl yh yh).1 (by omega)
        exact fx5 (xs := [xl, xh, yl, yh, qV xl yl, qV xl yh, qV xh yl, qV xh yh, a0 / 13, a2, a3, a4, a5, a6, a7, a8]) (run178 (relY a8 xl xh yl yh) (relN a8 xl xh yl yh)) aA w (hT := ⟨awakeS, hS hx, hS hy, hS (fS a8 xl xh yl yh), hS (rS a8 xl xh yl yh), trivial⟩) (h4 := ⟨dP dw0, dP dw1, dP dw2, dP dw3, trivial⟩)
      · obtain rfl : yh = 0 := by omega
        have dw0 := qD xl yl
        have fw0 := q3 xl yl
        have gw0 := q6 xl yl
        have rw0 := (qJ xl xl xh yl yl (-1)).1 (by omega)
        have dw1 := qD xl (-1)
        have fw1 := q3 xl (-1)
        have nw1 := q5 xl (-1)
        have rw1 := (qJ xl xl xh yl (-1) (-1)).1 (by omega)
        have dw2 := qD xh yl
        have fw2 := q3 xh yl
        have gw2 := q6 xh yl
        have rw2 := (qJ xl xh xh yl yl (-1)).1 (by omega)
        have dw3 := qD xh (-1)
        have fw3 := q3 xh (-1)
        have nw3 := q5 xh (-1)
        have rw3 := (qJ xl xh xh yl (-1) (-1)).1 (by omega)
        exact fx5 (xs := [xl, xh, yl, 0, qV xl yl, qV xl (-1), qV xh yl, qV xh (-1), a0 / 13, a2, a3, a4, a5, a6, a7, a8]) (run179 (relY a8 xl xh yl 0) (relN a8 xl xh yl 0)) aA w (hT := ⟨awakeS, hS hx, hS hy, hS (fS a8 xl xh yl 0), hS (rS a8 xl xh yl 0), trivial⟩) (h4 := ⟨dP dw0, dP dw1, dP dw2, dP dw3, trivial⟩)
      · have dz0 := qD xl 1
        have fz0 := q1 xl 1
        have rz0 := (qI xl xl xh 1 1 yh).1 (by omega)
        have dz1 := qD xl yh
        have fz1 := q1 xl yh
        have rz1 := (qI xl xl xh 1 yh yh).1 (by omega)
        have dz2 := qD xh 1
        have fz2 := q1 xh 1
        have rz2 := (qI xl xh xh 1 1 yh).1 (by omega)
        have dz3 := qD xh yh
        have fz3 := q1 xh yh
        have rz3 := (qI xl xh xh 1 yh yh).1 (by omega)
        have dw0 := qD xl yl
        have fw0 := q3 xl yl
        have gw0 := q6 xl yl
        have rw0 := (qJ xl xl xh yl yl (-1)).1 (by omega)
        have dw1 := qD xl (-1)
        have fw1 := q3 xl (-1)
        have nw1 := q5 xl (-1)
        have rw1 := (qJ xl xl xh yl (-1) (-1)).1 (by omega)
        have dw2 := qD xh yl
        have fw2 := q3 xh yl
        have gw2 := q6 xh yl
        have rw2 := (qJ xl xh xh yl yl (-1)).1 (by omega)
        have dw3 := qD xh (-1)
        have fw3 := q3 xh (-1)
        have nw3 := q5 xh (-1)
        have rw3 := (qJ xl xh xh yl (-1) (-1)).1 (by omega)
        exact fx5 (xs := [xl, xh, yl, yh, qV xl 1, qV xl yh, qV xh 1, qV xh yh, qV xl yl, qV xl (-1), qV xh yl, qV xh (-1), a0 / 13, a2, a3, a4, a5, a6, a7, a8]) (run180 (relY a8 xl xh yl yh) (relN a8 xl xh yl yh)) aA w (hT := ⟨awakeS, hS hx, hS hy, hS (fS a8 xl xh yl yh), hS (rS a8 xl xh yl yh), trivial⟩) (h4 := ⟨dP dz0, dP dz1, dP dz2, dP dz3, dP dw0, dP dw1, dP dw2, dP dw3, trivial⟩)
      · obtain rfl : yl = -1 := by omega
        obtain rfl : yh = -1 := by omega
        have dw0 := qD xl (-1)
        have fw0 := q3 xl (-1)
        have nw0 := q5 xl (-1)
        have rw0 := (qJ xl xl xh (-1) (-1) (-1)).1 (by omega)
        have dw2 := qD xh (-1)
        have fw2 := q3 xh (-1)
        have nw2 := q5 xh (-1)
        have rw2 := (qJ xl xh xh (-1) (-1) (-1)).1 (by omega)
        exact fx5 (xs := [xl, xh, (-1), (-1), qV xl (-1), qV xh (-1), a0 / 13, a2, a3, a4, a5, a6, a7, a8]) (run181 (relY a8 xl xh (-1) (-1)) (relN a8 xl xh (-1) (-1))) aA w (hT := ⟨awakeS, hS hx, hS hy, hS (fS a8 xl xh (-1) (-1)), hS (rS a8 xl xh (-1) (-1)), trivial⟩) (h4 := ⟨dP dw0, dP dw2, trivial⟩)
      · obtain rfl : yl = -1 := by omega
        obtain rfl : yh = 0 := by omega
        have dw0 := qD xl (-1)
        have fw0 := q3 xl (-1)
        have nw0 := q5 xl (-1)
        have rw0 := (qJ xl xl xh (-1) (-1) (-1)).1 (by omega)
        have dw2 := qD xh (-1)
        have fw2 := q3 xh (-1)
        have nw2 := q5 xh (-1)
        have rw2 := (qJ xl xh xh (-1) (-1) (-1)).1 (by omega)
        exact fx5 (xs := [xl, xh, (-1), 0, qV xl (-1), qV xh (-1), a0 / 13, a2, a3, a4, a5, a6, a7, a8]) (run182 (relY a8 xl xh (-1) 0) (relN a8 xl xh (-1) 0)) aA w (hT := ⟨awakeS, hS hx, hS hy, hS (fS a8 xl xh (-1) 0), hS (rS a8 xl xh (-1) 0), trivial⟩) (h4 := ⟨dP dw0, dP dw2, trivial⟩)
      · obtain rfl : yl = -1 := by omega
        have dz0 := qD xl 1
        have fz0 := q1 xl 1
        have rz0 := (qI xl xl xh 1 1 yh).1 (by omega)
        have dz1 := qD xl yh
        have fz1 := q1 xl yh
        have rz1 := (qI xl xl xh 1 yh yh).1 (by omega)
        have dz2 := qD xh 1
        have fz2 := q1 xh 1
        have rz2 := (qI xl xh xh 1 1 yh).1 (by omega)
        have dz3 := qD xh yh
        have fz3 := q1 xh yh
        have rz3 := (qI xl xh xh 1 yh yh).1 (by omega)
        have dw0 := qD xl (-1)
        have fw0 := q3 xl (-1)
        have nw0 := q5 xl (-1)
        have rw0 := (qJ xl xl xh (-1) (-1) (-1)).1 (by omega)
        have dw2 := qD xh (-1)
        have fw2 := q3 xh (-1)
        have nw2 := q5 xh (-1)
        have rw2 := (qJ xl xh xh (-1) (-1) (-1)).1 (by omega)
        exact fx5 (xs := [xl, xh, (-1), yh, qV xl 1, qV xl yh, qV xh 1, qV xh yh, qV xl (-1), qV xh (-1), a0 / 13, a2, a3, a4, a5, a6, a7, a8]) (run183 (relY a8 xl xh (-1) yh) (relN a8 xl xh (-1) yh)) aA w (hT := ⟨awakeS, hS hx, hS hy, hS (fS a8 xl xh (-1) yh), hS (rS a8 xl xh (-1) yh), trivial⟩) (h4 := ⟨dP dz0, dP dz1, dP dz2, dP dz3, dP dw0, dP dw2, trivial⟩)
      · obtain rfl : yl = 0 := by omega
        obtain rfl : yh = 0 := by omega
        exact fx5 (xs := [xl, xh, 0, 0, a0 / 13, a2, a3, a4, a5, a6, a7, a8]) (run184 (relY a8 xl xh 0 0) (relN a8 xl xh 0 0)) aA w (hT := ⟨awakeS, hS hx, hS hy, hS (fS a8 xl xh 0 0), hS (rS a8 xl xh 0 0), trivial⟩)
    · rcases (show (1 ≤ yl) ∨ (yl = 0 ∧ 1 ≤ yh) ∨ (yl ≤ -2 ∧ yh = -1) ∨ (yh ≤ -2) ∨ (yl ≤ -2 ∧ yh = 0) ∨ (yl ≤ -2 ∧ 1 ≤ yh) ∨ (yl = -1 ∧ yh = -1) ∨ (yl = -1 ∧ yh = 0) ∨ (yl = -1 ∧ 1 ≤ yh) ∨ (yl = 0 ∧ yh = 0) by omega) with h1 | h1 | h1 | h1 | h1 | h1 | h1 | h1 | h1 | h1
      · have dz0 := qD xl yl
        have fz0 := q2 xl yl
        have rz0 := (qI xl xl xh yl yl yh).2 (by omega)
        have dz1 := qD xl yh
        have fz1 := q2 xl yh
        have rz1 := (qI xl xl xh yl yh yh).2 (by omega)
        have dz2 := qD xh yl
        have fz2 := q2 xh yl
        have rz2 := (qI xl xh xh yl yl yh).2 (by omega)
        have dz3 := qD xh yh
        have fz3 := q2 xh yh
        have rz3 := (qI xl xh xh yl yh yh).2 (by omega)
        exact fx5 (xs := [xl, xh, yl, yh, qV xl yl, qV xl yh, qV xh yl, qV xh yh, a0 / 13, a2, a3, a4, a5, a6, a7, a8]) (run185 (relY a8 xl xh yl yh) (relN a8 xl xh yl yh)) aA w (hT := ⟨awakeS, hS hx, hS hy, hS (fS a8 xl xh yl yh), hS (rS a8 xl xh yl yh), trivial⟩) (h4 := ⟨dP dz0, dP dz1, dP dz2, dP dz3, trivial⟩)
      · obtain rfl : yl = 0 := by omega
        have dz0 := qD xl 1
        have fz0 := q2 xl 1
        have rz0 := (qI xl xl xh 1 1 yh).2 (by omega)
        have dz1 := qD xl yh
        have fz1 := q2 xl yh
        have rz1 := (qI xl xl xh 1 yh yh).2 (by omega)
        have dz2 := qD xh 1
        have fz2 := q2 xh 1
        have rz2 := (qI xl xh xh 1 1 yh).2 (by omega)
        have dz3 := qD xh yh
        have fz3 := q2 xh yh
        have rz3 := (qI xl xh xh 1 yh yh).2 (by omega)
        exact fx5 (xs := [xl, xh, 0, yh, qV xl 1, qV xl yh, qV xh 1, qV xh yh, a0 / 13, a2, a3, a4, a5, a6, a7, a8]) (run186 (relY a8 xl xh 0 yh) (relN a8 xl xh 0 yh)) aA w (hT := ⟨awakeS, hS hx, hS hy, hS (fS a8 xl xh 0 yh), hS (rS a8 xl xh 0 yh), trivial⟩) (h4 := ⟨dP dz0, dP dz1, dP dz2, dP dz3, trivial⟩)
      · obtain rfl : yh = -1 := by omega
        have dw0 := qD xl yl
        have fw0 := q4 xl yl
        have gw0 := q6 xl yl
        have rw0 := (qJ xl xl xh yl yl (-1)).2 (by omega)
        have dw1 := qD xl (-1)
        have fw1 := q4 xl (-1)
        have nw1 := q5 xl (-1)
        have rw1 := (qJ xl xl xh yl (-1) (-1)).2 (by omega)
        have dw2 := qD xh yl
        have fw2 := q4 xh yl
        have gw2 := q6 xh yl
        have rw2 := (qJ xl xh xh yl yl (-1)).2 (by omega)
        have dw3 := qD xh (-1)
        have fw3 := q4 xh (-1)
        have nw3 := q5 xh (-1)
        have rw3 := (qJ xl xh xh yl (-1) (-1)).2 (by omega)
        exact fx5 (xs := [xl, xh, yl, (-1), qV xl yl, qV xl (-1), qV xh yl, qV xh (-1), a0 / 13, a2, a3, a4, a5, a6, a7, a8]) (run187 (relY a8 xl xh yl (-1)) (relN a8 xl xh yl (-1))) aA w (hT := ⟨awakeS, hS hx, hS hy, hS (fS a8 xl xh yl (-1)), hS (rS a8 xl xh yl (-1)), trivial⟩) (h4 := ⟨dP dw0, dP dw1, dP dw2, dP dw3, trivial⟩)
      · have dw0 := qD xl yl
        have fw0 := q4 xl yl
        have gw0 := q6 xl yl
        have rw0 := (qJ xl xl xh yl yl yh).2 (by omega)
        have dw1 := qD xl yh
        have fw1 := q4 xl yh
        have gw1 := q6 xl yh
        have rw1 := (qJ xl xl xh yl yh yh).2 (by omega)
        have dw2 := qD xh yl
        have fw2 := q4 xh yl
        have gw2 := q6 xh yl
        have rw2 := (qJ xl xh xh yl yl yh).2 (by omega)
        have dw3 := qD xh yh
        have fw3 := q4 xh yh
        have gw3 := q6 xh yh
        have rw3 := (qJ xl xh xh yl yh yh).2 (by omega)
        exact fx5 (xs := [xl, xh, yl, yh, qV xl yl, qV xl yh, qV xh yl, qV xh yh, a0 / 13, a2, a3, a4, a5, a6, a7, a8]) (run188 (relY a8 xl xh yl yh) (relN a8 xl xh yl yh)) aA w (hT := ⟨awakeS, hS hx, hS hy, hS (fS a8 xl xh yl yh), hS (rS a8 xl xh yl yh), trivial⟩) (h4 := ⟨dP dw0, dP dw1, dP dw2, dP dw3, trivial⟩)
      · obtain rfl : yh = 0 := by omega
        have dw0 := qD xl yl
        have fw0 := q4 xl yl
        have gw0 := q6 xl yl
        have rw0 := (qJ xl xl xh yl yl (-1)).2 (by omega)
        have dw1 := qD xl (-1)
        have fw1 := q4 xl (-1)
        have nw1 := q5 xl (-1)
        have rw1 := (qJ xl xl xh yl (-1) (-1)).2 (by omega)
        have dw2 := qD xh yl
        have fw2 := q4 xh yl
        have gw2 := q6 xh yl
        have rw2 := (qJ xl xh xh yl yl (-1)).2 (by omega)
        have dw3 := qD xh (-1)
        have fw3 := q4 xh (-1)
        have nw3 := q5 xh (-1)
        have rw3 := (qJ xl xh xh yl (-1) (-1)).2 (by omega)
        exact fx5 (xs := [xl, xh, yl, 0, qV xl yl, qV xl (-1), qV xh yl, qV xh (-1), a0 / 13, a2, a3, a4, a5, a6, a7, a8]) (run189 (relY a8 xl xh yl 0) (relN a8 xl xh yl 0)) aA w (hT := ⟨awakeS, hS hx, hS hy, hS (fS a8 xl xh yl 0), hS (rS a8 xl xh yl 0), trivial⟩) (h4 := ⟨dP dw0, dP dw1, dP dw2, dP dw3, trivial⟩)
      · have dz0 := qD xl 1
        have fz0 := q2 xl 1
        have rz0 := (qI xl xl xh 1 1 yh).2 (by omega)
        have dz1 := qD xl yh
        have fz1 := q2 xl yh
        have rz1 := (qI xl xl xh 1 yh yh).2 (by omega)
        have dz2 := qD xh 1
        have fz2 := q2 xh 1
        have rz2 := (qI xl xh xh 1 1 yh).2 (by omega)
        have dz3 := qD xh yh
        have fz3 := q2 xh yh
        have rz3 := (qI xl xh xh 1 yh yh).2 (by omega)
        have dw0 := qD xl yl
        have fw0 := q4 xl yl
        have gw0 := q6 xl yl
        have rw0 := (qJ xl xl xh yl yl (-1)).2 (by omega)
        have dw1 := qD xl (-1)
        have fw1 := q4 xl (-1)
        have nw1 := q5 xl (-1)
        have rw1 := (qJ xl xl xh yl (-1) (-1)).2 (by omega)
        have dw2 := qD xh yl
        have fw2 := q4 xh yl
        have gw2 := q6 xh yl
        have rw2 := (qJ xl xh xh yl yl (-1)).2 (by omega)
        have dw3 := qD xh (-1)
        have fw3 := q4 xh (-1)
        have nw3 := q5 xh (-1)
        have rw3 := (qJ xl xh xh yl (-1) (-1)).2 (by omega)
        exact fx5 (xs := [xl, xh, yl, yh, qV xl 1, qV xl yh, qV xh 1, qV xh yh, qV xl yl, qV xl (-1), qV xh yl, qV xh (-1), a0 / 13, a2, a3, a4, a5, a6, a7, a8]) (run190 (relY a8 xl xh yl yh) (relN a8 xl xh yl yh)) aA w (hT := ⟨awakeS, hS hx, hS hy, hS (fS a8 xl xh yl yh), hS (rS a8 xl xh yl yh), trivial⟩) (h4 := ⟨dP dz0, dP dz1, dP dz2, dP dz3, dP dw0, dP dw1, dP dw2, dP dw3, trivial⟩)
      · obtain rfl : yl = -1 := by omega
        obtain rfl : yh = -1 := by omega
        have dw0 := qD xl (-1)
        have fw0 := q4 xl (-1)
        have nw0 := q5 xl (-1)
        have rw0 := (qJ xl xl xh (-1) (-1) (-1)).2 (by omega)
        have dw2 := qD xh (-1)
        have fw2 := q4 xh (-1)
        have nw2 := q5 xh (-1)
        have rw2 := (qJ xl xh xh (-1) (-1) (-1)).2 (by omega)
        exact fx5 (xs := [xl, xh, (-1), (-1), qV xl (-1), qV xh (-1), a0 / 13, a2, a3, a4, a5, a6, a7, a8]) (run191 (relY a8 xl xh (-1) (-1)) (relN a8 xl xh (-1) (-1))) aA w (hT := ⟨awakeS, hS hx, hS hy, hS (fS a8 xl xh (-1) (-1)), hS (rS a8 xl xh (-1) (-1)), trivial⟩) (h4 := ⟨dP dw0, dP dw2, trivial⟩)
      · obtain rfl : yl = -1 := by omega
        obtain rfl : yh = 0 := by omega
        have dw0 := qD xl (-1)
        have fw0 := q4 xl (-1)
        have nw0 := q5 xl (-1)
        have rw0 := (qJ xl xl xh (-1) (-1) (-1)).2 (by omega)
        have dw2 := qD xh (-1)
        have fw2 := q4 xh (-1)
        have nw2 := q5 xh (-1)
        have rw2 := (qJ xl xh xh (-1) (-1) (-1)).2 (by omega)
        exact fx5 (xs := [xl, xh, (-1), 0, qV xl (-1), qV xh (-1), a0 / 13, a2, a3, a4, a5, a6, a7, a8]) (run192 (relY a8 xl xh (-1) 0) (relN a8 xl xh (-1) 0)) aA w (hT := ⟨awakeS, hS hx, hS hy, hS (fS a8 xl xh (-1) 0), hS (rS a8 xl xh (-1) 0), trivial⟩) (h4 := ⟨dP dw0, dP dw2, trivial⟩)
      · obtain rfl : yl = -1 := by omega
        have dz0 := qD xl 1
        have fz0 := q2 xl 1
        have rz0 := (qI xl xl xh 1 1 yh).2 (by omega)
        have dz1 := qD xl yh
        have fz1 := q2 xl yh
        have rz1 := (qI xl xl xh 1 yh yh).2 (by omega)
        have dz2 := qD xh 1
        have fz2 := q2 xh 1
        have rz2 := (qI xl xh xh 1 1 yh).2 (by omega)
        have dz3 := qD xh yh
        have fz3 := q2 xh yh
        have rz3 := (qI xl xh xh 1 yh yh).2 (by omega)
        have dw0 := qD xl (-1)
        have fw0 := q4 xl (-1)
        have nw0 := q5 xl (-1)
        have rw0 := (qJ xl xl xh (-1) (-1) (-1)).2 (by omega)
        have dw2 := qD xh (-1)
        have fw2 := q4 xh (-1)
        have nw2 := q5 xh (-1)
        have rw2 := (qJ xl xh xh (-1) (-1) (-1)).2 (by omega)
        exact fx5 (xs := [xl, xh, (-1), yh, qV xl 1, qV xl yh, qV xh 1, qV xh yh, qV xl (-1), qV xh (-1), a0 / 13, a2, a3, a4, a5, a6, a7, a8]) (run193 (relY a8 xl xh (-1) yh) (relN a8 xl xh (-1) yh)) aA w (hT := ⟨awakeS, hS hx, hS hy, hS (fS a8 xl xh (-1) yh), hS (rS a8 xl xh (-1) yh), trivial⟩) (h4 := ⟨dP dz0, dP dz1, dP dz2, dP dz3, dP dw0, dP dw2, trivial⟩)
      · obtain rfl : yl = 0 := by omega
        obtain rfl : yh = 0 := by omega
        exact fx5 (xs := [xl, xh, 0, 0, a0 / 13, a2, a3, a4, a5, a6, a7, a8]) (run194 (relY a8 xl xh 0 0) (relN a8 xl xh 0 0)) aA w (hT := ⟨awakeS, hS hx, hS hy, hS (fS a8 xl xh 0 0), hS (rS a8 xl xh 0 0), trivial⟩)
    · rcases (show (1 ≤ yl) ∨ (yl = 0 ∧ 1 ≤ yh) ∨ (yl ≤ -2 ∧ yh = -1) ∨ (yh ≤ -2) ∨ (yl ≤ -2 ∧ yh = 0) ∨ (yl ≤ -2 ∧ 1 ≤ yh) ∨ (yl = -1 ∧ yh = -1) ∨ (yl = -1 ∧ yh = 0) ∨ (yl = -1 ∧ 1 ≤ yh) ∨ (yl = 0 ∧ yh = 0) by omega) with h1 | h1 | h1 | h1 | h1 | h1 | h1 | h1 | h1 | h1
      · have dz0 := qD xl yl
        have fz0 := q2 xl yl
        have rz0 := (qI xl xl xh yl yl yh).2 (by omega)
        have dz1 := qD xl yh
        have fz1 := q2 xl yh
        have rz1 := (qI xl xl xh yl yh yh).2 (by omega)
        have dz2 := qD xh yl
        have fz2 := q2 xh yl
        have rz2 := (qI xl xh xh yl yl yh).2 (by omega)
        have dz3 := qD xh yh
        have fz3 := q2 xh yh
        have rz3 := (qI xl xh xh yl yh yh).2 (by omega)
        exact fx5 (xs := [xl, xh, yl, yh, qV xl yl, qV xl yh, qV xh yl, qV xh yh, a0 / 13, a2, a3, a4, a5, a6, a7, a8]) (run195 (relY a8 xl xh yl yh) (relN a8 xl xh yl yh)) aA w (hT := ⟨awakeS, hS hx, hS hy, hS (fS a8 xl xh yl yh), hS (rS a8 xl xh yl yh), trivial⟩) (h4 := ⟨dP dz0, dP dz1, dP dz2, dP dz3, trivial⟩)
      · obtain rfl : yl = 0 := by omega
        have dz0 := qD xl 1
        have fz0 := q2 xl 1
        have rz0 := (qI xl xl xh 1 1 yh).2 (by omega)
        have dz1 := qD xl yh
        have fz1 := q2 xl yh
        have rz1 := (qI xl xl xh 1 yh yh).2 (by omega)
        have dz2 := qD xh 1
        have fz2 := q2 xh 1
        have rz2 := (qI xl xh xh 1 1 yh).2 (by omega)
        have dz3 := qD xh yh
        have fz3 := q2 xh yh
        have rz3 := (qI xl xh xh 1 yh yh).2 (by omega)
        exact fx5 (xs := [xl, xh, 0, yh, qV xl 1, qV xl yh, qV xh 1, qV xh yh, a0 / 13, a2, a3, a4, a5, a6, a7, a8]) (run196 (relY a8 xl xh 0 yh) (relN a8 xl xh 0 yh)) aA w (hT := ⟨awakeS, hS hx, hS hy, hS (fS a8 xl xh 0 yh), hS (rS a8 xl xh 0 yh), trivial⟩) (h4 := ⟨dP dz0, dP dz1, dP dz2, dP dz3, trivial⟩)
      · obtain rfl : yh = -1 := by omega
        have dw0 := qD xl yl
        have fw0 := q4 xl yl
        have gw0 := q6 xl yl
        have rw0 := (qJ xl xl xh yl yl (-1)).2 (by omega)
        have dw1 := qD xl (-1)
        have fw1 := q4 xl (-1)
        have nw1 := q5 xl (-1)
        have rw1 := (qJ xl xl xh yl (-1) (-1)).2 (by omega)
        have dw2 := qD xh yl
        have fw2 := q4 xh yl
        have gw2 := q6 xh yl
        have rw2 := (qJ xl xh xh yl yl (-1)).2 (by omega)
        have dw3 := qD xh (-1)
        have fw3 := q4 xh (-1)
        have nw3 := q5 xh (-1)
        have rw3 := (qJ xl xh xh yl (-1) (-1)).2 (by omega)
        exact fx5 (xs := [xl, xh, yl, (-1), qV xl yl, qV xl (-1), qV xh yl, qV xh (-1), a0 / 13, a2, a3, a4, a5, a6, a7, a8]) (run197 (relY a8 xl xh yl (-1)) (relN a8 xl xh yl (-1))) aA w (hT := ⟨awakeS, hS hx, hS hy, hS (fS a8 xl xh yl (-1)), hS (rS a8 xl xh yl (-1)), trivial⟩) (h4 := ⟨dP dw0, dP dw1, dP dw2, dP dw3, trivial⟩)
      · have dw0 := qD xl yl
        have fw0 := q4 xl yl
        have gw0 := q6 xl yl
        have rw0 := (qJ xl xl xh yl yl yh).2 (by omega)
        have dw1 := qD xl yh
        have fw1 := q4 xl yh
        have gw1 := q6 xl yh
        have rw1 := (qJ xl xl xh yl yh yh).2 (by omega)
        have dw2 := qD xh yl
        have fw2 := q4 xh yl
        have gw2 := q6 xh yl
        have rw2 := (qJ xl xh xh yl yl yh).2 (by omega)
        have dw3 := qD xh yh
        have fw3 := q4 xh yh
        have gw3 := q6 xh yh
        have rw3 := (qJ xl xh xh yl yh yh).2 (by omega)
        exact fx5 (xs := [xl, xh, yl, yh, qV xl yl, qV xl yh, qV xh yl, qV xh yh, a0 / 13, a2, a3, a4, a5, a6, a7, a8]) (run198 (relY a8 xl xh yl yh) (relN a8 xl xh yl yh)) aA w (hT := ⟨awakeS, hS hx, hS hy, hS (fS a8 xl xh yl yh), hS (rS a8 xl xh yl yh), trivial⟩) (h4 := ⟨dP dw0, dP dw1, dP dw2, dP dw3, trivial⟩)
      · obtain rfl : yh = 0 := by omega
        have dw0 := qD xl yl
        have fw0 := q4 xl yl
        have gw0 := q6 xl yl
        have rw0 := (qJ xl xl xh yl yl (-1)).2 (by omega)
        have dw1 := qD xl (-1)
        have fw1 := q4 xl (-1)
        have nw1 := q5 xl (-1)
        have rw1 := (qJ xl xl xh yl (-1) (-1)).2 (by omega)
        have dw2 := qD xh yl
        have fw2 := q4 xh yl
        have gw2 := q6 xh yl
        have rw2 := (qJ xl xh xh yl yl (-1)).2 (by omega)
        have dw3 := qD xh (-1)
        have fw3 := q4 xh (-1)
        have nw3 := q5 xh (-1)
        have rw3 := (qJ xl xh xh yl (-1) (-1)).2 (by omega)
        exact fx5 (xs := [xl, xh, yl, 0, qV xl yl, qV xl (-1), qV xh yl, qV xh (-1), a0 / 13, a2, a3, a4, a5, a6, a7, a8]) (run199 (relY a8 xl xh yl 0) (relN a8 xl xh yl 0)) aA w (hT := ⟨awakeS, hS hx, hS hy, hS (fS a8 xl xh yl 0), hS (rS a8 xl xh yl 0), trivial⟩) (h4 := ⟨dP dw0, dP dw1, dP dw2, dP dw3, trivial⟩)
      · have dz0 := qD xl 1
        have fz0 := q2 xl 1
        have rz0 := (qI xl xl xh 1 1 yh).2 (by omega)
        have dz1 := qD xl yh
        have fz1 := q2 xl yh
        have rz1 := (qI xl xl xh 1 yh yh).2 (by omega)
        have dz2 := qD xh 1
        have fz2 := q2 xh 1
        have rz2 := (qI xl xh xh 1 1 yh).2 (by omega)
        have dz3 := qD xh yh
        have fz3 := q2 xh yh
        have rz3 := (qI xl xh xh 1 yh yh).2 (by omega)
        have dw0 := qD xl yl
        have fw0 := q4 xl yl
        have gw0 := q6 xl yl
        have rw0 := (qJ xl xl xh yl yl (-1)).2 (by omega)
        have dw1 := qD xl (-1)
        have fw1 := q4 xl (-1)
        have nw1 := q5 xl (-1)
        have rw1 := (qJ xl xl xh yl (-1) (-1)).2 (by omega)
        have dw2 := qD xh yl
        have fw2 := q4 xh yl
        have gw2 := q6 xh yl
        have rw2 := (qJ xl xh xh yl yl (-1)).2 (by omega)
        have dw3 := qD xh (-1)
        have fw3 := q4 xh (-1)
        have nw3 := q5 xh (-1)
        have rw3 := (qJ xl xh xh yl (-1) (-1)).2 (by omega)
        exact fx5 (xs := [xl, xh, yl, yh, qV xl 1, qV xl yh, qV xh 1, qV xh yh, qV xl yl, qV xl (-1), qV xh yl, qV xh (-1), a0 / 13, a2, a3, a4, a5, a6, a7, a8]) (run200 (relY a8 xl xh yl yh) (relN a8 xl xh yl yh)) aA w (hT := ⟨awakeS, hS hx, hS hy, hS (fS a8 xl xh yl yh), hS (rS a8 xl xh yl yh), trivial⟩) (h4 := ⟨dP dz0, dP dz1, dP dz2, dP dz3, dP dw0, dP dw1, dP dw2, dP dw3, trivial⟩)
      · obtain rfl : yl = -1 := by omega
        obtain rfl : yh = -1 := by omega
        have dw0 := qD xl (-1)
        have fw0 := q4 xl (-1)
        have nw0 := q5 xl (-1)
        have rw0 := (qJ xl xl xh (-1) (-1) (-1)).2 (by omega)
        have dw2 := qD xh (-1)
        have fw2 := q4 xh (-1)
        have nw2 := q5 xh (-1)
        have rw2 := (qJ xl xh xh (-1) (-1) (-1)).2 (by omega)
        exact fx5 (xs := [xl, xh, (-1), (-1), qV xl (-1), qV xh (-1), a0 / 13, a2, a3, a4, a5, a6, a7, a8]) (run201 (relY a8 xl xh (-1) (-1)) (relN a8 xl xh (-1) (-1))) aA w (hT := ⟨awakeS, hS hx, hS hy, hS (fS a8 xl xh (-1) (-1)), hS (rS a8 xl xh (-1) (-1)), trivial⟩) (h4 := ⟨dP dw0, dP dw2, trivial⟩)
      · obtain rfl : yl = -1 := by omega
        obtain rfl : yh = 0 := by omega
        have dw0 := qD xl (-1)
        have fw0 := q4 xl (-1)
        have nw0 := q5 xl (-1)
        have rw0 := (qJ xl xl xh (-1) (-1) (-1)).2 (by omega)
        have dw2 := qD xh (-1)
        have fw2 := q4 xh (-1)
        have nw2 := q5 xh (-1)
        have rw2 := (qJ xl xh xh (-1) (-1) (-1)).2 (by omega)
        exact fx5 (xs := [xl, xh, (-1), 0, qV xl (-1), qV xh (-1), a0 / 13, a2, a3, a4, a5, a6, a7, a8]) (run202 (relY a8 xl xh (-1) 0) (relN a8 xl xh (-1) 0)) aA w (hT := ⟨awakeS, hS hx, hS hy, hS (fS a8 xl xh (-1) 0), hS (rS a8 xl xh (-1) 0), trivial⟩) (h4 := ⟨dP dw0, dP dw2, trivial⟩)
      · obtain rfl : yl = -1 := by omega
        have dz0 := qD xl 1
        have fz0 := q2 xl 1
        have rz0 := (qI xl xl xh 1 1 yh).2 (by omega)
        have dz1 := qD xl yh
        have fz1 := q2 xl yh
        have rz1 := (qI xl xl xh 1 yh yh).2 (by omega)
        have dz2 := qD xh 1
        have fz2 := q2 xh 1
        have rz2 := (qI xl xh xh 1 1 yh).2 (by omega)
        have dz3 := qD xh yh
        have fz3 := q2 xh yh
        have rz3 := (qI xl xh xh 1 yh yh).2 (by omega)
        have dw0 := qD xl (-1)
        have fw0 := q4 xl (-1)
        have nw0 := q5 xl (-1)
        have rw0 := (qJ xl xl xh (-1) (-1) (-1)).2 (by omega)
        have dw2 := qD xh (-1)
        have fw2 := q4 xh (-1)
        have nw2 := q5 xh (-1)
        have rw2 := (qJ xl xh xh (-1) (-1) (-1)).2 (by omega)
        exact fx5 (xs := [xl, xh, (-1), yh, qV xl 1, qV xl yh, qV xh 1, qV xh yh, qV xl (-1), qV xh (-1), a0 / 13, a2, a3, a4, a5, a6, a7, a8]) (run203 (relY a8 xl xh (-1) yh) (relN a8 xl xh (-1) yh)) aA w (hT := ⟨awakeS, hS hx, hS hy, hS (fS a8 xl xh (-1) yh), hS (rS a8 xl xh (-1) yh), trivial⟩) (h4 := ⟨dP dz0, dP dz1, dP dz2, dP dz3, dP dw0, dP dw2, trivial⟩)
      · obtain rfl : yl = 0 := by omega
        obtain rfl : yh = 0 := by omega
        exact fx5 (xs := [xl, xh, 0, 0, a0 / 13, a2, a3, a4, a5, a6, a7, a8]) (run204 (relY a8 xl xh 0 0) (relN a8 xl xh 0 0)) aA w (hT := ⟨awakeS, hS hx, hS hy, hS (fS a8 xl xh 0 0), hS (rS a8 xl xh 0 0), trivial⟩)
    · rcases (show (1 ≤ yl) ∨ (yl = 0 ∧ 1 ≤ yh) ∨ (yl ≤ -2 ∧ yh = -1) ∨ (yh ≤ -2) ∨ (yl ≤ -2 ∧ yh = 0) ∨ (yl ≤ -2 ∧ 1 ≤ yh) ∨ (yl = -1 ∧ yh = -1) ∨ (yl = -1 ∧ yh = 0) ∨ (yl = -1 ∧ 1 ≤ yh) ∨ (yl = 0 ∧ yh = 0) by omega) with h1 | h1 | h1 | h1 | h1 | h1 | h1 | h1 | h1 | h1
      · have dz0 := qD xl yl
        have fz0 := q2 xl yl
        have rz0 := (qI xl xl xh yl yl yh).2 (by omega)
        have dz1 := qD xl yh
        have fz1 := q2 xl yh
        have rz1 := (qI xl xl xh yl yh yh).2 (by omega)
        have dz2 := qD xh yl
        have fz2 := q2 xh yl
        have rz2 := (qI xl xh xh yl yl yh).2 (by omega)
        have dz3 := qD xh yh
        have fz3 := q2 xh yh
        have rz3 := (qI xl xh xh yl yh yh).2 (by omega)
        exact fx5 (xs := [xl, xh, yl, yh, qV xl yl, qV xl yh, qV xh yl, qV xh yh, a0 / 13, a2, a3, a4, a5, a6, a7, a8]) (run205 (relY a8 xl xh yl yh) (relN a8 xl xh yl yh)) aA w (hT := ⟨awakeS, hS hx, hS hy, hS (fS a8 xl xh yl yh), hS (rS a8 xl xh yl yh), trivial⟩) (h4 := ⟨dP dz0, dP dz1, dP dz2, dP dz3, trivial⟩)
      · obtain rfl : yl = 0 := by omega
        have dz0 := qD xl 1
        have fz0 := q2 xl 1
        have rz0 := (qI xl xl xh 1 1 yh).2 (by omega)
        have dz1 := qD xl yh
        have fz1 := q2 xl yh
        have rz1 := (qI xl xl xh 1 yh yh).2 (by omega)
        have dz2 := qD xh 1
        have fz2 := q2 xh 1
        have rz2 := (qI xl xh xh 1 1 yh).2 (by omega)
        have dz3 := qD xh yh
        have fz3 := q2 xh yh
        have rz3 := (qI xl xh xh 1 yh yh).2 (by omega)
        exact fx5 (xs := [xl, xh, 0, yh, qV xl 1, qV xl yh, qV xh 1, qV xh yh, a0 / 13, a2, a3, a4, a5, a6, a7, a8]) (run206 (relY a8 xl xh 0 yh) (relN a8 xl xh 0 yh)) aA w (hT := ⟨awakeS, hS hx, hS hy, hS (fS a8 xl xh 0 yh), hS (rS a8 xl xh 0 yh), trivial⟩) (h4 := ⟨dP dz0, dP dz1, dP dz2, dP dz3, trivial⟩)
      · obtain rfl : yh = -1 := by omega
        have dw0 := qD xl yl
        have fw0 := q4 xl yl
        have gw0 := q6 xl yl
        have rw0 := (qJ xl xl xh yl yl (-1)).2 (by omega)
        have dw1 := qD xl (-1)
        have fw1 := q4 xl (-1)
        have nw1 := q5 xl (-1)
        have rw1 := (qJ xl xl xh yl (-1) (-1)).2 (by omega)
        have dw2 := qD xh yl
        have fw2 := q4 xh yl
        have gw2 := q6 xh yl
        have rw2 := (qJ xl xh xh yl yl (-1)).2 (by omega)
        have dw3 := qD xh (-1)
        have fw3 := q4 xh (-1)
        have nw3 := q5 xh (-1)
        have rw3 := (qJ xl xh xh yl (-1) (-1)).2 (by omega)
        exact fx5 (xs := [xl, xh, yl, (-1), qV xl yl, qV xl (-1), qV xh yl, qV xh (-1), a0 / 13, a2, a3, a4, a5, a6, a7, a8]) (run207 (relY a8 xl xh yl (-1)) (relN a8 xl xh yl (-1))) aA w (hT := ⟨awakeS, hS hx, hS hy, hS (fS a8 xl xh yl (-1)), hS (rS a8 xl xh yl (-1)), trivial⟩) (h4 := ⟨dP dw0, dP dw1, dP dw2, dP dw3, trivial⟩)
      · have dw0 := qD xl yl
        have fw0 := q4 xl yl
        have gw0 := q6 xl yl
        have rw0 := (qJ xl xl xh yl yl yh).2 (by omega)
        have dw1 := qD xl yh
        have fw1 := q4 xl yh
        have gw1 := q6 xl yh
        have rw1 := (qJ xl xl xh yl yh yh).2 (by omega)
        have dw2 := qD xh yl
        have fw2 := q4 xh yl
        have gw2 := q6 xh yl
        have rw2 := (qJ xl xh xh yl yl yh).2 (by omega)
        have dw3 := qD xh yh
        have fw3 := q4 xh yh
        have gw3 := q6 xh yh
        have rw3 := (qJ xl xh xh yl yh yh).2 (by omega)
        exact fx5 (xs := [xl, xh, yl, yh, qV xl yl, qV xl yh, qV xh yl, qV xh yh, a0 / 13, a2, a3, a4, a5, a6, a7, a8]) (run208 (relY a8 xl xh yl yh) (relN a8 xl xh yl yh)) aA w (hT := ⟨awakeS, hS hx, hS hy, hS (fS a8 xl xh yl yh), hS (rS a8 xl xh yl yh), trivial⟩) (h4 := ⟨dP dw0, dP dw1, dP dw2, dP dw3, trivial⟩)
      · obtain rfl : yh = 0 := by omega
        have dw0 := qD xl yl
        have fw0 := q4 xl yl
        have gw0 := q6 xl yl
        have rw0 := (qJ xl xl xh yl yl (-1)).2 (by omega)
        have dw1 := qD xl (-1)
        have fw1 := q4 xl (-1)
        have nw1 := q5 xl (-1)
        have rw1 := (qJ xl xl xh yl (-1) (-1)).2 (by omega)
        have dw2 := qD xh yl
        have fw2 := q4 xh yl
        have gw2 := q6 xh yl
        have rw2 := (qJ xl xh xh yl yl (-1)).2 (by omega)
        have dw3 := qD xh (-1)
        have fw3 := q4 xh (-1)
        have nw3 := q5 xh (-1)
        have rw3 := (qJ xl xh xh yl (-1) (-1)).2 (by omega)
        exact fx5 (xs := [xl, xh, yl, 0, qV xl yl, qV xl (-1), qV xh yl, qV xh (-1), a0 / 13, a2, a3, a4, a5, a6, a7, a8]) (run209 (relY a8 xl xh yl 0) (relN a8 xl xh yl 0)) aA w (hT := ⟨awakeS, hS hx, hS hy, hS (fS a8 xl xh yl 0), hS (rS a8 xl xh yl 0), trivial⟩) (h4 := ⟨dP dw0, dP dw1, dP dw2, dP dw3, trivial⟩)
      · have dz0 := qD xl 1
        have fz0 := q2 xl 1
        have rz0 := (qI xl xl xh 1 1 yh).2 (by omega)
        have dz1 := qD xl yh
        have fz1 := q2 xl yh
        have rz1 := (qI xl xl xh 1 yh yh).2 (by omega)
        have dz2 := qD xh 1
        have fz2 := q2 xh 1
        have rz2 := (qI xl xh xh 1 1 yh).2 (by omega)
        have dz3 := qD xh yh
        have fz3 := q2 xh yh
        have rz3 := (qI xl xh xh 1 yh yh).2 (by omega)
        have dw0 := qD xl yl
        have fw0 := q4 xl yl
        have gw0 := q6 xl yl
        have rw0 := (qJ xl xl xh yl yl (-1)).2 (by omega)
        have dw1 := qD xl (-1)
        have fw1 := q4 xl (-1)
        have nw1 := q5 xl (-1)
        have rw1 := (qJ xl xl xh yl (-1) (-1)).2 (by omega)
        have dw2 := qD xh yl
        have fw2 := q4 xh yl
        have gw2 := q6 xh yl
        have rw2 := (qJ xl xh xh yl yl (-1)).2 (by omega)
        have dw3 := qD xh (-1)
        have fw3 := q4 xh (-1)
        have nw3 := q5 xh (-1)
        have rw3 := (qJ xl xh xh yl (-1) (-1)).2 (by omega)
        exact fx5 (xs := [xl, xh, yl, yh, qV xl 1, qV xl yh, qV xh 1, qV xh yh, qV xl yl, qV xl (-1), qV xh yl, qV xh (-1), a0 / 13, a2, a3, a4, a5, a6, a7, a8]) (run210 (relY a8 xl xh yl yh) (relN a8 xl xh yl yh)) aA w (hT := ⟨awakeS, hS hx, hS hy, hS (fS a8 xl xh yl yh), hS (rS a8 xl xh yl yh), trivial⟩) (h4 := ⟨dP dz0, dP dz1, dP dz2, dP dz3, dP dw0, dP dw1, dP dw2, dP dw3, trivial⟩)
      · obtain rfl : yl = -1 := by omega
        obtain rfl : yh = -1 := by omega
        have dw0 := qD xl (-1)
        have fw0 := q4 xl (-1)
        have nw0 := q5 xl (-1)
        have rw0 := (qJ xl xl xh (-1) (-1) (-1)).2 (by omega)
        have dw2 := qD xh (-1)
        have fw2 := q4 xh (-1)
        have nw2 := q5 xh (-1)
        have rw2 := (qJ xl xh xh (-1) (-1) (-1)).2 (by omega)
        exact fx5 (xs := [xl, xh, (-1), (-1), qV xl (-1), qV xh (-1), a0 / 13, a2, a3, a4, a5, a6, a7, a8]) (run211 (relY a8 xl xh (-1) (-1)) (relN a8 xl xh (-1) (-1))) aA w (hT := ⟨awakeS, hS hx, hS hy, hS (fS a8 xl xh (-1) (-1)), hS (rS a8 xl xh (-1) (-1)), trivial⟩) (h4 := ⟨dP dw0, dP dw2, trivial⟩)
      · obtain rfl : yl = -1 := by omega
        obtain rfl : yh = 0 := by omega
        have dw0 := qD xl (-1)
        have fw0 := q4 xl (-1)
        have nw0 := q5 xl (-1)
        have rw0 := (qJ xl xl xh (-1) (-1) (-1)).2 (by omega)
        have dw2 := qD xh (-1)
        have fw2 := q4 xh (-1)
        have nw2 := q5 xh (-1)
        have rw2 := (qJ xl xh xh (-1) (-1) (-1)).2 (by omega)
        exact fx5 (xs := [xl, xh, (-1), 0, qV xl (-1), qV xh (-1), a0 / 13, a2, a3, a4, a5, a6, a7, a8]) (run212 (relY a8 xl xh (-1) 0) (relN a8 xl xh (-1) 0)) aA w (hT := ⟨awakeS, hS hx, hS hy, hS (fS a8 xl xh (-1) 0), hS (rS a8 xl xh (-1) 0), trivial⟩) (h4 := ⟨dP dw0, dP dw2, trivial⟩)
      · obtain rfl : yl = -1 := by omega
        have dz0 := qD xl 1
        have fz0 := q2 xl 1
        have rz0 := (qI xl xl xh 1 1 yh).2 (by omega)
        have dz1 := qD xl yh
        have fz1 := q2 xl yh
        have rz1 := (qI xl xl xh 1 yh yh).2 (by omega)
        have dz2 := qD xh 1
        have fz2 := q2 xh 1
        have rz2 := (qI xl xh xh 1 1 yh).2 (by omega)
        have dz3 := qD xh yh
        have fz3 := q2 xh yh
        have rz3 := (qI xl xh xh 1 yh yh).2 (by omega)
        have dw0 := qD xl (-1)
        have fw0 := q4 xl (-1)
        have nw0 := q5 xl (-1)
        have rw0 := (qJ xl xl xh (-1) (-1) (-1)).2 (by omega)
        have dw2 := qD xh (-1)
        have fw2 := q4 xh (-1)
        have nw2 := q5 xh (-1)
        have rw2 := (qJ xl xh xh (-1) (-1) (-1)).2 (by omega)
        exact fx5 (xs := [xl, xh, (-1), yh, qV xl 1, qV xl yh, qV xh 1, qV xh yh, qV xl (-1), qV xh (-1), a0 / 13, a2, a3, a4, a5, a6, a7, a8]) (run213 (relY a8 xl xh (-1) yh) (relN a8 xl xh (-1) yh)) aA w (hT := ⟨awakeS, hS hx, hS hy, hS (fS a8 xl xh (-1) yh), hS (rS a8 xl xh (-1) yh), trivial⟩) (h4 := ⟨dP dz0, dP dz1, dP dz2, dP dz3, dP dw0, dP dw2, trivial⟩)
      · obtain rfl : yl = 0 := by omega
        obtain rfl : yh = 0 := by omega
        exact fx5 (xs := [xl, xh, 0, 0, a0 / 13, a2, a3, a4, a5, a6, a7, a8]) (run214 (relY a8 xl xh 0 0) (relN a8 xl xh 0 0)) aA w (hT := ⟨awakeS, hS hx, hS hy, hS (fS a8 xl xh 0 0), hS (rS a8 xl xh 0 0), trivial⟩)
    · rcases (show (1 ≤ yl) ∨ (yl = 0 ∧ 1 ≤ yh) ∨ (yl ≤ -2 ∧ yh = -1) ∨ (yh ≤ -2) ∨ (yl ≤ -2 ∧ yh = 0) ∨ (yl ≤ -2 ∧ 1 ≤ yh) ∨ (yl = -1 ∧ yh = -1) ∨ (yl = -1 ∧ yh = 0) ∨ (yl = -1 ∧ 1 ≤ yh) ∨ (yl = 0 ∧ yh = 0) by omega) with h1 | h1 | h1 | h1 | h1 | h1 | h1 | h1 | h1 | h1
      · have dz0 := qD xl yl
        have fz0 := q2 xl yl
        have rz0 := (qI xl xl xh yl yl yh).2 (by omega)
        have dz1 := qD xl yh
        have fz1 := q2 xl yh
        have rz1 := (qI xl xl xh yl yh yh).2 (by omega)
        have dz2 := qD xh yl
        have fz2 := q1 xh yl
        have rz2 := (qI xl xh xh yl yl yh).1 (by omega)
        have dz3 := qD xh yh
        have fz3 := q1 xh yh
        have rz3 := (qI xl xh xh yl yh yh).1 (by omega)
        exact fx5 (xs := [xl, xh, yl, yh, qV xl yl, qV xl yh, qV xh yl, qV xh yh, a0 / 13, a2, a3, a4, a5, a6, a7, a8]) (run215 (relY a8 xl xh yl yh) (relN a8 xl xh yl yh)) aA w (hT := ⟨awakeS, hS hx, hS hy, hS (fS a8 xl xh yl yh), hS (rS a8 xl xh yl yh), trivial⟩) (h4 := ⟨dP dz0, dP dz1, dP dz2, dP dz3, trivial⟩)
      · obtain rfl : yl = 0 := by omega
        have dz0 := qD xl 1
        have fz0 := q2 xl 1
        have rz0 := (qI xl xl xh 1 1 yh).2 (by omega)
        have dz1 := qD xl yh
        have fz1 := q2 xl yh
        have rz1 := (qI xl xl xh 1 yh yh).2 (by omega)
        have dz2 := qD xh 1
        have fz2 := q1 xh 1
        have rz2 := (qI xl xh xh 1 1 yh).1 (by omega)
        have dz3 := qD xh yh
        have fz3 := q1 xh yh
        have rz3 := (qI xl xh xh 1 yh yh).1 (by omega)
        exact fx5 (xs := [xl, xh, 0, yh, qV xl 1, qV xl yh, qV xh 1, qV xh yh, a0 / 13, a2, a3, a4, a5, a6, a7, a8]) (run216 (relY a8 xl xh 0 yh) (relN a8 xl xh 0 yh)) aA w (hT := ⟨awakeS, hS hx, hS hy, hS (fS a8 xl xh 0 yh), hS (rS a8 xl xh 0 yh), trivial⟩) (h4 := ⟨dP dz0, dP dz1, dP dz2, dP dz3, trivial⟩)
      · obtain rfl : yh = -1 := by omega
        have dw0 := qD xl yl
        have fw0 := q4 xl yl
        have gw0 := q6 xl yl
        have rw0 := (qJ xl xl xh yl yl (-1)).2 (by omega)
        have dw1 := qD xl (-1)
        have fw1 := q4 xl (-1)
        have nw1 := q5 xl (-1)
        have rw1 := (qJ xl xl xh yl (-1) (-1)).2 (by omega)
        have dw2 := qD xh yl
        have fw2 := q3 xh yl
        have gw2 := q6 xh yl
        have rw2 := (qJ xl xh xh yl yl (-1)).1 (by omega)
        have dw3 := qD xh (-1)
        have fw3 := q3 xh (-1)
        have nw3 := q5 xh (-1)
        have rw3 := (qJ xl xh xh yl (-1) (-1)).1 (by omega)
        exact fx5 (xs := [xl, xh, yl, (-1), qV xl yl, qV xl (-1), qV xh yl, qV xh (-1), a0 / 13, a2, a3, a4, a5, a6, a7, a8]) (run217 (relY a8 xl xh yl (-1)) (relN a8 xl xh yl (-1))) aA w (hT := ⟨awakeS, hS hx, hS hy, hS (fS a8 xl xh yl (-1)), hS (rS a8 xl xh yl (-1)), trivial⟩) (h4 := ⟨dP dw0, dP dw1, dP dw2, dP dw3, trivial⟩)
      · have dw0 := qD xl yl
        have fw0 := q4 xl yl
        have gw0 := q6 xl yl
        have rw0 := (qJ xl xl xh yl yl yh).2 (by omega)
        have dw1 := qD xl yh
        have fw1 := q4 xl yh
        have gw1 := q6 xl yh
        have rw1 := (qJ xl xl xh yl yh yh).2 (by omega)
        have dw2 := qD xh yl
        have fw2 := q3 xh yl
        have gw2 := q6 xh yl
        have rw2 := (qJ xl xh xh yl yl yh).1 (by omega)
        have dw3 := qD xh yh
        have fw3 := q3 xh yh
        have gw3 := q6 xh yh
        have rw3 := (qJ xl xh xh yl yh yh).1 (by omega)
        exact fx5 (xs := [xl, xh, yl, yh, qV xl yl, qV xl yh, qV xh yl, qV xh yh, a0 / 13, a2, a3, a4, a5, a6, a7, a8]) (run218 (relY a8 xl xh yl yh) (relN a8 xl xh yl yh)) aA w (hT := ⟨awakeS, hS hx, hS hy, hS (fS a8 xl xh yl yh), hS (rS a8 xl xh yl yh), trivial⟩) (h4 := ⟨dP dw0, dP dw1, dP dw2, dP dw3, trivial⟩)
      · obtain rfl : yh = 0 := by omega
        have dw0 := qD xl yl
        have fw0 := q4 xl yl
        have gw0 := q6 xl yl
        have rw0 := (qJ xl xl xh yl yl (-1)).2 (by omega)
        have dw1 := qD xl (-1)
        have fw1 := q4 xl (-1)
        have nw1 := q5 xl (-1)
        have rw1 := (qJ xl xl xh yl (-1) (-1)).2 (by omega)
        have dw2 := qD xh yl
        have fw2 := q3 xh yl
        have gw2 := q6 xh yl
        have rw2 := (qJ xl xh xh yl yl (-1)).1 (by omega)
        have dw3 := qD xh (-1)
        have fw3 := q3 xh (-1)
        have nw3 := q5 xh (-1)
        have rw3 := (qJ xl xh xh yl (-1) (-1)).1 (by omega)
        exact fx5 (xs := [xl, xh, yl, 0, qV xl yl, qV xl (-1), qV xh yl, qV xh (-1), a0 / 13, a2, a3, a4, a5, a6, a7, a8]) (run219 (relY a8 xl xh yl 0) (relN a8 xl xh yl 0)) aA w (hT := ⟨awakeS, hS hx, hS hy, hS (fS a8 xl xh yl 0), hS (rS a8 xl xh yl 0), trivial⟩) (h4 := ⟨dP dw0, dP dw1, dP dw2, dP dw3, trivial⟩)
      · have dz0 := qD xl 1
        have fz0 := q2 xl 1
        have rz0 := (qI xl xl xh 1 1 yh).2 (by omega)
        have dz1 := qD xl yh
        have fz1 := q2 xl yh
        have rz1 := (qI xl xl xh 1 yh yh).2 (by omega)
        have dz2 := qD xh 1
        have fz2 := q1 xh 1
        have rz2 := (qI xl xh xh 1 1 yh).1 (by omega)
        have dz3 := qD xh yh
        have fz3 := q1 xh yh
        have rz3 := (qI xl xh xh 1 yh yh).1 (by omega)
        have dw0 := qD xl yl
        have fw0 := q4 xl yl
        have gw0 := q6 xl yl
        have rw0 := (qJ xl xl xh yl yl (-1)).2 (by omega)
        have dw1 := qD xl (-1)
        have fw1 := q4 xl (-1)
        have nw1 := q5 xl (-1)
        have rw1 := (qJ xl xl xh yl (-1) (-1)).2 (by omega)
        have dw2 := qD xh yl
        have fw2 := q3 xh yl
        have gw2 := q6 xh yl
        have rw2 := (qJ xl xh xh yl yl (-1)).1 (by omega)
        have dw3 := qD xh (-1)
        have fw3 := q3 xh (-1)
        have nw3 := q5 xh (-1)
        have rw3 := (qJ xl xh xh yl (-1) (-1)).1 (by omega)
        exact fx5 (xs := [xl, xh, yl, yh, qV xl 1, qV xl yh, qV xh 1, qV xh yh, qV xl yl, qV xl (-1), qV xh yl, qV xh (-1), a0 / 13, a2, a3, a4, a5, a6, a7, a8]) (run220 (relY a8 xl xh yl yh) (relN a8 xl xh yl yh)) aA w (hT := ⟨awakeS, hS hx, hS hy, hS (fS a8 xl xh yl yh), hS (rS a8 xl xh yl yh), trivial⟩) (h4 := ⟨dP dz0, dP dz1, dP dz2, dP dz3, dP dw0, dP dw1, dP dw2, dP dw3, trivial⟩)
      · obtain rfl : yl = -1 := by omega
        obtain rfl : yh = -1 := by omega
        have dw0 := qD xl (-1)
        have fw0 := q4 xl (-1)
        have nw0 := q5 xl (-1)
        have rw0 := (qJ xl xl xh (-1) (-1) (-1)).2 (by omega)
        have dw2 := qD xh (-1)
        have fw2 := q3 xh (-1)
        have nw2 := q5 xh (-1)
        have rw2 := (qJ xl xh xh (-1) (-1) (-1)).1 (by omega)
        exact fx5 (xs := [xl, xh, (-1), (-1), qV xl (-1), qV xh (-1), a0 / 13, a2, a3, a4, a5, a6, a7, a8]) (run221 (relY a8 xl xh (-1) (-1)) (relN a8 xl xh (-1) (-1))) aA w (hT := ⟨awakeS, hS hx, hS hy, hS (fS a8 xl xh (-1) (-1)), hS (rS a8 xl xh (-1) (-1)), trivial⟩) (h4 := ⟨dP dw0, dP dw2, trivial⟩)
      · obtain rfl : yl = -1 := by omega
        obtain rfl : yh = 0 := by omega
        have dw0 := qD xl (-1)
        have fw0 := q4 xl (-1)
        have nw0 := q5 xl (-1)
        have rw0 := (qJ xl xl xh (-1) (-1) (-1)).2 (by omega)
        have dw2 := qD xh (-1)
        have fw2 := q3 xh (-1)
        have nw2 := q5 xh (-1)
        have rw2 := (qJ xl xh xh (-1) (-1) (-1)).1 (by omega)
        exact fx5 (xs := [xl, xh, (-1), 0, qV xl (-1), qV xh (-1), a0 / 13, a2, a3, a4, a5, a6, a7, a8]) (run222 (relY a8 xl xh (-1) 0) (relN a8 xl xh (-1) 0)) aA w (hT := ⟨awakeS, hS hx, hS hy, hS (fS a8 xl xh (-1) 0), hS (rS a8 xl xh (-1) 0), trivial⟩) (h4 := ⟨dP dw0, dP dw2, trivial⟩)
      · obtain rfl : yl = -1 := by omega
        have dz0 := qD xl 1
        have fz0 := q2 xl 1
        have rz0 := (qI xl xl xh 1 1 yh).2 (by omega)
        have dz1 := qD xl yh
        have fz1 := q2 xl yh
        have rz1 := (qI xl xl xh 1 yh yh).2 (by omega)
        have dz2 := qD xh 1
        have fz2 := q1 xh 1
        have rz2 := (qI xl xh xh 1 1 yh).1 (by omega)
        have dz3 := qD xh yh
        have fz3 := q1 xh yh
        have rz3 := (qI xl xh xh 1 yh yh).1 (by omega)
        have dw0 := qD xl (-1)
        have fw0 := q4 xl (-1)
        have nw0 := q5 xl (-1)
        have rw0 := (qJ xl xl xh (-1) (-1) (-1)).2 (by omega)
        have dw2 := qD xh (-1)
        have fw2 := q3 xh (-1)
        have nw2 := q5 xh (-1)
        have rw2 := (qJ xl xh xh (-1) (-1) (-1)).1 (by omega)
        exact fx5 (xs := [xl, xh, (-1), yh, qV xl 1, qV xl yh, qV xh 1, qV xh yh, qV xl (-1), qV xh (-1), a0 / 13, a2, a3, a4, a5, a6, a7, a8]) (run223 (relY a8 xl xh (-1) yh) (relN a8 xl xh (-1) yh)) aA w (hT := ⟨awakeS, hS hx, hS hy, hS (fS a8 xl xh (-1) yh), hS (rS a8 xl xh (-1) yh), trivial⟩) (h4 := ⟨dP dz0, dP dz1, dP dz2, dP dz3, dP dw0, dP dw2, trivial⟩)
      · obtain rfl : yl = 0 := by omega
        obtain rfl : yh = 0 := by omega
        exact fx5 (xs := [xl, xh, 0, 0, a0 / 13, a2, a3, a4, a5, a6, a7, a8]) (run224 (relY a8 xl xh 0 0) (relN a8 xl xh 0 0)) aA w (hT := ⟨awakeS, hS hx, hS hy, hS (fS a8 xl xh 0 0), hS (rS a8 xl xh 0 0), trivial⟩)
    · rcases (show (1 ≤ yl) ∨ (yl = 0 ∧ 1 ≤ yh) ∨ (yl ≤ -2 ∧ yh = -1) ∨ (yh ≤ -2) ∨ (yl ≤ -2 ∧ yh = 0) ∨ (yl ≤ -2 ∧ 1 ≤ yh) ∨ (yl = -1 ∧ yh = -1) ∨ (yl = -1 ∧ yh = 0) ∨ (yl = -1 ∧ 1 ≤ yh) ∨ (yl = 0 ∧ yh = 0) by omega) with h1 | h1 | h1 | h1 | h1 | h1 | h1 | h1 | h1 | h1
      · have dz0 := qD xl yl
        have fz0 := q2 xl yl
        have rz0 := (qI xl xl xh yl yl yh).2 (by omega)
        have dz1 := qD xl yh
        have fz1 := q2 xl yh
        have rz1 := (qI xl xl xh yl yh yh).2 (by omega)
        have dz2 := qD xh yl
        have fz2 := q1 xh yl
        have rz2 := (qI xl xh xh yl yl yh).1 (by omega)
        have dz3 := qD xh yh
        have fz3 := q1 xh yh
        have rz3 := (qI xl xh xh yl yh yh).1 (by omega)
        exact fx5 (xs := [xl, xh, yl, yh, qV xl yl, qV xl yh, qV xh yl, qV xh yh, a0 / 13, a2, a3, a4, a5, a6, a7, a8]) (run225 (relY a8 xl xh yl yh) (relN a8 xl xh yl yh)) aA w (hT := ⟨awakeS, hS hx, hS hy, hS (fS a8 xl xh yl yh), hS (rS a8 xl xh yl yh), trivial⟩) (h4 := ⟨dP dz0, dP dz1, dP dz2, dP dz3, trivial⟩)
      · obtain rfl : yl = 0 := by omega
        have dz0 := qD xl 1
        have fz0 := q2 xl 1
        have rz0 := (qI xl xl xh 1 1 yh).2 (by omega)
        have dz1 := qD xl yh
        have fz1 := q2 xl yh
        have rz1 := (qI xl xl xh 1 yh yh).2 (by omega)
        have dz2 := qD xh 1
        have fz2 := q1 xh 1
        have rz2 := (qI xl xh xh 1 1 yh).1 (by omega)
        have dz3 := qD xh yh
        have fz3 := q1 xh yh
        have rz3 := (qI xl xh xh 1 yh yh).1 (by omega)
        exact fx5 (xs := [xl, xh, 0, yh, qV xl 1, qV xl yh, qV xh 1, qV xh yh, a0 / 13, a2, a3, a4, a5, a6, a7, a8]) (run226 (relY a8 xl xh 0 yh) (relN a8 xl xh 0 yh)) aA w (hT := ⟨awakeS, hS hx, hS hy, hS (fS a8 xl xh 0 yh), hS (rS a8 xl xh 0 yh), trivial⟩) (h4 := ⟨dP dz0, dP dz1, dP dz2, dP dz3, trivial⟩)
      · obtain rfl : yh = -1 := by omega
        have dw0 := qD xl yl
        have fw0 := q4 xl yl
        have gw0 := q6 xl yl
        have rw0 := (qJ xl xl xh yl yl (-1)).2 (by omega)
        have dw1 := qD xl (-1)
        have fw1 := q4 xl (-1)
        have nw1 := q5 xl (-1)
        have rw1 := (qJ xl xl xh yl (-1) (-1)).2 (by omega)
        have dw2 := qD xh yl
        have fw2 := q3 xh yl
        have gw2 := q6 xh yl
        have rw2 := (qJ xl xh xh yl yl (-1)).1 (by omega)
        have dw3 := qD xh (-1)
        have fw3 := q3 xh (-1)
        have nw3 := q5 xh (-1)
        have rw3 := (qJ xl xh xh yl (-1) (-1)).1 (by omega)
        exact fx5 (xs := [xl, xh, yl, (-1), qV xl yl, qV xl (-1), qV xh yl, qV xh (-1), a0 / 13, a2, a3, a4, a5, a6, a7, a8]) (run227 (relY a8 xl xh yl (-1)) (relN a8 xl xh yl (-1))) aA w (hT := ⟨awakeS, hS hx, hS hy, hS (fS a8 xl xh yl (-1)), hS (rS a8 xl xh yl (-1)), trivial⟩) (h4 := ⟨dP dw0, dP dw1, dP dw2, dP dw3, trivial⟩)
      · have dw0 := qD xl yl
        have fw0 := q4 xl yl
        have gw0 := q6 xl yl
        have rw0 := (qJ xl xl xh yl yl yh).2 (by omega)
        have dw1 := qD xl yh
        have fw1 := q4 xl yh
        have gw1 := q6 xl yh
        have rw1 := (qJ xl xl xh yl yh yh).2 (by omega)
        have dw2 := qD xh yl
        have fw2 := q3 xh yl
        have gw2 := q6 xh yl
        have rw2 := (qJ xl xh xh yl yl yh).1 (by omega)
        have dw3 := qD xh yh
        have fw3 := q3 xh yh
        have gw3 := q6 xh yh
        have rw3 := (qJ xl xh xh yl yh yh).1 (by omega)
        exact fx5 (xs := [xl, xh, yl, yh, qV xl yl, qV xl yh, qV xh yl, qV xh yh, a0 / 13, a2, a3, a4, a5, a6, a7, a8]) (run228 (relY a8 xl xh yl yh) (relN a8 xl xh yl yh)) aA w (hT := ⟨awakeS, hS hx, hS hy, hS (fS a8 xl xh yl yh), hS (rS a8 xl xh yl yh), trivial⟩) (h4 := ⟨dP dw0, dP dw1, dP dw2, dP dw3, trivial⟩)
      · obtain rfl : yh = 0 := by omega
        have dw0 := qD xl yl
        have fw0 := q4 xl yl
        have gw0 := q6 xl yl
        have rw0 := (qJ xl xl xh yl yl (-1)).2 (by omega)
        have dw1 := qD xl (-1)
        have fw1 := q4 xl (-1)
        have nw1 := q5 xl (-1)
        have rw1 := (qJ xl xl xh yl (-1) (-1)).2 (by omega)
        have dw2 := qD xh yl
        have fw2 := q3 xh yl
        have gw2 := q6 xh yl
        have rw2 := (qJ xl xh xh yl yl (-1)).1 (by omega)
        have dw3 := qD xh (-1)
        have fw3 := q3 xh (-1)
        have nw3 := q5 xh (-1)
        have rw3 := (qJ xl xh xh yl (-1) (-1)).1 (by omega)
        exact fx5 (xs := [xl, xh, yl, 0, qV xl yl, qV xl (-1), qV xh yl, qV xh (-1), a0 / 13, a2, a3, a4, a5, a6, a7, a8]) (run229 (relY a8 xl xh yl 0) (relN a8 xl xh yl 0)) aA w (hT := ⟨awakeS, hS hx, hS hy, hS (fS a8 xl xh yl 0), hS (rS a8 xl xh yl 0), trivial⟩) (h4 := ⟨dP dw0, dP dw1, dP dw2, dP dw3, trivial⟩)
      · have dz0 := qD xl 1
        have fz0 := q2 xl 1
        have rz0 := (qI xl xl xh 1 1 yh).2 (by omega)
        have dz1 := qD xl yh
        have fz1 := q2 xl yh
        have rz1 := (qI xl xl xh 1 yh yh).2 (by omega)
        have dz2 := qD xh 1
        have fz2 := q1 xh 1
        have rz2 := (qI xl xh xh 1 1 yh).1 (by omega)
        have dz3 := qD xh yh
        have fz3 := q1 xh yh
        have rz3 := (qI xl xh xh 1 yh yh).1 (by omega)
        have dw0 := qD xl yl
        have fw0 := q4 xl yl
        have gw0 := q6 xl yl
        have rw0 := (qJ xl xl xh yl yl (-1)).2 (by omega)
        have dw1 := qD xl (-1)
        have fw1 := q4 xl (-1)
        have nw1 := q5 xl (-1)
        have rw1 := (qJ xl xl xh yl (-1) (-1)).2 (by omega)
        have dw2 := qD xh yl
        have fw2 := q3 xh yl
        have gw2 := q6 xh yl
        have rw2 := (qJ xl xh xh yl yl (-1)).1 (by omega)
        have dw3 := qD xh (-1)
        have fw3 := q3 xh (-1)
        have nw3 := q5 xh (-1)
        have rw3 := (qJ xl xh xh yl (-1) (-1)).1 (by omega)
        exact fx5 (xs := [xl, xh, yl, yh, qV xl 1, qV xl yh, qV xh 1, qV xh yh, qV xl yl, qV xl (-1), qV xh yl, qV xh (-1), a0 / 13, a2, a3, a4, a5, a6, a7, a8]) (run230 (relY a8 xl xh yl yh) (relN a8 xl xh yl yh)) aA w (hT := ⟨awakeS, hS hx, hS hy, hS (fS a8 xl xh yl yh), hS (rS a8 xl xh yl yh), trivial⟩) (h4 := ⟨dP dz0, dP dz1, dP dz2, dP dz3, dP dw0, dP dw1, dP dw2, dP dw3, trivial⟩)
      · obtain rfl : yl = -1 := by omega
        obtain rfl : yh = -1 := by omega
        have dw0 := qD xl (-1)
        have fw0 := q4 xl (-1)
        have nw0 := q5 xl (-1)
        have rw0 := (qJ xl xl xh (-1) (-1) (-1)).2 (by omega)
        have dw2 := qD xh (-1)
        have fw2 := q3 xh (-1)
        have nw2 := q5 xh (-1)
        have rw2 := (qJ xl xh xh (-1) (-1) (-1)).1 (by omega)
        exact fx5 (xs := [xl, xh, (-1), (-1), qV xl (-1), qV xh (-1), a0 / 13, a2, a3, a4, a5, a6, a7, a8]) (run231 (relY a8 xl xh (-1) (-1)) (relN a8 xl xh (-1) (-1))) aA w (hT := ⟨awakeS, hS hx, hS hy, hS (fS a8 xl xh (-1) (-1)), hS (rS a8 xl xh (-1) (-1)), trivial⟩) (h4 := ⟨dP dw0, dP dw2, trivial⟩)
      · obtain rfl : yl = -1 := by omega
        obtain rfl : yh = 0 := by omega
        have dw0 := qD xl (-1)
        have fw0 := q4 xl (-1)
        have nw0 := q5 xl (-1)
        have rw0 := (qJ xl xl xh (-1) (-1) (-1)).2 (by omega)
        have dw2 := qD xh (-1)
        have fw2 := q3 xh (-1)
        have nw2 := q5 xh (-1)
        have rw2 := (qJ xl xh xh (-1) (-1) (-1)).1 (by omega)
        exact fx5 (xs := [xl, xh, (-1), 0, qV xl (-1), qV xh (-1), a0 / 13, a2, a3, a4, a5, a6, a7, a8]) (run232 (relY a8 xl xh (-1) 0) (relN a8 xl xh (-1) 0)) aA w (hT := ⟨awakeS, hS hx, hS hy, hS (fS a8 xl xh (-1) 0), hS (rS a8 xl xh (-1) 0), trivial⟩) (h4 := ⟨dP dw0, dP dw2, trivial⟩)
      · obtain rfl : yl = -1 := by omega
        have dz0 := qD xl 1
        have fz0 := q2 xl 1
        have rz0 := (qI xl xl xh 1 1 yh).2 (by omega)
        have dz1 := qD xl yh
        have fz1 := q2 xl yh
        have rz1 := (qI xl xl xh 1 yh yh).2 (by omega)
        have dz2 := qD xh 1
        have fz2 := q1 xh 1
        have rz2 := (qI xl xh xh 1 1 yh).1 (by omega)
        have dz3 := qD xh yh
        have fz3 := q1 xh yh
        have rz3 := (qI xl xh xh 1 yh yh).1 (by omega)
        have dw0 := qD xl (-1)
        have fw0 := q4 xl (-1)
        have nw0 := q5 xl (-1)
        have rw0 := (qJ xl xl xh (-1) (-1) (-1)).2 (by omega)
        have dw2 := qD xh (-1)
        have fw2 := q3 xh (-1)
        have nw2 := q5 xh (-1)
        have rw2 := (qJ xl xh xh (-1) (-1) (-1)).1 (by omega)
        exact fx5 (xs := [xl, xh, (-1), yh, qV xl 1, qV xl yh, qV xh 1, qV xh yh, qV xl (-1), qV xh (-1), a0 / 13, a2, a3, a4, a5, a6, a7, a8]) (run233 (relY a8 xl xh (-1) yh) (relN a8 xl xh (-1) yh)) aA w (hT := ⟨awakeS, hS hx, hS hy, hS (fS a8 xl xh (-1) yh), hS (rS a8 xl xh (-1) yh), trivial⟩) (h4 := ⟨dP dz0, dP dz1, dP dz2, dP dz3, dP dw0, dP dw2, trivial⟩)
      · obtain rfl : yl = 0 := by omega
        obtain rfl : yh = 0 := by omega
        exact fx5 (xs := [xl, xh, 0, 0, a0 / 13, a2, a3, a4, a5, a6, a7, a8]) (run234 (relY a8 xl xh 0 0) (relN a8 xl xh 0 0)) aA w (hT := ⟨awakeS, hS hx, hS hy, hS (fS a8 xl xh 0 0), hS (rS a8 xl xh 0 0), trivial⟩)
end Go.Proofs.Ytcjnmphpfdlikaa.fwdAll
