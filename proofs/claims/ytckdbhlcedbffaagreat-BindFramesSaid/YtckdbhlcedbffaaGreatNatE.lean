/- Two small functions: two bounds added, none above the cap: by runs of the kernel. No condition. Written by program. -/
import Derived.Test.YtckdbhlcedbffaaGreatDrawE
import Derived.KernelRfl
set_option linter.unusedVariables false
set_option linter.unusedSimpArgs false
set_option maxRecDepth 1000000
namespace Go.Proofs.YtckdbhlcedbffaaGreat.nt
open Go Go.Sx Go.RowKit
theorem ri {μ : Map} {ρ : Nat → Int} {k : IntKind} {x : KI} {a : Int} (h : x.ev ρ = a := by simp [KI.ev, evT, rho]) : VRel μ (abs ρ (.int k x)) (.int k a) := rel_int h
theorem wrap_in64 {x : Int} (h : -9223372036854775808 ≤ x ∧ x ≤ 9223372036854775807) : IntKind.wrap .i64 x = x := wrap_in .i64 x (by simpa [kLo] using h.1) (by simpa [kMax] using h.2)
theorem wrap_low {x : Int} (h : -18446744073709551616 ≤ x ∧ x < -9223372036854775808) : IntKind.wrap .i64 x = x + 18446744073709551616 := by
  simp only [IntKind.wrap, IntKind.bits, IntKind.signed, Bool.true_and, decide_eq_true_eq, Nat.reduceSub, ge_iff_le]
  split <;> omega
theorem tx {f : FuncId} {args : List KV} {cx : Cx} {R : KV} {xs : List Int} {args' : List Value} {v : V} (h : runE Tryz.prog (tabK (fstF []) []) 100000 f args cx R = true) (hargs : VRels noMap (absL (rho xs) args) args') (hv : abs (rho xs) R = v) (hf : flatV v = true) (h1 : boxAll xs cx.box := by simp only [boxAll, and_true] <;> omega) (h2 : csAll xs cx.cs := by first | exact trivial | (simp [csAll, evT, rho] <;> omega)) (h4 : dfAll xs cx.df := by exact trivial) (h3 : noSv cx.box = true := by rfl) : Tells Tryz.prog f args' v := tells_tab kdE.progOK kdE.mixed (l := []) trivial trivial h h1 h2 h4 trivial hargs hv hf h3
theorem rs0 : runE Tryz.prog (tabK (fstF []) []) 100000 200 [.int .i64 (.a 0 [(0, 1)]), .int .i64 (.a 0 [(1, 1)])] ⟨[(1099511627776, 9223372036854775807), ((-9223372036854775808), 9223372036854775807)], [], []⟩ (.int .i64 (.p 1099511627776)) = true := by kernel_rfl
theorem rs1 : runE Tryz.prog (tabK (fstF []) []) 100000 200 [.int .i64 (.a 0 [(0, 1)]), .int .i64 (.a 0 [(1, 1)])] ⟨[((-9223372036854775808), 1099511627775), (1099511627776, 9223372036854775807)], [], []⟩ (.int .i64 (.p 1099511627776)) = true := by kernel_rfl
theorem rs2 : runE Tryz.prog (tabK (fstF []) []) 100000 200 [.int .i64 (.a 0 [(0, 1)]), .int .i64 (.a 0 [(1, 1)])] ⟨[((-9223372036854775808), 1099511627775), ((-9223372036854775808), 1099511627775)], [(9223372036854775809, [(0, 1), (1, 1)])], []⟩ (.int .i64 (.a 18446744073709551616 [(0, 1), (1, 1)])) = true := by kernel_rfl
theorem rs3 : runE Tryz.prog (tabK (fstF []) []) 100000 200 [.int .i64 (.a 0 [(0, 1)]), .int .i64 (.a 0 [(1, 1)])] ⟨[((-9223372036854775808), 1099511627775), ((-9223372036854775808), 1099511627775)], [(-9223372036854775808, [(0, -1), (1, -1)]), (1099511627776, [(0, 1), (1, 1)])], []⟩ (.int .i64 (.m 1099511627775)) = true := by kernel_rfl
theorem rs4 : runE Tryz.prog (tabK (fstF []) []) 100000 200 [.int .i64 (.a 0 [(0, 1)]), .int .i64 (.a 0 [(1, 1)])] ⟨[((-9223372036854775808), 1099511627775), ((-9223372036854775808), 1099511627775)], [(-1099511627775, [(0, -1), (1, -1)])], []⟩ (.int .i64 (.a 0 [(0, 1), (1, 1)])) = true := by kernel_rfl
theorem sEntry : EntryOK Tryz.prog 200 (natS false 1099511627776) := nat_entry fun x y hx hy => by
  rcases (show (1099511627776 ≤ x) ∨ (x < 1099511627776 ∧ 1099511627776 ≤ y) ∨ (x < 1099511627776 ∧ y < 1099511627776 ∧ x + y < -9223372036854775808) ∨ (x < 1099511627776 ∧ y < 1099511627776 ∧ -9223372036854775808 ≤ x + y ∧ x + y ≤ -1099511627776) ∨ (x < 1099511627776 ∧ y < 1099511627776 ∧ -1099511627776 < x + y) by omega) with h | h | h | h | h
  · have e : natV false (1099511627776 : Nat) x y = (1099511627776 : Int) := by
      unfold natV
      rw [if_pos (by omega)]; rfl
    rw [e]; exact tx (xs := [x, y]) rs0 (args_cons ri (args_cons ri args_nil)) (by simp [abs, KI.ev, evT, rho] <;> omega) rfl
  · have e : natV false (1099511627776 : Nat) x y = (1099511627776 : Int) := by
      unfold natV
      rw [if_neg (by omega), if_pos (by omega)]; rfl
    rw [e]; exact tx (xs := [x, y]) rs1 (args_cons ri (args_cons ri args_nil)) (by simp [abs, KI.ev, evT, rho] <;> omega) rfl
  · have e : natV false (1099511627776 : Nat) x y = (x + y + 18446744073709551616 : Int) := by
      unfold natV
      rw [if_neg (by omega), if_neg (by omega)]
      simp only []
      rw [wrap_low (by omega)]
      simp <;> omega
    rw [e]; exact tx (xs := [x, y]) rs2 (args_cons ri (args_cons ri args_nil)) (by simp [abs, KI.ev, evT, rho] <;> omega) rfl
  · have e : natV false (1099511627776 : Nat) x y = (-1099511627776 : Int) := by
      unfold natV
      rw [if_neg (by omega), if_neg (by omega)]
      simp only []
      rw [wrap_in64 (by omega)]
      simp <;> omega
    rw [e]; exact tx (xs := [x, y]) rs3 (args_cons ri (args_cons ri args_nil)) (by simp [abs, KI.ev, evT, rho] <;> omega) rfl
  · have e : natV false (1099511627776 : Nat) x y = (x + y : Int) := by
      unfold natV
      rw [if_neg (by omega), if_neg (by omega)]
      simp only []
      rw [wrap_in64 (by omega)]
      simp <;> omega
    rw [e]; exact tx (xs := [x, y]) rs4 (args_cons ri (args_cons ri args_nil)) (by simp [abs, KI.ev, evT, rho] <;> omega) rfl
theorem rp0 : runE Tryz.prog (tabK (fstF []) []) 100000 111 [.int .i64 (.a 0 [(0, 1)]), .int .i64 (.a 0 [(1, 1)])] ⟨[(1099511627776, 9223372036854775807), ((-9223372036854775808), 9223372036854775807)], [], []⟩ (.int .i64 (.p 1099511627776)) = true := by kernel_rfl
theorem rp1 : runE Tryz.prog (tabK (fstF []) []) 100000 111 [.int .i64 (.a 0 [(0, 1)]), .int .i64 (.a 0 [(1, 1)])] ⟨[((-9223372036854775808), 1099511627775), (1099511627776, 9223372036854775807)], [], []⟩ (.int .i64 (.p 1099511627776)) = true := by kernel_rfl
theorem rp2 : runE Tryz.prog (tabK (fstF []) []) 100000 111 [.int .i64 (.a 0 [(0, 1)]), .int .i64 (.a 0 [(1, 1)])] ⟨[((-9223372036854775808), 1099511627775), ((-9223372036854775808), 1099511627775)], [(9223372036854775809, [(0, 1), (1, 1)]), (18446742974197923841, [(0, 1), (1, 1)])], []⟩ (.int .i64 (.a 18446744073709551616 [(0, 1), (1, 1)])) = true := by kernel_rfl
theorem rp3 : runE Tryz.prog (tabK (fstF []) []) 100000 111 [.int .i64 (.a 0 [(0, 1)]), .int .i64 (.a 0 [(1, 1)])] ⟨[((-9223372036854775808), 1099511627775), ((-9223372036854775808), 1099511627775)], [(-9223372036854775808, [(0, -1), (1, -1)]), (1099511627776, [(0, 1), (1, 1)])], []⟩ (.int .i64 (.m 1099511627775)) = true := by kernel_rfl
theorem rp4 : runE Tryz.prog (tabK (fstF []) []) 100000 111 [.int .i64 (.a 0 [(0, 1)]), .int .i64 (.a 0 [(1, 1)])] ⟨[((-9223372036854775808), 1099511627775), ((-9223372036854775808), 1099511627775)], [(-1099511627775, [(0, -1), (1, -1)]), (-1099511627775, [(0, 1), (1, 1)])], []⟩ (.int .i64 (.a 0 [(0, 1), (1, 1)])) = true := by kernel_rfl
theorem rp5 : runE Tryz.prog (tabK (fstF []) []) 100000 111 [.int .i64 (.a 0 [(0, 1)]), .int .i64 (.a 0 [(1, 1)])] ⟨[((-9223372036854775808), 1099511627775), ((-9223372036854775808), 1099511627775)], [(9223372036854775809, [(0, 1), (1, 1)]), (-18446742974197923840, [(0, -1), (1, -1)])], []⟩ (.int .i64 (.p 1099511627776)) = true := by kernel_rfl
theorem rp6 : runE Tryz.prog (tabK (fstF []) []) 100000 111 [.int .i64 (.a 0 [(0, 1)]), .int .i64 (.a 0 [(1, 1)])] ⟨[((-9223372036854775808), 1099511627775), ((-9223372036854775808), 1099511627775)], [(1099511627776, [(0, -1), (1, -1)])], []⟩ (.int .i64 (.p 1099511627776)) = true := by kernel_rfl
theorem pEntry : EntryOK Tryz.prog 111 (natS true 1099511627776) := nat_entry fun x y hx hy => by
  rcases (show (1099511627776 ≤ x) ∨ (x < 1099511627776 ∧ 1099511627776 ≤ y) ∨ (x < 1099511627776 ∧ y < 1099511627776 ∧ x + y < -9223372036854775808 ∧ x + y + 18446744073709551616 < 1099511627776) ∨ (x < 1099511627776 ∧ y < 1099511627776 ∧ -9223372036854775808 ≤ x + y ∧ x + y ≤ -1099511627776) ∨ (x < 1099511627776 ∧ y < 1099511627776 ∧ -1099511627776 < x + y ∧ x + y < 1099511627776) ∨ (x < 1099511627776 ∧ y < 1099511627776 ∧ x + y < -9223372036854775808 ∧ 1099511627776 ≤ x + y + 18446744073709551616) ∨ (x < 1099511627776 ∧ y < 1099511627776 ∧ 1099511627776 ≤ x + y) by omega) with h | h | h | h | h | h | h
  · have e : natV true (1099511627776 : Nat) x y = (1099511627776 : Int) := by
      unfold natV
      rw [if_pos (by omega)]; rfl
    rw [e]; exact tx (xs := [x, y]) rp0 (args_cons ri (args_cons ri args_nil)) (by simp [abs, KI.ev, evT, rho] <;> omega) rfl
  · have e : natV true (1099511627776 : Nat) x y = (1099511627776 : Int) := by
      unfold natV
      rw [if_neg (by omega), if_pos (by omega)]; rfl
    rw [e]; exact tx (xs := [x, y]) rp1 (args_cons ri (args_cons ri args_nil)) (by simp [abs, KI.ev, evT, rho] <;> omega) rfl
  · have e : natV true (1099511627776 : Nat) x y = (x + y + 18446744073709551616 : Int) := by
      unfold natV
      rw [if_neg (by omega), if_neg (by omega)]
      simp only []
      rw [wrap_low (by omega)]
      simp <;> omega
    rw [e]; exact tx (xs := [x, y]) rp2 (args_cons ri (args_cons ri args_nil)) (by simp [abs, KI.ev, evT, rho] <;> omega) rfl
  · have e : natV true (1099511627776 : Nat) x y = (-1099511627776 : Int) := by
      unfold natV
      rw [if_neg (by omega), if_neg (by omega)]
      simp only []
      rw [wrap_in64 (by omega)]
      simp <;> omega
    rw [e]; exact tx (xs := [x, y]) rp3 (args_cons ri (args_cons ri args_nil)) (by simp [abs, KI.ev, evT, rho] <;> omega) rfl
  · have e : natV true (1099511627776 : Nat) x y = (x + y : Int) := by
      unfold natV
      rw [if_neg (by omega), if_neg (by omega)]
      simp only []
      rw [wrap_in64 (by omega)]
      simp <;> omega
    rw [e]; exact tx (xs := [x, y]) rp4 (args_cons ri (args_cons ri args_nil)) (by simp [abs, KI.ev, evT, rho] <;> omega) rfl
  · have e : natV true (1099511627776 : Nat) x y = (1099511627776 : Int) := by
      unfold natV
      rw [if_neg (by omega), if_neg (by omega)]
      simp only []
      rw [wrap_low (by omega)]
      simp <;> omega
    rw [e]; exact tx (xs := [x, y]) rp5 (args_cons ri (args_cons ri args_nil)) (by simp [abs, KI.ev, evT, rho] <;> omega) rfl
  · have e : natV true (1099511627776 : Nat) x y = (1099511627776 : Int) := by
      unfold natV
      rw [if_neg (by omega), if_neg (by omega)]
      simp only []
      rw [wrap_in64 (by omega)]
      simp <;> omega
    rw [e]; exact tx (xs := [x, y]) rp6 (args_cons ri (args_cons ri args_nil)) (by simp [abs, KI.ev, evT, rho] <;> omega) rfl
def natL : NatL := [(200, false, 1099511627776), (111, true, 1099511627776)]
theorem natOK : entAll Tryz.prog (natE 10 natL) := ⟨trueF_ok kdE.awake10, sEntry, pEntry, trivial⟩
theorem natBody : bodiedAll Tryz.prog (fstF (natE 10 natL)) := ⟨kdE.has10, ⟨Tryz.f200, _, Tryz.func200, rfl⟩, ⟨Tryz.f111, _, Tryz.func111, rfl⟩, trivial⟩
end Go.Proofs.YtckdbhlcedbffaaGreat.nt
