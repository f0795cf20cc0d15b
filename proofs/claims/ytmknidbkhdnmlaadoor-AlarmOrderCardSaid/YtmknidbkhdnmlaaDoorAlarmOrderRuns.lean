/- AlarmOrder answers true at all texts, numbers and truths. No condition. -/
import Derived.Test.YtmknidbkhdnmlaaDoorAlarmOrderR0
import Derived.Test.YtmknidbkhdnmlaaDoorAlarmOrderR1
import Derived.Test.YtmknidbkhdnmlaaDoorAlarmOrderR2
import Derived.Test.YtmknidbkhdnmlaaDoorAlarmOrderR3
import Derived.Test.YtmknidbkhdnmlaaDoorAlarmOrderR4
import Derived.Test.YtmknidbkhdnmlaaDoorAlarmOrderR5
import Derived.Test.YtmknidbkhdnmlaaDoorAlarmOrderR6
import Derived.Test.YtmknidbkhdnmlaaDoorAlarmOrderR7
import Derived.KernelRfl
set_option linter.unusedVariables false
set_option linter.unusedSimpArgs false
set_option maxRecDepth 1000000
namespace Go.Proofs.YtmknidbkhdnmlaaDoor.alarmOrder
open Go.Sx Go.RowKit

/-- A run at texts that are not known, with what is known of their ranks. -/
theorem fin {args : List KV} {ss : List (List UInt8)} {xs : List Int} {bs : List (Int × Int)} {cs : List Con} (h : runK Tryd.prog (oneK1 5) 100000 3 args ⟨boxT ss bs, cs⟩ = true) (hl : ss.length + bs.length < svBase) (hn : ss.length ≤ 1000) (h1 : boxAll xs bs) (h2 : ∀ c ∈ cs, Con.ok (rhoT ss xs) c) (h3 : noSv bs = true)
    {args' : List Value} (hargs : VRels noMap (absL (rhoT ss xs) args) args') (w : World) : Calls Tryd.prog 3 args'.toArray w fun e w' => e = .returned (.bool true) ∧ Grown w w' :=
  (calls_of_run kd.progOK kd.mixed (oneS_ok kd.awake5) (oneK_ok (rhoT ss xs) kd.has5) (sat_ofT hl hn h1 h2 h3) h hargs w).mono fun e w' q => ⟨q.1, q.2.grown⟩
theorem no3 : ∀ {ρ : Nat → Int} {c : Con}, c ∈ ([] : List Con) → Con.ok ρ c := fun h => by cases h
theorem cs3 {ρ : Nat → Int} {c d : Con} {l : List Con} (h : Con.ok ρ d) (k : c ∈ l → Con.ok ρ c) (m : c ∈ d :: l) : Con.ok ρ c := by
  rcases List.mem_cons.1 m with e | e
  · exact e ▸ h
  · exact k e
theorem case0 (s0 s1 s2 : ByteArray) (x0 y0 x1 y1 x2 y2 : Int) (hx0 : (-9223372036854775808 : Int) ≤ x0 ∧ x0 ≤ 9223372036854775807) (hy0 : (-9223372036854775808 : Int) ≤ y0 ∧ y0 ≤ 9223372036854775807) (hx1 : (-9223372036854775808 : Int) ≤ x1 ∧ x1 ≤ 9223372036854775807) (hy1 : (-9223372036854775808 : Int) ≤ y1 ∧ y1 ≤ 9223372036854775807) (hx2 : (-9223372036854775808 : Int) ≤ x2 ∧ x2 ≤ 9223372036854775807) (hy2 : (-9223372036854775808 : Int) ≤ y2 ∧ y2 ≤ 9223372036854775807) (w : World) :
    Calls Tryd.prog 3 #[.agg #[.string s0, .int .i64 x0, .int .i64 y0, .bool false], .agg #[.string s1, .int .i64 x1, .int .i64 y1, .bool false], .agg #[.string s2, .int .i64 x2, .int .i64 y2, .bool false]] w fun e w' => e = .returned (.bool true) ∧ Grown w w' := by
  have h1 : boxAll [x0, y0, x1, y1, x2, y2] [((-9223372036854775808), 9223372036854775807), ((-9223372036854775808), 9223372036854775807), ((-9223372036854775808), 9223372036854775807), ((-9223372036854775808), 9223372036854775807), ((-9223372036854775808), 9223372036854775807), ((-9223372036854775808), 9223372036854775807)] := by simp only [boxAll, and_true] <;> omega
  have ha : VRels noMap (absL (rhoT [s0.data.toList, s1.data.toList, s2.data.toList] [x0, y0, x1, y1, x2, y2]) [.agg [.sv 0, .int .i64 (.a 0 [(3, 1)]), .int .i64 (.a 0 [(4, 1)]), .bool false], .agg [.sv 1, .int .i64 (.a 0 [(5, 1)]), .int .i64 (.a 0 [(6, 1)]), .bool false], .agg [.sv 2, .int .i64 (.a 0 [(7, 1)]), .int .i64 (.a 0 [(8, 1)]), .bool false]]) [.agg #[.string s0, .int .i64 x0, .int .i64 y0, .bool false], .agg #[.string s1, .int .i64 x1, .int .i64 y1, .bool false], .agg #[.string s2, .int .i64 x2, .int .i64 y2, .bool false]] :=
    args_cons (rel_agg (args_cons (rel_str (svS_rhoT _ _ 0)) (args_cons (rel_int (by simp [KI.ev, evT, rhoT, svBase])) (args_cons (rel_int (by simp [KI.ev, evT, rhoT, svBase])) (args_cons rel_bool args_nil))))) (args_cons (rel_agg (args_cons (rel_str (svS_rhoT _ _ 1)) (args_cons (rel_int (by simp [KI.ev, evT, rhoT, svBase])) (args_cons (rel_int (by simp [KI.ev, evT, rhoT, svBase])) (args_cons rel_bool args_nil))))) (args_cons (rel_agg (args_cons (rel_str (svS_rhoT _ _ 2)) (args_cons (rel_int (by simp [KI.ev, evT, rhoT, svBase])) (args_cons (rel_int (by simp [KI.ev, evT, rhoT, svBase])) (args_cons rel_bool args_nil))))) args_nil))
  have go : ∀ cs : List Con, runK Tryd.prog (oneK1 5) 100000 3 [.agg [.sv 0, .int .i64 (.a 0 [(3, 1)]), .int .i64 (.a 0 [(4, 1)]), .bool false], .agg [.sv 1, .int .i64 (.a 0 [(5, 1)]), .int .i64 (.a 0 [(6, 1)]), .bool false], .agg [.sv 2, .int .i64 (.a 0 [(7, 1)]), .int .i64 (.a 0 [(8, 1)]), .bool false]] ⟨[(-1000003, 1000), (-1000003, 1000), (-1000003, 1000), ((-9223372036854775808), 9223372036854775807), ((-9223372036854775808), 9223372036854775807), ((-9223372036854775808), 9223372036854775807), ((-9223372036854775808), 9223372036854775807), ((-9223372036854775808), 9223372036854775807), ((-9223372036854775808), 9223372036854775807)], cs⟩ = true → (∀ c ∈ cs, Con.ok (rhoT [s0.data.toList, s1.data.toList, s2.data.toList] [x0, y0, x1, y1, x2, y2]) c) → Calls Tryd.prog 3 #[.agg #[.string s0, .int .i64 x0, .int .i64 y0, .bool false], .agg #[.string s1, .int .i64 x1, .int .i64 y1, .bool false], .agg #[.string s2, .int .i64 x2, .int .i64 y2, .bool false]] w fun e w' => e = .returned (.bool true) ∧ Grown w w' := fun cs h h2 =>
    fin (ss := [s0.data.toList, s1.data.toList, s2.data.toList]) (xs := [x0, y0, x1, y1, x2, y2]) (bs := [((-9223372036854775808), 9223372036854775807), ((-9223372036854775808), 9223372036854775807), ((-9223372036854775808), 9223372036854775807), ((-9223372036854775808), 9223372036854775807), ((-9223372036854775808), 9223372036854775807), ((-9223372036854775808), 9223372036854775807)]) h (by simp [svBase]) (by simp) h1 h2 rfl ha w
  clear ha h1
  generalize rhoT [s0.data.toList, s1.data.toList, s2.data.toList] [x0, y0, x1, y1, x2, y2] = ρ at go
  rcases Int.lt_trichotomy (ρ 0) (ρ 1) with c1 | c1 | c1 <;> rcases Int.lt_trichotomy (ρ 1) (ρ 2) with c2 | c2 | c2 <;> rcases Int.lt_trichotomy (ρ 0) (ρ 2) with c3 | c3 | c3
  · exact go _ run0x0 (fun c => (cs3 (by simp [Con.ok, evT]; omega) (cs3 (by simp [Con.ok, evT]; omega) (cs3 (by simp [Con.ok, evT]; omega) no3))))
  · exfalso; omega
  · exfalso; omega
  · exact go _ run0x1 (fun c => (cs3 (by simp [Con.ok, evT]; omega) (cs3 (by simp [Con.ok, evT]; omega) (cs3 (by simp [Con.ok, evT]; omega) (cs3 (by simp [Con.ok, evT]; omega) no3)))))
  · exfalso; omega
  · exfalso; omega
  · exact go _ run0x2 (fun c => (cs3 (by simp [Con.ok, evT]; omega) (cs3 (by simp [Con.ok, evT]; omega) (cs3 (by simp [Con.ok, evT]; omega) no3))))
  · exact go _ run0x3 (fun c => (cs3 (by simp [Con.ok, evT]; omega) (cs3 (by simp [Con.ok, evT]; omega) (cs3 (by simp [Con.ok, evT]; omega) (cs3 (by simp [Con.ok, evT]; omega) no3)))))
  · exact go _ run0x4 (fun c => (cs3 (by simp [Con.ok, evT]; omega) (cs3 (by simp [Con.ok, evT]; omega) (cs3 (by simp [Con.ok, evT]; omega) no3))))
  · exact go _ run0x5 (fun c => (cs3 (by simp [Con.ok, evT]; omega) (cs3 (by simp [Con.ok, evT]; omega) (cs3 (by simp [Con.ok, evT]; omega) (cs3 (by simp [Con.ok, evT]; omega) no3)))))
  · exfalso; omega
  · exfalso; omega
  · exfalso; omega
  · exact go _ run0x6 (fun c => (cs3 (by simp [Con.ok, evT]; omega) (cs3 (by simp [Con.ok, evT]; omega) (cs3 (by simp [Con.ok, evT]; omega) (cs3 (by simp [Con.ok, evT]; omega) (cs3 (by simp [Con.ok, evT]; omega) (cs3 (by simp [Con.ok, evT]; omega) no3)))))))
  · exfalso; omega
  · exfalso; omega
  · exfalso; omega
  · exact go _ run0x7 (fun c => (cs3 (by simp [Con.ok, evT]; omega) (cs3 (by simp [Con.ok, evT]; omega) (cs3 (by simp [Con.ok, evT]; omega) (cs3 (by simp [Con.ok, evT]; omega) no3)))))
  · exact go _ run0x8 (fun c => (cs3 (by simp [Con.ok, evT]; omega) (cs3 (by simp [Con.ok, evT]; omega) (cs3 (by simp [Con.ok, evT]; omega) no3))))
  · exact go _ run0x9 (fun c => (cs3 (by simp [Con.ok, evT]; omega) (cs3 (by simp [Con.ok, evT]; omega) (cs3 (by simp [Con.ok, evT]; omega) (cs3 (by simp [Con.ok, evT]; omega) no3)))))
  · exact go _ run0x10 (fun c => (cs3 (by simp [Con.ok, evT]; omega) (cs3 (by simp [Con.ok, evT]; omega) (cs3 (by simp [Con.ok, evT]; omega) no3))))
  · exfalso; omega
  · exfalso; omega
  · exact go _ run0x11 (fun c => (cs3 (by simp [Con.ok, evT]; omega) (cs3 (by simp [Con.ok, evT]; omega) (cs3 (by simp [Con.ok, evT]; omega) (cs3 (by simp [Con.ok, evT]; omega) no3)))))
  · exfalso; omega
  · exfalso; omega
  · exact go _ run0x12 (fun c => (cs3 (by simp [Con.ok, evT]; omega) (cs3 (by simp [Con.ok, evT]; omega) (cs3 (by simp [Con.ok, evT]; omega) no3))))
theorem case1 (s0 s1 s2 : ByteArray) (x0 y0 x1 y1 x2 y2 : Int) (hx0 : (-9223372036854775808 : Int) ≤ x0 ∧ x0 ≤ 9223372036854775807) (hy0 : (-9223372036854775808 : Int) ≤ y0 ∧ y0 ≤ 9223372036854775807) (hx1 : (-9223372036854775808 : Int) ≤ x1 ∧ x1 ≤ 9223372036854775807) (hy1 : (-9223372036854775808 : Int) ≤ y1 ∧ y1 ≤ 9223372036854775807) (hx2 : (-9223372036854775808 : Int) ≤ x2 ∧ x2 ≤ 9223372036854775807) (hy2 : (-9223372036854775808 : Int) ≤ y2 ∧ y2 ≤ 9223372036854775807) (w : World) :
    Calls Tryd.prog 3 #[.agg #[.string s0, .int .i64 x0, .int .i64 y0, .bool false], .agg #[.string s1, .int .i64 x1, .int .i64 y1, .bool false], .agg #[.string s2, .int .i64 x2, .int .i64 y2, .bool true]] w fun e w' => e = .returned (.bool true) ∧ Grown w w' := by
  have h1 : boxAll [x0, y0, x1, y1, x2, y2] [((-9223372036854775808), 9223372036854775807), ((-9223372036854775808), 9223372036854775807), ((-9223372036854775808), 9223372036854775807), ((-9223372036854775808), 9223372036854775807), ((-9223372036854775808), 9223372036854775807), ((-9223372036854775808), 9223372036854775807)] := by simp only [boxAll, and_true] <;> omega
  have ha : VRels noMap (absL (rhoT [s0.data.toList, s1.data.toList, s2.data.toList] [x0, y0, x1, y1, x2, y2]) [.agg [.sv 0, .int .i64 (.a 0 [(3, 1)]), .int .i64 (.a 0 [(4, 1)]), .bool false], .agg [.sv 1, .int .i64 (.a 0 [(5, 1)]), .int .i64 (.a 0 [(6, 1)]), .bool false], .agg [.sv 2, .int .i64 (.a 0 [(7, 1)]), .int .i64 (.a 0 [(8, 1)]), .bool true]]) [.agg #[.string s0, .int .i64 x0, .int .i64 y0, .bool false], .agg #[.string s1, .int .i64 x1, .int .i64 y1, .bool false], .agg #[.string s2, .int .i64 x2, .int .i64 y2, .bool true]] :=
    args_cons (rel_agg (args_cons (rel_str (svS_rhoT _ _ 0)) (args_cons (rel_int (by simp [KI.ev, evT, rhoT, svBase])) (args_cons (rel_int (by simp [KI.ev, evT, rhoT, svBase])) (args_cons rel_bool args_nil))))) (args_cons (rel_agg (args_cons (rel_str (svS_rhoT _ _ 1)) (args_cons (rel_int (by simp [KI.ev, evT, rhoT, svBase])) (args_cons (rel_int (by simp [KI.ev, evT, rhoT, svBase])) (args_cons rel_bool args_nil))))) (args_cons (rel_agg (args_cons (rel_str (svS_rhoT _ _ 2)) (args_cons (rel_int (by simp [KI.ev, evT, rhoT, svBase])) (args_cons (rel_int (by simp [KI.ev, evT, rhoT, svBase])) (args_cons rel_bool args_nil))))) args_nil))
  have go : ∀ cs : List Con, runK Tryd.prog (oneK1 5) 100000 3 [.agg [.sv 0, .int .i64 (.a 0 [(3, 1)]), .int .i64 (.a 0 [(4, 1)]), .bool false], .agg [.sv 1, .int .i64 (.a 0 [(5, 1)]), .int .i64 (.a 0 [(6, 1)]), .bool false], .agg [.sv 2, .int .i64 (.a 0 [(7, 1)]), .int .i64 (.a 0 [(8, 1)]), .bool true]] ⟨[(-1000003, 1000), (-1000003, 1000), (-1000003, 1000), ((-9223372036854775808), 9223372036854775807), ((-9223372036854775808), 9223372036854775807), ((-9223372036854775808), 9223372036854775807), ((-9223372036854775808), 9223372036854775807), ((-9223372036854775808), 9223372036854775807), ((-9223372036854775808), 9223372036854775807)], cs⟩ = true → (∀ c ∈ cs, Con.ok (rhoT [s0.data.toList, s1.data.toList, s2.data.toList] [x0, y0, x1, y1, x2, y2]) c) → Calls Tryd.prog 3 #[.agg #[.string s0, .int .i64 x0, .int .i64 y0, .bool false], .agg #[.string s1, .int .i64 x1, .int .i64 y1, .bool false], .agg #[.string s2, .int .i64 x2, .int .i64 y2, .bool true]] w fun e w' => e = .returned (.bool true) ∧ Grown w w' := fun cs h h2 =>
    fin (ss := [s0.data.toList, s1.data.toList, s2.data.toList]) (xs := [x0, y0, x1, y1, x2, y2]) (bs := [((-9223372036854775808), 9223372036854775807), ((-9223372036854775808), 9223372036854775807), ((-9223372036854775808), 9223372036854775807), ((-9223372036854775808), 9223372036854775807), ((-9223372036854775808), 9223372036854775807), ((-9223372036854775808), 9223372036854775807)]) h (by simp [svBase]) (by simp) h1 h2 rfl ha w
  clear ha h1
  generalize rhoT [s0.data.toList, s1.data.toList, s2.data.toList] [x0, y0, x1, y1, x2, y2] = ρ at go
  rcases Int.lt_trichotomy (ρ 0) (ρ 1) with c1 | c1 | c1 <;> rcases Int.lt_trichotomy (ρ 1) (ρ 2) with c2 | c2 | c2 <;> rcases Int.lt_trichotomy (ρ 0) (ρ 2) with c3 | c3 | c3
  · exact go _ run1x0 (fun c => (cs3 (by simp [Con.ok, evT]; omega) (cs3 (by simp [Con.ok, evT]; omega) (cs3 (by simp [Con.ok, evT]; omega) no3))))
  · exfalso; omega
  · exfalso; omega
  · exact go _ run1x1 (fun c => (cs3 (by simp [Con.ok, evT]; omega) (cs3 (by simp [Con.ok, evT]; omega) (cs3 (by simp [Con.ok, evT]; omega) (cs3 (by simp [Con.ok, evT]; omega) no3)))))
  · exfalso; omega
  · exfalso; omega
  · exact go _ run1x2 (fun c => (cs3 (by simp [Con.ok, evT]; omega) (cs3 (by simp [Con.ok, evT]; omega) (cs3 (by simp [Con.ok, evT]; omega) no3))))
  · exact go _ run1x3 (fun c => (cs3 (by simp [Con.ok, evT]; omega) (cs3 (by simp [Con.ok, evT]; omega) (cs3 (by simp [Con.ok, evT]; omega) (cs3 (by simp [Con.ok, evT]; omega) no3)))))
  · exact go _ run1x4 (fun c => (cs3 (by simp [Con.ok, evT]; omega) (cs3 (by simp [Con.ok, evT]; omega) (cs3 (by simp [Con.ok, evT]; omega) no3))))
  · exact go _ run1x5 (fun c => (cs3 (by simp [Con.ok, evT]; omega) (cs3 (by simp [Con.ok, evT]; omega) (cs3 (by simp [Con.ok, evT]; omega) (cs3 (by simp [Con.ok, evT]; omega) no3)))))
  · exfalso; omega
  · exfalso; omega
  · exfalso; omega
  · exact go _ run1x6 (fun c => (cs3 (by simp [Con.ok, evT]; omega) (cs3 (by simp [Con.ok, evT]; omega) (cs3 (by simp [Con.ok, evT]; omega) (cs3 (by simp [Con.ok, evT]; omega) (cs3 (by simp [Con.ok, evT]; omega) (cs3 (by simp [Con.ok, evT]; omega) no3)))))))
  · exfalso; omega
  · exfalso; omega
  · exfalso; omega
  · exact go _ run1x7 (fun c => (cs3 (by simp [Con.ok, evT]; omega) (cs3 (by simp [Con.ok, evT]; omega) (cs3 (by simp [Con.ok, evT]; omega) (cs3 (by simp [Con.ok, evT]; omega) no3)))))
  · exact go _ run1x8 (fun c => (cs3 (by simp [Con.ok, evT]; omega) (cs3 (by simp [Con.ok, evT]; omega) (cs3 (by simp [Con.ok, evT]; omega) no3))))
  · exact go _ run1x9 (fun c => (cs3 (by simp [Con.ok, evT]; omega) (cs3 (by simp [Con.ok, evT]; omega) (cs3 (by simp [Con.ok, evT]; omega) (cs3 (by simp [Con.ok, evT]; omega) no3)))))
  · exact go _ run1x10 (fun c => (cs3 (by simp [Con.ok, evT]; omega) (cs3 (by simp [Con.ok, evT]; omega) (cs3 (by simp [Con.ok, evT]; omega) no3))))
  · exfalso; omega
  · exfalso; omega
  · exact go _ run1x11 (fun c => (cs3 (by simp [Con.ok, evT]; omega) (cs3 (by simp [Con.ok, evT]; omega) (cs3 (by simp [Con.ok, evT]; omega) (cs3 (by simp [Con.ok, evT]; omega) no3)))))
  · exfalso; omega
  · exfalso; omega
  · exact go _ run1x12 (fun c => (cs3 (by simp [Con.ok, evT]; omega) (cs3 (by simp [Con.ok, evT]; omega) (cs3 (by simp [Con.ok, evT]; omega) no3))))
theorem case2 (s0 s1 s2 : ByteArray) (x0 y0 x1 y1 x2 y2 : Int) (hx0 : (-9223372036854775808 : Int) ≤ x0 ∧ x0 ≤ 9223372036854775807) (hy0 : (-9223372036854775808 : Int) ≤ y0 ∧ y0 ≤ 9223372036854775807) (hx1 : (-9223372036854775808 : Int) ≤ x1 ∧ x1 ≤ 9223372036854775807) (hy1 : (-9223372036854775808 : Int) ≤ y1 ∧ y1 ≤ 9223372036854775807) (hx2 : (-9223372036854775808 : Int) ≤ x2 ∧ x2 ≤ 9223372036854775807) (hy2 : (-9223372036854775808 : Int) ≤ y2 ∧ y2 ≤ 9223372036854775807) (w : World) :
    Calls Tryd.prog 3 #[.agg #[.string s0, .int .i64 x0, .int .i64 y0, .bool false], .agg #[.string s1, .int .i64 x1, .int .i64 y1, .bool true], .agg #[.string s2, .int .i64 x2, .int .i64 y2, .bool false]] w fun e w' => e = .returned (.bool true) ∧ Grown w w' := by
  have h1 : boxAll [x0, y0, x1, y1, x2, y2] [((-9223372036854775808), 9223372036854775807), ((-9223372036854775808), 9223372036854775807), ((-9223372036854775808), 9223372036854775807), ((-9223372036854775808), 9223372036854775807), ((-9223372036854775808), 9223372036854775807), ((-9223372036854775808), 9223372036854775807)] := by simp only [boxAll, and_true] <;> omega
  have ha : VRels noMap (absL (rhoT [s0.data.toList, s1.data.toList, s2.data.toList] [x0, y0, x1, y1, x2, y2]) [.agg [.sv 0, .int .i64 (.a 0 [(3, 1)]), .int .i64 (.a 0 [(4, 1)]), .bool false], .agg [.sv 1, .int .i64 (.a 0 [(5, 1)]), .int .i64 (.a 0 [(6, 1)]), .bool true], .agg [.sv 2, .int .i64 (.a 0 [(7, 1)]), .int .i64 (.a 0 [(8, 1)]), .bool false]]) [.agg #[.string s0, .int .i64 x0, .int .i64 y0, .bool false], .agg #[.string s1, .int .i64 x1, .int .i64 y1, .bool true], .agg #[.string s2, .int .i64 x2, .int .i64 y2, .bool false]] :=
    args_cons (rel_agg (args_cons (rel_str (svS_rhoT _ _ 0)) (args_cons (rel_int (by simp [KI.ev, evT, rhoT, svBase])) (args_cons (rel_int (by simp [KI.ev, evT, rhoT, svBase])) (args_cons rel_bool args_nil))))) (args_cons (rel_agg (args_cons (rel_str (svS_rhoT _ _ 1)) (args_cons (rel_int (by simp [KI.ev, evT, rhoT, svBase])) (args_cons (rel_int (by simp [KI.ev, evT, rhoT, svBase])) (args_cons rel_bool args_nil))))) (args_cons (rel_agg (args_cons (rel_str (svS_rhoT _ _ 2)) (args_cons (rel_int (by simp [KI.ev, evT, rhoT, svBase])) (args_cons (rel_int (by simp [KI.ev, evT, rhoT, svBase])) (args_cons rel_bool args_nil))))) args_nil))
  have go : ∀ cs : List Con, runK Tryd.prog (oneK1 5) 100000 3 [.agg [.sv 0, .int .i64 (.a 0 [(3, 1)]), .int .i64 (.a 0 [(4, 1)]), .bool false], .agg [.sv 1, .int .i64 (.a 0 [(5, 1)]), .int .i64 (.a 0 [(6, 1)]), .bool true], .agg [.sv 2, .int .i64 (.a 0 [(7, 1)]), .int .i64 (.a 0 [(8, 1)]), .bool false]] ⟨[(-1000003, 1000), (-1000003, 1000), (-1000003, 1000), ((-9223372036854775808), 9223372036854775807), ((-9223372036854775808), 9223372036854775807), ((-9223372036854775808), 9223372036854775807), ((-9223372036854775808), 9223372036854775807), ((-9223372036854775808), 9223372036854775807), ((-9223372036854775808), 9223372036854775807)], cs⟩ = true → (∀ c ∈ cs, Con.ok (rhoT [s0.data.toList, s1.data.toList, s2.data.toList] [x0, y0, x1, y1, x2, y2]) c) → Calls Tryd.prog 3 #[.agg #[.string s0, .int .i64 x0, .int .i64 y0, .bool false], .agg #[.string s1, .int .i64 x1, .int .i64 y1, .bool true], .agg #[.string s2, .int .i64 x2, .int .i64 y2, .bool false]] w fun e w' => e = .returned (.bool true) ∧ Grown w w' := fun cs h h2 =>
    fin (ss := [s0.data.toList, s1.data.toList, s2.data.toList]) (xs := [x0, y0, x1, y1, x2, y2]) (bs := [((-9223372036854775808), 9223372036854775807), ((-9223372036854775808), 9223372036854775807), ((-9223372036854775808), 9223372036854775807), ((-9223372036854775808), 9223372036854775807), ((-9223372036854775808), 9223372036854775807), ((-9223372036854775808), 9223372036854775807)]) h (by simp [svBase]) (by simp) h1 h2 rfl ha w
  clear ha h1
  generalize rhoT [s0.data.toList, s1.data.toList, s2.data.toList] [x0, y0, x1, y1, x2, y2] = ρ at go
  rcases Int.lt_trichotomy (ρ 0) (ρ 1) with c1 | c1 | c1 <;> rcases Int.lt_trichotomy (ρ 1) (ρ 2) with c2 | c2 | c2 <;> rcases Int.lt_trichotomy (ρ 0) (ρ 2) with c3 | c3 | c3
  · exact go _ run2x0 (fun c => (cs3 (by simp [Con.ok, evT]; omega) (cs3 (by simp [Con.ok, evT]; omega) (cs3 (by simp [Con.ok, evT]; omega) no3))))
  · exfalso; omega
  · exfalso; omega
  · exact go _ run2x1 (fun c => (cs3 (by simp [Con.ok, evT]; omega) (cs3 (by simp [Con.ok, evT]; omega) (cs3 (by simp [Con.ok, evT]; omega) (cs3 (by simp [Con.ok, evT]; omega) no3)))))
  · exfalso; omega
  · exfalso; omega
  · exact go _ run2x2 (fun c => (cs3 (by simp [Con.ok, evT]; omega) (cs3 (by simp [Con.ok, evT]; omega) (cs3 (by simp [Con.ok, evT]; omega) no3))))
  · exact go _ run2x3 (fun c => (cs3 (by simp [Con.ok, evT]; omega) (cs3 (by simp [Con.ok, evT]; omega) (cs3 (by simp [Con.ok, evT]; omega) (cs3 (by simp [Con.ok, evT]; omega) no3)))))
  · exact go _ run2x4 (fun c => (cs3 (by simp [Con.ok, evT]; omega) (cs3 (by simp [Con.ok, evT]; omega) (cs3 (by simp [Con.ok, evT]; omega) no3))))
  · exact go _ run2x5 (fun c => (cs3 (by simp [Con.ok, evT]; omega) (cs3 (by simp [Con.ok, evT]; omega) (cs3 (by simp [Con.ok, evT]; omega) (cs3 (by simp [Con.ok, evT]; omega) no3)))))
  · exfalso; omega
  · exfalso; omega
  · exfalso; omega
  · exact go _ run2x6 (fun c => (cs3 (by simp [Con.ok, evT]; omega) (cs3 (by simp [Con.ok, evT]; omega) (cs3 (by simp [Con.ok, evT]; omega) (cs3 (by simp [Con.ok, evT]; omega) (cs3 (by simp [Con.ok, evT]; omega) (cs3 (by simp [Con.ok, evT]; omega) no3)))))))
  · exfalso; omega
  · exfalso; omega
  · exfalso; omega
  · exact go _ run2x7 (fun c => (cs3 (by simp [Con.ok, evT]; omega) (cs3 (by simp [Con.ok, evT]; omega) (cs3 (by simp [Con.ok, evT]; omega) (cs3 (by simp [Con.ok, evT]; omega) no3)))))
  · exact go _ run2x8 (fun c => (cs3 (by simp [Con.ok, evT]; omega) (cs3 (by simp [Con.ok, evT]; omega) (cs3 (by simp [Con.ok, evT]; omega) no3))))
  · exact go _ run2x9 (fun c => (cs3 (by simp [Con.ok, evT]; omega) (cs3 (by simp [Con.ok, evT]; omega) (cs3 (by simp [Con.ok, evT]; omega) (cs3 (by simp [Con.ok, evT]; omega) no3)))))
  · exact go _ run2x10 (fun c => (cs3 (by simp [Con.ok, evT]; omega) (cs3 (by simp [Con.ok, evT]; omega) (cs3 (by simp [Con.ok, evT]; omega) no3))))
  · exfalso; omega
  · exfalso; omega
  · exact go _ run2x11 (fun c => (cs3 (by simp [Con.ok, evT]; omega) (cs3 (by simp [Con.ok, evT]; omega) (cs3 (by simp [Con.ok, evT]; omega) (cs3 (by simp [Con.ok, evT]; omega) no3)))))
  · exfalso; omega
  · exfalso; omega
  · exact go _ run2x12 (fun c => (cs3 (by simp [Con.ok, evT]; omega) (cs3 (by simp [Con.ok, evT]; omega) (cs3 (by simp [Con.ok, evT]; omega) no3))))
theorem case3 (s0 s1 s2 : ByteArray) (x0 y0 x1 y1 x2 y2 : Int) (hx0 : (-9223372036854775808 : Int) ≤ x0 ∧ x0 ≤ 9223372036854775807) (hy0 : (-9223372036854775808 : Int) ≤ y0 ∧ y0 ≤ 9223372036854775807) (hx1 : (-9223372036854775808 : Int) ≤ x1 ∧ x1 ≤ 9223372036854775807) (hy1 : (-9223372036854775808 : Int) ≤ y1 ∧ y1 ≤ 9223372036854775807) (hx2 : (-9223372036854775808 : Int) ≤ x2 ∧ x2 ≤ 9223372036854775807) (hy2 : (-9223372036854775808 : Int) ≤ y2 ∧ y2 ≤ 9223372036854775807) (w : World) :
    Calls Tryd.prog 3 #[.agg #[.string s0, .int .i64 x0, .int .i64 y0, .bool false], .agg #[.string s1, .int .i64 x1, .int .i64 y1, .bool true], .agg #[.string s2, .int .i64 x2, .int .i64 y2, .bool true]] w fun e w' => e = .returned (.bool true) ∧ Grown w w' := by
  have h1 : boxAll [x0, y0, x1, y1, x2, y2] [((-9223372036854775808), 9223372036854775807), ((-9223372036854775808), 9223372036854775807), ((-9223372036854775808), 9223372036854775807), ((-9223372036854775808), 9223372036854775807), ((-9223372036854775808), 9223372036854775807), ((-9223372036854775808), 9223372036854775807)] := by simp only [boxAll, and_true] <;> omega
  have ha : VRels noMap (absL (rhoT [s0.data.toList, s1.data.toList, s2.data.toList] [x0, y0, x1, y1, x2, y2]) [.agg [.sv 0, .int .i64 (.a 0 [(3, 1)]), .int .i64 (.a 0 [(4, 1)]), .bool false], .agg [.sv 1, .int .i64 (.a 0 [(5, 1)]), .int .i64 (.a 0 [(6, 1)]), .bool true], .agg [.sv 2, .int .i64 (.a 0 [(7, 1)]), .int .i64 (.a 0 [(8, 1)]), .bool true]]) [.agg #[.string s0, .int .i64 x0, .int .i64 y0, .bool false], .agg #[.string s1, .int .i64 x1, .int .i64 y1, .bool true], .agg #[.string s2, .int .i64 x2, .int .i64 y2, .bool true]] :=
    args_cons (rel_agg (args_cons (rel_str (svS_rhoT _ _ 0)) (args_cons (rel_int (by simp [KI.ev, evT, rhoT, svBase])) (args_cons (rel_int (by simp [KI.ev, evT, rhoT, svBase])) (args_cons rel_bool args_nil))))) (args_cons (rel_agg (args_cons (rel_str (svS_rhoT _ _ 1)) (args_cons (rel_int (by simp [KI.ev, evT, rhoT, svBase])) (args_cons (rel_int (by simp [KI.ev, evT, rhoT, svBase])) (args_cons rel_bool args_nil))))) (args_cons (rel_agg (args_cons (rel_str (svS_rhoT _ _ 2)) (args_cons (rel_int (by simp [KI.ev, evT, rhoT, svBase])) (args_cons (rel_int (by simp [KI.ev, evT, rhoT, svBase])) (args_cons rel_bool args_nil))))) args_nil))
  have go : ∀ cs : List Con, runK Tryd.prog (oneK1 5) 100000 3 [.agg [.sv 0, .int .i64 (.a 0 [(3, 1)]), .int .i64 (.a 0 [(4, 1)]), .bool false], .agg [.sv 1, .int .i64 (.a 0 [(5, 1)]), .int .i64 (.a 0 [(6, 1)]), .bool true], .agg [.sv 2, .int .i64 (.a 0 [(7, 1)]), .int .i64 (.a 0 [(8, 1)]), .bool true]] ⟨[(-1000003, 1000), (-1000003, 1000), (-1000003, 1000), ((-9223372036854775808), 9223372036854775807), ((-9223372036854775808), 9223372036854775807), ((-9223372036854775808), 9223372036854775807), ((-9223372036854775808), 9223372036854775807), ((-9223372036854775808), 9223372036854775807), ((-9223372036854775808), 9223372036854775807)], cs⟩ = true → (∀ c ∈ cs, Con.ok (rhoT [s0.data.toList, s1.data.toList, s2.data.toList] [x0, y0, x1, y1, x2, y2]) c) → Calls Tryd.prog 3 #[.agg #[.string s0, .int .i64 x0, .int .i64 y0, .bool false], .agg #[.string s1, .int .i64 x1, .int .i64 y1, .bool true], .agg #[.string s2, .int .i64 x2, .int .i64 y2, .bool true]] w fun e w' => e = .returned (.bool true) ∧ Grown w w' := fun cs h h2 =>
    fin (ss := [s0.data.toList, s1.data.toList, s2.data.toList]) (xs := [x0, y0, x1, y1, x2, y2]) (bs := [((-9223372036854775808), 9223372036854775807), ((-9223372036854775808), 9223372036854775807), ((-9223372036854775808), 9223372036854775807), ((-9223372036854775808), 9223372036854775807), ((-9223372036854775808), 9223372036854775807), ((-9223372036854775808), 9223372036854775807)]) h (by simp [svBase]) (by simp) h1 h2 rfl ha w
  clear ha h1
  generalize rhoT [s0.data.toList, s1.data.toList, s2.data.toList] [x0, y0, x1, y1, x2, y2] = ρ at go
  rcases Int.lt_trichotomy (ρ 0) (ρ 1) with c1 | c1 | c1 <;> rcases Int.lt_trichotomy (ρ 1) (ρ 2) with c2 | c2 | c2 <;> rcases Int.lt_trichotomy (ρ 0) (ρ 2) with c3 | c3 | c3
  · exact go _ run3x0 (fun c => (cs3 (by simp [Con.ok, evT]; omega) (cs3 (by simp [Con.ok, evT]; omega) (cs3 (by simp [Con.ok, evT]; omega) no3))))
  · exfalso; omega
  · exfalso; omega
  · exact go _ run3x1 (fun c => (cs3 (by simp [Con.ok, evT]; omega) (cs3 (by simp [Con.ok, evT]; omega) (cs3 (by simp [Con.ok, evT]; omega) (cs3 (by simp [Con.ok, evT]; omega) no3)))))
  · exfalso; omega
  · exfalso; omega
  · exact go _ run3x2 (fun c => (cs3 (by simp [Con.ok, evT]; omega) (cs3 (by simp [Con.ok, evT]; omega) (cs3 (by simp [Con.ok, evT]; omega) no3))))
  · exact go _ run3x3 (fun c => (cs3 (by simp [Con.ok, evT]; omega) (cs3 (by simp [Con.ok, evT]; omega) (cs3 (by simp [Con.ok, evT]; omega) (cs3 (by simp [Con.ok, evT]; omega) no3)))))
  · exact go _ run3x4 (fun c => (cs3 (by simp [Con.ok, evT]; omega) (cs3 (by simp [Con.ok, evT]; omega) (cs3 (by simp [Con.ok, evT]; omega) no3))))
  · exact go _ run3x5 (fun c => (cs3 (by simp [Con.ok, evT]; omega) (cs3 (by simp [Con.ok, evT]; omega) (cs3 (by simp [Con.ok, evT]; omega) (cs3 (by simp [Con.ok, evT]; omega) no3)))))
  · exfalso; omega
  · exfalso; omega
  · exfalso; omega
  · exact go _ run3x6 (fun c => (cs3 (by simp [Con.ok, evT]; omega) (cs3 (by simp [Con.ok, evT]; omega) (cs3 (by simp [Con.ok, evT]; omega) (cs3 (by simp [Con.ok, evT]; omega) (cs3 (by simp [Con.ok, evT]; omega) (cs3 (by simp [Con.ok, evT]; omega) no3)))))))
  · exfalso; omega
  · exfalso; omega
  · exfalso; omega
  · exact go _ run3x7 (fun c => (cs3 (by simp [Con.ok, evT]; omega) (cs3 (by simp [Con.ok, evT]; omega) (cs3 (by simp [Con.ok, evT]; omega) (cs3 (by simp [Con.ok, evT]; omega) no3)))))
  · exact go _ run3x8 (fun c => (cs3 (by simp [Con.ok, evT]; omega) (cs3 (by simp [Con.ok, evT]; omega) (cs3 (by simp [Con.ok, evT]; omega) no3))))
  · exact go _ run3x9 (fun c => (cs3 (by simp [Con.ok, evT]; omega) (cs3 (by simp [Con.ok, evT]; omega) (cs3 (by simp [Con.ok, evT]; omega) (cs3 (by simp [Con.ok, evT]; omega) no3)))))
  · exact go _ run3x10 (fun c => (cs3 (by simp [Con.ok, evT]; omega) (cs3 (by simp [Con.ok, evT]; omega) (cs3 (by simp [Con.ok, evT]; omega) no3))))
  · exfalso; omega
  · exfalso; omega
  · exact go _ run3x11 (fun c => (cs3 (by simp [Con.ok, evT]; omega) (cs3 (by simp [Con.ok, evT]; omega) (cs3 (by simp [Con.ok, evT]; omega) (cs3 (by simp [Con.ok, evT]; omega) no3)))))
  · exfalso; omega
  · exfalso; omega
  · exact go _ run3x12 (fun c => (cs3 (by simp [Con.ok, evT]; omega) (cs3 (by simp [Con.ok, evT]; omega) (cs3 (by simp [Con.ok, evT]; omega) no3))))
theorem case4 (s0 s1 s2 : ByteArray) (x0 y0 x1 y1 x2 y2 : Int) (hx0 : (-9223372036854775808 : Int) ≤ x0 ∧ x0 ≤ 9223372036854775807) (hy0 : (-9223372036854775808 : Int) ≤ y0 ∧ y0 ≤ 9223372036854775807) (hx1 : (-9223372036854775808 : Int) ≤ x1 ∧ x1 ≤ 9223372036854775807) (hy1 : (-9223372036854775808 : Int) ≤ y1 ∧ y1 ≤ 9223372036854775807) (hx2 : (-9223372036854775808 : Int) ≤ x2 ∧ x2 ≤ 9223372036854775807) (hy2 : (-9223372036854775808 : Int) ≤ y2 ∧ y2 ≤ 9223372036854775807) (w : World) :
    Calls Tryd.prog 3 #[.agg #[.string s0, .int .i64 x0, .int .i64 y0, .bool true], .agg #[.string s1, .int .i64 x1, .int .i64 y1, .bool false], .agg #[.string s2, .int .i64 x2, .int .i64 y2, .bool false]] w fun e w' => e = .returned (.bool true) ∧ Grown w w' := by
  have h1 : boxAll [x0, y0, x1, y1, x2, y2] [((-9223372036854775808), 9223372036854775807), ((-9223372036854775808), 9223372036854775807), ((-9223372036854775808), 9223372036854775807), ((-9223372036854775808), 9223372036854775807), ((-9223372036854775808), 9223372036854775807), ((-9223372036854775808), 9223372036854775807)] := by simp only [boxAll, and_true] <;> omega
  have ha : VRels noMap (absL (rhoT [s0.data.toList, s1.data.toList, s2.data.toList] [x0, y0, x1, y1, x2, y2]) [.agg [.sv 0, .int .i64 (.a 0 [(3, 1)]), .int .i64 (.a 0 [(4, 1)]), .bool true], .agg [.sv 1, .int .i64 (.a 0 [(5, 1)]), .int .i64 (.a 0 [(6, 1)]), .bool false], .agg [.sv 2, .int .i64 (.a 0 [(7, 1)]), .int .i64 (.a 0 [(8, 1)]), .bool false]]) [.agg #[.string s0, .int .i64 x0, .int .i64 y0, .bool true], .agg #[.string s1, .int .i64 x1, .int .i64 y1, .bool false], .agg #[.string s2, .int .i64 x2, .int .i64 y2, .bool false]] :=
    args_cons (rel_agg (args_cons (rel_str (svS_rhoT _ _ 0)) (args_cons (rel_int (by simp [KI.ev, evT, rhoT, svBase])) (args_cons (rel_int (by simp [KI.ev, evT, rhoT, svBase])) (args_cons rel_bool args_nil))))) (args_cons (rel_agg (args_cons (rel_str (svS_rhoT _ _ 1)) (args_cons (rel_int (by simp [KI.ev, evT, rhoT, svBase])) (args_cons (rel_int (by simp [KI.ev, evT, rhoT, svBase])) (args_cons rel_bool args_nil))))) (args_cons (rel_agg (args_cons (rel_str (svS_rhoT _ _ 2)) (args_cons (rel_int (by simp [KI.ev, evT, rhoT, svBase])) (args_cons (rel_int (by simp [KI.ev, evT, rhoT, svBase])) (args_cons rel_bool args_nil))))) args_nil))
  have go : ∀ cs : List Con, runK Tryd.prog (oneK1 5) 100000 3 [.agg [.sv 0, .int .i64 (.a 0 [(3, 1)]), .int .i64 (.a 0 [(4, 1)]), .bool true], .agg [.sv 1, .int .i64 (.a 0 [(5, 1)]), .int .i64 (.a 0 [(6, 1)]), .bool false], .agg [.sv 2, .int .i64 (.a 0 [(7, 1)]), .int .i64 (.a 0 [(8, 1)]), .bool false]] ⟨[(-1000003, 1000), (-1000003, 1000), (-1000003, 1000), ((-9223372036854775808), 9223372036854775807), ((-9223372036854775808), 9223372036854775807), ((-9223372036854775808), 9223372036854775807), ((-9223372036854775808), 9223372036854775807), ((-9223372036854775808), 9223372036854775807), ((-9223372036854775808), 9223372036854775807)], cs⟩ = true → (∀ c ∈ cs, Con.ok (rhoT [s0.data.toList, s1.data.toList, s2.data.toList] [x0, y0, x1, y1, x2, y2]) c) → Calls Tryd.prog 3 #[.agg #[.string s0, .int .i64 x0, .int .i64 y0, .bool true], .agg #[.string s1, .int .i64 x1, .int .i64 y1, .bool false], .agg #[.string s2, .int .i64 x2, .int .i64 y2, .bool false]] w fun e w' => e = .returned (.bool true) ∧ Grown w w' := fun cs h h2 =>
    fin (ss := [s0.data.toList, s1.data.toList, s2.data.toList]) (xs := [x0, y0, x1, y1, x2, y2]) (bs := [((-9223372036854775808), 9223372036854775807), ((-9223372036854775808), 9223372036854775807), ((-9223372036854775808), 9223372036854775807), ((-9223372036854775808), 9223372036854775807), ((-9223372036854775808), 9223372036854775807), ((-9223372036854775808), 9223372036854775807)]) h (by simp [svBase]) (by simp) h1 h2 rfl ha w
  clear ha h1
  generalize rhoT [s0.data.toList, s1.data.toList, s2.data.toList] [x0, y0, x1, y1, x2, y2] = ρ at go
  rcases Int.lt_trichotomy (ρ 0) (ρ 1) with c1 | c1 | c1 <;> rcases Int.lt_trichotomy (ρ 1) (ρ 2) with c2 | c2 | c2 <;> rcases Int.lt_trichotomy (ρ 0) (ρ 2) with c3 | c3 | c3
  · exact go _ run4x0 (fun c => (cs3 (by simp [Con.ok, evT]; omega) (cs3 (by simp [Con.ok, evT]; omega) (cs3 (by simp [Con.ok, evT]; omega) no3))))
  · exfalso; omega
  · exfalso; omega
  · exact go _ run4x1 (fun c => (cs3 (by simp [Con.ok, evT]; omega) (cs3 (by simp [Con.ok, evT]; omega) (cs3 (by simp [Con.ok, evT]; omega) (cs3 (by simp [Con.ok, evT]; omega) no3)))))
  · exfalso; omega
  · exfalso; omega
  · exact go _ run4x2 (fun c => (cs3 (by simp [Con.ok, evT]; omega) (cs3 (by simp [Con.ok, evT]; omega) (cs3 (by simp [Con.ok, evT]; omega) no3))))
  · exact go _ run4x3 (fun c => (cs3 (by simp [Con.ok, evT]; omega) (cs3 (by simp [Con.ok, evT]; omega) (cs3 (by simp [Con.ok, evT]; omega) (cs3 (by simp [Con.ok, evT]; omega) no3)))))
  · exact go _ run4x4 (fun c => (cs3 (by simp [Con.ok, evT]; omega) (cs3 (by simp [Con.ok, evT]; omega) (cs3 (by simp [Con.ok, evT]; omega) no3))))
  · exact go _ run4x5 (fun c => (cs3 (by simp [Con.ok, evT]; omega) (cs3 (by simp [Con.ok, evT]; omega) (cs3 (by simp [Con.ok, evT]; omega) (cs3 (by simp [Con.ok, evT]; omega) no3)))))
  · exfalso; omega
  · exfalso; omega
  · exfalso; omega
  · exact go _ run4x6 (fun c => (cs3 (by simp [Con.ok, evT]; omega) (cs3 (by simp [Con.ok, evT]; omega) (cs3 (by simp [Con.ok, evT]; omega) (cs3 (by simp [Con.ok, evT]; omega) (cs3 (by simp [Con.ok, evT]; omega) (cs3 (by simp [Con.ok, evT]; omega) no3)))))))
  · exfalso; omega
  · exfalso; omega
  · exfalso; omega
  · exact go _ run4x7 (fun c => (cs3 (by simp [Con.ok, evT]; omega) (cs3 (by simp [Con.ok, evT]; omega) (cs3 (by simp [Con.ok, evT]; omega) (cs3 (by simp [Con.ok, evT]; omega) no3)))))
  · exact go _ run4x8 (fun c => (cs3 (by simp [Con.ok, evT]; omega) (cs3 (by simp [Con.ok, evT]; omega) (cs3 (by simp [Con.ok, evT]; omega) no3))))
  · exact go _ run4x9 (fun c => (cs3 (by simp [Con.ok, evT]; omega) (cs3 (by simp [Con.ok, evT]; omega) (cs3 (by simp [Con.ok, evT]; omega) (cs3 (by simp [Con.ok, evT]; omega) no3)))))
  · exact go _ run4x10 (fun c => (cs3 (by simp [Con.ok, evT]; omega) (cs3 (by simp [Con.ok, evT]; omega) (cs3 (by simp [Con.ok, evT]; omega) no3))))
  · exfalso; omega
  · exfalso; omega
  · exact go _ run4x11 (fun c => (cs3 (by simp [Con.ok, evT]; omega) (cs3 (by simp [Con.ok, evT]; omega) (cs3 (by simp [Con.ok, evT]; omega) (cs3 (by simp [Con.ok, evT]; omega) no3)))))
  · exfalso; omega
  · exfalso; omega
  · exact go _ run4x12 (fun c => (cs3 (by simp [Con.ok, evT]; omega) (cs3 (by simp [Con.ok, evT]; omega) (cs3 (by simp [Con.ok, evT]; omega) no3))))
theorem case5 (s0 s1 s2 : ByteArray) (x0 y0 x1 y1 x2 y2 : Int) (hx0 : (-9223372036854775808 : Int) ≤ x0 ∧ x0 ≤ 9223372036854775807) (hy0 : (-9223372036854775808 : Int) ≤ y0 ∧ y0 ≤ 9223372036854775807) (hx1 : (-9223372036854775808 : Int) ≤ x1 ∧ x1 ≤ 9223372036854775807) (hy1 : (-9223372036854775808 : Int) ≤ y1 ∧ y1 ≤ 9223372036854775807) (hx2 : (-9223372036854775808 : Int) ≤ x2 ∧ x2 ≤ 9223372036854775807) (hy2 : (-9223372036854775808 : Int) ≤ y2 ∧ y2 ≤ 9223372036854775807) (w : World) :
    Calls Tryd.prog 3 #[.agg #[.string s0, .int .i64 x0, .int .i64 y0, .bool true], .agg #[.string s1, .int .i64 x1, .int .i64 y1, .bool false], .agg #[.string s2, .int .i64 x2, .int .i64 y2, .bool true]] w fun e w' => e = .returned (.bool true) ∧ Grown w w' := by
  have h1 : boxAll [x0, y0, x1, y1, x2, y2] [((-9223372036854775808), 9223372036854775807), ((-9223372036854775808), 9223372036854775807), ((-9223372036854775808), 9223372036854775807), ((-9223372036854775808), 9223372036854775807), ((-9223372036854775808), 9223372036854775807), ((-9223372036854775808), 9223372036854775807)] := by simp only [boxAll, and_true] <;> omega
  have ha : VRels noMap (absL (rhoT [s0.data.toList, s1.data.toList, s2.data.toList] [x0, y0, x1, y1, x2, y2]) [.agg [.sv 0, .int .i64 (.a 0 [(3, 1)]), .int .i64 (.a 0 [(4, 1)]), .bool true], .agg [.sv 1, .int .i64 (.a 0 [(5, 1)]), .int .i64 (.a 0 [(6, 1)]), .bool false], .agg [.sv 2, .int .i64 (.a 0 [(7, 1)]), .int .i64 (.a 0 [(8, 1)]), .bool true]]) [.agg #[.string s0, .int .i64 x0, .int .i64 y0, .bool true], .agg #[.string s1, .int .i64 x1, .int .i64 y1, .bool false], .agg #[.string s2, .int .i64 x2, .int .i64 y2, .bool true]] :=
    args_cons (rel_agg (args_cons (rel_str (svS_rhoT _ _ 0)) (args_cons (rel_int (by simp [KI.ev, evT, rhoT, svBase])) (args_cons (rel_int (by simp [KI.ev, evT, rhoT, svBase])) (args_cons rel_bool args_nil))))) (args_cons (rel_agg (args_cons (rel_str (svS_rhoT _ _ 1)) (args_cons (rel_int (by simp [KI.ev, evT, rhoT, svBase])) (args_cons (rel_int (by simp [KI.ev, evT, rhoT, svBase])) (args_cons rel_bool args_nil))))) (args_cons (rel_agg (args_cons (rel_str (svS_rhoT _ _ 2)) (args_cons (rel_int (by simp [KI.ev, evT, rhoT, svBase])) (args_cons (rel_int (by simp [KI.ev, evT, rhoT, svBase])) (args_cons rel_bool args_nil))))) args_nil))
  have go : ∀ cs : List Con, runK Tryd.prog (oneK1 5) 100000 3 [.agg [.sv 0, .int .i64 (.a 0 [(3, 1)]), .int .i64 (.a 0 [(4, 1)]), .bool true], .agg [.sv 1, .int .i64 (.a 0 [(5, 1)]), .int .i64 (.a 0 [(6, 1)]), .bool false], .agg [.sv 2, .int .i64 (.a 0 [(7, 1)]), .int .i64 (.a 0 [(8, 1)]), .bool true]] ⟨[(-1000003, 1000), (-1000003, 1000), (-1000003, 1000), ((-9223372036854775808), 9223372036854775807), ((-9223372036854775808), 9223372036854775807), ((-9223372036854775808), 9223372036854775807), ((-9223372036854775808), 9223372036854775807), ((-9223372036854775808), 9223372036854775807), ((-9223372036854775808), 9223372036854775807)], cs⟩ = true → (∀ c ∈ cs, Con.ok (rhoT [s0.data.toList, s1.data.toList, s2.data.toList] [x0, y0, x1, y1, x2, y2]) c) → Calls Tryd.prog 3 #[.agg #[.string s0, .int .i64 x0, .int .i64 y0, .bool true], .agg #[.string s1, .int .i64 x1, .int .i64 y1, .bool false], .agg #[.string s2, .int .i64 x2, .int .i64 y2, .bool true]] w fun e w' => e = .returned (.bool true) ∧ Grown w w' := fun cs h h2 =>
    fin (ss := [s0.data.toList, s1.data.toList, s2.data.toList]) (xs := [x0, y0, x1, y1, x2, y2]) (bs := [((-9223372036854775808), 9223372036854775807), ((-9223372036854775808), 9223372036854775807), ((-9223372036854775808), 9223372036854775807), ((-9223372036854775808), 9223372036854775807), ((-9223372036854775808), 9223372036854775807), ((-9223372036854775808), 9223372036854775807)]) h (by simp [svBase]) (by simp) h1 h2 rfl ha w
  clear ha h1
  generalize rhoT [s0.data.toList, s1.data.toList, s2.data.toList] [x0, y0, x1, y1, x2, y2] = ρ at go
  rcases Int.lt_trichotomy (ρ 0) (ρ 1) with c1 | c1 | c1 <;> rcases Int.lt_trichotomy (ρ 1) (ρ 2) with c2 | c2 | c2 <;> rcases Int.lt_trichotomy (ρ 0) (ρ 2) with c3 | c3 | c3
  · exact go _ run5x0 (fun c => (cs3 (by simp [Con.ok, evT]; omega) (cs3 (by simp [Con.ok, evT]; omega) (cs3 (by simp [Con.ok, evT]; omega) no3))))
  · exfalso; omega
  · exfalso; omega
  · exact go _ run5x1 (fun c => (cs3 (by simp [Con.ok, evT]; omega) (cs3 (by simp [Con.ok, evT]; omega) (cs3 (by simp [Con.ok, evT]; omega) (cs3 (by simp [Con.ok, evT]; omega) no3)))))
  · exfalso; omega
  · exfalso; omega
  · exact go _ run5x2 (fun c => (cs3 (by simp [Con.ok, evT]; omega) (cs3 (by simp [Con.ok, evT]; omega) (cs3 (by simp [Con.ok, evT]; omega) no3))))
  · exact go _ run5x3 (fun c => (cs3 (by simp [Con.ok, evT]; omega) (cs3 (by simp [Con.ok, evT]; omega) (cs3 (by simp [Con.ok, evT]; omega) (cs3 (by simp [Con.ok, evT]; omega) no3)))))
  · exact go _ run5x4 (fun c => (cs3 (by simp [Con.ok, evT]; omega) (cs3 (by simp [Con.ok, evT]; omega) (cs3 (by simp [Con.ok, evT]; omega) no3))))
  · exact go _ run5x5 (fun c => (cs3 (by simp [Con.ok, evT]; omega) (cs3 (by simp [Con.ok, evT]; omega) (cs3 (by simp [Con.ok, evT]; omega) (cs3 (by simp [Con.ok, evT]; omega) no3)))))
  · exfalso; omega
  · exfalso; omega
  · exfalso; omega
  · exact go _ run5x6 (fun c => (cs3 (by simp [Con.ok, evT]; omega) (cs3 (by simp [Con.ok, evT]; omega) (cs3 (by simp [Con.ok, evT]; omega) (cs3 (by simp [Con.ok, evT]; omega) (cs3 (by simp [Con.ok, evT]; omega) (cs3 (by simp [Con.ok, evT]; omega) no3)))))))
  · exfalso; omega
  · exfalso; omega
  · exfalso; omega
  · exact go _ run5x7 (fun c => (cs3 (by simp [Con.ok, evT]; omega) (cs3 (by simp [Con.ok, evT]; omega) (cs3 (by simp [Con.ok, evT]; omega) (cs3 (by simp [Con.ok, evT]; omega) no3)))))
  · exact go _ run5x8 (fun c => (cs3 (by simp [Con.ok, evT]; omega) (cs3 (by simp [Con.ok, evT]; omega) (cs3 (by simp [Con.ok, evT]; omega) no3))))
  · exact go _ run5x9 (fun c => (cs3 (by simp [Con.ok, evT]; omega) (cs3 (by simp [Con.ok, evT]; omega) (cs3 (by simp [Con.ok, evT]; omega) (cs3 (by simp [Con.ok, evT]; omega) no3)))))
  · exact go _ run5x10 (fun c => (cs3 (by simp [Con.ok, evT]; omega) (cs3 (by simp [Con.ok, evT]; omega) (cs3 (by simp [Con.ok, evT]; omega) no3))))
  · exfalso; omega
  · exfalso; omega
  · exact go _ run5x11 (fun c => (cs3 (by simp [Con.ok, evT]; omega) (cs3 (by simp [Con.ok, evT]; omega) (cs3 (by simp [Con.ok, evT]; omega) (cs3 (by simp [Con.ok, evT]; omega) no3)))))
  · exfalso; omega
  · exfalso; omega
  · exact go _ run5x12 (fun c => (cs3 (by simp [Con.ok, evT]; omega) (cs3 (by simp [Con.ok, evT]; omega) (cs3 (by simp [Con.ok, evT]; omega) no3))))
theorem case6 (s0 s1 s2 : ByteArray) (x0 y0 x1 y1 x2 y2 : Int) (hx0 : (-9223372036854775808 : Int) ≤ x0 ∧ x0 ≤ 9223372036854775807) (hy0 : (-9223372036854775808 : Int) ≤ y0 ∧ y0 ≤ 9223372036854775807) (hx1 : (-9223372036854775808 : Int) ≤ x1 ∧ x1 ≤ 9223372036854775807) (hy1 : (-9223372036854775808 : Int) ≤ y1 ∧ y1 ≤ 9223372036854775807) (hx2 : (-9223372036854775808 : Int) ≤ x2 ∧ x2 ≤ 9223372036854775807) (hy2 : (-9223372036854775808 : Int) ≤ y2 ∧ y2 ≤ 9223372036854775807) (w : World) :
    Calls Tryd.prog 3 #[.agg #[.string s0, .int .i64 x0, .int .i64 y0, .bool true], .agg #[.string s1, .int .i64 x1, .int .i64 y1, .bool true], .agg #[.string s2, .int .i64 x2, .int .i64 y2, .bool false]] w fun e w' => e = .returned (.bool true) ∧ Grown w w' := by
  have h1 : boxAll [x0, y0, x1, y1, x2, y2] [((-9223372036854775808), 9223372036854775807), ((-9223372036854775808), 9223372036854775807), ((-9223372036854775808), 9223372036854775807), ((-9223372036854775808), 9223372036854775807), ((-9223372036854775808), 9223372036854775807), ((-9223372036854775808), 9223372036854775807)] := by simp only [boxAll, and_true] <;> omega
  have ha : VRels noMap (absL (rhoT [s0.data.toList, s1.data.toList, s2.data.toList] [x0, y0, x1, y1, x2, y2]) [.agg [.sv 0, .int .i64 (.a 0 [(3, 1)]), .int .i64 (.a 0 [(4, 1)]), .bool true], .agg [.sv 1, .int .i64 (.a 0 [(5, 1)]), .int .i64 (.a 0 [(6, 1)]), .bool true], .agg [.sv 2, .int .i64 (.a 0 [(7, 1)]), .int .i64 (.a 0 [(8, 1)]), .bool false]]) [.agg #[.string s0, .int .i64 x0, .int .i64 y0, .bool true], .agg #[.string s1, .int .i64 x1, .int .i64 y1, .bool true], .agg #[.string s2, .int .i64 x2, .int .i64 y2, .bool false]] :=
    args_cons (rel_agg (args_cons (rel_str (svS_rhoT _ _ 0)) (args_cons (rel_int (by simp [KI.ev, evT, rhoT, svBase])) (args_cons (rel_int (by simp [KI.ev, evT, rhoT, svBase])) (args_cons rel_bool args_nil))))) (args_cons (rel_agg (args_cons (rel_str (svS_rhoT _ _ 1)) (args_cons (rel_int (by simp [KI.ev, evT, rhoT, svBase])) (args_cons (rel_int (by simp [KI.ev, evT, rhoT, svBase])) (args_cons rel_bool args_nil))))) (args_cons (rel_agg (args_cons (rel_str (svS_rhoT _ _ 2)) (args_cons (rel_int (by simp [KI.ev, evT, rhoT, svBase])) (args_cons (rel_int (by simp [KI.ev, evT, rhoT, svBase])) (args_cons rel_bool args_nil))))) args_nil))
  have go : ∀ cs : List Con, runK Tryd.prog (oneK1 5) 100000 3 [.agg [.sv 0, .int .i64 (.a 0 [(3, 1)]), .int .i64 (.a 0 [(4, 1)]), .bool true], .agg [.sv 1, .int .i64 (.a 0 [(5, 1)]), .int .i64 (.a 0 [(6, 1)]), .bool true], .agg [.sv 2, .int .i64 (.a 0 [(7, 1)]), .int .i64 (.a 0 [(8, 1)]), .bool false]] ⟨[(-1000003, 1000), (-1000003, 1000), (-1000003, 1000), ((-9223372036854775808), 9223372036854775807), ((-9223372036854775808), 9223372036854775807), ((-9223372036854775808), 9223372036854775807), ((-9223372036854775808), 9223372036854775807), ((-9223372036854775808), 9223372036854775807), ((-9223372036854775808), 9223372036854775807)], cs⟩ = true → (∀ c ∈ cs, Con.ok (rhoT [s0.data.toList, s1.data.toList, s2.data.toList] [x0, y0, x1, y1, x2, y2]) c) → Calls Tryd.prog 3 #[.agg #[.string s0, .int .i64 x0, .int .i64 y0, .bool true], .agg #[.string s1, .int .i64 x1, .int .i64 y1, .bool true], .agg #[.string s2, .int .i64 x2, .int .i64 y2, .bool false]] w fun e w' => e = .returned (.bool true) ∧ Grown w w' := fun cs h h2 =>
    fin (ss := [s0.data.toList, s1.data.toList, s2.data.toList]) (xs := [x0, y0, x1, y1, x2, y2]) (bs := [((-9223372036854775808), 9223372036854775807), ((-9223372036854775808), 9223372036854775807), ((-9223372036854775808), 9223372036854775807), ((-9223372036854775808), 9223372036854775807), ((-9223372036854775808), 9223372036854775807), ((-9223372036854775808), 9223372036854775807)]) h (by simp [svBase]) (by simp) h1 h2 rfl ha w
  clear ha h1
  generalize rhoT [s0.data.toList, s1.data.toList, s2.data.toList] [x0, y0, x1, y1, x2, y2] = ρ at go
  rcases Int.lt_trichotomy (ρ 0) (ρ 1) with c1 | c1 | c1 <;> rcases Int.lt_trichotomy (ρ 1) (ρ 2) with c2 | c2 | c2 <;> rcases Int.lt_trichotomy (ρ 0) (ρ 2) with c3 | c3 | c3
  · exact go _ run6x0 (fun c => (cs3 (by simp [Con.ok, evT]; omega) (cs3 (by simp [Con.ok, evT]; omega) (cs3 (by simp [Con.ok, evT]; omega) no3))))
  · exfalso; omega
  · exfalso; omega
  · exact go _ run6x1 (fun c => (cs3 (by simp [Con.ok, evT]; omega) (cs3 (by simp [Con.ok, evT]; omega) (cs3 (by simp [Con.ok, evT]; omega) (cs3 (by simp [Con.ok, evT]; omega) no3)))))
  · exfalso; omega
  · exfalso; omega
  · exact go _ run6x2 (fun c => (cs3 (by simp [Con.ok, evT]; omega) (cs3 (by simp [Con.ok, evT]; omega) (cs3 (by simp [Con.ok, evT]; omega) no3))))
  · exact go _ run6x3 (fun c => (cs3 (by simp [Con.ok, evT]; omega) (cs3 (by simp [Con.ok, evT]; omega) (cs3 (by simp [Con.ok, evT]; omega) (cs3 (by simp [Con.ok, evT]; omega) no3)))))
  · exact go _ run6x4 (fun c => (cs3 (by simp [Con.ok, evT]; omega) (cs3 (by simp [Con.ok, evT]; omega) (cs3 (by simp [Con.ok, evT]; omega) no3))))
  · exact go _ run6x5 (fun c => (cs3 (by simp [Con.ok, evT]; omega) (cs3 (by simp [Con.ok, evT]; omega) (cs3 (by simp [Con.ok, evT]; omega) (cs3 (by simp [Con.ok, evT]; omega) no3)))))
  · exfalso; omega
  · exfalso; omega
  · exfalso; omega
  · exact go _ run6x6 (fun c => (cs3 (by simp [Con.ok, evT]; omega) (cs3 (by simp [Con.ok, evT]; omega) (cs3 (by simp [Con.ok, evT]; omega) (cs3 (by simp [Con.ok, evT]; omega) (cs3 (by simp [Con.ok, evT]; omega) (cs3 (by simp [Con.ok, evT]; omega) no3)))))))
  · exfalso; omega
  · exfalso; omega
  · exfalso; omega
  · exact go _ run6x7 (fun c => (cs3 (by simp [Con.ok, evT]; omega) (cs3 (by simp [Con.ok, evT]; omega) (cs3 (by simp [Con.ok, evT]; omega) (cs3 (by simp [Con.ok, evT]; omega) no3)))))
  · exact go _ run6x8 (fun c => (cs3 (by simp [Con.ok, evT]; omega) (cs3 (by simp [Con.ok, evT]; omega) (cs3 (by simp [Con.ok, evT]; omega) no3))))
  · exact go _ run6x9 (fun c => (cs3 (by simp [Con.ok, evT]; omega) (cs3 (by simp [Con.ok, evT]; omega) (cs3 (by simp [Con.ok, evT]; omega) (cs3 (by simp [Con.ok, evT]; omega) no3)))))
  · exact go _ run6x10 (fun c => (cs3 (by simp [Con.ok, evT]; omega) (cs3 (by simp [Con.ok, evT]; omega) (cs3 (by simp [Con.ok, evT]; omega) no3))))
  · exfalso; omega
  · exfalso; omega
  · exact go _ run6x11 (fun c => (cs3 (by simp [Con.ok, evT]; omega) (cs3 (by simp [Con.ok, evT]; omega) (cs3 (by simp [Con.ok, evT]; omega) (cs3 (by simp [Con.ok, evT]; omega) no3)))))
  · exfalso; omega
  · exfalso; omega
  · exact go _ run6x12 (fun c => (cs3 (by simp [Con.ok, evT]; omega) (cs3 (by simp [Con.ok, evT]; omega) (cs3 (by simp [Con.ok, evT]; omega) no3))))
theorem case7 (s0 s1 s2 : ByteArray) (x0 y0 x1 y1 x2 y2 : Int) (hx0 : (-9223372036854775808 : Int) ≤ x0 ∧ x0 ≤ 9223372036854775807) (hy0 : (-9223372036854775808 : Int) ≤ y0 ∧ y0 ≤ 9223372036854775807) (hx1 : (-9223372036854775808 : Int) ≤ x1 ∧ x1 ≤ 9223372036854775807) (hy1 : (-9223372036854775808 : Int) ≤ y1 ∧ y1 ≤ 9223372036854775807) (hx2 : (-9223372036854775808 : Int) ≤ x2 ∧ x2 ≤ 9223372036854775807) (hy2 : (-9223372036854775808 : Int) ≤ y2 ∧ y2 ≤ 9223372036854775807) (w : World) :
    Calls Tryd.prog 3 #[.agg #[.string s0, .int .i64 x0, .int .i64 y0, .bool true], .agg #[.string s1, .int .i64 x1, .int .i64 y1, .bool true], .agg #[.string s2, .int .i64 x2, .int .i64 y2, .bool true]] w fun e w' => e = .returned (.bool true) ∧ Grown w w' := by
  have h1 : boxAll [x0, y0, x1, y1, x2, y2] [((-9223372036854775808), 9223372036854775807), ((-9223372036854775808), 9223372036854775807), ((-9223372036854775808), 9223372036854775807), ((-9223372036854775808), 9223372036854775807), ((-9223372036854775808), 9223372036854775807), ((-9223372036854775808), 9223372036854775807)] := by simp only [boxAll, and_true] <;> omega
  have ha : VRels noMap (absL (rhoT [s0.data.toList, s1.data.toList, s2.data.toList] [x0, y0, x1, y1, x2, y2]) [.agg [.sv 0, .int .i64 (.a 0 [(3, 1)]), .int .i64 (.a 0 [(4, 1)]), .bool true], .agg [.sv 1, .int .i64 (.a 0 [(5, 1)]), .int .i64 (.a 0 [(6, 1)]), .bool true], .agg [.sv 2, .int .i64 (.a 0 [(7, 1)]), .int .i64 (.a 0 [(8, 1)]), .bool true]]) [.agg #[.string s0, .int .i64 x0, .int .i64 y0, .bool true], .agg #[.string s1, .int .i64 x1, .int .i64 y1, .bool true], .agg #[.string s2, .int .i64 x2, .int .i64 y2, .bool true]] :=
    args_cons (rel_agg (args_cons (rel_str (svS_rhoT _ _ 0)) (args_cons (rel_int (by simp [KI.ev, evT, rhoT, svBase])) (args_cons (rel_int (by simp [KI.ev, evT, rhoT, svBase])) (args_cons rel_bool args_nil))))) (args_cons (rel_agg (args_cons (rel_str (svS_rhoT _ _ 1)) (args_cons (rel_int (by simp [KI.ev, evT, rhoT, svBase])) (args_cons (rel_int (by simp [KI.ev, evT, rhoT, svBase])) (args_cons rel_bool args_nil))))) (args_cons (rel_agg (args_cons (rel_str (svS_rhoT _ _ 2)) (args_cons (rel_int (by simp [KI.ev, evT, rhoT, svBase])) (args_cons (rel_int (by simp [KI.ev, evT, rhoT, svBase])) (args_cons rel_bool args_nil))))) args_nil))
  have go : ∀ cs : List Con, runK Tryd.prog (oneK1 5) 100000 3 [.agg [.sv 0, .int .i64 (.a 0 [(3, 1)]), .int .i64 (.a 0 [(4, 1)]), .bool true], .agg [.sv 1, .int .i64 (.a 0 [(5, 1)]), .int .i64 (.a 0 [(6, 1)]), .bool true], .agg [.sv 2, .int .i64 (.a 0 [(7, 1)]), .int .i64 (.a 0 [(8, 1)]), .bool true]] ⟨[(-1000003, 1000), (-1000003, 1000), (-1000003, 1000), ((-9223372036854775808), 9223372036854775807), ((-9223372036854775808), 9223372036854775807), ((-9223372036854775808), 9223372036854775807), ((-9223372036854775808), 9223372036854775807), ((-9223372036854775808), 9223372036854775807), ((-9223372036854775808), 9223372036854775807)], cs⟩ = true → (∀ c ∈ cs, Con.ok (rhoT [s0.data.toList, s1.data.toList, s2.data.toList] [x0, y0, x1, y1, x2, y2]) c) → Calls Tryd.prog 3 #[.agg #[.string s0, .int .i64 x0, .int .i64 y0, .bool true], .agg #[.string s1, .int .i64 x1, .int .i64 y1, .bool true], .agg #[.string s2, .int .i64 x2, .int .i64 y2, .bool true]] w fun e w' => e = .returned (.bool true) ∧ Grown w w' := fun cs h h2 =>
    fin (ss := [s0.data.toList, s1.data.toList, s2.data.toList]) (xs := [x0, y0, x1, y1, x2, y2]) (bs := [((-9223372036854775808), 9223372036854775807), ((-9223372036854775808), 9223372036854775807), ((-9223372036854775808), 9223372036854775807), ((-9223372036854775808), 9223372036854775807), ((-9223372036854775808), 9223372036854775807), ((-9223372036854775808), 9223372036854775807)]) h (by simp [svBase]) (by simp) h1 h2 rfl ha w
  clear ha h1
  generalize rhoT [s0.data.toList, s1.data.toList, s2.data.toList] [x0, y0, x1, y1, x2, y2] = ρ at go
  rcases Int.lt_trichotomy (ρ 0) (ρ 1) with c1 | c1 | c1 <;> rcases Int.lt_trichotomy (ρ 1) (ρ 2) with c2 | c2 | c2 <;> rcases Int.lt_trichotomy (ρ 0) (ρ 2) with c3 | c3 | c3
  · exact go _ run7x0 (fun c => (cs3 (by simp [Con.ok, evT]; omega) (cs3 (by simp [Con.ok, evT]; omega) (cs3 (by simp [Con.ok, evT]; omega) no3))))
  · exfalso; omega
  · exfalso; omega
  · exact go _ run7x1 (fun c => (cs3 (by simp [Con.ok, evT]; omega) (cs3 (by simp [Con.ok, evT]; omega) (cs3 (by simp [Con.ok, evT]; omega) (cs3 (by simp [Con.ok, evT]; omega) no3)))))
  · exfalso; omega
  · exfalso; omega
  · exact go _ run7x2 (fun c => (cs3 (by simp [Con.ok, evT]; omega) (cs3 (by simp [Con.ok, evT]; omega) (cs3 (by simp [Con.ok, evT]; omega) no3))))
  · exact go _ run7x3 (fun c => (cs3 (by simp [Con.ok, evT]; omega) (cs3 (by simp [Con.ok, evT]; omega) (cs3 (by simp [Con.ok, evT]; omega) (cs3 (by simp [Con.ok, evT]; omega) no3)))))
  · exact go _ run7x4 (fun c => (cs3 (by simp [Con.ok, evT]; omega) (cs3 (by simp [Con.ok, evT]; omega) (cs3 (by simp [Con.ok, evT]; omega) no3))))
  · exact go _ run7x5 (fun c => (cs3 (by simp [Con.ok, evT]; omega) (cs3 (by simp [Con.ok, evT]; omega) (cs3 (by simp [Con.ok, evT]; omega) (cs3 (by simp [Con.ok, evT]; omega) no3)))))
  · exfalso; omega
  · exfalso; omega
  · exfalso; omega
  · exact go _ run7x6 (fun c => (cs3 (by simp [Con.ok, evT]; omega) (cs3 (by simp [Con.ok, evT]; omega) (cs3 (by simp [Con.ok, evT]; omega) (cs3 (by simp [Con.ok, evT]; omega) (cs3 (by simp [Con.ok, evT]; omega) (cs3 (by simp [Con.ok, evT]; omega) no3)))))))
  · exfalso; omega
  · exfalso; omega
  · exfalso; omega
  · exact go _ run7x7 (fun c => (cs3 (by simp [Con.ok, evT]; omega) (cs3 (by simp [Con.ok, evT]; omega) (cs3 (by simp [Con.ok, evT]; omega) (cs3 (by simp [Con.ok, evT]; omega) no3)))))
  · exact go _ run7x8 (fun c => (cs3 (by simp [Con.ok, evT]; omega) (cs3 (by simp [Con.ok, evT]; omega) (cs3 (by simp [Con.ok, evT]; omega) no3))))
  · exact go _ run7x9 (fun c => (cs3 (by simp [Con.ok, evT]; omega) (cs3 (by simp [Con.ok, evT]; omega) (cs3 (by simp [Con.ok, evT]; omega) (cs3 (by simp [Con.ok, evT]; omega) no3)))))
  · exact go _ run7x10 (fun c => (cs3 (by simp [Con.ok, evT]; omega) (cs3 (by simp [Con.ok, evT]; omega) (cs3 (by simp [Con.ok, evT]; omega) no3))))
  · exfalso; omega
  · exfalso; omega
  · exact go _ run7x11 (fun c => (cs3 (by simp [Con.ok, evT]; omega) (cs3 (by simp [Con.ok, evT]; omega) (cs3 (by simp [Con.ok, evT]; omega) (cs3 (by simp [Con.ok, evT]; omega) no3)))))
  · exfalso; omega
  · exfalso; omega
  · exact go _ run7x12 (fun c => (cs3 (by simp [Con.ok, evT]; omega) (cs3 (by simp [Con.ok, evT]; omega) (cs3 (by simp [Con.ok, evT]; omega) no3))))
theorem walk (s0 s1 s2 : ByteArray) (x0 y0 x1 y1 x2 y2 : Int) (m0 m1 m2 : Bool) (hx0 : (-9223372036854775808 : Int) ≤ x0 ∧ x0 ≤ 9223372036854775807) (hy0 : (-9223372036854775808 : Int) ≤ y0 ∧ y0 ≤ 9223372036854775807) (hx1 : (-9223372036854775808 : Int) ≤ x1 ∧ x1 ≤ 9223372036854775807) (hy1 : (-9223372036854775808 : Int) ≤ y1 ∧ y1 ≤ 9223372036854775807) (hx2 : (-9223372036854775808 : Int) ≤ x2 ∧ x2 ≤ 9223372036854775807) (hy2 : (-9223372036854775808 : Int) ≤ y2 ∧ y2 ≤ 9223372036854775807) (w : World) :
    Calls Tryd.prog 3 #[.agg #[.string s0, .int .i64 x0, .int .i64 y0, .bool m0], .agg #[.string s1, .int .i64 x1, .int .i64 y1, .bool m1], .agg #[.string s2, .int .i64 x2, .int .i64 y2, .bool m2]] w fun e w' => e = .returned (.bool true) ∧ Grown w w' := by
  cases m0 <;> cases m1 <;> cases m2
  · exact case0 s0 s1 s2 x0 y0 x1 y1 x2 y2 hx0 hy0 hx1 hy1 hx2 hy2 w
  · exact case1 s0 s1 s2 x0 y0 x1 y1 x2 y2 hx0 hy0 hx1 hy1 hx2 hy2 w
  · exact case2 s0 s1 s2 x0 y0 x1 y1 x2 y2 hx0 hy0 hx1 hy1 hx2 hy2 w
  · exact case3 s0 s1 s2 x0 y0 x1 y1 x2 y2 hx0 hy0 hx1 hy1 hx2 hy2 w
  · exact case4 s0 s1 s2 x0 y0 x1 y1 x2 y2 hx0 hy0 hx1 hy1 hx2 hy2 w
  · exact case5 s0 s1 s2 x0 y0 x1 y1 x2 y2 hx0 hy0 hx1 hy1 hx2 hy2 w
  · exact case6 s0 s1 s2 x0 y0 x1 y1 x2 y2 hx0 hy0 hx1 hy1 hx2 hy2 w
  · exact case7 s0 s1 s2 x0 y0 x1 y1 x2 y2 hx0 hy0 hx1 hy1 hx2 hy2 w
end Go.Proofs.YtmknidbkhdnmlaaDoor.alarmOrder
