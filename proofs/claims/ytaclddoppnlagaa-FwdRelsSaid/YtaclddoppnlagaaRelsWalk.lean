/- FwdRels: its two loops find whether two numbers of the intervals have the relation, and whether two have it not; that is what is told. No condition. -/
import Derived.Test.YtaclddoppnlagaaRel
import Derived.WalkKit
import Derived.Deep.Cut
import Derived.Deep.CutRange
set_option linter.unusedVariables false
set_option linter.unusedSimpArgs false
namespace Go.Proofs.Ytaclddoppnlagaa.fr
open Go Go.RowKit
def relB (k a b : Int) : Bool := if k = 1 then a == b else if k = 2 then a != b else if k = 3 then decide (a < b) else if k = 4 then decide (a ≤ b) else if k = 5 then decide (b < a) else decide (b ≤ a)
theorem relOK {k : Int} (a b : Int) (w : World) (hk : 1 ≤ k ∧ k ≤ 6) : Calls Try.prog 4 #[.int .i64 k, .int .i64 a, .int .i64 b] w fun e w' => e = .returned (.bool (relB k a b)) ∧ w' = w := by
  rcases (show k = 1 ∨ k = 2 ∨ k = 3 ∨ k = 4 ∨ k = 5 ∨ k = 6 by omega) with rfl | rfl | rfl | rfl | rfl | rfl <;>
  · go_enter Try.func4, Try.ntmps4
    go_wp2
    go_ret
    exact ⟨rfl, rfl⟩
theorem tmod12 {a : Int} (h : -128 ≤ a ∧ a ≤ 127) : -11 ≤ a.tmod 12 ∧ a.tmod 12 ≤ 11 := by
  have h1 := Int.tmod_lt_of_pos a (show (0 : Int) < 12 by decide)
  have h2 := Int.lt_tmod_of_pos a (show (0 : Int) < 12 by decide)
  omega
def Ex (k : Int) (t : Bool) (xl V yl yh : Int) : Prop := ∃ v u, xl ≤ v ∧ v < V ∧ yl ≤ u ∧ u ≤ yh ∧ relB k v u = t
def ExW (k : Int) (t : Bool) (V yl W : Int) : Prop := ∃ u, yl ≤ u ∧ u < W ∧ relB k V u = t
theorem exW_nil {E : Prop} {k : Int} {t : Bool} {V yl : Int} : E ↔ E ∨ ExW k t V yl yl :=
  ⟨.inl, fun h => h.elim id fun ⟨u, h1, h2, _⟩ => by omega⟩
theorem exW_succ {k : Int} {t : Bool} {V yl U : Int} (hU : yl ≤ U) : ExW k t V yl (U + 1) ↔ ExW k t V yl U ∨ relB k V U = t := by
  constructor
  · rintro ⟨u, h1, h2, h3⟩
    by_cases h : u < U
    · exact .inl ⟨u, h1, h, h3⟩
    · obtain rfl : u = U := by omega
      exact .inr h3
  · rintro (⟨u, h1, h2, h3⟩ | h)
    · exact ⟨u, h1, by omega, h3⟩
    · exact ⟨U, hU, by omega, h⟩
theorem stepP {E : Prop} {k V yl U : Int} {P P2 : Bool} (hU : yl ≤ U) (h : P = true ↔ E ∨ ExW k true V yl U) (e : P2 = (P || relB k V U)) : P2 = true ↔ E ∨ ExW k true V yl (U + 1) := by
  subst e; rw [exW_succ hU, Bool.or_eq_true, h, or_assoc]
theorem stepQ {E : Prop} {k V yl U : Int} {Q Q2 : Bool} (hU : yl ≤ U) (h : Q = true ↔ E ∨ ExW k false V yl U) (e : Q2 = (Q || !relB k V U)) : Q2 = true ↔ E ∨ ExW k false V yl (U + 1) := by
  subst e; rw [exW_succ hU, Bool.or_eq_true, h, or_assoc, Bool.not_eq_true']
theorem ex_next {k : Int} {t : Bool} {xl V yl yh U : Int} (hV : xl ≤ V) (hU : yh < U ∧ (U ≤ yh + 1 ∨ U = yl)) : Ex k t xl V yl yh ∨ ExW k t V yl U ↔ Ex k t xl (V + 1) yl yh := by
  constructor
  · rintro (⟨v, u, h1, h2, h3⟩ | ⟨u, h1, h2, h3⟩)
    · exact ⟨v, u, h1, by omega, h3⟩
    · exact ⟨V, u, hV, by omega, h1, by omega, h3⟩
  · rintro ⟨v, u, h1, h2, h3, h4, h5⟩
    by_cases h : v < V
    · exact .inl ⟨v, u, h1, h, h3, h4, h5⟩
    · obtain rfl : v = V := by omega
      exact .inr ⟨u, h3, by omega, h5⟩
theorem ex_cons {k : Int} {t : Bool} {xl xh yl yh : Int} (v u : Int) (h : xl ≤ v ∧ v ≤ xh ∧ yl ≤ u ∧ u ≤ yh) (e : relB k v u = t) : Ex k t xl (xh + 1) yl yh := ⟨v, u, h.1, by omega, h.2.2.1, h.2.2.2, e⟩
theorem law {k xl xh yl yh : Int} (hk : 1 ≤ k ∧ k ≤ 6) (hx : xl ≤ xh) (hy : yl ≤ yh) : (yesB k xl xh yl yh = true ↔ Ex k true xl (xh + 1) yl yh) ∧ (noB k xl xh yl yh = true ↔ Ex k false xl (xh + 1) yl yh) := by
  have eq : (∃ v u, xl ≤ v ∧ v < xh + 1 ∧ yl ≤ u ∧ u ≤ yh ∧ v = u) ↔ yl ≤ xh ∧ xl ≤ yh :=
    ⟨fun ⟨v, u, h⟩ => by omega, fun h => ⟨max xl yl, max xl yl, by omega⟩⟩
  have ne : (∃ v u, xl ≤ v ∧ v < xh + 1 ∧ yl ≤ u ∧ u ≤ yh ∧ ¬ v = u) ↔ ¬ (xl = xh ∧ yl = yh ∧ xl = yl) := by
    refine ⟨fun ⟨v, u, h⟩ => by omega, fun h => ?_⟩
    by_cases h1 : xl = yl
    · by_cases h2 : xl = xh
      · exact ⟨xl, yh, by omega⟩
      · exact ⟨xh, yl, by omega⟩
    · exact ⟨xl, yl, by omega⟩
  have lt : (∃ v u, xl ≤ v ∧ v < xh + 1 ∧ yl ≤ u ∧ u ≤ yh ∧ v < u) ↔ xl < yh := ⟨fun ⟨v, u, h⟩ => by omega, fun h => ⟨xl, yh, by omega⟩⟩
  have le : (∃ v u, xl ≤ v ∧ v < xh + 1 ∧ yl ≤ u ∧ u ≤ yh ∧ v ≤ u) ↔ xl ≤ yh := ⟨fun ⟨v, u, h⟩ => by omega, fun h => ⟨xl, yh, by omega⟩⟩
  have gt : (∃ v u, xl ≤ v ∧ v < xh + 1 ∧ yl ≤ u ∧ u ≤ yh ∧ u < v) ↔ yl < xh := ⟨fun ⟨v, u, h⟩ => by omega, fun h => ⟨xh, yl, by omega⟩⟩
  have ge : (∃ v u, xl ≤ v ∧ v < xh + 1 ∧ yl ≤ u ∧ u ≤ yh ∧ u ≤ v) ↔ yl ≤ xh := ⟨fun ⟨v, u, h⟩ => by omega, fun h => ⟨xh, yl, by omega⟩⟩
  have eY : ∀ x : Bool, (if xl ≤ xh ∧ yl ≤ yh then x else false) = x := fun x => if_pos ⟨hx, hy⟩
  unfold Ex yesB noB
  rw [eY, eY]
  rcases (show k = 1 ∨ k = 2 ∨ k = 3 ∨ k = 4 ∨ k = 5 ∨ k = 6 by omega) with rfl | rfl | rfl | rfl | rfl | rfl
  · simp only [relB, if_true, beq_iff_eq, beq_eq_false_iff_ne, ne_eq, decide_eq_true_eq, Bool.not_eq_true', decide_eq_false_iff_not]; exact ⟨eq.symm, ne.symm⟩
  · simp only [relB, if_true, bne_iff_ne, bne_eq_false_iff_eq, ne_eq, decide_eq_true_eq, Bool.not_eq_true', decide_eq_false_iff_not, show ((2 : Int) = 1) = False by decide, if_false]; exact ⟨ne.symm, eq.symm⟩
  all_goals simp only [relB, if_true, decide_eq_true_eq, decide_eq_false_iff_not, Int.not_lt, Int.not_le, show ((3 : Int) = 1) = False by decide, show ((3 : Int) = 2) = False by decide, show ((4 : Int) = 1) = False by decide, show ((4 : Int) = 2) = False by decide, show ((4 : Int) = 3) = False by decide, show ((5 : Int) = 1) = False by decide, show ((5 : Int) = 2) = False by decide, show ((5 : Int) = 3) = False by decide, show ((5 : Int) = 4) = False by decide, show ((6 : Int) = 1) = False by decide, show ((6 : Int) = 2) = False by decide, show ((6 : Int) = 3) = False by decide, show ((6 : Int) = 4) = False by decide, show ((6 : Int) = 5) = False by decide, if_false]
  · exact ⟨lt.symm, ge.symm⟩
  · exact ⟨le.symm, gt.symm⟩
  · exact ⟨gt.symm, le.symm⟩
  · exact ⟨ge.symm, lt.symm⟩
theorem ex_none {k : Int} {t : Bool} {xl V yl yh : Int} (h : V = xl ∨ yh < yl) : ¬ Ex k t xl V yl yh := fun ⟨v, u, h1, h2, h3, h4, _⟩ => by omega
theorem yes_iff {k xl xh yl yh V : Int} (hk : 1 ≤ k ∧ k ≤ 6) (hV : xl ≤ V) (h2 : V ≤ xh + 1 ∨ V = xl) (h3 : xh < V) : yesB k xl xh yl yh = true ↔ Ex k true xl V yl yh := by
  by_cases hx : xl ≤ xh ∧ yl ≤ yh
  · obtain rfl : V = xh + 1 := by omega
    exact (law hk hx.1 hx.2).1
  · have e : yesB k xl xh yl yh = false := if_neg hx
    rw [e]; exact ⟨fun h => (by cases h), fun h => absurd h (ex_none (by omega))⟩
theorem no_iff {k xl xh yl yh V : Int} (hk : 1 ≤ k ∧ k ≤ 6) (hV : xl ≤ V) (h2 : V ≤ xh + 1 ∨ V = xl) (h3 : xh < V) : noB k xl xh yl yh = true ↔ Ex k false xl V yl yh := by
  by_cases hx : xl ≤ xh ∧ yl ≤ yh
  · obtain rfl : V = xh + 1 := by omega
    exact (law hk hx.1 hx.2).2
  · have e : noB k xl xh yl yh = false := if_neg hx
    rw [e]; exact ⟨fun h => (by cases h), fun h => absurd h (ex_none (by omega))⟩
theorem grown_trans {a b c : World} (h : Grown a b) (k : Grown b c) : Grown a c := ⟨World.keptBut_trans h.1 k.1, fun x => (k.2.1 x).trans (h.2.1 x), Nat.le_trans h.2.2 k.2.2⟩
set_option maxRecDepth 100000 in
set_option maxHeartbeats 4000000 in
theorem walk (rel a b c d : Int) (w : World) (hr : 0 ≤ rel ∧ rel ≤ 255) (ha : -128 ≤ a ∧ a ≤ 127) (hb : -128 ≤ b ∧ b ≤ 127) (hc : -128 ≤ c ∧ c ≤ 127) (hd : -128 ≤ d ∧ d ≤ 127) :
    Calls Try.prog 3 #[.int .u8 rel, .int .i8 a, .int .i8 b, .int .i8 c, .int .i8 d] w fun e w' => e = .returned (.bool true) ∧ Grown w w' := by
  have ta := tmod12 ha
  have tb := tmod12 hb
  have tc := tmod12 hc
  have td := tmod12 hd
  go_enter Try.func3, Try.ntmps3
  go_upto_region 2 with fail
  go_cut [11, 12] from 16 (fun k x wc => k = .int .i64 (1 + rel % 6) ∧ x = .pointer (some ⟨w.heap.size, 0, none⟩) ∧ ∃ xl xh, (-11 ≤ xl ∧ xl ≤ 11 ∧ -11 ≤ xh ∧ xh ≤ 11) ∧ wc = w.alloc (.cells #[.int .i64 xl, .int .i64 xh] 24))
  case first =>
    go_wp2
    all_goals go_meet
    all_goals exact ⟨rfl, rfl, _, _, ⟨by omega, by omega, by omega, by omega⟩, rfl⟩
  case rest =>
    obtain ⟨rfl, rfl, xl, xh, hx, rfl⟩ := hcut
    go_upto_region 3 with fail
    go_cut [11, 12, 13] from 16 (fun k x y wc => k = .int .i64 (1 + rel % 6) ∧ x = .pointer (some ⟨w.heap.size, 0, none⟩) ∧ y = .pointer (some ⟨w.heap.size + 1, 0, none⟩) ∧ ∃ yl yh, (-11 ≤ yl ∧ yl ≤ 11 ∧ -11 ≤ yh ∧ yh ≤ 11) ∧ wc = (w.alloc (.cells #[.int .i64 xl, .int .i64 xh] 24)).alloc (.cells #[.int .i64 yl, .int .i64 yh] 24))
    case first =>
      go_wp2
      all_goals go_meet
      all_goals exact ⟨rfl, rfl, rfl, _, _, ⟨by omega, by omega, by omega, by omega⟩, rfl⟩
    case rest =>
      obtain ⟨rfl, rfl, rfl, yl, yh, hy, rfl⟩ := hcut
      generalize hk : 1 + rel % 6 = k
      have hk' : 1 ≤ k ∧ k ≤ 6 := by omega
      go_wp2
      go_loop [14, 15, 16] (fun p q v => ∃ (P Q : Bool) (V : Int), p = .bool P ∧ q = .bool Q ∧ v = .int .i64 V ∧ xl ≤ V ∧ (V ≤ xh + 1 ∨ V = xl) ∧ (P = true ↔ Ex k true xl V yl yh) ∧ (Q = true ↔ Ex k false xl V yl yh)) (fun _ _ v => (xh + 1 - intOf v).toNat)
      case atStart =>
        refine ⟨false, false, xl, rfl, rfl, rfl, Int.le_refl _, .inr rfl, ⟨fun h => (by cases h), ?_⟩, ⟨fun h => (by cases h), ?_⟩⟩
        · rintro ⟨v, u, h1, h2, _⟩; omega
        · rintro ⟨v, u, h1, h2, _⟩; omega
      case round =>
        obtain ⟨P, Q, V, rfl, rfl, rfl, hV, hV2, hP, hQ⟩ := hrel
        go_wp2_with fail
        · have hle : V ≤ xh := by assumption
          go_loop [14, 15, 17] (fun p q u => ∃ (P' Q' : Bool) (U : Int), p = .bool P' ∧ q = .bool Q' ∧ u = .int .i64 U ∧ yl ≤ U ∧ (U ≤ yh + 1 ∨ U = yl) ∧ (P' = true ↔ Ex k true xl V yl yh ∨ ExW k true V yl U) ∧ (Q' = true ↔ Ex k false xl V yl yh ∨ ExW k false V yl U)) (fun _ _ u => (yh + 1 - intOf u).toNat)
          case atStart => exact ⟨P, Q, yl, rfl, rfl, rfl, Int.le_refl _, .inr rfl, hP.trans exW_nil, hQ.trans exW_nil⟩
          case round =>
            obtain ⟨P', Q', U, rfl, rfl, rfl, hU, hU2, hP', hQ'⟩ := hrel
            go_wp2_with (go_at_call 4; refine (relOK _ _ _ hk').mono ?_; rintro e w' ⟨rfl, rfl⟩)
            · exact ⟨⟨true, true, U + 1, rfl, rfl, rfl, by omega, by omega, stepP hU hP' (by simp [*]), stepQ hU hQ' (by simp [*])⟩, by simp only [intOf]; omega⟩
            · exact ⟨⟨true, _, U + 1, rfl, rfl, rfl, by omega, by omega, stepP hU hP' (by simp [*]), stepQ hU hQ' (by simp [*])⟩, by simp only [intOf]; omega⟩
            · exact ⟨⟨_, true, U + 1, rfl, rfl, rfl, by omega, by omega, stepP hU hP' (by simp [*]), stepQ hU hQ' (by simp [*])⟩, by simp only [intOf]; omega⟩
            · exact ⟨⟨_, _, U + 1, rfl, rfl, rfl, by omega, by omega, stepP hU hP' (by simp [*]), stepQ hU hQ' (by simp [*])⟩, by simp only [intOf]; omega⟩
            · have hgt : yh < U := by assumption
              exact ⟨⟨P', Q', V + 1, rfl, rfl, rfl, by omega, by omega, hP'.trans (ex_next hV (by omega)), hQ'.trans (ex_next hV (by omega))⟩, by simp only [intOf]; omega⟩
        · have hgt : xh < V := by assumption
          obtain rfl : yesB k xl xh yl yh = P := Bool.eq_iff_iff.2 ((yes_iff hk' hV hV2 hgt).trans hP.symm)
          obtain rfl : noB k xl xh yl yh = Q := Bool.eq_iff_iff.2 ((no_iff hk' hV hV2 hgt).trans hQ.symm)
          go_wp2_with (first
            | (go_at_call 5; refine (h5 k xl xh yl yh _ hk' hx hy).mono ?_; rintro e w' ⟨rfl, hg5⟩)
            | (go_at_call 6; refine (h6 _).mono ?_; rintro e w'' ⟨rfl, hg6⟩))
          go_ret
          exact ⟨rfl, grown_trans ((Grown.alloc (Grown.alloc (Grown.refl w) _ _) _ _)) (grown_trans hg5 hg6)⟩
end Go.Proofs.Ytaclddoppnlagaa.fr
