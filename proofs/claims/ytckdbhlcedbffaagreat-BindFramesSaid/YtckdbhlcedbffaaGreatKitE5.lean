/- The evaluator that the proofs of this claim run, part 5 of 5: a plain evaluator of loaded code, proved sound against the model, and one that runs in the kernel, proved against the plain one. No condition. -/
import Derived.Test.YtckdbhlcedbffaaGreatKitE4
import Derived.WalkKit
import Derived.Orders
import Derived.RowKit3
import Derived.Laws.Sem
import Derived.RangeFuncRecord
import Derived.TacticsIn
import Derived.OrdersIn
import Derived.LoopNIn
import Derived.Scope
import Derived.LoopN
import Derived.RangeFuncSeq
import Derived.Lib.Bytealg
set_option linter.unusedVariables false
set_option linter.unusedSimpArgs false
/- The kernel's evaluator against the plain one: a whole region that draws. -/
namespace Go.Sx
noncomputable section

theorem chainD_run {rd : Nat} (i : Nat) (rec : RecF rd) (A : Act rd) (p : PutF rd) (next : DOpsF rd) : ∃ F, chainD i rec A p next = .mk F ∧ ∀ kc base cx rg M rs K kp, F kc base cx rg M rs K kp = true →
    A.run kc (some (base + i)) cx rg M (fun cx v M' => rec rg M M' rs fun rs => p rg v fun rg => next kc base cx rg M' rs K kp) (fun cx v M' => kp i cx rg M M' v) = true := by
  cases A <;> exact ⟨_, rfl, fun kc base cx rg M rs K kp h => h⟩
structure RIK (ops : Array Oper) (need : Bool) (i : Nat) (rs : Recs) (tr : Nat → Rec) : Prop where
  free : ∀ j, i ≤ j → tr j = .no
  kind : ∀ j o, ops[j]? = some o → KindOK o (tr j)
  same : need = true → ∀ j, recAt rs j = tr j
theorem RIK.step {ops : Array Oper} {need : Bool} {i : Nat} {rs rs' : Recs} {tr : Nat → Rec} (h : RIK ops need i rs tr) {o : Oper} (ho : ops[i]? = some o) {r : Rec} (hk : KindOK o r) (hrs : need = true → rs' = (i, r) :: rs ∨ (rs' = rs ∧ r = .no)) : RIK ops need (i + 1) rs' (upd tr i r) := by
  refine { free := fun j hj => ?_, kind := fun j o' ho' => ?_, same := fun hn j => ?_ }
  · simp only [upd, if_neg (by omega : ¬ j = i)]; exact h.free j (by omega)
  · simp only [upd]
    by_cases e : j = i
    · subst e; rw [if_pos rfl]; rw [ho] at ho'; cases ho'; exact hk
    · rw [if_neg e]; exact h.kind j o' ho'
  · simp only [upd]
    rcases hrs hn with e | ⟨e, er⟩
    · subst e
      show bcond (Nat.beq i j) r (recAt rs j) = _
      by_cases e : j = i
      · subst e; rw [beq_iff'.2 rfl, if_pos rfl]; rfl
      · rw [beq_false_iff.2 (fun q => e q.symm), if_neg e]; exact h.same hn j
    · subst e er
      by_cases e : j = i
      · subst e; rw [if_pos rfl, h.same hn j, h.free j (Nat.le_refl _)]
      · rw [if_neg e]; exact h.same hn j
theorem RIK.skip {ops : Array Oper} {need : Bool} {i : Nat} {rs : Recs} {tr : Nat → Rec} (h : RIK ops need i rs tr) : RIK ops need (i + 1) rs tr :=
  { free := fun j hj => h.free j (by omega), kind := h.kind, same := h.same }

section
variable {P : Program} {S : FuncId → List V → Option V} {ρ : Nat → Int} {rd nt : Nat}
theorem runI_le {n m : Nat} (h : n ≤ m) {ops : Array Oper} {base : Nat} {l : List Nat} {s r : DS} (e : runI P (runF P S (execD P S n)) ops base l s = some r) : runI P (runF P S (execD P S m)) ops base l s = some r := runI_mono (runF_le h) l s r e

/-- How a region ends: run through, or something went wrong. -/
def OutD (P : Program) (S : FuncId → List V → Option V) (ρ : Nat → Int) (rd nt : Nat) (ops : Array Oper) (need : Bool) (base i len : Nat) (st : St) (tr : Nat → Rec) (K : Cx → Regs rd → KM → Recs → Bool) (kp : PanF rd) : Prop :=
  (∃ n st' tr', runI P (runF P S (execD P S n)) ops base (List.range' i len) (st, tr) = some (st', tr') ∧ ∃ cx' rg' M' rs', Den ρ rd cx' rg' M' st' ∧ st'.nt = nt ∧ RIK ops need (i + len) rs' tr' ∧ K cx' rg' M' rs' = true) ∨
  (∃ n j st' tr' o v m1, runI P (runF P S (execD P S n)) ops base (List.range' i j) (st, tr) = some (st', tr') ∧ ops[i + j]? = some o ∧ wantedD st'.regs ops o = some true ∧ opD P (runF P S (execD P S n)) st' (some (base + (i + j))) o = some (.panic v, m1) ∧
    ∃ cx' rg' M' M1 kv, Den ρ rd cx' rg' M' st' ∧ st'.nt = nt ∧ abs ρ kv = v ∧ DenM ρ M1 m1 ∧ kp (i + j) cx' rg' M' M1 kv = true ∧ j < len)

theorem cOpsD_sound (hn : nt ≤ 8 ^ rd) {kc : KCall} (hkc : KcOK P S ρ kc) (ops : Array Oper) (need : Bool) : ∀ (l : List Oper) (i : Nat), ops.toList.drop i = l → ∃ f, cOpsD P rd nt ops need l i = .mk f ∧
    ∀ base cx rg M (st : St) tr rs K kp, Den ρ rd cx rg M st → st.nt = nt → RIK ops need i rs tr → f kc base cx rg M rs K kp = true → OutD P S ρ rd nt ops need base i l.length st tr K kp
  | [], i, _ => ⟨_, rfl, fun base cx rg M st tr rs K kp hd hnt hr h => .inl ⟨0, st, tr, rfl, cx, rg, M, rs, hd, hnt, hr, h⟩⟩
  | o :: l, i, hdrop => by
    have hi : ops[i]? = some o := by
      have : (ops.toList.drop i)[0]? = some o := by rw [hdrop]; rfl
      rw [List.getElem?_drop] at this
      simpa using this
    have hdrop' : ops.toList.drop (i + 1) = l := by
      have : (ops.toList.drop i).drop 1 = l := by rw [hdrop]; rfl
      rwa [List.drop_drop] at this
    obtain ⟨next, e1, ih⟩ := cOpsD_sound hn hkc ops need l (i + 1) hdrop'
    obtain ⟨p, e2, hp⟩ := cDst_sound hn o.dst
    have e3 : cOpsD P rd nt ops need (o :: l) i = cStepD P rd nt ops need i o next := by
      show (DOpsA.rec (fun next => cStepD P rd nt ops need i o next) (cOpsD P rd nt ops need l (i + 1)) : DOpsA rd) = _
      rw [e1]
    rw [e3]
    unfold cStepD
    rw [e2]
    simp only
    have hlen : (o :: l).length = l.length + 1 := rfl
    have hrange : List.range' i (o :: l).length = i :: List.range' (i + 1) l.length := rfl
    -- the record
    have hrec : ∀ (cx : Cx) (rg : Regs rd) (M M' : KM) (st : St) (m' : Mem) (rs : Recs) (k : Recs → Bool), Den ρ rd cx rg M st → DenM ρ M' m' → (bcond need (cRec rd i o) fun _ _ _ rs k => k rs) rg M M' rs k = true →
        ∃ rs', k rs' = true ∧ (need = true → rs' = (i, recD P st o (newLog m'.g.log st.m.g.log)) :: rs ∨ (rs' = rs ∧ recD P st o (newLog m'.g.log st.m.g.log) = .no)) := by
      intro cx rg M M' st m' rs k hd hd' h
      cases need with
      | false => exact ⟨rs, h, fun e => by cases e⟩
      | true =>
        obtain ⟨rs', h1, h2⟩ := cRec_sound (P := P) hd hd' h
        exact ⟨rs', h1, fun _ => h2⟩
    have run : ∀ (F : DOpsF rd), (∀ kc base cx rg M rs K kp, F kc base cx rg M rs K kp = true → (cOp P rd o).run kc (some (base + i)) cx rg M (fun cx v M' => (bcond need (cRec rd i o) fun _ _ _ rs k => k rs) rg M M' rs fun rs => p rg v fun rg => next kc base cx rg M' rs K kp) (fun cx v M' => kp i cx rg M M' v) = true) →
        ∀ base cx rg M (st : St) tr rs K kp, Den ρ rd cx rg M st → st.nt = nt → RIK ops need i rs tr → wantedD st.regs ops o = some true → F kc base cx rg M rs K kp = true →
        OutD P S ρ rd nt ops need base i (o :: l).length st tr K kp := by
      intro F hF base cx rg M st tr rs K kp hd hnt hri hw h
      obtain ⟨n, r, m', cx', M', e, s', d', out⟩ := cOp_sound hd hkc (hF _ _ _ _ _ _ _ _ h)
      have go : ∀ (v : V) (kv : KV), abs ρ kv = v → ((bcond need (cRec rd i o) fun _ _ _ rs k => k rs) rg M M' rs fun rs => p rg kv fun rg => next kc base cx' rg M' rs K kp) = true →
          (∀ n1, n ≤ n1 → ∀ st1, putD { st with m := m' } o.dst v = some st1 → stepI P (runF P S (execD P S n1)) ops base i (st, tr) = some (st1, upd tr i (recD P st o (newLog m'.g.log st.m.g.log)))) →
          OutD P S ρ rd nt ops need base i (o :: l).length st tr K kp := by
        intro v kv hv hk hstep
        obtain ⟨rs', hk, hrs⟩ := hrec cx rg M M' st m' rs _ hd d' hk
        obtain ⟨rg', hk', hput⟩ := hp ρ rg kv _ hk
        obtain ⟨st1, q1, q2, q3, q4⟩ := hput { st with m := m' } hnt hd.regs
        rw [hv] at q1
        have hd1 : Den ρ rd cx' rg' M' st1 := ⟨s', q4, by rw [q3]; exact d'⟩
        rcases ih base cx' rg' M' st1 _ rs' K kp hd1 q2 (hri.step hi recD_kind hrs) hk' with ⟨n2, st', tr', e2, cx2, rg2, M2, rs2, b1, b2, b3, b4⟩ | ⟨n2, j, stj, trj, oj, v2, m2, e2, b1, b2, b3, cx2, rg2, M2, M3, kv2, b4, b5, b6, b7, b8, b9⟩
        · refine .inl ⟨max n n2, st', tr', ?_, cx2, rg2, M2, rs2, b1, b2, by rw [hlen, Nat.add_comm l.length 1, ← Nat.add_assoc]; exact b3, b4⟩
          rw [hrange]
          simp only [runI, hstep (max n n2) (Nat.le_max_left _ _) st1 q1]
          exact runI_le (Nat.le_max_right _ _) e2
        · refine .inr ⟨max n n2, j + 1, stj, trj, oj, v2, m2, ?_, by rw [← b1]; congr 1; omega, b2, opD_le (Nat.le_max_right _ _) (by rw [show base + (i + (j + 1)) = base + (i + 1 + j) by omega]; exact b3), cx2, rg2, M2, M3, kv2, b4, b5, b6, b7, by rw [show i + (j + 1) = i + 1 + j by omega]; exact b8, by rw [hlen]; omega⟩
          rw [show List.range' i (j + 1) = i :: List.range' (i + 1) j from rfl]
          simp only [runI, hstep (max n n2) (Nat.le_max_left _ _) st1 q1]
          exact runI_le (Nat.le_max_right _ _) e2
      cases r with
      | val v =>
        obtain ⟨kv, hv, hk⟩ := out
        refine go v kv hv hk (fun n1 hn1 st1 hst => ?_)
        simp only [stepI, hi, hw, opD_le hn1 e, hst, Option.map_some]
      | skip =>
        obtain ⟨kv, hv, hk⟩ := out
        refine go undefV kv hv hk (fun n1 hn1 st1 hst => ?_)
        simp only [stepI, hi, hw, opD_le hn1 e, hst, Option.map_some]
      | panic v =>
        obtain ⟨kv, hv, hk⟩ := out
        exact .inr ⟨n, 0, st, tr, o, v, m', rfl, hi, hw, e, cx', rg, M, M', kv, ⟨s', hd.regs, hd.mem⟩, hnt, hv, d', hk, by rw [hlen]; omega⟩
    have skip : ∀ base cx rg M (st : St) tr rs K kp, Den ρ rd cx rg M st → st.nt = nt → RIK ops need i rs tr → wantedD st.regs ops o = some false → skipD p next kc base cx rg M rs K kp = true →
        OutD P S ρ rd nt ops need base i (o :: l).length st tr K kp := by
      intro base cx rg M st tr rs K kp hd hnt hri hw h
      obtain ⟨rg', hk', hput⟩ := hp ρ rg undefK _ h
      obtain ⟨st1, q1, q2, q3, q4⟩ := hput st hnt hd.regs
      rw [undefK_abs] at q1
      have hd1 : Den ρ rd cx rg' M st1 := ⟨hd.sat, q4, by rw [q3]; exact hd.mem⟩
      rcases ih base cx rg' M st1 tr rs K kp hd1 q2 hri.skip hk' with ⟨n2, st', tr', e2, cx2, rg2, M2, rs2, b1, b2, b3, b4⟩ | ⟨n2, j, stj, trj, oj, v2, m2, e2, b1, b2, b3, cx2, rg2, M2, M3, kv2, b4, b5, b6, b7, b8, b9⟩
      · refine .inl ⟨n2, st', tr', ?_, cx2, rg2, M2, rs2, b1, b2, by rw [hlen, Nat.add_comm l.length 1, ← Nat.add_assoc]; exact b3, b4⟩
        rw [hrange]
        simp only [runI, stepI, hi, hw, q1, Option.map_some]
        exact e2
      · refine .inr ⟨n2, j + 1, stj, trj, oj, v2, m2, ?_, by rw [← b1]; congr 1; omega, b2, by rw [show base + (i + (j + 1)) = base + (i + 1 + j) by omega]; exact b3, cx2, rg2, M2, M3, kv2, b4, b5, b6, b7, by rw [show i + (j + 1) = i + 1 + j by omega]; exact b8, by rw [hlen]; omega⟩
        rw [show List.range' i (j + 1) = i :: List.range' (i + 1) j from rfl]
        simp only [runI, stepI, hi, hw, q1, Option.map_some]
        exact e2
    cases hg : o.guard with
    | none =>
      simp only
      obtain ⟨F, e4, hF⟩ := chainD_run i (bcond need (cRec rd i o) fun _ _ _ rs k => k rs) (cOp P rd o) p next
      refine ⟨F, e4, fun base cx rg M st tr rs K kp hd hnt hri h => run F hF base cx rg M st tr rs K kp hd hnt hri ?_ h⟩
      unfold wantedD; rw [hg]
    | some g =>
      obtain ⟨j, want⟩ := g
      simp only
      cases ht : (ops[j]?).bind (·.dst) with
      | none =>
        simp only
        refine ⟨_, rfl, fun base cx rg M st tr rs K kp hd hnt hri h => skip base cx rg M st tr rs K kp hd hnt hri ?_ h⟩
        unfold wantedD; rw [hg]; simp only [ht]
      | some t =>
        simp only
        obtain ⟨g1, h1, e5, hv⟩ := cSrc_den rd (.tmp t)
        rw [e5]
        obtain ⟨F, e4, hF⟩ := chainD_run i (bcond need (cRec rd i o) fun _ _ _ rs k => k rs) (cOp P rd o) p next
        simp only [e4]
        cases want with
        | true =>
          refine ⟨_, rfl, fun base cx rg M st tr rs K kp hd hnt hri h => ?_⟩
          obtain ⟨v, _, lv, av⟩ := hv rg
          have ev : st.regs t = abs ρ v := (av ρ st.regs hd.regs).symm
          simp only [lv] at h
          have hw := wantedD_some hg ht ev
          rcases onFlag_true h with ⟨q, h⟩ | ⟨q, h⟩ | ⟨q, h⟩ <;> subst q
          · exact run F hF base cx rg M st tr rs K kp hd hnt hri (by rw [hw]; simp [abs, flagD]) h
          · exact skip base cx rg M st tr rs K kp hd hnt hri (by rw [hw]; simp [abs, flagD]) h
          · exact skip base cx rg M st tr rs K kp hd hnt hri (by rw [hw]; simp [abs, absL, flagD]) h
        | false =>
          refine ⟨_, rfl, fun base cx rg M st tr rs K kp hd hnt hri h => ?_⟩
          obtain ⟨v, _, lv, av⟩ := hv rg
          have ev : st.regs t = abs ρ v := (av ρ st.regs hd.regs).symm
          simp only [lv] at h
          have hw := wantedD_some hg ht ev
          rcases onFlag_true h with ⟨q, h⟩ | ⟨q, h⟩ | ⟨q, h⟩ <;> subst q
          · exact skip base cx rg M st tr rs K kp hd hnt hri (by rw [hw]; simp [abs, flagD]) h
          · exact run F hF base cx rg M st tr rs K kp hd hnt hri (by rw [hw]; simp [abs, flagD]) h
          · exact skip base cx rg M st tr rs K kp hd hnt hri (by rw [hw]; simp [abs, absL, flagD]) h

theorem cOpsDL_sound (hn : nt ≤ 8 ^ rd) {kc : KCall} (hkc : KcOK P S ρ kc) (ops : Array Oper) : ∀ (l : List Nat), ∃ f, cOpsDL P rd nt ops l = .mk f ∧
    ∀ base cx rg M (st : St) tr rs K, Den ρ rd cx rg M st → st.nt = nt → f kc base cx rg M rs K (fun _ _ _ _ _ _ => false) = true →
      ∃ n s', runI P (runF P S (execD P S n)) ops base l (st, tr) = some s' ∧ ∃ cx' rg' M' rs', Den ρ rd cx' rg' M' s'.1 ∧ K cx' rg' M' rs' = true
  | [] => ⟨_, rfl, fun base cx rg M st tr rs K hd hnt h => ⟨0, (st, tr), rfl, cx, rg, M, rs, hd, h⟩⟩
  | i :: l => by
    obtain ⟨next, e1, ih⟩ := cOpsDL_sound hn hkc ops l
    have e3 : cOpsDL P rd nt ops (i :: l) = match ops[i]? with
        | some o => cStepD P rd nt ops false i o next
        | none => .mk fun _ _ _ _ _ _ _ _ => false := by
      show (DOpsA.rec (fun next => match ops[i]? with
        | some o => cStepD P rd nt ops false i o next
        | none => .mk fun _ _ _ _ _ _ _ _ => false) (cOpsDL P rd nt ops l) : DOpsA rd) = _
      rw [e1]
    rw [e3]
    cases hi : ops[i]? with
    | none => exact ⟨_, rfl, fun base cx rg M st tr rs K hd hnt h => by cases h⟩
    | some o =>
      simp only
      obtain ⟨p, e2, hp⟩ := cDst_sound hn o.dst
      unfold cStepD
      rw [e2]
      simp only [bcond_false]
      have run : ∀ (F : DOpsF rd), (∀ kc base cx rg M rs K kp, F kc base cx rg M rs K kp = true → (cOp P rd o).run kc (some (base + i)) cx rg M (fun cx v M' => (fun (_ : Regs rd) (_ _ : KM) (rs : Recs) (k : Recs → Bool) => k rs) rg M M' rs fun rs => p rg v fun rg => next kc base cx rg M' rs K kp) (fun cx v M' => kp i cx rg M M' v) = true) →
          ∀ base cx rg M (st : St) tr rs K, Den ρ rd cx rg M st → st.nt = nt → wantedD st.regs ops o = some true → F kc base cx rg M rs K (fun _ _ _ _ _ _ => false) = true →
          ∃ n s', runI P (runF P S (execD P S n)) ops base (i :: l) (st, tr) = some s' ∧ ∃ cx' rg' M' rs', Den ρ rd cx' rg' M' s'.1 ∧ K cx' rg' M' rs' = true := by
        intro F hF base cx rg M st tr rs K hd hnt hw h
        obtain ⟨n, r, m', cx', M', e, s', d', out⟩ := cOp_sound hd hkc (hF _ _ _ _ _ _ _ _ h)
        have go : ∀ (v : V) (kv : KV) (tr1 : Nat → Rec), abs ρ kv = v → (p rg kv fun rg => next kc base cx' rg M' rs K (fun _ _ _ _ _ _ => false)) = true →
            (∀ n1, n ≤ n1 → ∀ st1, putD { st with m := m' } o.dst v = some st1 → stepI P (runF P S (execD P S n1)) ops base i (st, tr) = some (st1, tr1)) →
            ∃ n s', runI P (runF P S (execD P S n)) ops base (i :: l) (st, tr) = some s' ∧ ∃ cx' rg' M' rs', Den ρ rd cx' rg' M' s'.1 ∧ K cx' rg' M' rs' = true := by
          intro v kv tr1 hv hk hstep
          obtain ⟨rg', hk', hput⟩ := hp ρ rg kv _ hk
          obtain ⟨st1, q1, q2, q3, q4⟩ := hput { st with m := m' } hnt hd.regs
          rw [hv] at q1
          have hd1 : Den ρ rd cx' rg' M' st1 := ⟨s', q4, by rw [q3]; exact d'⟩
          obtain ⟨n2, s2, e2, rest⟩ := ih base cx' rg' M' st1 tr1 rs K hd1 q2 hk'
          refine ⟨max n n2, s2, ?_, rest⟩
          simp only [runI, hstep (max n n2) (Nat.le_max_left _ _) st1 q1]
          exact runI_le (Nat.le_max_right _ _) e2
        cases r with
        | val v =>
          obtain ⟨kv, hv, hk⟩ := out
          refine go v kv (upd tr i (recD P st o (newLog m'.g.log st.m.g.log))) hv hk (fun n1 hn1 st1 hst => ?_)
          simp only [stepI, hi, hw, opD_le hn1 e, hst, Option.map_some]
        | skip =>
          obtain ⟨kv, hv, hk⟩ := out
          refine go undefV kv (upd tr i (recD P st o (newLog m'.g.log st.m.g.log))) hv hk (fun n1 hn1 st1 hst => ?_)
          simp only [stepI, hi, hw, opD_le hn1 e, hst, Option.map_some]
        | panic v => obtain ⟨kv, hv, hk⟩ := out; cases hk
      have skip : ∀ base cx rg M (st : St) tr rs K, Den ρ rd cx rg M st → st.nt = nt → wantedD st.regs ops o = some false → skipD p next kc base cx rg M rs K (fun _ _ _ _ _ _ => false) = true →
          ∃ n s', runI P (runF P S (execD P S n)) ops base (i :: l) (st, tr) = some s' ∧ ∃ cx' rg' M' rs', Den ρ rd cx' rg' M' s'.1 ∧ K cx' rg' M' rs' = true := by
        intro base cx rg M st tr rs K hd hnt hw h
        obtain ⟨rg', hk', hput⟩ := hp ρ rg undefK _ h
        obtain ⟨st1, q1, q2, q3, q4⟩ := hput st hnt hd.regs
        rw [undefK_abs] at q1
        have hd1 : Den ρ rd cx rg' M st1 := ⟨hd.sat, q4, by rw [q3]; exact hd.mem⟩
        obtain ⟨n2, s2, e2, rest⟩ := ih base cx rg' M st1 tr rs K hd1 q2 hk'
        refine ⟨n2, s2, ?_, rest⟩
        simp only [runI, stepI, hi, hw, q1, Option.map_some]
        exact e2
      cases hg : o.guard with
      | none =>
        simp only
        obtain ⟨F, e4, hF⟩ := chainD_run i (fun _ _ _ rs k => k rs) (cOp P rd o) p next
        refine ⟨F, e4, fun base cx rg M st tr rs K hd hnt h => run F hF base cx rg M st tr rs K hd hnt ?_ h⟩
        unfold wantedD; rw [hg]
      | some g =>
        obtain ⟨j, want⟩ := g
        simp only
        cases ht : (ops[j]?).bind (·.dst) with
        | none =>
          simp only
          refine ⟨_, rfl, fun base cx rg M st tr rs K hd hnt h => skip base cx rg M st tr rs K hd hnt ?_ h⟩
          unfold wantedD; rw [hg]; simp only [ht]
        | some t =>
          simp only
          obtain ⟨g1, h1, e5, hv⟩ := cSrc_den rd (.tmp t)
          rw [e5]
          obtain ⟨F, e4, hF⟩ := chainD_run i (fun _ _ _ rs k => k rs) (cOp P rd o) p next
          simp only [e4]
          cases want with
          | true =>
            refine ⟨_, rfl, fun base cx rg M st tr rs K hd hnt h => ?_⟩
            obtain ⟨v, _, lv, av⟩ := hv rg
            have ev : st.regs t = abs ρ v := (av ρ st.regs hd.regs).symm
            simp only [lv] at h
            have hw := wantedD_some hg ht ev
            rcases onFlag_true h with ⟨q, h⟩ | ⟨q, h⟩ | ⟨q, h⟩ <;> subst q
            · exact run F hF base cx rg M st tr rs K hd hnt (by rw [hw]; simp [abs, flagD]) h
            · exact skip base cx rg M st tr rs K hd hnt (by rw [hw]; simp [abs, flagD]) h
            · exact skip base cx rg M st tr rs K hd hnt (by rw [hw]; simp [abs, absL, flagD]) h
          | false =>
            refine ⟨_, rfl, fun base cx rg M st tr rs K hd hnt h => ?_⟩
            obtain ⟨v, _, lv, av⟩ := hv rg
            have ev : st.regs t = abs ρ v := (av ρ st.regs hd.regs).symm
            simp only [lv] at h
            have hw := wantedD_some hg ht ev
            rcases onFlag_true h with ⟨q, h⟩ | ⟨q, h⟩ | ⟨q, h⟩ <;> subst q
            · exact skip base cx rg M st tr rs K hd hnt (by rw [hw]; simp [abs, flagD]) h
            · exact run F hF base cx rg M st tr rs K hd hnt (by rw [hw]; simp [abs, flagD]) h
            · exact skip base cx rg M st tr rs K hd hnt (by rw [hw]; simp [abs, absL, flagD]) h
theorem forgetK_sound (hn : nt ≤ 8 ^ rd) : ∀ (l : List Oper) (rg : Regs rd) (k : Regs rd → Bool) (st : St), st.nt = nt → RegsOK ρ rd rg st.regs → forgetK rd nt l rg k = true →
    ∃ rg', k rg' = true ∧ RegsOK ρ rd rg' (fun t => if l.any (fun o => o.dst == some t) then .none else st.regs t)
  | [], rg, k, st, hnt, hr, h => ⟨rg, h, by simpa using hr⟩
  | o :: l, rg, k, st, hnt, hr, h => by
    obtain ⟨p, e2, hp⟩ := cDst_sound hn o.dst
    have h : (Dst.rec (fun p => p rg .none fun rg => forgetK rd nt l rg k) (cDst rd nt o.dst) : Bool) = true := h
    rw [e2] at h
    obtain ⟨rg1, h1, hput⟩ := hp ρ rg .none _ h
    obtain ⟨st1, q1, q2, q3, q4⟩ := hput st hnt hr
    obtain ⟨rg2, h2, h3⟩ := forgetK_sound hn l rg1 k st1 q2 q4 h1
    refine ⟨rg2, h2, ?_⟩
    obtain ⟨_, e1⟩ := putD_eq q1
    have : (fun t => if (o :: l).any (fun o => o.dst == some t) then V.none else st.regs t) = fun t => if l.any (fun o => o.dst == some t) then V.none else st1.regs t := by
      funext t
      rw [e1]
      cases hd : o.dst with
      | none => simp [setT, hd]
      | some d =>
        by_cases ht : t = d
        · subst ht
          by_cases hl : l.any (fun o => o.dst == some t) = true
          · simp [hl]
          · simp [hd, hl, setT, upd, abs]
        · have hne : ¬ d = t := fun e => ht e.symm
          simp [hd, setT, upd, ht, hne]
    rw [this]; exact h3

/-! ### Pairs -/
theorem kindsAt_mem : ∀ (l : List Oper) (i j : Nat) (o : Oper), l[j]? = some o → kindN o ≠ 0 → (i + j, kindN o) ∈ kindsAt l i
  | [], i, j, o, h, _ => by simp at h
  | x :: l, i, 0, o, h, hk => by
    simp at h; subst h
    show _ ∈ bcond (Nat.beq (kindN x) 0) (kindsAt l (i + 1)) ((i, kindN x) :: kindsAt l (i + 1))
    rw [beq_false_iff.2 hk]
    exact List.mem_cons_self ..
  | x :: l, i, j + 1, o, h, hk => by
    have := kindsAt_mem l (i + 1) j o (by simpa using h) hk
    have e : i + (j + 1) = i + 1 + j := by omega
    rw [e]
    show _ ∈ bcond (Nat.beq (kindN x) 0) (kindsAt l (i + 1)) ((i, kindN x) :: kindsAt l (i + 1))
    cases Nat.beq (kindN x) 0 with
    | true => exact this
    | false => exact List.mem_cons_of_mem _ this
theorem pairsOk_mem : ∀ {l : List (Nat × Nat)} {r : Recs}, pairsOk l r = true → ∀ x ∈ l, recOk (recAt r x.1) (recAt r x.2) = true
  | [], r, _, x, hx => by cases hx
  | y :: l, r, h, x, hx => by
    have h' : bcond (recOk (recAt r y.1) (recAt r y.2)) (pairsOk l r) false = true := h
    obtain ⟨h1, h2⟩ := bcond_and h'
    rcases List.mem_cons.1 hx with e | e
    · subst e; exact h1
    · exact pairsOk_mem h2 x e
theorem pairsL_mem {ops : Array Oper} {i j : Nat} {x y : Oper} (hij : i < j) (hx : ops[i]? = some x) (hy : ops[j]? = some y) (hk : (kindN x = 1 ∧ kindN y = 2) ∨ (kindN x = 2 ∧ kindN y = 1)) (ho : ordered (masks ops.toList) i j = false) : (i, j) ∈ pairsL ops := by
  have mx := kindsAt_mem ops.toList 0 i x (by simpa using hx) (by omega)
  have my := kindsAt_mem ops.toList 0 j y (by simpa using hy) (by omega)
  rw [Nat.zero_add] at mx my
  unfold pairsL
  simp only
  have h1 : (kindsAt ops.toList 0).any (fun x => Nat.beq x.2 1) = true := by
    rw [List.any_eq_true]
    rcases hk with ⟨a, b⟩ | ⟨a, b⟩
    · exact ⟨_, mx, beq_iff'.2 a⟩
    · exact ⟨_, my, beq_iff'.2 b⟩
  have h2 : (kindsAt ops.toList 0).any (fun x => Nat.beq x.2 2) = true := by
    rw [List.any_eq_true]
    rcases hk with ⟨a, b⟩ | ⟨a, b⟩
    · exact ⟨_, my, beq_iff'.2 b⟩
    · exact ⟨_, mx, beq_iff'.2 a⟩
  rw [h1, h2]
  simp only [Bool.and_self, bcond_true]
  rw [List.mem_flatMap]
  refine ⟨_, my, ?_⟩
  rw [List.mem_filterMap]
  refine ⟨_, mx, ?_⟩
  have e1 : Nat.blt i j = true := blt_iff.2 hij
  have e2 : Nat.beq (kindN x) (kindN y) = false := beq_false_iff.2 (by omega)
  simp only [e1, e2, Bool.not_false, Bool.and_self, bcond_true, ho, bcond_false]
theorem recsOk_of {ops : Array Oper} {need : Bool} {n : Nat} {rs : Recs} {tr : Nat → Rec} (h : RIK ops need n rs tr) (hneed : need = (match pairsL ops with | [] => false | _ => true)) (hp : pairsOk (pairsL ops) rs = true) : recsOk (masks ops.toList) ops.size tr = true := by
  unfold recsOk
  rw [List.all_eq_true]
  intro j hj
  rw [List.all_eq_true]
  intro i hi
  have hj := List.mem_range.1 hj
  have hi := List.mem_range.1 hi
  cases ho : ordered (masks ops.toList) i j with
  | true => rfl
  | false =>
    simp only [Bool.false_or]
    have hx : ops[i]? = some ops[i] := Array.getElem?_eq_getElem (by omega)
    have hy : ops[j]? = some ops[j] := Array.getElem?_eq_getElem (by omega)
    have kx := h.kind i _ hx
    have ky := h.kind j _ hy
    have main : ((kindN ops[i] = 1 ∧ kindN ops[j] = 2) ∨ (kindN ops[i] = 2 ∧ kindN ops[j] = 1)) → recOk (tr i) (tr j) = true := by
      intro hk
      have hm := pairsL_mem hi hx hy hk ho
      have hn : need = true := by
        rw [hneed]
        cases hl : pairsL ops with
        | nil => rw [hl] at hm; cases hm
        | cons => rfl
      have := pairsOk_mem hp _ hm
      rwa [h.same hn, h.same hn] at this
    cases ti : tr i with
    | no => cases tr j <;> rfl
    | load b r =>
      cases tj : tr j with
      | no => rfl
      | load b' r' => rfl
      | call l =>
        rw [ti] at kx; rw [tj] at ky
        have := main (.inr ⟨kx, ky⟩)
        rwa [ti, tj] at this
    | call l =>
      cases tj : tr j with
      | no => rfl
      | load b' r' =>
        rw [ti] at kx; rw [tj] at ky
        have := main (.inl ⟨kx, ky⟩)
        rwa [ti, tj] at this
      | call l' => rfl

theorem drawK_sound (hn : nt ≤ 8 ^ rd) {kc : KCall} (hkc : KcOK P S ρ kc) {ops : Array Oper} (hdraw : drawOk P ops = true) {fl : Fuel} {cx : Cx} {rg : Regs rd} {M : KM} {st : St} {kn : KN rd} {ko : KO rd} (hd : Den ρ rd cx rg M st) (hnt : st.nt = nt)
    (h : drawK nt P ops (pairsL ops) kc fl cx rg M kn ko = true) : ∃ n x st', drawD P (runF P S (execD P S n)) ops st = some (x, st') ∧ EndX ρ rd nt x st' kn ko := by
  obtain ⟨ob, ht, nx, log, ln⟩ := M
  unfold drawK at h
  simp only at h
  rw [forceN_eq, lenC_eq, forceN_eq] at h
  generalize hneed : (List.rec false (fun _ _ _ => true) (pairsL ops) : Bool) = need at h
  have hneed' : need = (match pairsL ops with | [] => false | _ => true) := by rw [← hneed]; cases pairsL ops <;> rfl
  obtain ⟨f, e1, hf⟩ := cOpsD_sound hn hkc ops need ops.toList 0 rfl
  rw [e1] at h
  have hm := hd.mem
  have hd0 : Den ρ rd cx rg (.mk ob ht (nx + ops.toList.length) log ln) { st with m := { st.m with g := { st.m.g with nx := st.m.g.nx + ops.size } } } := by
    refine ⟨hd.sat, hd.regs, ?_⟩
    have hnx := hm.nx
    simp only at hnx
    exact { nx := by simp only [hnx]; simp, log := hm.log, ln := hm.ln, ob := hm.ob, obf := hm.obf, hp := hm.hp, st := hm.st }
  have hnx : nx = st.m.g.nx := hm.nx
  have ri0 : RIK ops need 0 [] (fun _ => Rec.no) := { free := fun _ _ => rfl, kind := fun _ _ _ => trivial, same := fun _ _ => rfl }
  have hr : List.range ops.size = List.range' 0 ops.toList.length := by rw [List.range_eq_range']; simp
  rcases hf nx cx rg _ _ (fun _ => .no) [] _ _ hd0 hnt ri0 h with ⟨n, st', tr', e2, cx', rg', M', rs', b1, b2, b3, b4⟩ | ⟨n, j, stj, trj, oj, v, m1, e2, b1, b2, b3, cx2, rg2, M2, M1, kv, b4, b5, b6, b7, b8, b9⟩
  · obtain ⟨c1, b4⟩ := bcond_and b4
    refine ⟨n, .normal, st', ?_, cx', rg', M', b1, b2, b4⟩
    unfold drawD
    rw [if_pos hdraw]
    simp only
    rw [hnx] at e2
    rw [hr]
    have fin : ∀ (q : Option DS) (z : Option (X × St)), q = some (st', tr') → (match q with | some (st1, tr) => if recsOk (masks ops.toList) ops.size tr = true then some (X.normal, st1) else Option.none | Option.none => z) = some (X.normal, st') := by
      intro q z hq
      subst hq
      simp only [recsOk_of b3 hneed' c1, if_true]
    exact fin _ _ e2
  · rw [Nat.zero_add] at b1 b3 b8
    have b8 : bcond (calmAt ops j) (DOpsA.rec (fun f => f kc nx cx2 rg2 M2 [] (fun cx _ _ _ => forgetK rd nt ops.toList rg2 fun rg => ko (.panic kv) cx rg M1) (fun _ _ _ _ _ _ => false)) (cOpsDL P rd nt ops (restI ops j))) false = true := b8
    obtain ⟨hcalm, b8⟩ := bcond_and b8
    obtain ⟨f2, e4, hf2⟩ := cOpsDL_sound hn hkc ops (restI ops j)
    rw [e4] at b8
    obtain ⟨n2, s2, e5, cx3, rg3, M3, rs3, hd3, b8⟩ := hf2 nx cx2 rg2 M2 stj trj [] _ b4 b5 b8
    obtain ⟨rg4, b8, hreg⟩ := forgetK_sound hn ops.toList rg2 _ stj b5 b4.regs b8
    obtain ⟨q1, q2⟩ := panicAt_go (P := P) (cl := runF P S (execD P S (max n n2))) (s := (stj, trj)) b1 hcalm b2 (opD_le (Nat.le_max_left _ _) b3) (runI_le (Nat.le_max_right _ _) e5)
    have hrun := runI_le (Nat.le_max_left n n2) e2
    have hjn : j < ops.size := by simpa using b9
    have split : List.range ops.size = List.range' 0 j ++ j :: List.range' (j + 1) (ops.size - (j + 1)) := by
      rw [List.range_eq_range']
      have : ops.size = j + (1 + (ops.size - (j + 1))) := by omega
      conv => lhs; rw [this]
      rw [← List.range'_append_1, Nat.zero_add, ← List.range'_append_1]
      rfl
    have pan : ∀ (l1 l2 : List Nat) (s s1 : DS), runI P (runF P S (execD P S (max n n2))) ops nx l1 s = some s1 → stepI P (runF P S (execD P S (max n n2))) ops nx j s1 = Option.none →
        runI P (runF P S (execD P S (max n n2))) ops nx (l1 ++ j :: l2) s = Option.none ∧ panicR P (runF P S (execD P S (max n n2))) ops nx (l1 ++ j :: l2) s = panicAt P (runF P S (execD P S (max n n2))) ops nx j s1 := by
      intro l1
      induction l1 with
      | nil => intro l2 s s1 h k; simp only [runI] at h; cases h; simp only [List.nil_append, runI, panicR, k, and_self]
      | cons y l1 ih =>
        intro l2 s s1 h k
        simp only [runI] at h
        split at h
        · rename_i s3 h3
          simp only [List.cons_append, runI, panicR, h3]
          exact ih l2 s3 s1 h k
        · cases h
    obtain ⟨p1, p2⟩ := pan (List.range' 0 j) (List.range' (j + 1) (ops.size - (j + 1))) _ _ hrun q2
    refine ⟨max n n2, .panic v, { regs := forgetD ops stj.regs, nt := stj.nt, m := m1 }, ?_, cx3, rg4, M1, ⟨hd3.sat, ?_, b7⟩, b5, kv, b6, b8⟩
    · unfold drawD
      rw [if_pos hdraw]
      simp only
      rw [hnx] at p1 p2 q1
      rw [split, p1, p2]
      exact q1
    · exact hreg
end
end
end Go.Sx

/- The kernel's evaluator against the plain one: code, functions, a whole run. -/
namespace Go.Sx
noncomputable section
section
variable (P : Program) (S : FuncId → List V → Option V) (ρ : Nat → Int)
def FuelOK : Fuel → Prop
  | .z => True
  | .s kc f => KcOK P S ρ kc ∧ FuelOK f
def CodeOK (rd nt : Nat) (f : CodeF rd) (c : Code) : Prop := ∀ fl, FuelOK P S ρ fl → ∀ cx rg M st kn ko, Den ρ rd cx rg M st → st.nt = nt → f fl cx rg M kn ko = true →
  ∃ n x st', execD P S n c st = some (x, st') ∧ EndX ρ rd nt x st' kn ko
end
section
variable {P : Program} {S : FuncId → List V → Option V} {ρ : Nat → Int} {rd nt : Nat}
theorem kcNone : KcOK P S ρ (fun _ _ _ _ _ => false) := fun f args cx M g k _ _ h => by cases h
theorem cRegion_sound (hn : nt ≤ 8 ^ rd) (id : Nat) (ops : Array Oper) (draw : Bool) (hd : codeDraws P (.region id ops draw) = true) : ∃ f, cRegion P rd nt ops draw = .mk f ∧ CodeOK P S ρ rd nt f (.region id ops draw) := by
  have dr : ∀ {kc : KCall}, KcOK P S ρ kc → drawOk P ops = true → ∀ fl cx rg M st (kn : KN rd) ko, Den ρ rd cx rg M st → st.nt = nt → drawK nt P ops (pairsL ops) kc fl cx rg M kn ko = true →
      ∃ n x st', execD P S n (.region id ops true) st = some (x, st') ∧ EndX ρ rd nt x st' kn ko := by
    intro kc hkc hdo fl cx rg M st kn ko hden hnt h
    obtain ⟨n, x, st', e, hend⟩ := drawK_sound hn hkc hdo hden hnt h
    exact ⟨n + 1, x, st', by simp only [execD, if_true]; exact e, hend⟩
  have pl : ∀ {kc : KCall}, KcOK P S ρ kc → ∀ fl cx rg M st (kn : KN rd) ko, Den ρ rd cx rg M st → st.nt = nt → opsK nt P ops kc fl cx rg M kn ko = true →
      ∃ n x st', execD P S n (.region id ops false) st = some (x, st') ∧ EndX ρ rd nt x st' kn ko := by
    intro kc hkc fl cx rg M st kn ko hden hnt h
    obtain ⟨f, e1, hf⟩ := cOps_sound hn hkc ops ops.toList
    unfold opsK at h
    rw [e1] at h
    obtain ⟨n, x, st', e, hend⟩ := hf cx rg M st kn ko hden hnt h
    exact ⟨n + 1, x, st', by simp only [execD, Bool.false_eq_true, if_false]; exact e, hend⟩
  unfold cRegion
  cases draw with
  | true =>
    have hdo : drawOk P ops = true := hd
    cases ops.toList.any isCall with
    | true =>
      refine ⟨_, rfl, fun fl hfl cx rg M st kn ko hden hnt h => ?_⟩
      cases fl with
      | z => cases h
      | s kc fl' => exact dr hfl.1 hdo fl' cx rg M st kn ko hden hnt h
    | false => exact ⟨_, rfl, fun fl hfl cx rg M st kn ko hden hnt h => dr kcNone hdo fl cx rg M st kn ko hden hnt h⟩
  | false =>
    cases ops.toList.any isCall with
    | true =>
      refine ⟨_, rfl, fun fl hfl cx rg M st kn ko hden hnt h => ?_⟩
      cases fl with
      | z => cases h
      | s kc fl' => exact pl hfl.1 fl' cx rg M st kn ko hden hnt h
    | false => exact ⟨_, rfl, fun fl hfl cx rg M st kn ko hden hnt h => pl kcNone fl cx rg M st kn ko hden hnt h⟩
theorem loopC_sound {f : CodeF rd} {c : Code} (hf : CodeOK P S ρ rd nt f c) : CodeOK P S ρ rd nt (loopC f) (.loop c) := by
  intro fl
  induction fl with
  | z => intro _ cx rg M st kn ko hd hnt h; cases h
  | s kc fl ih =>
    intro hfl cx rg M st kn ko hd hnt h
    have h : f fl cx rg M (fun cx rg M => loopC f fl cx rg M kn ko) ko = true := h
    obtain ⟨n, x, st', e, cx', rg', M', d', hnt', hk⟩ := hf fl hfl.2 cx rg M st _ ko hd hnt h
    cases x with
    | normal =>
      obtain ⟨n2, x2, st2, e2, hend⟩ := ih hfl.2 cx' rg' M' st' kn ko d' hnt' hk
      refine ⟨max n n2 + 1, x2, st2, ?_, hend⟩
      rw [execD, execD_le (Nat.le_max_left n n2) e]
      exact execD_le (Nat.le_max_right n n2) e2
    | exit id => exact ⟨n + 1, .exit id, st', by rw [execD, e], cx', rg', M', d', hnt', hk⟩
    | ret => exact ⟨n + 1, .ret, st', by rw [execD, e], cx', rg', M', d', hnt', hk⟩
    | panic v => exact ⟨n + 1, .panic v, st', by rw [execD, e], cx', rg', M', d', hnt', hk⟩

theorem cCode_sound (hn : nt ≤ 8 ^ rd) : ∀ (c : Code), codeDraws P c = true → ∃ f, cCode P rd nt c = .mk f ∧ CodeOK P S ρ rd nt f c := by
  intro c
  induction c with
  | skip => exact fun _ => ⟨_, rfl, fun fl hfl cx rg M st kn ko hd hnt h => ⟨1, .normal, st, by simp only [execD], cx, rg, M, hd, hnt, h⟩⟩
  | region id ops draw => exact fun hd => cRegion_sound hn id ops draw hd
  | seq a b iha ihb =>
    intro hdr
    have hdr : bcond (codeDraws P a) (codeDraws P b) false = true := hdr
    obtain ⟨da, db⟩ := bcond_and hdr
    obtain ⟨fa, ea, ha⟩ := iha da
    obtain ⟨fb, eb, hb⟩ := ihb db
    refine ⟨seqC fa fb, ?_, fun fl hfl cx rg M st kn ko hd hnt h => ?_⟩
    · show (CB.rec (fun a => CB.rec (fun b => .mk (seqC a b)) (cCode P rd nt b)) (cCode P rd nt a) : CB rd) = _
      rw [ea, eb]
    · obtain ⟨n, x, st', e, cx', rg', M', d', hnt', hk⟩ := ha fl hfl cx rg M st _ ko hd hnt h
      cases x with
      | normal =>
        obtain ⟨n2, x2, st2, e2, hend⟩ := hb fl hfl cx' rg' M' st' kn ko d' hnt' hk
        refine ⟨max n n2 + 1, x2, st2, ?_, hend⟩
        rw [execD, execD_le (Nat.le_max_left n n2) e]
        exact execD_le (Nat.le_max_right n n2) e2
      | exit id => exact ⟨n + 1, .exit id, st', by rw [execD, e], cx', rg', M', d', hnt', hk⟩
      | ret => exact ⟨n + 1, .ret, st', by rw [execD, e], cx', rg', M', d', hnt', hk⟩
      | panic v => exact ⟨n + 1, .panic v, st', by rw [execD, e], cx', rg', M', d', hnt', hk⟩
  | cond c t e iht ihe =>
    intro hdr
    have hdr : bcond (codeDraws P t) (codeDraws P e) false = true := hdr
    obtain ⟨dt, de⟩ := bcond_and hdr
    obtain ⟨ft, et, ht⟩ := iht dt
    obtain ⟨fe, ee, he⟩ := ihe de
    obtain ⟨g, hh, ec, hv⟩ := cSrc_den rd c
    refine ⟨condC hh ft fe, ?_, fun fl hfl cx rg M st kn ko hd hnt h => ?_⟩
    · show (CB.rec (fun t => CB.rec (fun e => Src.rec (fun _ h => .mk (condC h t e)) (cSrc rd c)) (cCode P rd nt e)) (cCode P rd nt t) : CB rd) = _
      rw [et, ee, ec]
    · unfold condC at h
      obtain ⟨v, _, lv, av⟩ := hv rg
      have ev := av ρ st.regs hd.regs
      rw [lv] at h
      obtain ⟨b, q, h2⟩ := onBool_true h
      subst q
      have ev : evalD st.regs c = .bool b := by rw [← ev]; simp only [abs]
      cases b with
      | true =>
        obtain ⟨n, x, st', e, hend⟩ := ht fl hfl cx rg M st kn ko hd hnt h2
        exact ⟨n + 1, x, st', by rw [execD, ev]; exact e, hend⟩
      | false =>
        obtain ⟨n, x, st', e, hend⟩ := he fl hfl cx rg M st kn ko hd hnt h2
        exact ⟨n + 1, x, st', by rw [execD, ev]; exact e, hend⟩
  | block id a iha =>
    intro hdr
    obtain ⟨fa, ea, ha⟩ := iha hdr
    refine ⟨blockC id fa, ?_, fun fl hfl cx rg M st kn ko hd hnt h => ?_⟩
    · show (CB.rec (fun a => .mk (blockC id a)) (cCode P rd nt a) : CB rd) = _
      rw [ea]
    · obtain ⟨n, x, st', e, cx', rg', M', d', hnt', hk⟩ := ha fl hfl cx rg M st _ _ hd hnt h
      cases x with
      | normal => exact ⟨n + 1, .normal, st', by rw [execD, e], cx', rg', M', d', hnt', hk⟩
      | exit i =>
        have hk : (Bool.rec (ko (.exit i) cx' rg' M') (kn cx' rg' M') (Nat.beq i id) : Bool) = true := hk
        by_cases hi : i = id
        · rw [beq_iff'.2 hi] at hk
          exact ⟨n + 1, .normal, st', by rw [execD, e]; simp only [if_pos hi], cx', rg', M', d', hnt', hk⟩
        · rw [beq_false_iff.2 hi] at hk
          exact ⟨n + 1, .exit i, st', by rw [execD, e]; simp only [if_neg hi], cx', rg', M', d', hnt', hk⟩
      | ret => exact ⟨n + 1, .ret, st', by rw [execD, e], cx', rg', M', d', hnt', hk⟩
      | panic v => exact ⟨n + 1, .panic v, st', by rw [execD, e], cx', rg', M', d', hnt', hk⟩
  | loop a iha =>
    intro hdr
    obtain ⟨fa, ea, ha⟩ := iha hdr
    refine ⟨loopC fa, ?_, loopC_sound ha⟩
    show (CB.rec (fun a => .mk (loopC a)) (cCode P rd nt a) : CB rd) = _
    rw [ea]
  | rangeFunc g ps a b iha ihb =>
    intro hdr
    have hdr : bcond (codeDraws P a) (codeDraws P b) false = true := hdr
    obtain ⟨da, db⟩ := bcond_and hdr
    obtain ⟨fa, ea, ha⟩ := iha da
    obtain ⟨fb, eb, hb⟩ := ihb db
    cases hfl : flatC a && flatC b with
    | false =>
      exact ⟨fun _ _ _ _ _ _ => false, by show bcond (flatC a && flatC b) _ _ = _; rw [hfl]; rfl, fun fl hfl cx rg M st kn ko hd hnt h => by cases h⟩
    | true =>
      have hfl2 := hfl
      rw [Bool.and_eq_true] at hfl2
      match hps : ps.toList with
      | [] => exact ⟨fun _ _ _ _ _ _ => false, by show bcond (flatC a && flatC b) _ _ = _; rw [hfl]; simp only [bcond_true, hps], fun fl hfl cx rg M st kn ko hd hnt h => by cases h⟩
      | [_] => exact ⟨fun _ _ _ _ _ _ => false, by show bcond (flatC a && flatC b) _ _ = _; rw [hfl]; simp only [bcond_true, hps], fun fl hfl cx rg M st kn ko hd hnt h => by cases h⟩
      | _ :: _ :: _ :: _ => exact ⟨fun _ _ _ _ _ _ => false, by show bcond (flatC a && flatC b) _ _ = _; rw [hfl]; simp only [bcond_true, hps], fun fl hfl cx rg M st kn ko hd hnt h => by cases h⟩
      | [p0, p1] =>
        obtain ⟨gg, hh, ec, hv⟩ := cSrc_den rd g
        obtain ⟨q0, e0, h0⟩ := cDst_sound hn (some p0)
        obtain ⟨q1, e1, h1⟩ := cDst_sound hn (some p1)
        refine ⟨rangeC P hh q0 q1 fa fb, ?_, fun fl hfuel cx rg M st kn ko hd hnt h => ?_⟩
        · show bcond (flatC a && flatC b) (match ps.toList with
            | [p0, p1] => CB.rec (fun a => CB.rec (fun b => Src.rec (fun _ h => Dst.rec (fun q0 => Dst.rec (fun q1 => .mk (rangeC P h q0 q1 a b)) (cDst rd nt (some p1))) (cDst rd nt (some p0))) (cSrc rd g)) (cCode P rd nt b)) (cCode P rd nt a)
            | _ => .mk fun _ _ _ _ _ _ => false) _ = (_ : CB rd)
          rw [hfl]; simp only [bcond_true, hps, ea, eb, ec, e0, e1]
        · unfold rangeC at h
          obtain ⟨v, _, lv, av⟩ := hv rg
          have ev := av ρ st.regs hd.regs
          rw [lv] at h
          split at h
          · rename_i gf cb co hveq
            split at h
            · rename_i e hbk
              split at h
              · rename_i z hz
                have hbk : backOf P gf = some e := hbk
                rw [sizeK_eq] at hz
                obtain ⟨sv, hr, h⟩ := read1K_sound hd.mem h
                have hg : evalD st.regs g = .func gf [] [.ptr cb co] := by rw [← ev]; simp [abs, absL]
                -- the rounds
                have key : ∀ (i : Nat) (cx1 : Cx) (M1 : KM) (m1 : Mem), Sat ρ cx1 → DenM ρ M1 m1 → roundsK P e z cb co q0 q1 fa fb fl rg kn ko i cx1 M1 = true →
                    ∃ n x m', roundsB P (execD P S n) e z cb co p0 p1 a b st i m1 = some (x, m') ∧ EndX ρ rd nt x { st with m := m' } kn ko := by
                  intro i
                  induction i with
                  | zero =>
                    intro cx1 M1 m1 hs1 hm1 h
                    exact ⟨0, .normal, m1, by simp only [roundsB], cx1, rg, M1, ⟨hs1, hd.regs, hm1⟩, hnt, h⟩
                  | succ i ih =>
                    intro cx1 M1 m1 hs1 hm1 h
                    have h : (read1K M1 cb co fun sv => onSlice sv (fun b' o len _ => bcond (Nat.blt i len) (forceN (Nat.add o (Nat.mul i z)) fun off => loadEK P e M1 b' off fun v => q0 rg (.int .i64 (.p i)) fun rg1 => q1 rg1 v fun rg2 =>
                      fa fl cx1 rg2 M1 (fun cx rg3 M => fb fl cx rg3 M (fun cx _ M => roundsK P e z cb co q0 q1 fa fb fl rg kn ko i cx M) (onExit rg ko)) (fun _ _ _ _ => false)) false) false) = true := h
                    obtain ⟨sv1, hr1, h⟩ := read1K_sound hm1 h
                    rcases onSlice_true h with ⟨b', o, len, cap, rfl, h⟩ | ⟨rfl, h⟩
                    · obtain ⟨hlt, h⟩ := bcond_and h
                      have hlt : i < len := blt_iff.1 hlt
                      rw [forceN_eq] at h
                      have hld : ∃ v, loadE P e m1 b' (o + i * z) = some (abs ρ v) ∧ (q0 rg (.int .i64 (.p i)) fun rg1 => q1 rg1 v fun rg2 =>
                          fa fl cx1 rg2 M1 (fun cx rg3 M => fb fl cx rg3 M (fun cx _ M => roundsK P e z cb co q0 q1 fa fb fl rg kn ko i cx M) (onExit rg ko)) (fun _ _ _ _ => false)) = true := by
                        unfold loadEK at h
                        rw [aggK_eq, sizeK_eq] at h
                        split at h
                        · rename_i n1 hag hsz
                          obtain ⟨l, hl1, hl2⟩ := readK_sound hm1 h
                          refine ⟨.agg l, ?_, hl2⟩
                          unfold loadE
                          rw [hag, hsz]
                          show (readD m1 b' (o + i * z) n1).map V.agg = _
                          have hl1 : readD m1 b' (o + i * z) n1 = some (absL ρ l) := hl1
                          rw [hl1]; simp only [Option.map_some, abs]
                        · rename_i n1 hag hsz
                          obtain ⟨v, hl1, hl2⟩ := read1K_sound hm1 h
                          refine ⟨v, ?_, hl2⟩
                          unfold loadE
                          rw [hag, hsz]
                          have hl1 : readD m1 b' (o + i * z) 1 = some [abs ρ v] := hl1
                          simp only [hl1]
                        · cases h
                      obtain ⟨v, hld, h⟩ := hld
                      obtain ⟨rg1, h, k1⟩ := h0 ρ rg _ _ h
                      obtain ⟨st1, s1, n1, m1e, r1⟩ := k1 { st with m := m1 } hnt hd.regs
                      obtain ⟨rg2, h, k2⟩ := h1 ρ rg1 _ _ h
                      obtain ⟨st2, s2, n2, m2e, r2⟩ := k2 st1 n1 r1
                      have d2 : Den ρ rd cx1 rg2 M1 st2 := ⟨hs1, r2, by rw [m2e, m1e]; exact hm1⟩
                      obtain ⟨na, xa, st3, x3, cx3, rg3, M3, d3, nt3, h⟩ := ha fl hfuel cx1 rg2 M1 st2 _ _ d2 n2 h
                      cases xa with
                      | exit id => cases h
                      | ret => cases h
                      | panic v => obtain ⟨_, _, h⟩ := h; cases h
                      | normal =>
                        obtain ⟨nb, xb, st4, x4, cx4, rg4, M4, d4, nt4, h⟩ := hb fl hfuel cx3 rg3 M3 st3 _ _ d3 nt3 h
                        have hsv : readD m1 cb co 1 = some [.slice b' o len cap] := by rw [hr1]; simp only [abs]
                        have s1 : putD { st with m := m1 } (some p0) (.int .i64 (i : Int)) = some st1 := by rw [← s1]; simp only [abs, KI.ev]
                        cases xb with
                        | normal =>
                          obtain ⟨nr, x, m', hrest, hend⟩ := ih cx4 M4 st4.m d4.sat d4.mem h
                          refine ⟨max na (max nb nr), x, m', ?_, hend⟩
                          exact roundsB_go hsv hlt hld s1 s2 (execD_le (Nat.le_max_left _ _) x3) (execD_le (Nat.le_trans (Nat.le_max_left nb nr) (Nat.le_max_right _ _)) x4)
                            (.inl ⟨rfl, roundsB_mono (fun c st r q => execD_le (Nat.le_trans (Nat.le_max_right nb nr) (Nat.le_max_right _ _)) q) _ _ _ hrest⟩)
                        | ret =>
                          refine ⟨max na nb, .ret, st4.m, roundsB_go hsv hlt hld s1 s2 (execD_le (Nat.le_max_left _ _) x3) (execD_le (Nat.le_max_right _ _) x4) (.inr (.inl ⟨rfl, rfl⟩)), cx4, rg, M4, ⟨d4.sat, hd.regs, d4.mem⟩, hnt, h⟩
                        | exit id =>
                          refine ⟨max na nb, .exit id, st4.m, roundsB_go hsv hlt hld s1 s2 (execD_le (Nat.le_max_left _ _) x3) (execD_le (Nat.le_max_right _ _) x4) (.inr (.inr ⟨id, rfl, rfl⟩)), cx4, rg, M4, ⟨d4.sat, hd.regs, d4.mem⟩, hnt, h⟩
                        | panic v => obtain ⟨_, _, h⟩ := h; cases h
                    · cases h
                have fin : ∀ (len : Nat), lenS (abs ρ sv) = some len → roundsK P e z cb co q0 q1 fa fb fl rg kn ko len cx M = true → ∃ n x st', execD P S n (.rangeFunc g ps a b) st = some (x, st') ∧ EndX ρ rd nt x st' kn ko := by
                  intro len hlen h
                  obtain ⟨n, x, m', hrb, hend⟩ := key len cx M st.m hd.sat hd.mem h
                  exact ⟨n + 1, x, _, by rw [execD]; exact rangeD_go hfl2.1 hfl2.2 hg hbk hps hz hr hlen hrb, hend⟩
                rcases onSlice_true h with ⟨b', o, len, cap, rfl, h⟩ | ⟨rfl, h⟩
                · obtain ⟨hle, h⟩ := bcond_and h
                  exact fin len (by simp only [abs, lenS, if_pos (ble_iff.1 hle)]) h
                · exact fin 0 (by simp only [abs, lenS]) h
              · cases h
            · cases h
          · cases h
  | exit id => exact fun _ => ⟨_, rfl, fun fl hfl cx rg M st kn ko hd hnt h => ⟨1, .exit id, st, by simp only [execD], cx, rg, M, hd, hnt, h⟩⟩
  | scope a iha =>
    intro hdr
    obtain ⟨fa, ea, ha⟩ := iha hdr
    refine ⟨fa, ea, fun fl hfl cx rg M st kn ko hd hnt h => ?_⟩
    obtain ⟨n, x, st', e, hend⟩ := ha fl hfl cx rg M st kn ko hd hnt h
    exact ⟨n + 1, x, st', by rw [execD]; exact e, hend⟩
  | label l => exact fun _ => ⟨_, rfl, fun fl hfl cx rg M st kn ko hd hnt h => ⟨1, .normal, st, by simp only [execD], cx, rg, M, hd, hnt, h⟩⟩
  | goto l => exact fun _ => ⟨_, rfl, fun fl hfl cx rg M st kn ko hd hnt h => by cases h⟩
  | ret => exact fun _ => ⟨_, rfl, fun fl hfl cx rg M st kn ko hd hnt h => ⟨1, .ret, st, by simp only [execD], cx, rg, M, hd, hnt, h⟩⟩
  | refuse w => exact fun _ => ⟨_, rfl, fun fl hfl cx rg M st kn ko hd hnt h => by cases h⟩

/-! ### Functions -/
theorem cRes_sound (r : ResultVar) : ∃ f, cRes P rd r = .mk f ∧ ∀ cx rg M st k, Den ρ rd cx rg M st → f rg M k = true → ∃ v, resD P st r = some (abs ρ v) ∧ k v = true := by
  cases r with
  | tmp t =>
    obtain ⟨g, hh, e, hv⟩ := cSrc_den rd (.tmp t)
    refine ⟨fun rg _ k => g rg k, by simp only [cRes, e], fun cx rg M st k hd h => ?_⟩
    obtain ⟨v, gv, lv, av⟩ := hv rg
    simp only [gv] at h
    exact ⟨v, by simp only [resD]; rw [av ρ st.regs hd.regs]; rfl, h⟩
  | cell x t =>
    obtain ⟨g, hh, e, hv⟩ := cSrc_den rd (.tmp x)
    simp only [cRes, e, aggK_eq, sizeK_eq]
    cases ha : aggD P t with
    | none => exact ⟨_, rfl, fun cx rg M st k hd h => by cases h⟩
    | some ag =>
      cases ag with
      | true =>
        cases hz : sizeD P t with
        | none => exact ⟨_, rfl, fun cx rg M st k hd h => by cases h⟩
        | some n =>
          refine ⟨_, rfl, fun cx rg M st k hd h => ?_⟩
          obtain ⟨v, gv, lv, av⟩ := hv rg
          have ev : st.regs x = abs ρ v := (av ρ st.regs hd.regs).symm
          simp only [lv] at h
          obtain ⟨b, p, q, h2⟩ := onPtr_true h
          subst q
          obtain ⟨l, hr, h3⟩ := readK_sound hd.mem h2
          exact ⟨_, by simp only [resD, ev, abs, ha, hz, hr, Option.map_some], h3⟩
      | false =>
        refine ⟨_, rfl, fun cx rg M st k hd h => ?_⟩
        obtain ⟨v, gv, lv, av⟩ := hv rg
        have ev : st.regs x = abs ρ v := (av ρ st.regs hd.regs).symm
        simp only [lv] at h
        obtain ⟨b, p, q, h2⟩ := onPtr_true h
        subst q
        obtain ⟨u, hr, h3⟩ := read1K_sound hd.mem h2
        exact ⟨u, by simp only [resD, ev, abs, ha, hr], h3⟩
theorem ressK_sound {cx : Cx} {rg : Regs rd} {M : KM} {st : St} (hd : Den ρ rd cx rg M st) : ∀ {l : List ResultVar} {k : List KV → Bool}, ressK P rd rg M l k = true → ∃ vs, ressD P st l = some (absL ρ vs) ∧ k vs = true
  | [], k, h => ⟨[], by simp [ressD, absL], h⟩
  | r :: l, k, h => by
    obtain ⟨f, e, hf⟩ := cRes_sound (P := P) (ρ := ρ) (rd := rd) r
    change (RB.rec (fun f => f rg M fun v => ressK P rd rg M l fun vs => k (v :: vs)) (cRes P rd r) : Bool) = true at h
    rw [e] at h
    obtain ⟨v, e1, h⟩ := hf cx rg M st _ hd h
    obtain ⟨vs, e2, h⟩ := ressK_sound hd h
    exact ⟨v :: vs, by simp only [ressD, e1, e2, absL], h⟩
theorem cRess_sound (fn : Func) : ∃ f, cRess P rd fn.results.toList = .mk f ∧ ∀ cx rg M st k, Den ρ rd cx rg M st → f rg M k = true → ∃ v, resultD P st fn = some (abs ρ v) ∧ k v = true := by
  have many : ∀ (cx : Cx) (rg : Regs rd) (M : KM) (st : St) (k : KV → Bool), Den ρ rd cx rg M st → (∀ r, fn.results.toList ≠ [r]) → ressK P rd rg M fn.results.toList (fun vs => k (.tuple vs)) = true → ∃ v, resultD P st fn = some (abs ρ v) ∧ k v = true := by
    intro cx rg M st k hd hne h
    obtain ⟨vs, e, h⟩ := ressK_sound hd h
    refine ⟨.tuple vs, ?_, h⟩
    have hl : ∀ (l : List ResultVar) us, ressD P st l = some us → us.length = l.length := by
      intro l
      induction l with
      | nil => intro us h; simp only [ressD] at h; cases h; rfl
      | cons r l ih =>
        intro us h
        simp only [ressD] at h
        cases h1 : resD P st r with
        | none => rw [h1] at h; cases h
        | some v =>
          cases h2 : ressD P st l with
          | none => rw [h1, h2] at h; cases h
          | some w => rw [h1, h2] at h; cases h; simp [ih w h2]
    have hlen := hl _ _ e
    unfold resultD
    rw [e]
    have hn1 : fn.results.toList.length ≠ 1 := by
      intro q
      match hq : fn.results.toList, q with
      | [r], _ => exact hne r hq
    cases hvs : absL ρ vs with
    | nil => simp only [abs, hvs]
    | cons a t =>
      cases t with
      | nil => rw [hvs] at hlen; exact absurd hlen.symm hn1
      | cons b t => simp only [abs, hvs]
  unfold cRess
  split
  · rename_i r hr
    obtain ⟨f, e, hf⟩ := cRes_sound (P := P) (ρ := ρ) (rd := rd) r
    refine ⟨f, e, fun cx rg M st k hd h => ?_⟩
    obtain ⟨v, e1, h⟩ := hf cx rg M st k hd h
    exact ⟨v, by unfold resultD; rw [hr]; simp only [ressD, e1], h⟩
  · rename_i hne
    exact ⟨_, rfl, fun cx rg M st k hd h => many cx rg M st k hd (fun r hr => hne r hr) h⟩
theorem leaveV_sound {v : KV} {M : KM} {m : Mem} {k : KM → Bool} (hm : DenM ρ M m) (h : leaveV v M k = true) : ∃ M', DenM ρ M' (spillV spillFuel (abs ρ v) m) ∧ k M' = true := by
  obtain ⟨M', d, h⟩ := spillK_sound _ _ _ _ _ _ hm h
  exact ⟨M', by simpa only [spillD, absL, Bool.false_eq_true, if_false] using d, h⟩
theorem bareK_den {M : KM} {m : Mem} (h : DenM ρ M m) : DenM ρ (bareK M) ⟨fun _ => Option.none, m.g⟩ := by
  obtain ⟨ob, ht, nx, log, ln⟩ := M
  exact bare_den h
/-- What all functions of a program must bear for it. -/
structure ProgOK (P : Program) : Prop where
  fns : ∀ (f : FuncId) (fn : Func) (b : Code), P.funcs[f]? = some fn → fn.body = some b → (fn.name == "runtime.NumGoroutine") = false ∧ (skipTab f = false → codeDraws P b = true ∧ flatDef b = true)
  back : BackOK P
  eff : EffOK P
/-- What a summary's word means. -/
def valK (ρ : Nat → Int) : KV → V
  | .tuple (.none :: q) => match q with
    | [.bool up, .int .i64 cap, .int .i64 x, .int .i64 y] => .int .i64 (natV up (cap.ev ρ) (x.ev ρ) (y.ev ρ))
    | _ => .none
  | v => abs ρ v
/-- Where a summary's word holds: of a request, at numbers of 64 bits. -/
def reqOK (ρ : Nat → Int) : KV → Prop
  | .tuple (.none :: q) => match q with
    | [.bool up, .int .i64 cap, .int .i64 x, .int .i64 y] => (-9223372036854775808 ≤ x.ev ρ ∧ x.ev ρ ≤ 9223372036854775807) ∧ (-9223372036854775808 ≤ y.ev ρ ∧ y.ev ρ ≤ 9223372036854775807)
    | _ => True
  | _ => True
theorem in64_sound {cx : Cx} {x : KI} (hs : Sat ρ cx) (h : in64 cx x = true) : -9223372036854775808 ≤ x.ev ρ ∧ x.ev ρ ≤ 9223372036854775807 := by
  unfold in64 at h
  obtain ⟨a, b⟩ := bcond_and h
  have h1 := sureLe_sound hs a
  have h2 := sureLe_sound hs b
  have e1 : KI.ev ρ (.p 9223372036854775807) = 9223372036854775807 := rfl
  have e2 : KI.ev ρ (.m 9223372036854775807) = -9223372036854775808 := rfl
  rw [KI.sub_ev, e1] at h1
  rw [KI.sub_ev, e2] at h2
  omega
theorem natGo_sound {up : Bool} {cap x y : KI} {cx : Cx} {k : Cx → KI → Bool} (hs : Sat ρ cx) (h : natGo up cap x y cx k = true) : ∃ cx' z, Sat ρ cx' ∧ z.ev ρ = natV up (cap.ev ρ) (x.ev ρ) (y.ev ρ) ∧ k cx' z = true := by
  unfold natGo at h
  unfold natV
  obtain ⟨cx1, s1, _, h⟩ := decLe_sound hs h
  rw [KI.sub_ev] at h
  by_cases c1 : cap.ev ρ ≤ x.ev ρ
  · rw [decide_eq_true (by omega), bcond_true] at h
    exact ⟨cx1, cap, s1, by rw [if_pos c1], h⟩
  rw [decide_eq_false (by omega), bcond_false] at h
  rw [if_neg c1]
  obtain ⟨cx2, s2, _, h⟩ := decLe_sound s1 h
  rw [KI.sub_ev] at h
  by_cases c2 : cap.ev ρ ≤ y.ev ρ
  · rw [decide_eq_true (by omega), bcond_true] at h
    exact ⟨cx2, cap, s2, by rw [if_pos c2], h⟩
  rw [decide_eq_false (by omega), bcond_false] at h
  rw [if_neg c2]
  obtain ⟨cx3, s, s3, h, e3⟩ := wrapK_sound s2 h
  rw [KI.add_ev] at e3
  simp only []
  rw [← e3]
  obtain ⟨cx4, s4, _, h⟩ := decLe_sound s3 h
  rw [KI.add_ev] at h
  by_cases c3 : s.ev ρ ≤ -(cap.ev ρ)
  · rw [decide_eq_true (by omega), bcond_true] at h
    exact ⟨cx4, _, s4, by rw [if_pos c3, KI.neg_ev], h⟩
  rw [decide_eq_false (by omega), bcond_false] at h
  rw [if_neg c3]
  cases up with
  | false =>
    simp only [bcond_false] at h
    exact ⟨cx4, s, s4, by simp, h⟩
  | true =>
    simp only [bcond_true] at h
    obtain ⟨cx5, s5, _, h⟩ := decLe_sound s4 h
    rw [KI.sub_ev] at h
    by_cases c4 : cap.ev ρ ≤ s.ev ρ
    · rw [decide_eq_true (by omega), bcond_true] at h
      exact ⟨cx5, cap, s5, by rw [if_pos ⟨rfl, c4⟩], h⟩
    · rw [decide_eq_false (by omega), bcond_false] at h
      exact ⟨cx5, s, s5, by rw [if_neg (by simp [c4])], h⟩
theorem sumK_sound {v : KV} {cx : Cx} {k : Cx → KV → Bool} (hs : Sat ρ cx) (h : sumK v cx k = true) : v ≠ .none ∧ reqOK ρ v ∧ ∃ cx' v', Sat ρ cx' ∧ abs ρ v' = valK ρ v ∧ k cx' v' = true := by
  unfold sumK at h
  split at h
  · cases h
  · refine ⟨by simp, ?_⟩
    unfold natK at h
    split at h
    · obtain ⟨h1, h⟩ := bcond_and h
      obtain ⟨h2, h⟩ := bcond_and h
      obtain ⟨cx', z, a, b, c⟩ := natGo_sound hs h
      exact ⟨⟨in64_sound hs h1, in64_sound hs h2⟩, cx', _, a, by simp only [abs, valK, b], c⟩
    · cases h
  · rename_i hn ht
    refine ⟨hn, ?_, cx, v, hs, ?_, h⟩
    · unfold reqOK
      split
      · exact absurd rfl (ht _)
      · trivial
    · unfold valK
      split
      · exact absurd rfl (ht _)
      · rfl
def SumK (P : Program) (S : FuncId → List V → Option V) (ρ : Nat → Int) (SK : FuncId → List KV → Option KV) : Prop := ∀ f args, match SK f args with
  | some v => v = .none ∨ (reqOK ρ v → S f (absL ρ args) = some (valK ρ v)) ∧ ∃ fn b, P.funcs[f]? = some fn ∧ fn.body = some b
  | none => S f (absL ρ args) = none
theorem den_enter {rd : Nat} {args : List KV} {cx : Cx} {M : KM} {g : G} {fn : Func} (hs : Sat ρ cx) (hm : DenM ρ M ⟨fun _ => Option.none, g⟩) (c1 : args.length ≤ 8 ^ rd) : Den ρ rd cx (setC rd args 0 (emp undefK rd)) M (enterD fn (absL ρ args) g) := by
  refine ⟨hs, fun t => ?_, hm⟩
  simp only [enterD]
  by_cases ht : t < 8 ^ rd
  · rw [if_pos ht]
    have hg : getT rd t (setC rd args 0 (emp undefK rd)) = (args[t]?).getD undefK := by
      have key : ∀ (l : List KV) (i j : Nat) (t : Tr KV rd) (d : KV), (∀ j, getT rd j t = d ∨ True) → i + l.length ≤ 8 ^ rd → j < 8 ^ rd → getT rd j (setC rd l i t) = if i ≤ j ∧ j < i + l.length then (l[j - i]?).getD KV.none else getT rd j t := fun l i j t d _ a b => setC_get rd l i j t a b
      rw [key args 0 t _ undefK (fun _ => .inr trivial) (by omega) ht]
      by_cases hlt : t < args.length
      · rw [if_pos (by omega), Nat.sub_zero, List.getElem?_eq_getElem hlt]; rfl
      · rw [if_neg (by omega), getT_emp, List.getElem?_eq_none (by omega)]; rfl
    rw [hg, absL_map, List.getElem?_map]
    cases args[t]? with
    | none => simp [undefK_abs]
    | some v => rfl
  · rw [if_neg ht, absL_map, List.getElem?_eq_none (by rw [List.length_map]; omega)]
    simp [undefK_abs]

/-! A closure handed to a body's end. -/
theorem defer_draws : ∀ (c : Code) (l : List Code) (t : Nat) (post : Code), deferOf c = some (l, t, post) → codeDraws P c = true → (∀ x ∈ l, codeDraws P x = true) ∧ codeDraws P post = true := by
  intro c
  induction c with
  | seq x y _ ihy =>
    intro l t post h hd
    have hd : bcond (codeDraws P x) (codeDraws P y) false = true := hd
    obtain ⟨dx, dy⟩ := bcond_and hd
    simp only [deferOf] at h
    cases hh : headOf x with
    | some z =>
      obtain ⟨o, t1⟩ := z
      rw [hh] at h
      simp only [Option.some.injEq, Prod.mk.injEq] at h
      obtain ⟨rfl, rfl, rfl⟩ := h
      refine ⟨fun x hx => ?_, dy⟩
      simp only [List.mem_singleton] at hx
      subst hx
      rfl
    | none =>
      rw [hh] at h
      simp only at h
      cases hdy : deferOf y with
      | none => rw [hdy] at h; cases h
      | some z =>
        obtain ⟨pre, t1, post1⟩ := z
        rw [hdy] at h
        simp only [Option.some.injEq, Prod.mk.injEq] at h
        obtain ⟨rfl, rfl, rfl⟩ := h
        obtain ⟨q1, q2⟩ := ihy _ _ _ hdy dy
        refine ⟨fun z hz => ?_, q2⟩
        rcases List.mem_cons.1 hz with rfl | hz
        · exact dx
        · exact q1 z hz
  | _ => intro l t post h; simp only [deferOf] at h; cases h
theorem rec_draws {c : Code} {t : Nat} {rest : Code} (h : recOf c = some (t, rest)) (hd : codeDraws P c = true) : codeDraws P rest = true := by
  obtain ⟨id, ops, rfl, _⟩ := recOf_some h
  have hd : bcond (codeDraws P (.region id ops false)) (codeDraws P rest) false = true := hd
  exact (bcond_and hd).2
theorem preC_sound (hn : nt ≤ 8 ^ rd) : ∀ (l : List Code), (∀ c ∈ l, codeDraws P c = true) → ∃ f, preC P rd nt l = .mk f ∧ ∀ fl, FuelOK P S ρ fl → ∀ cx rg M st kn, Den ρ rd cx rg M st → st.nt = nt → f fl cx rg M kn (fun _ _ _ _ => false) = true →
    ∃ n st', exL (execD P S n) l st = some st' ∧ ∃ cx' rg' M', Den ρ rd cx' rg' M' st' ∧ st'.nt = nt ∧ kn cx' rg' M' = true
  | [], _ => ⟨_, rfl, fun fl hfl cx rg M st kn hd hnt h => ⟨0, st, rfl, cx, rg, M, hd, hnt, h⟩⟩
  | c :: l, hdr => by
    obtain ⟨fa, ea, ha⟩ := cCode_sound (S := S) (ρ := ρ) hn c (hdr c (List.mem_cons_self ..))
    obtain ⟨fb, eb, hb⟩ := preC_sound hn l fun x hx => hdr x (List.mem_cons_of_mem _ hx)
    refine ⟨seqC fa fb, ?_, fun fl hfl cx rg M st kn hd hnt h => ?_⟩
    · show (CB.rec (fun a => CB.rec (fun b => .mk (seqC a b)) (preC P rd nt l)) (cCode P rd nt c) : CB rd) = _
      rw [ea, eb]
    · obtain ⟨n, x, st', e, cx', rg', M', d', hnt', hk⟩ := ha fl hfl cx rg M st _ _ hd hnt h
      cases x with
      | normal =>
        obtain ⟨n2, st2, e2, hend⟩ := hb fl hfl cx' rg' M' st' kn d' hnt' hk
        refine ⟨max n n2, st2, ?_, hend⟩
        simp only [exL]
        rw [execD_le (Nat.le_max_left n n2) e]
        exact exL_le (Nat.le_max_right n n2) e2
      | exit id => cases hk
      | ret => cases hk
      | panic v => obtain ⟨_, _, hk⟩ := hk; cases hk
theorem callR_sound (hP : ProgOK P) {fl : Fuel} (hfl : FuelOK P S ρ fl) {u : KV} {uo : Option V} (hu : uo.getD .nili = abs ρ u) {f : FuncId} {args : List KV} {cx : Cx} {M : KM} {g : G} {k : Cx → KE → KM → Bool} (hs : Sat ρ cx) (hm : DenM ρ M ⟨fun _ => Option.none, g⟩) (h : callR P fl u f args cx M k = true) :
    (∃ fn, P.funcs[f]? = some fn ∧ (fn.name == "runtime.NumGoroutine" || fn.body.isNone) = false) ∧ ∃ n v g', runR P (execD P S n) uo f (absL ρ args) g = some (.ret v, g') ∧ ∃ cx' kv M', Sat ρ cx' ∧ abs ρ kv = v ∧ DenM ρ (bareK M') ⟨fun _ => Option.none, g'⟩ ∧ k cx' (.ret kv) M' = true := by
  unfold callR cRecF at h
  cases hsk : skipTab f with
  | true => rw [hsk] at h; cases h
  | false =>
  rw [hsk] at h
  simp only [bcond_false] at h
  rw [nthO_eq] at h
  have hfs : P.funcs.toList[f]? = P.funcs[f]? := by simp
  rw [hfs] at h
  cases hf : P.funcs[f]? with
  | none => rw [hf] at h; cases h
  | some fn =>
    rw [hf] at h
    simp only at h
    cases hb : fn.body with
    | none => rw [hb] at h; cases h
    | some body =>
      rw [hb] at h
      simp only at h
      cases hrec : recOf body with
      | none => rw [hrec] at h; cases h
      | some q =>
        obtain ⟨t, rest⟩ := q
        rw [hrec] at h
        simp only [forceN_eq] at h
        obtain ⟨n1, n23⟩ := hP.fns f fn body hf hb
        obtain ⟨n2, n3⟩ := n23 hsk
        generalize hrd : dep8 fn.ntmps = rd at h
        have hn : fn.ntmps ≤ 8 ^ rd := by rw [← hrd]; exact dep8_fits _
        have hnb : Nat.ble fn.ntmps (Nat.pow 8 rd) = true := ble_iff.2 hn
        rw [hnb] at h
        simp only [bcond_true] at h
        have hfr : flatC rest = true := by
          unfold flatDef at n3
          rw [hrec] at n3
          exact (bcond_and n3).2
        obtain ⟨fb, e1, hcode⟩ := cCode_sound (S := S) (ρ := ρ) hn rest (rec_draws hrec n2)
        obtain ⟨fr, e2, hres⟩ := cRess_sound (P := P) (ρ := ρ) (rd := rd) fn
        obtain ⟨p, e3, hp⟩ := cDst_sound hn (some t)
        rw [e1, e2, e3] at h
        simp only at h
        rw [lenC_eq] at h
        obtain ⟨c1, h⟩ := bcond_and h
        have c1 : args.length ≤ 8 ^ rd := ble_iff.1 c1
        rw [setCs_eq] at h
        refine ⟨⟨fn, by first | exact hf | rfl, by rw [n1, hb]; rfl⟩, ?_⟩
        have hd0 : Den ρ rd cx (setC rd args 0 (emp undefK rd)) M (enterD fn (absL ρ args) g) := den_enter hs hm c1
        obtain ⟨rg', h, hput⟩ := hp ρ _ _ _ h
        obtain ⟨st1, p1, p2, p3, p4⟩ := hput _ rfl hd0.regs
        have hd1 : Den ρ rd cx rg' M st1 := ⟨hs, p4, by rw [p3]; exact hm⟩
        obtain ⟨n, x, st', e4, cx', rg2, M', d', hnt', hk'⟩ := hcode fl hfl cx _ M _ _ _ hd1 p2 h
        have fin : x = .normal ∨ x = .ret → (fr rg2 M' fun v => leaveV v M' fun M => k cx' (.ret v) M) = true → ∃ n v g', runR P (execD P S n) uo f (absL ρ args) g = some (.ret v, g') ∧ ∃ cx' kv M', Sat ρ cx' ∧ abs ρ kv = v ∧ DenM ρ (bareK M') ⟨fun _ => Option.none, g'⟩ ∧ k cx' (.ret kv) M' = true := by
          intro hx hk2
          obtain ⟨v, er, hk3⟩ := hres cx' rg2 M' st' _ d' hk2
          obtain ⟨M2, d2, hk4⟩ := leaveV_sound d'.mem hk3
          refine ⟨n, abs ρ v, _, ?_, cx', v, M2, d'.sat, rfl, bareK_den d2, hk4⟩
          unfold runR
          simp only [hf, hb, hrec, hu, p1, e4, hfr, Bool.true_eq_false, if_false]
          rcases hx with rfl | rfl <;> simp only [er, Option.map_some]
        cases x with
        | normal => exact fin (.inl rfl) hk'
        | ret => exact fin (.inr rfl) hk'
        | exit id => cases hk'
        | panic v => obtain ⟨_, _, hk'⟩ := hk'; cases hk'
theorem closeK_sound (hP : ProgOK P) {fl : Fuel} (hfl : FuelOK P S ρ fl) {d u : KV} {uo : Option V} (hu : uo.getD .nili = abs ρ u) {rd : Nat} {cx : Cx} {rg : Regs rd} {M : KM} {st : St} {k : Cx → KM → Bool} (hd : Den ρ rd cx rg M st) (h : closeK P fl d u cx M k = true) :
    ∃ n st4 cx' M', closeD P (execD P S n) (abs ρ d) uo st = some st4 ∧ Den ρ rd cx' rg M' st4 ∧ st4.nt = st.nt ∧ k cx' M' = true := by
  unfold closeK at h
  split at h
  · rename_i cf ca cc
    rw [appL_eq] at h
    unfold callK at h
    obtain ⟨M1, d1, hk⟩ := spillK_sound _ _ _ _ _ _ hd.mem h
    obtain ⟨ob, ht, nx, log, ln⟩ := M1
    simp only [spillD, if_true] at d1 hk
    obtain ⟨⟨fn, hf, hn⟩, n, v, g', hr, cx', kv, M', s', he, d', hk⟩ := callR_sound hP hfl hu hd.sat (bare_den d1) hk
    obtain ⟨ob', ht', nx', log', ln'⟩ := M'
    have back : DenM ρ (.mk ob ht' nx' log' ln') { (spillL spillFuel (absL ρ (ca ++ cc)) st.m) with g := g' } :=
      { nx := d'.nx, log := d'.log, ln := d'.ln, ob := d1.ob, obf := d1.obf, hp := d'.hp, st := d'.st }
    refine ⟨n, { st with m := { (spillL spillFuel (absL ρ (ca ++ cc)) st.m) with g := g' } }, cx', _, ?_, ⟨s', hd.regs, back⟩, rfl, hk⟩
    have ea : absL ρ ca ++ absL ρ cc = absL ρ (ca ++ cc) := by simp only [absL_map, List.map_append]
    simp only [closeD, abs, callD, hf, hn, Bool.false_eq_true, if_false, ea, hr]
  · cases h
theorem asK_sound {s : Eff} {args : List KV} {cx : Cx} {M : KM} {g : G} {k : Cx → KE → KM → Bool} (hm : DenM ρ M ⟨fun _ => Option.none, g⟩) (h : asK s args cx M k = true) :
    ∃ e g', asD s (absL ρ args) g = some (e, g') ∧ ∃ ke M', absE ρ ke = e ∧ DenM ρ (bareK M') ⟨fun _ => Option.none, g'⟩ ∧ k cx ke M' = true := by
  unfold asK at h
  split at h
  · exact ⟨.ret (.bool false), g, by simp only [absL, abs, asD], .ret (.bool false), M, by simp only [absE, abs], bareK_den hm, h⟩
  · rename_i t b o t2 b2 o2
    obtain ⟨c1, h⟩ := bcond_and h
    obtain ⟨c2, h⟩ := bcond_and h
    obtain ⟨v, hr, h⟩ := read1K_sound hm h
    split at h
    · rename_i t3 b3 o3
      obtain ⟨c3, h⟩ := bcond_and h
      obtain ⟨M', m', hw, hd, h⟩ := writeK_sound hm h
      have hr : readD ⟨fun _ => Option.none, g⟩ b (o + s.off) 1 = some [.iface t3 (.ptr b3 o3)] := by
        have := hr; simp only [abs] at this; exact this
      have hw : writeD ⟨fun _ => Option.none, g⟩ b2 o2 [.ptr b3 o3] = some m' := by
        have := hw; simp only [absL, abs] at this; exact this
      refine ⟨.ret (.bool true), m'.g, ?_, .ret (.bool true), M', by simp only [absE, abs], bareK_den hd, h⟩
      simp only [absL, abs, asD, beq_iff'.1 c1, beq_iff'.1 c2, beq_iff'.1 c3, and_self, if_true, hr, hw, Option.map_some]
    · cases h
  · cases h
theorem strK_sound {v : KV} {k : List KI → Bool} (h : strK v k = true) : ∃ s, v = .str s ∧ k s = true := by
  unfold strK at h
  split at h
  · exact ⟨_, rfl, h⟩
  · cases h
theorem joinTK_sound {sep : List KI} : ∀ {l : List KV} {k : List KI → Bool}, joinTK sep l k = true → ∃ t, joinT (sep.map (byteV ρ)) (absL ρ l) = some (t.map (byteV ρ)) ∧ k t = true
  | [], k, h => ⟨[], rfl, h⟩
  | v :: r, k, h => by
    have h : (strK v fun s => joinTK sep r fun t => appL s t fun t => appL sep t k) = true := h
    obtain ⟨s, rfl, h⟩ := strK_sound h
    obtain ⟨t, h1, h⟩ := joinTK_sound h
    rw [appL_eq, appL_eq] at h
    exact ⟨_, by simp only [absL, abs, joinT, h1, Option.map_some, List.map_append], h⟩
theorem joinSK_sound {sep : List KI} {l : List KV} {k : List KI → Bool} (h : joinSK sep l k = true) : ∃ t, joinS (sep.map (byteV ρ)) (absL ρ l) = some (t.map (byteV ρ)) ∧ k t = true := by
  cases l with
  | nil => exact ⟨[], rfl, h⟩
  | cons v r =>
    have h : (strK v fun s => joinTK sep r fun t => appL s t k) = true := h
    obtain ⟨s, rfl, h⟩ := strK_sound h
    obtain ⟨t, h1, h⟩ := joinTK_sound (ρ := ρ) h
    rw [appL_eq] at h
    exact ⟨_, by simp only [absL, abs, joinS, h1, Option.map_some, List.map_append], h⟩
theorem effK_sound {s : Eff} {args : List KV} {cx : Cx} {M : KM} {g : G} {k : Cx → KE → KM → Bool} (hm : DenM ρ M ⟨fun _ => Option.none, g⟩) (h : effK s args cx M k = true) :
    ∃ e g', effD s (absL ρ args) g = some (e, g') ∧ ∃ ke M', absE ρ ke = e ∧ DenM ρ (bareK M') ⟨fun _ => Option.none, g'⟩ ∧ k cx ke M' = true := by
  unfold effK at h
  unfold effD
  cases hb : s.join with
  | false =>
    rw [hb, bcond_false] at h
    rw [if_neg (by decide)]
    exact asK_sound hm h
  | true =>
    rw [hb, bcond_true] at h
    rw [if_pos rfl]
    unfold joinK at h
    split at h
    · rename_i b o len cap sep
      obtain ⟨c1, h⟩ := bcond_and h
      obtain ⟨l, hl, h⟩ := readK_sound hm h
      obtain ⟨t, ht, h⟩ := joinSK_sound (ρ := ρ) h
      rw [lenC_eq] at h
      obtain ⟨c2, h⟩ := bcond_and h
      refine ⟨.ret (.str (t.map (byteV ρ))), g, ?_, .ret (.str t), M, by simp only [absE, abs], bareK_den hm, h⟩
      have c1 := ble_iff.1 c1
      have c2 : (t.map (byteV ρ)).length ≤ 1048576 := by rw [List.length_map]; exact ble_iff.1 c2
      simp only [absL, abs, joinD, if_pos c1, hl, ht, if_pos c2]
    · exact ⟨.ret (.str []), g, by simp only [absL, abs, joinD], .ret (.str []), M, by simp only [absE, abs, List.map_nil], bareK_den hm, h⟩
    · cases h
theorem callF_sound (hP : ProgOK P) {SK : FuncId → List KV → Option KV} (hS : SumK P S ρ SK) {fl : Fuel} (hfl : FuelOK P S ρ fl) : KcOK P S ρ (callF P SK fl) := by
  intro f args cx M g k hs hm h
  unfold callF at h
  have hSf := hS f args
  cases hk : SK f args with
  | some v =>
    rw [hk] at h hSf
    have h : (sumK v cx fun cx v => k cx (.ret v) M) = true := h
    obtain ⟨hnn, hreq, cx', v', hs', hv', h⟩ := sumK_sound hs h
    rcases hSf with rfl | ⟨h1, fn, b, h2, h3⟩
    · exact absurd rfl hnn
    obtain ⟨n1, _⟩ := hP.fns f fn b h2 h3
    refine ⟨⟨fn, h2, by rw [n1, h3]; rfl⟩, 0, .ret (valK ρ v), g, ?_, cx', .ret v', M, hs', by simp only [absE, hv'], ?_, h⟩
    · unfold runF; rw [h1 hreq]
    · have := bareK_den hm; exact this
  | none =>
    rw [hk] at h hSf
    simp only at h hSf
    unfold cFn at h
    cases hE : effTab f with
    | some s =>
      rw [hE] at h
      have h : effK s args cx M k = true := h
      obtain ⟨⟨fn, b, h2, h3⟩, _⟩ := hP.eff f s hE
      obtain ⟨n1, _⟩ := hP.fns f fn b h2 h3
      obtain ⟨e, g', e1, ke, M', e2, e3, e4⟩ := effK_sound hm h
      exact ⟨⟨fn, h2, by rw [n1, h3]; rfl⟩, 0, e, g', by unfold runF; rw [hSf]; simp only [hE, e1], cx, ke, M', hs, e2, e3, e4⟩
    | none =>
    rw [hE] at h
    simp only at h
    cases hsk : skipTab f with
    | true => rw [hsk] at h; cases h
    | false =>
    rw [hsk] at h
    simp only [bcond_false] at h
    rw [nthO_eq] at h
    have hfs : P.funcs.toList[f]? = P.funcs[f]? := by simp
    rw [hfs] at h
    cases hf : P.funcs[f]? with
    | none => rw [hf] at h; cases h
    | some fn =>
      rw [hf] at h
      simp only at h
      cases hb : fn.body with
      | none => rw [hb] at h; cases h
      | some body =>
        rw [hb] at h
        simp only [forceN_eq] at h
        obtain ⟨n1, n23⟩ := hP.fns f fn body hf hb
        obtain ⟨n2, n3⟩ := n23 hsk
        generalize hrd : dep8 fn.ntmps = rd at h
        have hn : fn.ntmps ≤ 8 ^ rd := by rw [← hrd]; exact dep8_fits _
        have hnb : Nat.ble fn.ntmps (Nat.pow 8 rd) = true := ble_iff.2 hn
        rw [hnb] at h
        simp only [bcond_true] at h
        cases hdf : deferOf body with
        | some q =>
          obtain ⟨l, t, post⟩ := q
          obtain ⟨dl, dp⟩ := defer_draws body l t post hdf n2
          obtain ⟨fa, e1, hpre⟩ := preC_sound (S := S) (ρ := ρ) hn l dl
          obtain ⟨fb, e2, hpost⟩ := cCode_sound (S := S) (ρ := ρ) hn post dp
          obtain ⟨fr, e3, hres⟩ := cRess_sound (P := P) (ρ := ρ) (rd := rd) fn
          obtain ⟨gg, hh, e4, hv⟩ := cSrc_den rd (.tmp t)
          have hB : cFnB P rd fn body = .df rd fa gg fb fr := by
            unfold cFnB
            rw [hdf]
            simp only [e1, e2, e3, e4]
          rw [hB] at h
          simp only at h
          rw [lenC_eq] at h
          obtain ⟨c1, h⟩ := bcond_and h
          have c1 : args.length ≤ 8 ^ rd := ble_iff.1 c1
          rw [setCs_eq] at h
          refine ⟨⟨fn, by first | exact hf | rfl, by rw [n1, hb]; rfl⟩, ?_⟩
          have hd0 : Den ρ rd cx (setC rd args 0 (emp undefK rd)) M (enterD fn (absL ρ args) g) := den_enter hs hm c1
          obtain ⟨m1, st2, x1, cx2, rg2, M2, hd2, hnt2, h⟩ := hpre fl hfl cx _ M _ _ hd0 rfl h
          unfold dfK at h
          obtain ⟨d, gv, lv, av⟩ := hv rg2
          have ed : abs ρ d = st2.regs t := av ρ st2.regs hd2.regs
          rw [gv] at h
          obtain ⟨m2, x, st3, x2, cx3, rg3, M3, hd3, hnt3, h⟩ := hpost fl hfl cx2 rg2 M2 st2 _ _ hd2 hnt2 h
          have fin : ∀ (u : KV) (uo : Option V), uo.getD .nili = abs ρ u → (closeK P fl d u cx3 M3 fun cx M => retK fr k cx rg3 M) = true →
              (∀ n, exL (execD P S n) l (enterD fn (absL ρ args) g) = some st2 → execD P S n post st2 = some (x, st3) → runD P (execD P S n) fn (l, t, post) (enterD fn (absL ρ args) g) =
                match closeD P (execD P S n) (st2.regs t) uo st3 with | some st4 => (resultD P st4 fn).map fun v => (En.ret v, (spillV spillFuel v st4.m).g) | Option.none => Option.none) →
              ∃ n e g', runF P S (execD P S n) f (absL ρ args) g = some (e, g') ∧ ∃ cx' ke M', Sat ρ cx' ∧ absE ρ ke = e ∧ DenM ρ (bareK M') ⟨fun _ => none, g'⟩ ∧ k cx' ke M' = true := by
            intro u uo hu hk hrun
            obtain ⟨m3, st4, cx4, M4, x3, hd4, hnt4, hk⟩ := closeK_sound (S := S) hP hfl hu hd3 hk
            have hk : (fr rg3 M4 fun v => leaveV v M4 fun M => k cx4 (.ret v) M) = true := hk
            obtain ⟨v, er, hk3⟩ := hres cx4 rg3 M4 st4 _ hd4 hk
            obtain ⟨M5, d5, hk4⟩ := leaveV_sound hd4.mem hk3
            have b1 : m1 ≤ max m1 (max m2 m3) := Nat.le_max_left _ _
            have b2 : m2 ≤ max m1 (max m2 m3) := Nat.le_trans (Nat.le_max_left _ _) (Nat.le_max_right _ _)
            have b3 : m3 ≤ max m1 (max m2 m3) := Nat.le_trans (Nat.le_max_right _ _) (Nat.le_max_right _ _)
            refine ⟨max m1 (max m2 m3), .ret (abs ρ v), _, ?_, cx4, .ret v, M5, hd4.sat, rfl, bareK_den d5, hk4⟩
            unfold runF
            rw [hSf]
            have hfq : flatQ (l, t, post) = true := by
              unfold flatDef at n3
              rw [hdf] at n3
              exact (bcond_and n3).1
            simp only [hE, hf, hb, hdf, hfq, Bool.true_eq_false, if_false]
            rw [hrun _ (exL_le b1 x1) (execD_le b2 x2), ← ed, closeD_le b3 x3]
            simp only [er, Option.map_some]
          cases x with
          | normal => exact fin .nili Option.none (by simp only [Option.getD_none, abs]) h (fun n q1 q2 => by simp only [runD, q1, q2]; rfl)
          | ret => exact fin .nili Option.none (by simp only [Option.getD_none, abs]) h (fun n q1 q2 => by simp only [runD, q1, q2]; rfl)
          | exit id => cases h
          | panic v =>
            obtain ⟨kv, hkv, h⟩ := h
            exact fin kv (some v) (by simp only [Option.getD_some, hkv]) h (fun n q1 q2 => by simp only [runD, q1, q2]; rfl)
        | none =>
        obtain ⟨fb, e1, hcode⟩ := cCode_sound (S := S) (ρ := ρ) hn body n2
        obtain ⟨fr, e2, hres⟩ := cRess_sound (P := P) (ρ := ρ) (rd := rd) fn
        have hB : cFnB P rd fn body = .mk rd fb fr := by
          unfold cFnB
          rw [hdf]
          simp only [e1, e2]
        rw [hB] at h
        simp only at h
        rw [lenC_eq] at h
        obtain ⟨c1, h⟩ := bcond_and h
        have c1 : args.length ≤ 8 ^ rd := ble_iff.1 c1
        rw [setCs_eq] at h
        refine ⟨⟨fn, by first | exact hf | rfl, by rw [n1, hb]; rfl⟩, ?_⟩
        have hd0 : Den ρ rd cx (setC rd args 0 (emp undefK rd)) M { regs := fun t => ((absL ρ args)[t]?).getD undefV, nt := fn.ntmps, m := ⟨fun _ => Option.none, g⟩ } := by
          refine ⟨hs, fun t => ?_, hm⟩
          simp only
          by_cases ht : t < 8 ^ rd
          · rw [if_pos ht]
            have hg : getT rd t (setC rd args 0 (emp undefK rd)) = (args[t]?).getD undefK := by
              have key : ∀ (l : List KV) (i j : Nat) (t : Tr KV rd) (d : KV), (∀ j, getT rd j t = d ∨ True) → i + l.length ≤ 8 ^ rd → j < 8 ^ rd → getT rd j (setC rd l i t) = if i ≤ j ∧ j < i + l.length then (l[j - i]?).getD KV.none else getT rd j t := fun l i j t d _ a b => setC_get rd l i j t a b
              rw [key args 0 t _ undefK (fun _ => .inr trivial) (by omega) ht]
              by_cases hlt : t < args.length
              · rw [if_pos (by omega), Nat.sub_zero, List.getElem?_eq_getElem hlt]; rfl
              · rw [if_neg (by omega), getT_emp, List.getElem?_eq_none (by omega)]; rfl
            rw [hg, absL_map, List.getElem?_map]
            cases args[t]? with
            | none => simp [undefK_abs]
            | some v => rfl
          · rw [if_neg ht, absL_map, List.getElem?_eq_none (by rw [List.length_map]; omega)]
            simp [undefK_abs]
        obtain ⟨n, x, st', e3, cx', rg', M', d', hnt', hk'⟩ := hcode fl hfl cx _ M _ _ _ hd0 rfl h
        have fin : x = .normal ∨ x = .ret → (fr rg' M' fun v => leaveV v M' fun M => k cx' (.ret v) M) = true → ∃ n e g', runF P S (execD P S n) f (absL ρ args) g = some (e, g') ∧ ∃ cx' ke M', Sat ρ cx' ∧ absE ρ ke = e ∧ DenM ρ (bareK M') ⟨fun _ => none, g'⟩ ∧ k cx' ke M' = true := by
          intro hx hk2
          obtain ⟨v, er, hk3⟩ := hres cx' rg' M' st' _ d' hk2
          obtain ⟨M2, d2, hk4⟩ := leaveV_sound d'.mem hk3
          refine ⟨n, .ret (abs ρ v), _, ?_, cx', .ret v, M2, d'.sat, rfl, bareK_den d2, hk4⟩
          unfold runF
          rw [hSf]
          simp only [hE, hf, hb, hdf, e3]
          rcases hx with rfl | rfl <;> simp only [er, Option.map_some]
        cases x with
        | normal => exact fin (.inl rfl) hk'
        | ret => exact fin (.inr rfl) hk'
        | exit id => cases hk'
        | panic v =>
          obtain ⟨kv, hv, hk2⟩ := hk'
          have hk2 : leaveV kv M' (fun M => k cx' (.panic kv) M) = true := hk2
          obtain ⟨M2, d2, hk4⟩ := leaveV_sound d'.mem hk2
          refine ⟨n, .panic (abs ρ kv), _, ?_, cx', .panic kv, M2, d'.sat, rfl, bareK_den d2, hk4⟩
          unfold runF
          rw [hSf]
          simp only [hE, hf, hb, hdf, e3, hv]
theorem fuelN_ok (hP : ProgOK P) {SK : FuncId → List KV → Option KV} (hS : SumK P S ρ SK) : ∀ n, FuelOK P S ρ (fuelN P SK n)
  | 0 => trivial
  | n + 1 => ⟨callF_sound hP hS (fuelN_ok hP hS n), fuelN_ok hP hS n⟩
theorem den0 : DenM ρ (.mk .nil (emp (HE.no 0 0) HD) 0 [] 0) ⟨fun _ => Option.none, ⟨fun _ => Option.none, 0, []⟩⟩ := by
  have he : ∀ b, heAt (emp (HE.no 0 0) HD) b = .no 0 0 := fun b => getT_emp _ _ _
  refine { nx := rfl, log := rfl, ln := rfl, ob := fun _ => rfl, obf := trivial, hp := fun b k h => ?_, st := fun b len dep t root bep ep n _ _ h => ?_ }
  · unfold shared at h
    simp only [he] at h
    split at h <;> cases h
  · rw [he] at h; cases h
/-- What the kernel has found to be true, the plain evaluator answers. -/
theorem runK_sound (hP : ProgOK P) {SK : FuncId → List KV → Option KV} (hS : SumK P S ρ SK) {n : Nat} {f : FuncId} {args : List KV} {cx : Cx} (hs : Sat ρ cx) (h : runK P SK n f args cx = true) :
    ∃ m g', runF P S (execD P S m) f (absL ρ args) ⟨fun _ => Option.none, 0, []⟩ = some (.ret (.bool true), g') := by
  unfold runK at h
  obtain ⟨_, m, e, g', hr, cx', ke, M', _, he, _, hk⟩ := callF_sound hP hS (fuelN_ok hP hS n) f args cx _ _ _ hs den0 h
  refine ⟨m, g', ?_⟩
  unfold endK at hk
  split at hk
  · rw [hr, ← he]; simp only [absE, abs]
  · cases hk
end
theorem rangeDraws_ok {P : Program} : ∀ (n i : Nat), rangeDraws P n i = true → ∀ f, i ≤ f → f < i + n → fnDraws P f = true
  | 0, i, _, f, h1, h2 => by omega
  | n + 1, i, h, f, h1, h2 => by
    have h : bcond (fnDraws P i) (rangeDraws P n (i + 1)) false = true := h
    obtain ⟨a, b⟩ := bcond_and h
    by_cases e : f = i
    · subst e; exact a
    · exact rangeDraws_ok n (i + 1) b f (by omega) (by omega)
theorem progOK_of {P : Program} (h : ∀ f, f < P.funcs.size → fnDraws P f = true) (hbk : BackOK P := by exact fun _ _ _ h => by cases h) (heff : EffOK P := by exact fun _ _ h => by cases h) : ProgOK P := by
  refine ⟨?_, hbk, heff⟩
  intro f fn b hf hb
  have hlt : f < P.funcs.size := by
    rcases Nat.lt_or_ge f P.funcs.size with h | h
    · exact h
    · rw [Array.getElem?_eq_none h] at hf; cases hf
  have := h f hlt
  unfold fnDraws at this
  rw [hf] at this
  simp only [hb] at this
  obtain ⟨a, b⟩ := bcond_false_true this
  refine ⟨a, fun hs => ?_⟩
  rw [hs, Sx.bcond_false] at b
  exact bcond_and b
end
end Go.Sx

/- From the kernel's word to a call of the model. -/
namespace Go.Sx
open Go.RowKit

theorem hrel0 (hg : ∀ g, globIs g = false) (w : World) (B : Nat) : HRel B noMap (bare ⟨fun _ => Option.none, 0, []⟩) w :=
  { dom := fun b c p n h => (by cases h), hp := fun b blk h => (by cases h), ob := fun b cs h => (by cases h), dj := fun b blk b' blk' c p n p' n' h => (by cases h), oo := fun b cs b' cs' c p n p' n' h => (by cases h), oh := fun b cs b' blk c p n p' n' h => (by cases h), gl := fun g h => by rw [hg g] at h; cases h }
theorem Step.quiet {μ' : Map} {g' : G} {w w' : World} (h : Step Option.none noMap (bare ⟨fun _ => Option.none, 0, []⟩) w μ' (bare g') w') : Quiet w w' := by
  refine { os := h.os, tape := h.tape, output := h.output, size := h.size, fz := h.fz, heap := fun c hc => ?_ }
  obtain ⟨l, _, f⟩ := h.upd
  exact f c hc (fun b blk p n hb => by cases hb) (fun b cs p n hb => by cases hb)
theorem Quiet.grown {w w' : World} (q : Quiet w w') (hz : looseFz = false := by rfl) : Grown w w' := by
  refine ⟨⟨q.os, q.output, fun i hi => ?_⟩, fun a => q.fz a (fun h => by rw [hz] at h; cases h), q.size⟩
  rw [q.heap i hi]
  cases w.heap[i]? with
  | none => rfl
  | some x => cases x <;> simp
theorem Quiet.refl (w : World) : Quiet w w := { os := rfl, tape := rfl, output := rfl, size := Nat.le_refl _, fz := fun _ _ => rfl, heap := fun _ _ => rfl }

section
variable {P : Program} {S : FuncId → List V → Option V}
theorem run_calls (hbk : BackOK P) (heff : EffOK P) (hg : ∀ g, globIs g = false) (hS : SumOK P S) (hm : P.follows .mixedOrders = true) {n : Nat} {f : FuncId} {args : List V} {g' : G} {b : Bool} (h : runF P S (execD P S n) f args ⟨fun _ => Option.none, 0, []⟩ = some (.ret (.bool b), g'))
    {args' : List Value} (hargs : VRels noMap args args') (w : World) (hlow : LowOK w.heap.size w) : Calls P f args'.toArray w fun e w' => e = .returned (.bool b) ∧ Quiet w w' := by
  obtain ⟨_, _, hf⟩ := exec_sound hbk heff hS hm n
  refine (hf f args _ _ _ h w.heap.size noMap w args' (hrel0 hg w _) (Nat.le_refl _) hlow hargs).mono fun e w' he => ?_
  obtain ⟨μ', _, hs, v', rfl, hv⟩ := he
  cases hv
  exact ⟨rfl, hs.quiet⟩
/-- No summaries. -/
def noS : FuncId → List V → Option V := fun _ _ => Option.none
theorem noS_ok : SumOK P noS := fun f args v h => by cases h
/-- One function without arguments, that answers true. -/
noncomputable def oneS (f0 : FuncId) : FuncId → List V → Option V := fun f args => bcond (Nat.beq f f0) (match args with | [] => some (.bool true) | _ => Option.none) Option.none
theorem oneS_ok {f0 : FuncId} (h : ∀ w : World, Calls P f0 #[] w fun e w' => e = .returned (.bool true) ∧ Quiet w w') : SumOK P (oneS f0) := by
  intro f args v hs μ w args' hargs
  unfold oneS at hs
  cases hb : Nat.beq f f0 with
  | false => rw [hb] at hs; cases hs
  | true =>
    rw [hb] at hs
    have := Nat.eq_of_beq_eq_true hb
    subst this
    cases args with
    | cons a l => cases hs
    | nil =>
      simp only [bcond_true, Option.some.injEq] at hs
      subst hs
      cases hargs
      exact (h w).mono fun e w' he => ⟨.bool true, he.1, .bool true, he.2⟩
noncomputable section
def noK : FuncId → List KV → Option KV := fun _ _ => Option.none
def oneK1 (f0 : FuncId) : FuncId → List KV → Option KV := fun f args => Bool.rec Option.none (List.rec (some (.bool true)) (fun _ _ _ => Option.none) args) (Nat.beq f f0)
theorem noK_ok (ρ : Nat → Int) : SumK P noS ρ noK := fun f args => rfl
theorem oneK_ok {f0 : FuncId} (ρ : Nat → Int) (h : ∃ fn b, P.funcs[f0]? = some fn ∧ fn.body = some b) : SumK P (oneS f0) ρ (oneK1 f0) := by
  intro f args
  unfold oneK1 oneS
  cases hb : Nat.beq f f0 with
  | false => rfl
  | true =>
    have := Nat.eq_of_beq_eq_true hb
    subst this
    cases args with
    | nil => exact .inr ⟨fun _ => by simp [absL, valK, abs], h⟩
    | cons a l => simp only [absL]; rfl
/-- What the kernel finds to be true of a function, at numbers that hang on variables, holds of its calls. -/
theorem calls_of_run (hg : ∀ g, globIs g = false) (hP : ProgOK P) (hm : P.follows .mixedOrders = true) (hS : SumOK P S) {SK : FuncId → List KV → Option KV} {ρ : Nat → Int} (hK : SumK P S ρ SK) {n : Nat} {f : FuncId} {args : List KV} {cx : Cx} (hs : Sat ρ cx)
    (h : runK P SK n f args cx = true) {args' : List Value} (hargs : VRels noMap (absL ρ args) args') (w : World) (hlow : LowOK w.heap.size w := by exact fun _ h => by cases h) : Calls P f args'.toArray w fun e w' => e = .returned (.bool true) ∧ Quiet w w' := by
  obtain ⟨m, g', e⟩ := runK_sound hP hK hs h
  exact run_calls hP.back hP.eff hg hS hm e hargs w hlow
end
end
end Go.Sx

/- The last step: a call at numbers, out of a run of the kernel. -/
namespace Go.Sx
open Go.RowKit
noncomputable section

/-- The variables' values, as a list. -/
def rho (xs : List Int) : Nat → Int := fun i => (xs[i]?).getD 0
def boxAll : List Int → List (Int × Int) → Prop
  | _, [] => True
  | [], b :: bs => (b.1 ≤ 0 ∧ 0 ≤ b.2) ∧ boxAll [] bs
  | x :: xs, b :: bs => (b.1 ≤ x ∧ x ≤ b.2) ∧ boxAll xs bs
theorem boxAll_ok : ∀ {xs : List Int} {bs : List (Int × Int)}, boxAll xs bs → boxOk (rho xs) bs
  | _, [], _, v, b, h => by simp at h
  | [], b :: bs, h, 0, b', e => by simp at e; subst e; exact h.1
  | [], b :: bs, h, v + 1, b', e => by
    have := boxAll_ok h.2 v b' (by simpa using e)
    simpa [rho] using this
  | x :: xs, b :: bs, h, 0, b', e => by simp at e; subst e; simpa [rho] using h.1
  | x :: xs, b :: bs, h, v + 1, b', e => by
    have := boxAll_ok h.2 v b' (by simpa using e)
    simpa [rho] using this
def csAll (xs : List Int) : List Con → Prop
  | [] => True
  | c :: cs => c.1 + evT (rho xs) c.2 ≤ 0 ∧ csAll xs cs
theorem csAll_ok {xs : List Int} : ∀ {cs : List Con}, csAll xs cs → ∀ c ∈ cs, Con.ok (rho xs) c
  | c :: cs, h, d, hd => by
    rcases List.mem_cons.1 hd with e | e
    · subst e; exact h.1
    · exact csAll_ok h.2 d e
def dfAll (xs : List Int) : List Df → Prop
  | [] => True
  | d :: l => dfV d.n d.k (d.x.ev (rho xs)) (d.y.ev (rho xs)) = some (rho xs d.z) ∧ dfAll xs l
theorem dfAll_ok {xs : List Int} : ∀ {l : List Df}, dfAll xs l → ∀ d ∈ l, Df.ok (rho xs) d
  | e :: l, h, d, hd => by
    rcases List.mem_cons.1 hd with q | q
    · subst q; exact h.1
    · exact dfAll_ok h.2 d q
/-- No variable is a text's rank. -/
def noSv (box : List (Int × Int)) : Bool := List.rec true (fun b _ ih => Bool.rec ih false (decide (b.1 = svLo))) box
theorem noSv_ok : ∀ {box : List (Int × Int)}, noSv box = true → ∀ (v : Nat) (a : Int × Int), box[v]? = some a → a.1 ≠ svLo
  | [], _, v, a, h => by simp at h
  | b :: box, hn, v, a, h => by
    change (Bool.rec (noSv box) false (decide (b.1 = svLo)) : Bool) = true at hn
    by_cases hb : b.1 = svLo
    · rw [decide_eq_true hb] at hn; cases hn
    · rw [decide_eq_false hb] at hn
      cases v with
      | zero => simp at h; subst h; exact hb
      | succ v => exact noSv_ok (box := box) hn v a (by simpa using h)
theorem svOk_no {ρ : Nat → Int} {box : List (Int × Int)} (h : noSv box = true) : SvOk ρ box := fun v w a b e1 _ l1 _ => absurd l1 (noSv_ok h v a e1)
theorem sat_of {xs : List Int} {cx : Cx} (h1 : boxAll xs cx.box) (h2 : csAll xs cx.cs) (h3 : noSv cx.box = true) (h4 : dfAll xs cx.df) : Sat (rho xs) cx := ⟨boxAll_ok h1, csAll_ok h2, svOk_no h3, dfAll_ok h4⟩
theorem args_nil {μ : Map} {ρ : Nat → Int} : VRels μ (absL ρ []) [] := by simp only [absL]; exact .nil
theorem args_cons {μ : Map} {ρ : Nat → Int} {v : KV} {l : List KV} {a : Value} {l' : List Value} (h : VRel μ (abs ρ v) a) (t : VRels μ (absL ρ l) l') : VRels μ (absL ρ (v :: l)) (a :: l') := by simp only [absL]; exact .cons _ _ _ _ h t
theorem rel_int {μ : Map} {ρ : Nat → Int} {k : IntKind} {x : KI} {a : Int} (h : x.ev ρ = a) : VRel μ (abs ρ (.int k x)) (.int k a) := by simp only [abs, h]; exact .int k a
theorem rel_agg {μ : Map} {ρ : Nat → Int} {l : List KV} {l' : List Value} (h : VRels μ (absL ρ l) l') : VRel μ (abs ρ (.agg l)) (.agg l'.toArray) := by simp only [abs]; exact .agg _ _ h
theorem rel_bool {μ : Map} {ρ : Nat → Int} {b : Bool} : VRel μ (abs ρ (.bool b)) (.bool b) := by simp only [abs]; exact .bool b

section
variable {P : Program}
/-- A function without arguments, run once. -/
theorem calls_closed (hP : ProgOK P) (hm : P.follows .mixedOrders = true) {n : Nat} {f : FuncId} (h : runK P noK n f [] ⟨[], [], []⟩ = true) (w : World) (hlow : LowOK w.heap.size w := by exact fun _ h => by cases h) (hg : ∀ g, globIs g = false := by exact fun _ => rfl) : Calls P f #[] w fun e w' => e = .returned (.bool true) ∧ Quiet w w' :=
  calls_of_run hg hP hm noS_ok (noK_ok (rho [])) (sat_of (xs := []) (cx := ⟨[], [], []⟩) trivial trivial rfl trivial) h args_nil w hlow
/-- A run at numbers, nothing summed up. -/
theorem calls_num (hP : ProgOK P) (hm : P.follows .mixedOrders = true) {n : Nat} {f : FuncId} {args : List KV} {cx : Cx} {xs : List Int} (h : runK P noK n f args cx = true) (h1 : boxAll xs cx.box) (h2 : csAll xs cx.cs) {args' : List Value} (hargs : VRels noMap (absL (rho xs) args) args') (w : World) (hlow : LowOK w.heap.size w) (h3 : noSv cx.box = true := by rfl) (h4 : dfAll xs cx.df := by exact trivial) (hg : ∀ g, globIs g = false := by exact fun _ => rfl) :
    Calls P f args'.toArray w fun e w' => e = .returned (.bool true) ∧ Grown w w' :=
  (calls_of_run hg hP hm noS_ok (noK_ok (rho xs)) (sat_of h1 h2 h3 h4) h hargs w hlow).mono fun e w' q => ⟨q.1, q.2.grown⟩
/-- A run with one function summed up. -/
theorem calls_fin (hP : ProgOK P) (hm : P.follows .mixedOrders = true) {f0 : FuncId} (h0 : ∀ w : World, Calls P f0 #[] w fun e w' => e = .returned (.bool true) ∧ Quiet w w') (hf : ∃ fn b, P.funcs[f0]? = some fn ∧ fn.body = some b)
    {n : Nat} {f : FuncId} {args : List KV} {cx : Cx} {xs : List Int} (h : runK P (oneK1 f0) n f args cx = true) (h1 : boxAll xs cx.box) (h2 : csAll xs cx.cs) {args' : List Value} (hargs : VRels noMap (absL (rho xs) args) args') (w : World) (hlow : LowOK w.heap.size w := by exact fun _ h => by cases h) (h3 : noSv cx.box = true := by rfl) (h4 : dfAll xs cx.df := by exact trivial) (hg : ∀ g, globIs g = false := by exact fun _ => rfl) :
    Calls P f args'.toArray w fun e w' => e = .returned (.bool true) ∧ Grown w w' :=
  (calls_of_run hg hP hm (oneS_ok h0) (oneK_ok (rho xs) hf) (sat_of h1 h2 h3 h4) h hargs w hlow).mono fun e w' q => ⟨q.1, q.2.grown⟩
end
end
end Go.Sx

/- A call at texts that are not known, out of a run of the kernel. -/
namespace Go.Sx
open Go.RowKit
noncomputable section

theorem less_cons (x y : UInt8) (a b : List UInt8) : Op.bytesLess (x :: a) (y :: b) = true ↔ x.toNat < y.toNat ∨ (x.toNat = y.toNat ∧ Op.bytesLess a b = true) := by
  simp only [Op.bytesLess, Bool.or_eq_true, Bool.and_eq_true, decide_eq_true_eq, beq_iff_eq, UInt8.lt_iff_toNat_lt, UInt8.toNat_inj]
theorem less_irr : ∀ a : List UInt8, Op.bytesLess a a = false
  | [] => rfl
  | x :: a => by
    have := less_irr a
    cases h : Op.bytesLess (x :: a) (x :: a) with
    | false => rfl
    | true => rcases (less_cons _ _ _ _).1 h with h | ⟨_, h⟩; omega; rw [this] at h; cases h
theorem less_tri : ∀ a b : List UInt8, Op.bytesLess a b = true ∨ a = b ∨ Op.bytesLess b a = true
  | [], [] => .inr (.inl rfl)
  | [], _ :: _ => .inl rfl
  | _ :: _, [] => .inr (.inr rfl)
  | x :: a, y :: b => by
    rw [less_cons, less_cons]
    by_cases h1 : x.toNat < y.toNat
    · exact .inl (.inl h1)
    · by_cases h2 : y.toNat < x.toNat
      · exact .inr (.inr (.inl h2))
      · have : x = y := UInt8.toNat_inj.1 (by omega)
        subst this
        rcases less_tri a b with h | h | h
        · exact .inl (.inr ⟨rfl, h⟩)
        · exact .inr (.inl (by rw [h]))
        · exact .inr (.inr (.inr ⟨rfl, h⟩))
theorem less_trans : ∀ a b c : List UInt8, Op.bytesLess a b = true → Op.bytesLess b c = true → Op.bytesLess a c = true
  | [], [], _, h, _ => by cases h
  | _ :: _, [], _, h, _ => by cases h
  | _, _ :: _, [], _, h => by cases h
  | [], _ :: _, _ :: _, _, _ => rfl
  | x :: a, y :: b, z :: c, h, k => by
    rw [less_cons] at h k ⊢
    rcases h with h | ⟨e, h⟩ <;> rcases k with k | ⟨f, k⟩
    · exact .inl (by omega)
    · exact .inl (by omega)
    · exact .inl (by omega)
    · exact .inr ⟨by omega, less_trans a b c h k⟩
/-- A text's rank among some. -/
def rankS : List (List UInt8) → List UInt8 → Nat
  | [], _ => 0
  | x :: l, s => (Op.bytesLess x s).toNat + rankS l s
theorem rank_le (l : List (List UInt8)) (s t : List UInt8) (h : Op.bytesLess s t = true) : rankS l s ≤ rankS l t := by
  induction l with
  | nil => exact Nat.le_refl _
  | cons x l ih =>
    simp only [rankS]
    cases hx : Op.bytesLess x s with
    | false => simp; omega
    | true => rw [less_trans x s t hx h]; omega
theorem rank_lt {l : List (List UInt8)} {s t : List UInt8} (hs : s ∈ l) (h : Op.bytesLess s t = true) : rankS l s < rankS l t := by
  induction l with
  | nil => cases hs
  | cons x l ih =>
    simp only [rankS]
    rcases List.mem_cons.1 hs with e | e
    · subst e
      rw [less_irr, h]
      have := rank_le l s t h
      simp; omega
    · have := ih e
      cases hx : Op.bytesLess x s with
      | false => simp; omega
      | true => rw [less_trans x s t hx h]; omega
theorem rank_top (l : List (List UInt8)) (s : List UInt8) : rankS l s ≤ l.length := by
  induction l with
  | nil => exact Nat.le_refl _
  | cons x l ih => simp only [rankS, List.length_cons]; cases Op.bytesLess x s <;> simp <;> omega
theorem rank_ok {l : List (List UInt8)} {s t : List UInt8} (hs : s ∈ l) (ht : t ∈ l) :
    Op.bytesLess s t = decide ((rankS l s : Int) < rankS l t) ∧ (s == t) = decide ((rankS l s : Int) = rankS l t) := by
  rcases less_tri s t with h | h | h
  · have := rank_lt hs h
    refine ⟨by rw [h]; exact (decide_eq_true (by omega)).symm, ?_⟩
    rw [decide_eq_false (by omega)]
    have : s ≠ t := by rintro rfl; rw [less_irr] at h; cases h
    simpa using this
  · subst h
    rw [less_irr]
    simp
  · have := rank_lt ht h
    refine ⟨?_, ?_⟩
    · rw [decide_eq_false (by omega)]
      cases hst : Op.bytesLess s t with
      | false => rfl
      | true => have := rank_lt hs hst; omega
    · rw [decide_eq_false (by omega)]
      have : s ≠ t := by rintro rfl; rw [less_irr] at h; cases h
      simpa using this

/-- The variables' values: the texts' ranks, then numbers; the texts' codes. -/
def rhoT (ss : List (List UInt8)) (xs : List Int) : Nat → Int := fun i => if svBase ≤ i then encS ((ss[i - svBase]?).getD []) else ((ss.map fun s => (rankS ss s : Int)) ++ xs)[i]?.getD 0
def boxT (ss : List (List UInt8)) (bs : List (Int × Int)) : List (Int × Int) := (ss.map fun _ => (svLo, (1000 : Int))) ++ bs
theorem svS_rhoT (ss : List (List UInt8)) (xs : List Int) (v : Nat) : svS (rhoT ss xs) v = (ss[v]?).getD [] := by
  unfold svS
  have e : rhoT ss xs (svBase + v) = encS ((ss[v]?).getD []) := by
    unfold rhoT
    rw [if_pos (by omega), show svBase + v - svBase = v by omega]
  rw [e, Int.toNat_natCast]
  exact decS_enc _ _ (Nat.le_refl _)
theorem sat_ofT {ss : List (List UInt8)} {xs : List Int} {bs : List (Int × Int)} {cs : List Con} (hl : ss.length + bs.length < svBase) (hn : ss.length ≤ 1000) (h1 : boxAll xs bs) (h2 : ∀ c ∈ cs, Con.ok (rhoT ss xs) c) (h3 : noSv bs = true) : Sat (rhoT ss xs) ⟨boxT ss bs, cs, []⟩ := by
  have hr : ∀ v, v < ss.length → rhoT ss xs v = rankS ss ((ss[v]?).getD []) := by
    intro v hv
    unfold rhoT
    rw [if_neg (by omega), List.getElem?_append_left (by simpa using hv)]
    simp [hv]
  have hx : ∀ v, v < bs.length → rhoT ss xs (ss.length + v) = rho xs v := by
    intro v hv
    unfold rhoT rho
    rw [if_neg (by omega), List.getElem?_append_right (by simp)]
    simp
  have low : ∀ v a, (boxT ss bs)[v]? = some a → a.1 = svLo → v < ss.length := by
    intro v a e l
    by_cases hv : v < ss.length
    · exact hv
    · exfalso
      unfold boxT at e
      rw [List.getElem?_append_right (by simpa using hv)] at e
      exact noSv_ok h3 _ _ e l
  refine ⟨?_, h2, ?_, fun d hd => by cases hd⟩
  · intro v b e
    simp only [boxT] at e
    by_cases hv : v < ss.length
    · rw [List.getElem?_append_left (by simpa using hv)] at e
      simp [hv] at e
      subst e
      rw [hr v hv]
      have := rank_top ss ((ss[v]?).getD [])
      simp only [svLo]
      omega
    · rw [List.getElem?_append_right (by simpa using hv)] at e
      have hlt : v - ss.length < bs.length := by
        have := List.getElem?_eq_some_iff.1 e
        obtain ⟨h, _⟩ := this
        simpa using h
      have := boxAll_ok h1 (v - ss.length) b (by simpa using e)
      rw [← hx _ hlt, show ss.length + (v - ss.length) = v by omega] at this
      exact this
  · intro v w a b e1 e2 l1 l2
    have hv := low v a e1 l1
    have hw := low w b e2 l2
    rw [svS_rhoT, svS_rhoT, hr v hv, hr w hw]
    have m : ∀ u, u < ss.length → (ss[u]?).getD [] ∈ ss := fun u hu => by simp [hu]
    exact rank_ok (m v hv) (m w hw)
theorem rel_str {μ : Map} {ρ : Nat → Int} {v : Nat} {s : ByteArray} (h : svS ρ v = s.data.toList) : VRel μ (abs ρ (.sv v)) (.string s) := by
  simp only [abs, h]
  have := VRel.str (μ := μ) s.data.toList
  simpa using this

section
variable {P : Program}
theorem calls_finT (hP : ProgOK P) (hm : P.follows .mixedOrders = true) {f0 : FuncId} (h0 : ∀ w : World, Calls P f0 #[] w fun e w' => e = .returned (.bool true) ∧ Quiet w w') (hf : ∃ fn b, P.funcs[f0]? = some fn ∧ fn.body = some b)
    {n : Nat} {f : FuncId} {args : List KV} {ss : List (List UInt8)} {xs : List Int} {bs : List (Int × Int)} (h : runK P (oneK1 f0) n f args ⟨boxT ss bs, [], []⟩ = true) (hl : ss.length + bs.length < svBase) (hn : ss.length ≤ 1000) (h1 : boxAll xs bs) (h3 : noSv bs = true)
    {args' : List Value} (hargs : VRels noMap (absL (rhoT ss xs) args) args') (w : World) (hlow : LowOK w.heap.size w := by exact fun _ h => by cases h) (hg : ∀ g, globIs g = false := by exact fun _ => rfl) :
    Calls P f args'.toArray w fun e w' => e = .returned (.bool true) ∧ Grown w w' :=
  (calls_of_run hg hP hm (oneS_ok h0) (oneK_ok (rhoT ss xs) hf) (sat_ofT hl hn h1 (fun c hc => by cases hc) h3) h hargs w hlow).mono fun e w' q => ⟨q.1, q.2.grown⟩
end
end
end Go.Sx

/- A call that reads package variables, out of a run of the kernel. -/
namespace Go.Sx
open Go.RowKit
noncomputable section

/-- What is known of package variables: numbers, and cells. -/
abbrev GC := List (Nat × List KV)
def gcAt (l : GC) (b : Nat) : Option (List KV) := List.rec none (fun x _ ih => bcond (Nat.beq x.1 b) (some x.2) ih) l
/-- A world has them so. -/
def GlobIn (ρ : Nat → Int) (l : GC) (w : World) : Prop := ∀ b cs, gcAt l b = some cs → ∃ (arr : Array Value) (e : TypeId), w.heap[b]? = some (.cells arr e (0, 0)) ∧ cs.length ≤ arr.size ∧
  ∀ (i : Nat) (v : V), (absL ρ cs)[i]? = some v → ∃ v' : Value, arr[i]? = some v' ∧ VRel noMap v v'
def mapG (l : GC) (w : World) : Map := fun b => match gcAt l b, w.heap[b]? with
  | some _, some (.cells arr _ _) => some (b, 0, arr.size)
  | _, _ => none
def memG (ρ : Nat → Int) (l : GC) (nx : Nat) : G := ⟨fun b => (gcAt l b).map fun cs => ⟨absL ρ cs, b⟩, nx, []⟩

theorem mapG_some {l : GC} {w : World} {b c p n : Nat} (h : mapG l w b = some (c, p, n)) : c = b ∧ p = 0 ∧ (gcAt l b).isSome = true ∧ c < w.heap.size := by
  unfold mapG at h
  split at h
  · rename_i cs arr e f h1 h2
    simp only [Option.some.injEq, Prod.mk.injEq] at h
    obtain ⟨rfl, rfl, rfl⟩ := h
    refine ⟨rfl, rfl, by rw [h1]; rfl, ?_⟩
    obtain ⟨hlt, _⟩ := Array.getElem?_eq_some_iff.1 h2
    exact hlt
  · cases h
theorem hrelG {ρ : Nat → Int} {l : GC} {nx : Nat} {w : World} (hin : GlobIn ρ l w) (hgl : ∀ g, globIs g = true → (gcAt l g).isSome = true) (hnx : ∀ b, (gcAt l b).isSome = true → b < nx) : HRel 0 (mapG l w) (bare (memG ρ l nx)) w := by
  refine { dom := fun b c p n h => ?_, hp := fun b blk h => ?_, ob := fun b cs h => (by cases h), dj := fun b blk b' blk' c p n p' n' h h' hm hm' => ?_, oo := fun b cs b' cs' c p n p' n' h => (by cases h), oh := fun b cs b' blk c p n p' n' h => (by cases h), gl := fun g h => ?_ }
  · obtain ⟨e1, e2, e3, e4⟩ := mapG_some h
    exact ⟨hnx b e3, Nat.zero_le _, e4⟩
  · simp only [bare, memG, Option.map_eq_some_iff] at h
    obtain ⟨cs, h1, rfl⟩ := h
    obtain ⟨arr, e, h2, h3, h4⟩ := hin b cs h1
    refine ⟨b, 0, arr.size, arr, e, by simp only [mapG, h1, h2], h2, by omega, by simpa [absL_map] using h3, fun i v hi => ?_⟩
    obtain ⟨v', h5, h6⟩ := h4 i v hi
    exact ⟨v', by rw [Nat.zero_add]; exact h5, h6.mono (fun b x h => by cases h)⟩
  · simp only [bare, memG, Option.map_eq_some_iff] at h h'
    obtain ⟨cs, _, rfl⟩ := h
    obtain ⟨cs', _, rfl⟩ := h'
    obtain ⟨e1, e2, _⟩ := mapG_some hm
    obtain ⟨f1, f2, _⟩ := mapG_some hm'
    exact ⟨e1.symm.trans f1, e2.trans f2.symm⟩
  · obtain ⟨cs, h1⟩ := Option.isSome_iff_exists.1 (hgl g h)
    obtain ⟨arr, e, h2, _⟩ := hin g cs h1
    exact ⟨arr.size, by simp only [mapG, h1, h2]⟩
theorem Step.quietG {ρ : Nat → Int} {l : GC} {nx : Nat} {μ' : Map} {g' : G} {w w' : World} (h : Step Option.none (mapG l w) (bare (memG ρ l nx)) w μ' (bare g') w') (hlog : ∀ r ∈ g'.log, nx ≤ r) (hnx : ∀ b, (gcAt l b).isSome = true → b < nx) : Quiet w w' := by
  refine { os := h.os, tape := h.tape, output := h.output, size := h.size, fz := h.fz, heap := fun c hc => ?_ }
  obtain ⟨lg, e, f⟩ := h.upd
  refine f c hc (fun b blk p n hb hm hr => ?_) (fun b cs p n hb => by cases hb)
  simp only [bare, memG, Option.map_eq_some_iff] at hb
  obtain ⟨cs, h1, rfl⟩ := hb
  have h2 := hnx b (by rw [h1]; rfl)
  have h3 := hlog b (by
    have : g'.log = lg ++ [] := e
    rw [this, List.append_nil]; exact hr)
  omega

/-! The kernel's side. -/
def blkG (b : Nat) (cs : List KV) : HE := .blk cs.length (dep8 cs.length) (setC (dep8 cs.length) cs 0 (emp KV.none _)) b 0 0 cs.length
def htG (l : GC) : HT := List.rec (emp (HE.no 0 0) HD) (fun x _ ih => putT HD x.1 (blkG x.1 x.2) ih) l
theorem htG_at : ∀ {l : GC}, (∀ b, (gcAt l b).isSome = true → b < HN) → (∀ x ∈ l, x.1 < HN) → ∀ b, b < HN → heAt (htG l) b = match gcAt l b with | some cs => blkG b cs | none => .no 0 0
  | [], _, _, b, _ => getT_emp _ _ _
  | x :: l, h, h2, b, hb => by
    have hx : x.1 < 8 ^ HD := Nat.lt_of_lt_of_le (h2 x (List.mem_cons_self ..)) (by decide)
    have hb' : b < 8 ^ HD := Nat.lt_of_lt_of_le hb (by decide)
    have e : heAt (htG (x :: l)) b = if b = x.1 then blkG x.1 x.2 else heAt (htG l) b := getT_putT HD x.1 b _ _ hx hb'
    rw [e]
    have e2 : gcAt (x :: l) b = bcond (Nat.beq x.1 b) (some x.2) (gcAt l b) := rfl
    by_cases hbx : b = x.1
    · subst hbx
      rw [if_pos rfl, e2, Nat.beq_refl]; rfl
    · rw [if_neg hbx, e2]
      have : Nat.beq x.1 b = false := by
        cases hq : Nat.beq x.1 b with
        | false => rfl
        | true => exact absurd (Nat.eq_of_beq_eq_true hq).symm hbx
      rw [this]
      refine htG_at (l := l) (fun c hc => ?_) (fun y hy => h2 y (List.mem_cons_of_mem _ hy)) b hb
      by_cases hcx : c = x.1
      · rw [hcx]; exact h2 x (List.mem_cons_self ..)
      · refine h c ?_
        have e3 : gcAt (x :: l) c = bcond (Nat.beq x.1 c) (some x.2) (gcAt l c) := rfl
        have : Nat.beq x.1 c = false := by
          cases hq : Nat.beq x.1 c with
          | false => rfl
          | true => exact absurd (Nat.eq_of_beq_eq_true hq).symm hcx
        rw [e3, this]; exact hc
/-- All numbers are below. -/
def belowG (nx : Nat) (l : GC) : Bool := List.rec true (fun x _ ih => Bool.rec false ih (Nat.blt x.1 nx)) l
theorem belowG_ok {nx : Nat} : ∀ {l : GC}, belowG nx l = true → ∀ x ∈ l, x.1 < nx
  | x :: l, h, y, hy => by
    change (Bool.rec false (belowG nx l) (Nat.blt x.1 nx) : Bool) = true at h
    cases hb : Nat.blt x.1 nx with
    | false => rw [hb] at h; cases h
    | true =>
      rw [hb] at h
      rcases List.mem_cons.1 hy with e | e
      · rw [e]; exact blt_iff.1 hb
      · exact belowG_ok h y e
theorem gcAt_mem : ∀ {l : GC} {b : Nat}, (gcAt l b).isSome = true → ∃ x ∈ l, x.1 = b
  | x :: l, b, h => by
    have e2 : gcAt (x :: l) b = bcond (Nat.beq x.1 b) (some x.2) (gcAt l b) := rfl
    cases hq : Nat.beq x.1 b with
    | true => exact ⟨x, List.mem_cons_self .., Nat.eq_of_beq_eq_true hq⟩
    | false =>
      rw [e2, hq] at h
      obtain ⟨y, hy, e⟩ := gcAt_mem h
      exact ⟨y, List.mem_cons_of_mem _ hy, e⟩
def logOk (nx : Nat) (log : List Nat) : Bool := List.rec true (fun x _ ih => Bool.rec false ih (Nat.ble nx x)) log
theorem logOk_ok {nx : Nat} : ∀ {l : List Nat}, logOk nx l = true → ∀ x ∈ l, nx ≤ x
  | x :: l, h, y, hy => by
    change (Bool.rec false (logOk nx l) (Nat.ble nx x) : Bool) = true at h
    cases hb : Nat.ble nx x with
    | false => rw [hb] at h; cases h
    | true =>
      rw [hb] at h
      rcases List.mem_cons.1 hy with e | e
      · rw [e]; exact ble_iff.1 hb
      · exact logOk_ok h y e
def endG (nx : Nat) : Cx → KE → KM → Bool := fun _ e M => match e with
  | .ret (.bool true) => KM.casesOn M fun _ _ _ log _ => logOk nx log
  | _ => false
def runG (P : Program) (S : FuncId → List KV → Option KV) (n : Nat) (f : FuncId) (args : List KV) (cx : Cx) (l : GC) (nx : Nat) : Bool := callF P S (fuelN P S n) f args cx (.mk .nil (htG l) nx [] 0) (endG nx)
theorem denG {ρ : Nat → Int} {l : GC} {nx : Nat} (hb : ∀ x ∈ l, x.1 < HN) : DenM ρ (.mk .nil (htG l) nx [] 0) ⟨fun _ => Option.none, memG ρ l nx⟩ := by
  have hall : ∀ b, (gcAt l b).isSome = true → b < HN := fun b h => by obtain ⟨x, hx, e⟩ := gcAt_mem h; exact e ▸ hb x hx
  refine { nx := rfl, log := rfl, ln := rfl, ob := fun _ => rfl, obf := trivial, hp := fun b k h => ?_, st := fun b len dep t root bep ep n hb1 hr h => ?_ }
  · change shared (htG l) b = some k at h
    unfold shared at h
    split at h
    · rename_i hlt
      rw [htG_at hall hb b hlt] at h
      cases hc : gcAt l b with
      | none => rw [hc] at h; cases h
      | some cs =>
        rw [hc] at h
        simp only [blkG] at h
        split at h
        · cases h
          refine ⟨dep8_fits _, ?_, ⟨absL ρ cs, b⟩, by simp only [memG, hc, Option.map_some], rfl, ?_⟩
          · show cs.length ≤ (heAt (htG l) b).mx
            rw [htG_at hall hb b hlt, hc]
            exact Nat.le_refl _
          · show absL ρ cs = absL ρ (cellsAt cs.length _ _)
            rw [cells_mk (dep8_fits _)]
        · cases h
    · cases h
  · have e : heAt (htG l) b = .blk len dep t root bep ep n := h
    rw [htG_at hall hb b hb1] at e
    cases hc : gcAt l b with
    | none => rw [hc] at e; cases e
    | some cs => rw [hc] at e; cases e; exact Nat.zero_le _

section
variable {P : Program} {S : FuncId → List V → Option V}
theorem calls_of_runG (hP : ProgOK P) (hm : P.follows .mixedOrders = true) (hS : SumOK P S) {SK : FuncId → List KV → Option KV} {ρ : Nat → Int} (hK : SumK P S ρ SK) {n : Nat} {f : FuncId} {args : List KV} {cx : Cx} {l : GC} {nx : Nat} (hs : Sat ρ cx)
    (hl : belowG nx l = true) (hx : nx ≤ HN) (hgl : ∀ g, globIs g = true → (gcAt l g).isSome = true) (h : runG P SK n f args cx l nx = true) {args' : List Value} (hargs : VRels noMap (absL ρ args) args') (w : World) (hin : GlobIn ρ l w) (hlow : LowOK 0 w := by exact fun _ h => by cases h) :
    Calls P f args'.toArray w fun e w' => e = .returned (.bool true) ∧ Quiet w w' := by
  have hb := belowG_ok hl
  have hnx : ∀ b, (gcAt l b).isSome = true → b < nx := fun b h => by obtain ⟨x, hx, e⟩ := gcAt_mem h; exact e ▸ hb x hx
  unfold runG at h
  obtain ⟨_, m, e, g', hr, cx', ke, M', _, he, hd, hk⟩ := callF_sound hP hK (fuelN_ok hP hK n) f args cx _ _ _ hs (denG (fun x hx' => Nat.lt_of_lt_of_le (hb x hx') hx)) h
  unfold endG at hk
  split at hk
  · rw [← he] at hr
    have hlog : ∀ r ∈ g'.log, nx ≤ r := by
      have := hd.log
      obtain ⟨ob, ht, nx', log, ln⟩ := M'
      have e : log = g'.log := this
      rw [← e]
      exact logOk_ok hk
    obtain ⟨_, _, hf⟩ := exec_sound hP.back hP.eff hS hm m
    refine (hf f (absL ρ args) _ _ _ hr 0 (mapG l w) w args' (hrelG hin hgl hnx) (Nat.zero_le _) hlow (hargs.mono (fun b x h => by cases h))).mono fun e w' he => ?_
    obtain ⟨μ', _, hs, v', rfl, hv⟩ := he
    simp only [abs] at hv
    cases hv
    exact ⟨rfl, hs.quietG hlog hnx⟩
  · cases hk
theorem calls_finG (hP : ProgOK P) (hm : P.follows .mixedOrders = true) {n : Nat} {f : FuncId} {args : List KV} {cx : Cx} {xs : List Int} {l : GC} {nx : Nat} (h : runG P noK n f args cx l nx = true) (h1 : boxAll xs cx.box) (h2 : csAll xs cx.cs)
    {args' : List Value} (hargs : VRels noMap (absL (rho xs) args) args') (w : World) (hin : GlobIn (rho xs) l w) (hgl : ∀ g, globIs g = true → (gcAt l g).isSome = true) (hl : belowG nx l = true := by rfl) (hx : Nat.ble nx HN = true := by rfl) (h3 : noSv cx.box = true := by rfl) (h4 : dfAll xs cx.df := by exact trivial) (hlow : LowOK 0 w := by exact fun _ h => by cases h) :
    Calls P f args'.toArray w fun e w' => e = .returned (.bool true) ∧ Grown w w' :=
  (calls_of_runG hP hm noS_ok (noK_ok (rho xs)) (sat_of h1 h2 h3 h4) hl (ble_iff.1 hx) hgl h hargs w hin hlow).mono fun e w' q => ⟨q.1, q.2.grown⟩
end
end
end Go.Sx

/- Where a byte stands in a text: a function of the library, summed up. -/
namespace Go.Sx
open Go.RowKit
noncomputable section

def idxS (f0 : FuncId) : FuncId → List V → Option V := fun f args => bcond (Nat.beq f f0) (match args with
  | [.str s, .int .u8 c] => some (.int .i64 (Lib.indexByte s c.toNat.toUInt8))
  | _ => Option.none) Option.none
def idxGo (c : Nat) (s : List KI) : Nat → KV := List.rec (fun _ => .int .i64 (.m 0)) (fun x _ ih i => KI.rec (fun n => bcond (Nat.blt n 256) (bcond (Nat.beq n c) (forceN i fun i => .int .i64 (.p i)) (ih (Nat.succ i))) .none) (fun _ => .none) (fun _ _ => .none) x) s
def idxArg (args : List KV) : KV := match args with
  | [.str s, .int .u8 (.p c)] => bcond (Nat.blt c 256) (idxGo c s 0) .none
  | _ => .none
def idxK (f0 : FuncId) : FuncId → List KV → Option KV := fun f args => Bool.rec Option.none (some (idxArg args)) (Nat.beq f f0)

section
variable {P : Program}
theorem idxS_ok {f0 : FuncId} (h : ∀ (s : ByteArray) (c : Int) (w : World), Calls P f0 #[.string s, .int .u8 c] w fun e w' => e = .returned (.int .i64 (Lib.indexByte s.data.toList c.toNat.toUInt8)) ∧ w' = w) : SumOK P (idxS f0) := by
  intro f args v hs μ w args' hargs
  unfold idxS at hs
  cases hb : Nat.beq f f0 with
  | false => rw [hb] at hs; cases hs
  | true =>
    rw [hb] at hs
    have := Nat.eq_of_beq_eq_true hb
    subst this
    simp only [bcond_true] at hs
    split at hs
    · rename_i s c
      cases hs
      cases hargs with
      | cons _ _ _ _ h1 t =>
      cases h1
      cases t with
      | cons _ _ _ _ h2 t =>
      cases h2
      cases t
      refine (h ⟨s.toArray⟩ c w).mono fun e w' he => ⟨_, he.1, ?_, he.2 ▸ Quiet.refl w⟩
      exact .int _ _
    · cases hs
theorem idxGo_val (ρ : Nat → Int) {c : Nat} : ∀ (s : List KI) (i : Nat), valK ρ (idxGo c s i) = abs ρ (idxGo c s i)
  | [], _ => rfl
  | x :: s, i => by
    cases x with
    | m n => rfl
    | a k ts => rfl
    | p n =>
      have e : idxGo c (.p n :: s) i = bcond (Nat.blt n 256) (bcond (Nat.beq n c) (forceN i fun i => .int .i64 (.p i)) (idxGo c s (Nat.succ i))) .none := rfl
      rw [e]
      cases Nat.blt n 256 with
      | false => rfl
      | true =>
        simp only [bcond_true]
        cases Nat.beq n c with
        | true => simp only [bcond_true, forceN_eq]; rfl
        | false => simp only [bcond_false]; exact idxGo_val ρ s _
theorem idxGo_ok (ρ : Nat → Int) {c : Nat} (hc : c < 256) : ∀ (s : List KI) (i : Nat), idxGo c s i = .none ∨ abs ρ (idxGo c s i) = .int .i64 (if Lib.indexByte (s.map (byteV ρ)) (c : Int).toNat.toUInt8 == -1 then -1 else Lib.indexByte (s.map (byteV ρ)) (c : Int).toNat.toUInt8 + i)
  | [], i => .inr rfl
  | x :: s, i => by
    cases x with
    | m n => exact .inl rfl
    | a k ts => exact .inl rfl
    | p n =>
      have e : idxGo c (.p n :: s) i = bcond (Nat.blt n 256) (bcond (Nat.beq n c) (forceN i fun i => .int .i64 (.p i)) (idxGo c s (Nat.succ i))) .none := rfl
      rw [e]
      cases hn : Nat.blt n 256 with
      | false => exact .inl rfl
      | true =>
        have hn := blt_iff.1 hn
        simp only [bcond_true, List.map_cons, Lib.indexByte]
        have hb : byteV ρ (.p n) = n.toUInt8 := by simp [byteV, KI.ev]
        rw [hb, Int.toNat_natCast]
        have heq : (n.toUInt8 == c.toUInt8) = Nat.beq n c := by
          cases hq : Nat.beq n c with
          | true => rw [Nat.eq_of_beq_eq_true hq]; simp
          | false =>
            have hne : n ≠ c := fun e => by subst e; rw [Nat.beq_refl] at hq; cases hq
            simp only [beq_eq_false_iff_ne, ne_eq]
            intro e
            have := congrArg UInt8.toNat e
            simp at this
            omega
        rw [heq]
        cases hq : Nat.beq n c with
        | true =>
          right
          simp only [bcond_true, forceN_eq, abs, KI.ev, if_true]
          simp
        | false =>
          simp only [bcond_false, Bool.false_eq_true, if_false]
          rcases idxGo_ok ρ hc s (Nat.succ i) with h | h
          · exact .inl h
          · right
            rw [h]
            rw [Int.toNat_natCast]
            have hge := Lib.indexByte_ge (s.map (byteV ρ)) c.toUInt8
            by_cases h1 : Lib.indexByte (s.map (byteV ρ)) c.toUInt8 = -1
            · simp [h1]
            · have h2 : (Lib.indexByte (s.map (byteV ρ)) c.toUInt8 == -1) = false := by simpa using h1
              have h3 : (Lib.indexByte (s.map (byteV ρ)) c.toUInt8 + 1 == -1) = false := by
                simp only [beq_eq_false_iff_ne, ne_eq]; omega
              simp only [h2, h3, Bool.false_eq_true, if_false]
              congr 1
              rw [Nat.succ_eq_add_one, Int.natCast_add]
              omega
theorem idxK_ok {f0 : FuncId} (ρ : Nat → Int) (h : ∃ fn b, P.funcs[f0]? = some fn ∧ fn.body = some b) : SumK P (idxS f0) ρ (idxK f0) := by
  intro f args
  unfold idxK idxS
  cases hb : Nat.beq f f0 with
  | false => rfl
  | true =>
    have := Nat.eq_of_beq_eq_true hb
    subst this
    simp only [bcond_true]
    unfold idxArg
    split
    · rename_i s c
      cases hc : Nat.blt c 256 with
      | false => exact .inl rfl
      | true =>
        simp only [bcond_true]
        rcases idxGo_ok ρ (blt_iff.1 hc) s 0 with h1 | h1
        · exact .inl h1
        · refine .inr ⟨fun _ => ?_, h⟩
          rw [idxGo_val, h1]
          simp only [absL, abs, KI.ev]
          congr 2
          by_cases h2 : Lib.indexByte (s.map (byteV ρ)) (c : Int).toNat.toUInt8 = -1
          · rw [h2]; rfl
          · have h3 : (Lib.indexByte (s.map (byteV ρ)) (c : Int).toNat.toUInt8 == -1) = false := by simpa using h2
            rw [h3]; simp
    · exact .inl rfl
/-- A call that reads package variables, with that function summed up. -/
theorem calls_finI (hP : ProgOK P) (hm : P.follows .mixedOrders = true) {f0 : FuncId} (h0 : ∀ (s : ByteArray) (c : Int) (w : World), Calls P f0 #[.string s, .int .u8 c] w fun e w' => e = .returned (.int .i64 (Lib.indexByte s.data.toList c.toNat.toUInt8)) ∧ w' = w) (hf : ∃ fn b, P.funcs[f0]? = some fn ∧ fn.body = some b)
    {n : Nat} {f : FuncId} {args : List KV} {cx : Cx} {xs : List Int} {l : GC} {nx : Nat} (h : runG P (idxK f0) n f args cx l nx = true) (h1 : boxAll xs cx.box) (h2 : csAll xs cx.cs)
    {args' : List Value} (hargs : VRels noMap (absL (rho xs) args) args') (w : World) (hin : GlobIn (rho xs) l w) (hgl : ∀ g, globIs g = true → (gcAt l g).isSome = true) (hl : belowG nx l = true := by rfl) (hx : Nat.ble nx HN = true := by rfl) (h3 : noSv cx.box = true := by rfl) (h4 : dfAll xs cx.df := by exact trivial) (hlow : LowOK 0 w := by exact fun _ h => by cases h) :
    Calls P f args'.toArray w fun e w' => e = .returned (.bool true) ∧ Grown w w' :=
  (calls_of_runG hP hm (idxS_ok h0) (idxK_ok (rho xs) hf) (sat_of h1 h2 h3 h4) hl (ble_iff.1 hx) hgl h hargs w hin hlow).mono fun e w' q => ⟨q.1, q.2.grown⟩
end
end
end Go.Sx

/- Functions summed up by tables of calls; a run that answers what is said. -/
namespace Go.Sx
open Go.RowKit
noncomputable section

/-- Are two values, whole numbers or truths, written alike? -/
def kvEq0 (x y : KV) : Bool := match x with
  | .int k a => match y with
    | .int k' b => bcond (Nat.beq (dfIx k) (dfIx k')) (kiEq a b) false
    | _ => false
  | .bool a => match y with
    | .bool b => bcond a b (bcond b false true)
    | _ => false
  | _ => false
theorem kvEq0_eq {x y : KV} (h : kvEq0 x y = true) : x = y := by
  cases x <;> cases y <;> simp only [kvEq0] at h <;> try (cases h; done)
  · rename_i a b; cases a <;> cases b <;> first | rfl | cases h
  · rename_i k a k' b
    cases h1 : Nat.beq (dfIx k) (dfIx k') with
    | false => rw [h1] at h; cases h
    | true => rw [h1] at h; rw [dfIx_inj h1, kiEq_eq h]
def listEq (q : KV → KV → Bool) (l : List KV) : List KV → Bool := List.rec (fun m => List.rec true (fun _ _ _ => false) m) (fun x _ ih m => List.rec false (fun y r _ => bcond (q x y) (ih r) false) m) l
theorem listEq_eq {q : KV → KV → Bool} (hq : ∀ x y, q x y = true → x = y) : ∀ {l m : List KV}, listEq q l m = true → l = m
  | [], [], _ => rfl
  | [], _ :: _, h => by cases h
  | _ :: _, [], h => by cases h
  | x :: l, y :: m, h => by
    change bcond (q x y) (listEq q l m) false = true at h
    cases h1 : q x y with
    | false => rw [h1] at h; cases h
    | true => rw [h1] at h; rw [hq _ _ h1, listEq_eq hq (l := l) (m := m) h]
/-- Or structs of such. -/
def kvEq (x y : KV) : Bool := match x with
  | .agg l => match y with
    | .agg m => listEq kvEq0 l m
    | _ => false
  | x => kvEq0 x y
theorem kvEq_eq {x y : KV} (h : kvEq x y = true) : x = y := by
  unfold kvEq at h
  split at h
  · split at h
    · rw [listEq_eq (fun _ _ => kvEq0_eq) h]
    · cases h
  · exact kvEq0_eq h
def kvsEq (l m : List KV) : Bool := listEq kvEq l m
theorem kvsEq_eq {l m : List KV} (h : kvsEq l m = true) : l = m := listEq_eq (fun _ _ => kvEq_eq) h
/-- A table of calls: a function, what it is called with, what it answers. -/
abbrev Tab := List (FuncId × List KV × KV)
def tabGo (f : FuncId) (args : List KV) (T : Tab) : KV := List.rec .none (fun e _ ih => bcond (Nat.beq f e.1) (bcond (kvsEq args e.2.1) e.2.2 ih) ih) T
def memF (f : FuncId) (fs : List FuncId) : Bool := List.rec false (fun g _ ih => bcond (Nat.beq f g) true ih) fs
def tabK (fs : List FuncId) (T : Tab) : FuncId → List KV → Option KV := fun f args => bcond (memF f fs) (some (tabGo f args T)) Option.none
def tabAll (S : FuncId → List V → Option V) (ρ : Nat → Int) : Tab → Prop
  | [] => True
  | e :: T => (reqOK ρ e.2.2 → S e.1 (absL ρ e.2.1) = some (valK ρ e.2.2)) ∧ tabAll S ρ T
theorem tabGo_ok {S : FuncId → List V → Option V} {ρ : Nat → Int} {f : FuncId} {args : List KV} : ∀ {T : Tab}, tabAll S ρ T → tabGo f args T = .none ∨ (reqOK ρ (tabGo f args T) → S f (absL ρ args) = some (valK ρ (tabGo f args T)))
  | [], _ => .inl rfl
  | e :: T, h => by
    have e0 : tabGo f args (e :: T) = bcond (Nat.beq f e.1) (bcond (kvsEq args e.2.1) e.2.2 (tabGo f args T)) (tabGo f args T) := rfl
    rw [e0]
    have ih := tabGo_ok (f := f) (args := args) h.2
    cases h1 : Nat.beq f e.1 with
    | false => exact ih
    | true =>
      simp only [bcond_true]
      cases h2 : kvsEq args e.2.1 with
      | false => exact ih
      | true =>
        simp only [bcond_true]
        right
        rw [Nat.eq_of_beq_eq_true h1, kvsEq_eq h2]
        exact h.1
def bodied (P : Program) (f : FuncId) : Prop := ∃ fn b, P.funcs[f]? = some fn ∧ fn.body = some b
def bodiedAll (P : Program) : List FuncId → Prop
  | [] => True
  | f :: l => bodied P f ∧ bodiedAll P l
theorem bodiedAll_ok {P : Program} {f : FuncId} : ∀ {l : List FuncId}, bodiedAll P l → memF f l = true → bodied P f
  | [], _, h => by cases h
  | g :: l, hb, h => by
    change bcond (Nat.beq f g) true (memF f l) = true at h
    cases h1 : Nat.beq f g with
    | false => rw [h1] at h; exact bodiedAll_ok hb.2 h
    | true => rw [Nat.eq_of_beq_eq_true h1]; exact hb.1
theorem tabK_ok {P : Program} {S : FuncId → List V → Option V} {ρ : Nat → Int} {fs : List FuncId} {T : Tab} (hd : ∀ f args, memF f fs = false → S f args = Option.none) (hb : bodiedAll P fs) (hT : tabAll S ρ T) : SumK P S ρ (tabK fs T) := by
  intro f args
  unfold tabK
  cases h : memF f fs with
  | false => exact hd f _ h
  | true =>
    simp only [bcond_true]
    rcases tabGo_ok (f := f) (args := args) hT with e | e
    · exact .inl e
    · exact .inr ⟨e, bodiedAll_ok hb h⟩

/-! A run that answers what is said. -/
def numEq (cx : Cx) (x y : KI) : Bool := bcond (kiEq x y) true (decLe cx (KI.sub x y) fun cx b => bcond b (decLe cx (KI.sub y x) fun _ b => b) false)
theorem numEq_sound {ρ : Nat → Int} {cx : Cx} {x y : KI} (hs : Sat ρ cx) (h : numEq cx x y = true) : x.ev ρ = y.ev ρ := by
  unfold numEq at h
  cases h1 : kiEq x y with
  | true => rw [kiEq_eq h1]
  | false =>
    rw [h1] at h
    simp only [bcond_false] at h
    obtain ⟨cx1, s1, _, h⟩ := decLe_sound hs h
    by_cases hx : (KI.sub x y).ev ρ ≤ 0
    · simp only [hx, decide_true, bcond_true] at h
      obtain ⟨cx2, s2, _, h⟩ := decLe_sound s1 h
      have hy : (KI.sub y x).ev ρ ≤ 0 := of_decide_eq_true h
      rw [KI.sub_ev] at hx hy
      omega
    · simp only [hx, decide_false, bcond_false] at h; cases h
def valEq (cx : Cx) (x y : KV) : Bool := match x with
  | .int k a => match y with
    | .int k' b => bcond (Nat.beq (dfIx k) (dfIx k')) (numEq cx a b) false
    | _ => false
  | .bool a => match y with
    | .bool b => bcond a b (bcond b false true)
    | _ => false
  | _ => false
theorem valEq_sound {ρ : Nat → Int} {cx : Cx} {x y : KV} (hs : Sat ρ cx) (h : valEq cx x y = true) : abs ρ x = abs ρ y := by
  cases x <;> cases y <;> simp only [valEq] at h <;> try (cases h; done)
  · rename_i a b; cases a <;> cases b <;> first | rfl | cases h
  · rename_i k a k' b
    cases h1 : Nat.beq (dfIx k) (dfIx k') with
    | false => rw [h1] at h; cases h
    | true => rw [h1] at h; simp only [abs]; rw [dfIx_inj h1, numEq_sound hs h]
def valsEq (cx : Cx) (l : List KV) : List KV → Bool := List.rec (fun m => List.rec true (fun _ _ _ => false) m) (fun x _ ih m => List.rec false (fun y r _ => bcond (valEq cx x y) (ih r) false) m) l
theorem valsEq_sound {ρ : Nat → Int} {cx : Cx} (hs : Sat ρ cx) : ∀ {l m : List KV}, valsEq cx l m = true → absL ρ l = absL ρ m
  | [], [], _ => rfl
  | [], _ :: _, h => by cases h
  | _ :: _, [], h => by cases h
  | x :: l, y :: m, h => by
    change bcond (valEq cx x y) (valsEq cx l m) false = true at h
    cases h1 : valEq cx x y with
    | false => rw [h1] at h; cases h
    | true => rw [h1] at h; simp only [absL]; rw [valEq_sound hs h1, valsEq_sound hs (l := l) (m := m) h]
def resEq (cx : Cx) (R v : KV) : Bool := match R with
  | .agg l => match v with
    | .agg m => valsEq cx m l
    | _ => false
  | .tuple l => match v with
    | .tuple m => valsEq cx m l
    | _ => false
  | R => valEq cx v R
theorem resEq_sound {ρ : Nat → Int} {cx : Cx} {R v : KV} (hs : Sat ρ cx) (h : resEq cx R v = true) : abs ρ v = abs ρ R := by
  unfold resEq at h
  split at h
  · split at h
    · simp only [abs]; rw [valsEq_sound hs h]
    · cases h
  · split at h
    · simp only [abs]; rw [valsEq_sound hs h]
    · cases h
  · exact valEq_sound hs h
def endR (R : KV) : Cx → KE → KM → Bool := fun cx e _ => match e with
  | .ret v => resEq cx R v
  | _ => false
/-- Whole numbers and truths alone. -/
def flatV0 : V → Bool
  | .int _ _ => true
  | .bool _ => true
  | _ => false
def allV (q : V → Bool) (l : List V) : Bool := List.rec true (fun v _ ih => bcond (q v) ih false) l
theorem flatV0_rel {μ μ' : Map} {v : V} {v' : Value} (hf : flatV0 v = true) (h : VRel μ v v') : VRel μ' v v' := by
  cases h <;> first | exact .bool _ | exact .int _ _ | cases hf
theorem allV_rel {μ μ' : Map} {q : V → Bool} (hq : ∀ v v', q v = true → VRel μ v v' → VRel μ' v v') : ∀ {l : List V} {l' : List Value}, allV q l = true → VRels μ l l' → VRels μ' l l'
  | [], _, _, h => by cases h; exact .nil
  | v :: l, _, hf, h => by
    change bcond (q v) (allV q l) false = true at hf
    cases h1 : q v with
    | false => rw [h1] at hf; cases hf
    | true =>
      rw [h1] at hf
      cases h with
      | cons _ v' _ l' hv t => exact .cons _ _ _ _ (hq _ _ h1 hv) (allV_rel hq hf t)
/-- Or structs, or several, of such. -/
def flatV : V → Bool
  | .agg l => allV flatV0 l
  | .tuple l => allV flatV0 l
  | v => flatV0 v
theorem flatV_rel {μ μ' : Map} {v : V} {v' : Value} (hf : flatV v = true) (h : VRel μ v v') : VRel μ' v v' := by
  cases h
  case agg l l' h => exact .agg _ _ (allV_rel (fun _ _ => flatV0_rel) hf h)
  case tuple l l' h => exact .tuple _ _ (allV_rel (fun _ _ => flatV0_rel) hf h)
  all_goals first | exact .bool _ | exact .int _ _ | cases hf
def flatVs (l : List V) : Bool := allV flatV l
theorem flatVs_rel {μ μ' : Map} {l : List V} {l' : List Value} (hf : flatVs l = true) (h : VRels μ l l') : VRels μ' l l' := allV_rel (fun _ _ => flatV_rel) hf h
section
variable (P : Program)
def runE (S : FuncId → List KV → Option KV) (n : Nat) (f : FuncId) (args : List KV) (cx : Cx) (R : KV) : Bool := callF P S (fuelN P S n) f args cx (.mk .nil (emp (HE.no 0 0) HD) 0 [] 0) (endR R)
end
section
variable {P : Program} {S : FuncId → List V → Option V} {ρ : Nat → Int}
theorem runE_sound (hP : ProgOK P) {SK : FuncId → List KV → Option KV} (hS : SumK P S ρ SK) {n : Nat} {f : FuncId} {args : List KV} {cx : Cx} {R : KV} (hs : Sat ρ cx) (h : runE P SK n f args cx R = true) :
    ∃ m g', runF P S (execD P S m) f (absL ρ args) ⟨fun _ => Option.none, 0, []⟩ = some (.ret (abs ρ R), g') := by
  unfold runE at h
  obtain ⟨_, m, e, g', hr, cx', ke, M', hs', he, _, hk⟩ := callF_sound hP hS (fuelN_ok hP hS n) f args cx _ _ _ hs den0 h
  refine ⟨m, g', ?_⟩
  unfold endR at hk
  split at hk
  · rw [hr, ← he]; simp only [absE]; rw [resEq_sound hs' hk]
  · cases hk
/-- What a function answers at numbers: out of a run. -/
def Tells (P : Program) (f : FuncId) (args : List Value) (v : V) : Prop := ∀ w : World, Calls P f args.toArray w fun e w' => ∃ v', e = .returned v' ∧ VRel noMap v v' ∧ Quiet w w'
theorem tells_of (hg : ∀ g, globIs g = false) (hlow : ∀ w : World, LowOK w.heap.size w) (hP : ProgOK P) (hm : P.follows .mixedOrders = true) (hS : SumOK P S) {SK : FuncId → List KV → Option KV} (hK : SumK P S ρ SK) {n : Nat} {f : FuncId} {args : List KV} {cx : Cx} {R : KV} (hs : Sat ρ cx)
    (h : runE P SK n f args cx R = true) {args' : List Value} (hargs : VRels noMap (absL ρ args) args') {v : V} (hv : abs ρ R = v) (hf : flatV v = true) : Tells P f args' v := by
  intro w
  obtain ⟨m, g', e⟩ := runE_sound hP hK hs h
  obtain ⟨_, _, hx⟩ := exec_sound hP.back hP.eff hS hm m
  refine (hx f _ _ _ _ e w.heap.size noMap w args' (hrel0 hg w _) (Nat.le_refl _) (hlow w) hargs).mono fun e w' he => ?_
  obtain ⟨μ', _, hst, v', rfl, hv'⟩ := he
  rw [hv] at hv'
  exact ⟨v', rfl, flatV_rel hf hv', hst.quiet⟩
/-- A function's answers, as far as they are known. -/
def EntryOK (P : Program) (f0 : FuncId) (F : List V → Option V) : Prop := ∀ args v, F args = some v → flatVs args = true ∧ ∀ args', VRels noMap args args' → Tells P f0 args' v
def entS (l : List (FuncId × (List V → Option V))) (f : FuncId) (args : List V) : Option V := List.rec Option.none (fun e _ ih => bcond (Nat.beq f e.1) (e.2 args) ih) l
def entAll (P : Program) : List (FuncId × (List V → Option V)) → Prop
  | [] => True
  | e :: l => EntryOK P e.1 e.2 ∧ entAll P l
theorem entS_ok {P : Program} : ∀ {l : List (FuncId × (List V → Option V))}, entAll P l → SumOK P (entS l)
  | [], _ => fun f args v h => by cases h
  | e :: l, hl => by
    intro f args v h μ w args' hargs
    have h : bcond (Nat.beq f e.1) (e.2 args) (entS l f args) = some v := h
    cases h1 : Nat.beq f e.1 with
    | false => rw [h1] at h; exact entS_ok hl.2 f args v h μ w args' hargs
    | true =>
      rw [h1] at h
      obtain ⟨a, b⟩ := hl.1 args v h
      rw [Nat.eq_of_beq_eq_true h1]
      exact b args' (flatVs_rel a hargs) w
def fstF (l : List (FuncId × (List V → Option V))) : List FuncId := List.rec [] (fun e _ ih => e.1 :: ih) l
theorem entS_dom : ∀ {l : List (FuncId × (List V → Option V))} (f : FuncId) (args : List V), memF f (fstF l) = false → entS l f args = Option.none
  | [], _, _, _ => rfl
  | e :: l, f, args, h => by
    change bcond (Nat.beq f e.1) true (memF f (fstF l)) = false at h
    show bcond (Nat.beq f e.1) (e.2 args) (entS l f args) = Option.none
    cases h1 : Nat.beq f e.1 with
    | false => rw [h1] at h; exact entS_dom f args h
    | true => rw [h1] at h; cases h
/-- The example that needs no argument. -/
def trueF : List V → Option V := fun args => match args with
  | [] => some (.bool true)
  | _ => Option.none
theorem trueF_ok {P : Program} {f0 : FuncId} (h : ∀ w : World, Calls P f0 #[] w fun e w' => e = .returned (.bool true) ∧ Quiet w w') : EntryOK P f0 trueF := by
  intro args v hv
  cases args with
  | cons a l => cases hv
  | nil =>
    cases hv
    refine ⟨rfl, fun args' ha w => ?_⟩
    cases ha
    exact (h w).mono fun e w' he => ⟨.bool true, he.1, .bool true, he.2⟩
end
section
variable {P : Program}
/-- What a function answers, out of a run where some are summed up. -/
theorem tells_tab (hP : ProgOK P) (hm : P.follows .mixedOrders = true) {l : List (FuncId × (List V → Option V))} (hl : entAll P l) (hb : bodiedAll P (fstF l)) {T : Tab} {n : Nat} {f : FuncId} {args : List KV} {cx : Cx} {R : KV} {xs : List Int} (h : runE P (tabK (fstF l) T) n f args cx R = true) (h1 : boxAll xs cx.box) (h2 : csAll xs cx.cs) (h4 : dfAll xs cx.df) (hT : tabAll (entS l) (rho xs) T)
    {args' : List Value} (hargs : VRels noMap (absL (rho xs) args) args') {v : V} (hv : abs (rho xs) R = v) (hf : flatV v = true := by rfl) (h3 : noSv cx.box = true := by rfl) (hg : ∀ g, globIs g = false := by exact fun _ => rfl) (hlow : ∀ w : World, LowOK w.heap.size w := by exact fun _ _ h => by cases h) : Tells P f args' v :=
  tells_of hg hlow hP hm (entS_ok hl) (tabK_ok entS_dom hb hT) (sat_of h1 h2 h3 h4) h hargs hv hf
/-- A law's run where some functions are summed up. -/
theorem calls_tab (hP : ProgOK P) (hm : P.follows .mixedOrders = true) {l : List (FuncId × (List V → Option V))} (hl : entAll P l) (hb : bodiedAll P (fstF l)) {T : Tab} {n : Nat} {f : FuncId} {args : List KV} {cx : Cx} {xs : List Int} (h : runK P (tabK (fstF l) T) n f args cx = true) (h1 : boxAll xs cx.box) (h2 : csAll xs cx.cs) (h4 : dfAll xs cx.df) (hT : tabAll (entS l) (rho xs) T)
    {args' : List Value} (hargs : VRels noMap (absL (rho xs) args) args') (w : World) (h3 : noSv cx.box = true := by rfl) (hg : ∀ g, globIs g = false := by exact fun _ => rfl) (hlow : LowOK w.heap.size w := by exact fun _ h => by cases h) : Calls P f args'.toArray w fun e w' => e = .returned (.bool true) ∧ Grown w w' :=
  (calls_of_run hg hP hm (entS_ok hl) (tabK_ok entS_dom hb hT) (sat_of h1 h2 h3 h4) h hargs w hlow).mono fun e w' q => ⟨q.1, q.2.grown⟩
end
end
end Go.Sx

/- Two bounds added, none above the cap: functions that do this alone are worked out at once. -/
namespace Go.Sx
open Go.RowKit
noncomputable section

def natS (up : Bool) (cap : Nat) : List V → Option V
  | [.int .i64 x, .int .i64 y] => if (-9223372036854775808 ≤ x ∧ x ≤ 9223372036854775807) ∧ (-9223372036854775808 ≤ y ∧ y ≤ 9223372036854775807) then some (.int .i64 (natV up cap x y)) else Option.none
  | _ => Option.none
def natReq (up : Bool) (cap : Nat) (args : List KV) : KV := match args with
  | [.int .i64 x, .int .i64 y] => .tuple [.none, .bool up, .int .i64 (.p cap), .int .i64 x, .int .i64 y]
  | _ => .none
/-- Functions, whether each cuts above, too, and the cap. -/
abbrev NatL := List (FuncId × Bool × Nat)
def natGoL (f : FuncId) (args : List KV) (l : NatL) : Option KV := List.rec Option.none (fun e _ ih => bcond (Nat.beq f e.1) (some (natReq e.2.1 e.2.2 args)) ih) l
def natSK (aw : FuncId) (l : NatL) : FuncId → List KV → Option KV := fun f args => bcond (Nat.beq f aw) (List.rec (some (.bool true)) (fun _ _ _ => Option.none) args) (natGoL f args l)
def natEs (l : NatL) : List (FuncId × (List V → Option V)) := l.map fun e => (e.1, natS e.2.1 e.2.2)
def natE (aw : FuncId) (l : NatL) : List (FuncId × (List V → Option V)) := (aw, trueF) :: natEs l
theorem natReq_ok {ρ : Nat → Int} (up : Bool) (cap : Nat) (args : List KV) : natReq up cap args = .none ∨ (reqOK ρ (natReq up cap args) → natS up cap (absL ρ args) = some (valK ρ (natReq up cap args))) := by
  unfold natReq
  split
  · rename_i x y
    refine .inr fun h => ?_
    simp only [reqOK] at h
    simp only [absL, abs, natS, valK, if_pos h]
    rfl
  · exact .inl rfl
theorem natGoL_ok {P : Program} {ρ : Nat → Int} {f : FuncId} {args : List KV} : ∀ {l : NatL}, bodiedAll P (fstF (natEs l)) → match natGoL f args l with
    | some v => v = .none ∨ (reqOK ρ v → entS (natEs l) f (absL ρ args) = some (valK ρ v)) ∧ ∃ fn b, P.funcs[f]? = some fn ∧ fn.body = some b
    | none => entS (natEs l) f (absL ρ args) = none
  | [], _ => rfl
  | e :: l, hb => by
    have e0 : natGoL f args (e :: l) = bcond (Nat.beq f e.1) (some (natReq e.2.1 e.2.2 args)) (natGoL f args l) := rfl
    have e1 : entS (natEs (e :: l)) f (absL ρ args) = bcond (Nat.beq f e.1) (natS e.2.1 e.2.2 (absL ρ args)) (entS (natEs l) f (absL ρ args)) := rfl
    rw [e0]
    simp only [e1]
    cases h : Nat.beq f e.1 with
    | false => exact natGoL_ok hb.2
    | true =>
      simp only [bcond_true]
      rcases natReq_ok (ρ := ρ) e.2.1 e.2.2 args with q | q
      · exact .inl q
      · exact .inr ⟨q, by rw [Nat.eq_of_beq_eq_true h]; exact hb.1⟩
theorem natSK_ok {P : Program} {aw : FuncId} {l : NatL} (ρ : Nat → Int) (hb : bodiedAll P (fstF (natE aw l))) : SumK P (entS (natE aw l)) ρ (natSK aw l) := by
  intro f args
  have e1 : ∀ a, entS (natE aw l) f a = bcond (Nat.beq f aw) (trueF a) (entS (natEs l) f a) := fun _ => rfl
  unfold natSK
  simp only [e1]
  cases h : Nat.beq f aw with
  | false => simp only [bcond_false]; exact natGoL_ok hb.2
  | true =>
    simp only [bcond_true]
    cases args with
    | nil => exact .inr ⟨fun _ => rfl, by rw [Nat.eq_of_beq_eq_true h]; exact hb.1⟩
    | cons a r => simp only [absL]; rfl
theorem calls_nat {P : Program} (hP : ProgOK P) (hm : P.follows .mixedOrders = true) {aw : FuncId} {l : NatL} (hl : entAll P (natE aw l)) (hb : bodiedAll P (fstF (natE aw l))) {n : Nat} {f : FuncId} {args : List KV} {cx : Cx} {xs : List Int} (h : runK P (natSK aw l) n f args cx = true) (h1 : boxAll xs cx.box) (h2 : csAll xs cx.cs)
    {args' : List Value} (hargs : VRels noMap (absL (rho xs) args) args') (w : World) (h3 : noSv cx.box = true := by rfl) (h4 : dfAll xs cx.df := by exact trivial) (hg : ∀ g, globIs g = false := by exact fun _ => rfl) (hlow : LowOK w.heap.size w := by exact fun _ h => by cases h) : Calls P f args'.toArray w fun e w' => e = .returned (.bool true) ∧ Grown w w' :=
  (calls_of_run hg hP hm (entS_ok hl) (natSK_ok (rho xs) hb) (sat_of h1 h2 h3 h4) h hargs w hlow).mono fun e w' q => ⟨q.1, q.2.grown⟩
/-- What such a function answers, out of a few runs. -/
theorem nat_entry {P : Program} {f : FuncId} {up : Bool} {cap : Nat} (h : ∀ x y : Int, (-9223372036854775808 ≤ x ∧ x ≤ 9223372036854775807) → (-9223372036854775808 ≤ y ∧ y ≤ 9223372036854775807) → Tells P f [.int .i64 x, .int .i64 y] (.int .i64 (natV up cap x y))) : EntryOK P f (natS up cap) := by
  intro args v hv
  unfold natS at hv
  split at hv
  · split at hv
    · rename_i hr
      cases hv
      refine ⟨rfl, fun args' ha => ?_⟩
      cases ha with | cons _ _ _ _ h1 ha => cases h1; cases ha with | cons _ _ _ _ h1 ha => cases h1; cases ha; exact h _ _ hr.1 hr.2
    · cases hv
  · cases hv
end
end Go.Sx
