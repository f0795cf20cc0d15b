/- The evaluator that the proofs of this claim run, part 2 of 5: a plain evaluator of loaded code, proved sound against the model, and one that runs in the kernel, proved against the plain one. No condition. -/
import Derived.Test.YtckdbhlcedbffaaGreatKitE1
import Derived.WalkKit
import Derived.Orders
import Derived.RowKit3
import Derived.Laws.Sem
import Derived.RangeFuncRecord
import Derived.TacticsIn
import Derived.OrdersIn
import Derived.LoopNIn
import Derived.Scope
import Derived.LoopN
import Derived.RangeFuncSeq
set_option linter.unusedVariables false
set_option linter.unusedSimpArgs false
/- What a call leaves: blocks whose roots it does not tell of. -/
namespace Go.Sx

/-- From one memory to the next, seen from an entry: what has a root that is not told of is as it was; roots stay; the frame's own blocks are younger than the entry. -/
structure LI (g0 : G) (m : Mem) : Prop where
  log : ∃ l, m.g.log = l ++ g0.log ∧ ∀ b blk, g0.hp b = some blk → blk.root ∉ l → m.g.hp b = some blk
  nx : g0.nx ≤ m.g.nx
  root : ∀ b blk, m.g.hp b = some blk → b < g0.nx → ∃ blk0, g0.hp b = some blk0 ∧ blk0.root = blk.root
  own : ∀ b cs, m.ob b = some cs → g0.nx ≤ b
  dom0 : ∀ b blk, g0.hp b = some blk → b < g0.nx
  dom : ∀ b blk, m.g.hp b = some blk → b < m.g.nx
  domo : ∀ b cs, m.ob b = some cs → b < m.g.nx

theorem LI.refl {g : G} (hg : ∀ b blk, g.hp b = some blk → b < g.nx) : LI g (bare g) :=
  { log := ⟨[], rfl, fun _ _ h _ => h⟩, nx := Nat.le_refl _, root := fun b blk h _ => ⟨blk, h, rfl⟩, own := (fun _ _ h => by cases h), dom0 := hg, dom := hg, domo := (fun _ _ h => by cases h) }

/-- A call's, with the caller's own blocks beside it. -/
theorem LI.beside {g0 : G} {m : Mem} {g' : G} (h : LI g0 m) (k : LI m.g (bare g')) : LI g0 { m with g := g' } := by
  obtain ⟨l1, e1, f1⟩ := h.log
  obtain ⟨l2, e2, f2⟩ := k.log
  have hn := k.nx
  simp only [bare] at e2 f2 hn
  refine { log := ⟨l2 ++ l1, by simp only [e2, e1, List.append_assoc], fun b blk hb hr => f2 b blk (f1 b blk hb (fun hh => hr (List.mem_append_right _ hh))) (fun hh => hr (List.mem_append_left _ hh))⟩, nx := Nat.le_trans h.nx hn, root := ?_, own := h.own, dom0 := h.dom0, dom := k.dom, domo := fun b cs hb => Nat.lt_of_lt_of_le (h.domo b cs hb) hn }
  intro b blk hb hlt
  have h9 := h.nx
  obtain ⟨blk1, h1, h2⟩ := k.root b blk hb (by omega)
  obtain ⟨blk0, h3, h4⟩ := h.root b blk1 h1 hlt
  exact ⟨blk0, h3, h4.trans h2⟩

theorem LI.new {g0 : G} {m : Mem} (h : LI g0 m) (slot : Option Nat) (hs : ∀ i, slot = some i → g0.nx ≤ i ∧ i < m.g.nx) (cs : List V) : LI g0 (newD m slot cs).2 := by
  have hn := h.nx
  cases slot with
  | none =>
    refine { log := h.log, nx := by simp [newD]; omega, root := h.root, own := ?_, dom0 := h.dom0, dom := fun b blk hb => by have := h.dom b blk hb; simp [newD]; omega, domo := ?_ }
    · intro b cs' hb
      simp only [newD, upd] at hb
      split at hb
      · rename_i e; subst e; exact h.nx
      · exact h.own b cs' hb
    · intro b cs' hb
      simp only [newD, upd] at hb ⊢
      split at hb
      · rename_i e; omega
      · have := h.domo b cs' hb; omega
  | some i =>
    refine { log := h.log, nx := h.nx, root := h.root, own := ?_, dom0 := h.dom0, dom := h.dom, domo := ?_ }
    · intro b cs' hb
      simp only [newD, upd] at hb
      split at hb
      · rename_i e; subst e; exact (hs b rfl).1
      · exact h.own b cs' hb
    · intro b cs' hb
      simp only [newD, upd] at hb
      split at hb
      · rename_i e; subst e; exact (hs b rfl).2
      · exact h.domo b cs' hb

theorem LI.write {g0 : G} {m m' : Mem} (h : LI g0 m) {b o : Nat} {vs : List V} (hw : writeD m b o vs = some m') : LI g0 m' := by
  unfold writeD at hw
  split at hw
  · cases hw
  split at hw
  · rename_i cs hob
    split at hw
    · cases hw
      refine { log := h.log, nx := h.nx, root := h.root, own := ?_, dom0 := h.dom0, dom := h.dom, domo := ?_ }
      all_goals
        intro i cs' hi
        simp only [upd] at hi
        split at hi
        · rename_i e; subst e; first | exact h.own i cs hob | exact h.domo i cs hob
        · first | exact h.own i cs' hi | exact h.domo i cs' hi
    · cases hw
  · split at hw
    · rename_i blk hb
      split at hw
      · cases hw
        have old : ∀ i blk2, wipe m.g.hp blk.root b { blk with cells := splice blk.cells o vs } i = some blk2 → ∃ y, m.g.hp i = some y ∧ y.root = blk2.root := by
          intro i blk2 hi
          simp only [wipe] at hi
          split at hi
          · rename_i e; subst e; cases hi; exact ⟨blk, hb, rfl⟩
          · split at hi
            · rename_i y hy
              split at hi
              · cases hi
              · cases hi; exact ⟨_, hy, rfl⟩
            · cases hi
        obtain ⟨l, e, f⟩ := h.log
        refine { log := ⟨blk.root :: l, by simp only [e, List.cons_append], ?_⟩, nx := h.nx, root := ?_, own := h.own, dom0 := h.dom0, dom := ?_, domo := h.domo }
        · intro i bl hi hr
          have h1 := f i bl hi (fun hh => hr (List.mem_cons_of_mem _ hh))
          have hne : bl.root ≠ blk.root := fun hh => hr (by rw [hh]; exact List.mem_cons_self ..)
          simp only [wipe]
          split
          · rename_i e2; subst e2; rw [hb] at h1; cases h1; exact absurd rfl hne
          · rw [h1]; simp only [if_neg hne]
        · intro i bl hi hlt
          obtain ⟨y, hy, hr⟩ := old i bl hi
          obtain ⟨z, hz, hr2⟩ := h.root i y hy hlt
          exact ⟨z, hz, hr2.trans hr⟩
        · intro i bl hi
          obtain ⟨y, hy, _⟩ := old i bl hi
          exact h.dom i y hy
      · cases hw
    · cases hw

theorem LI.spill1 {g0 : G} {m : Mem} (h : LI g0 m) {b : Nat} {cs : List V} (hb : m.ob b = some cs) : LI g0 (spill1 m b cs) := by
  have hown := h.own b cs hb
  obtain ⟨l, e, f⟩ := h.log
  refine { log := ⟨b :: l, by simp only [Sx.spill1, e, List.cons_append], ?_⟩, nx := h.nx, root := ?_, own := ?_, dom0 := h.dom0, dom := ?_, domo := ?_ }
  · intro i bl hi hr
    have h1 := f i bl hi (fun hh => hr (List.mem_cons_of_mem _ hh))
    have := h.dom0 i bl hi
    simp only [Sx.spill1, upd]
    split
    · omega
    · exact h1
  · intro i bl hi hlt
    simp only [Sx.spill1, upd] at hi
    split at hi
    · rename_i e2; subst e2; omega
    · exact h.root i bl hi hlt
  · intro i cs' hi
    simp only [Sx.spill1, upd] at hi
    split at hi
    · cases hi
    · exact h.own i cs' hi
  · intro i bl hi
    simp only [Sx.spill1, upd] at hi
    split at hi
    · rename_i e2; subst e2; exact h.domo i cs hb
    · exact h.dom i bl hi
  · intro i cs' hi
    simp only [Sx.spill1, upd] at hi
    split at hi
    · cases hi
    · exact h.domo i cs' hi

mutual
theorem LI.spillV {g0 : G} : ∀ (n : Nat) (v : V) (m : Mem), LI g0 m → LI g0 (Sx.spillV n v m)
  | 0, v, m, h => by simp only [Sx.spillV]; exact h
  | n + 1, v, m, h => by
    have box : ∀ b, LI g0 (match m.ob b with | some cs => Sx.spillL n cs (Sx.spill1 m b cs) | Option.none => m) := by
      intro b
      split
      · rename_i cs ho
        exact LI.spillL n cs _ (h.spill1 ho)
      · exact h
    cases v <;> simp only [Sx.spillV] <;> first
      | exact box _
      | exact h
      | exact LI.spillV n _ m h
      | exact LI.spillL n _ m h
      | skip
    exact LI.spillL n _ _ (LI.spillL n _ m h)
theorem LI.spillL {g0 : G} : ∀ (n : Nat) (l : List V) (m : Mem), LI g0 m → LI g0 (Sx.spillL n l m)
  | 0, l, m, h => by simp only [Sx.spillL]; exact h
  | n + 1, [], m, h => by simp only [Sx.spillL]; exact h
  | n + 1, v :: l, m, h => by
    simp only [Sx.spillL]
    exact LI.spillL n l _ (LI.spillV n v m h)
end

theorem LI.append {g0 : G} {m m' : Mem} (h : LI g0 m) {z by_ n : Nat} {s v : V} {xs : List V} (ha : appendD m z by_ s n xs = some (v, m')) : LI g0 m' := by
  have hn := h.nx
  have fresh : ∀ (bl : Blk), LI g0 { m with g := { m.g with hp := upd m.g.hp m.g.nx (some bl), nx := m.g.nx + 1 } } := by
    intro bl
    obtain ⟨l, e, f⟩ := h.log
    refine { log := ⟨l, e, ?_⟩, nx := by simp; omega, root := ?_, own := h.own, dom0 := h.dom0, dom := ?_, domo := fun b cs hb => by have := h.domo b cs hb; simp; omega }
    · intro i b2 hi hr
      have := h.dom0 i b2 hi
      simp only [upd]
      rw [if_neg (by omega)]
      exact f i b2 hi hr
    · intro i b2 hi hlt
      simp only [upd] at hi
      rw [if_neg (by omega)] at hi
      exact h.root i b2 hi hlt
    · intro i b2 hi
      simp only [upd] at hi ⊢
      split at hi
      · omega
      · have := h.dom i b2 hi; omega
  cases s <;> simp only [appendD] at ha <;> try (cases ha; done)
  case nils =>
    split at ha
    · cases ha; exact h
    · split at ha
      · cases ha; exact fresh _
      · cases ha
  case slice b o len cap =>
    cases cap with
    | is c =>
      simp only at ha
      split at ha
      · split at ha
        · rename_i m2 hw; cases ha; exact h.write hw
        · cases ha
      · split at ha
        · split at ha
          · cases ha; exact fresh _
          · cases ha
        · cases ha
    | unk z' =>
      simp only at ha
      split at ha
      · cases ha; exact h
      · split at ha
        · rename_i blk hob hb
          split at ha
          · cases ha
            have old : ∀ i bl, i ≠ m.g.nx → (match m.g.hp i with
              | some y => if y.root = blk.root then some { y with cells := y.cells.take (len * z) } else some y
              | Option.none => Option.none) = some bl → ∃ y, m.g.hp i = some y ∧ y.root = bl.root := by
              intro i bl hne hi
              split at hi
              · rename_i y hy
                split at hi
                · cases hi; exact ⟨y, hy, rfl⟩
                · cases hi; exact ⟨_, hy, rfl⟩
              · cases hi
            obtain ⟨l, e, f⟩ := h.log
            refine { log := ⟨blk.root :: l, by simp only [e, List.cons_append], ?_⟩, nx := by simp; omega, root := ?_, own := h.own, dom0 := h.dom0, dom := ?_, domo := fun b cs hb => by have := h.domo b cs hb; simp; omega }
            · intro i bl hi hr
              have h1 := f i bl hi (fun hh => hr (List.mem_cons_of_mem _ hh))
              have hne : bl.root ≠ blk.root := fun hh => hr (by rw [hh]; exact List.mem_cons_self ..)
              have := h.dom0 i bl hi
              simp only
              rw [if_neg (by omega), h1]
              simp only [if_neg hne]
            · intro i bl hi hlt
              simp only at hi
              rw [if_neg (by omega)] at hi
              obtain ⟨y, hy, hr⟩ := old i bl (by omega) hi
              obtain ⟨z2, hz, hr2⟩ := h.root i y hy hlt
              exact ⟨z2, hz, hr2.trans hr⟩
            · intro i bl hi
              simp only at hi ⊢
              split at hi
              · omega
              · rename_i hne
                obtain ⟨y, hy, hr⟩ := old i bl hne hi
                have := h.dom i y hy
                omega
          · cases ha
        · cases ha

/-- What is asked of calls. -/
def LogOK (cl : FuncId → List V → G → Option (En × G)) : Prop := ∀ f args g en g', cl f args g = some (en, g') → (∀ b blk, g.hp b = some blk → b < g.nx) → LI g (bare g')

theorem LI.call {P : Program} {cl : FuncId → List V → G → Option (En × G)} (hcl : LogOK cl) {g0 : G} {m m' : Mem} (h : LI g0 m) {f : FuncId} {args : List V} {x : R} (hc : callD P cl f args m = some (x, m')) : LI g0 m' := by
  unfold callD at hc
  split at hc
  · split at hc
    · cases hc
    · have h1 := LI.spillL spillFuel args m h
      simp only at hc
      cases hcl2 : cl f args (Sx.spillL spillFuel args m).g with
      | none => rw [hcl2] at hc; cases hc
      | some y =>
        obtain ⟨en, g'⟩ := y
        rw [hcl2] at hc
        have := h1.beside (hcl f args _ en g' hcl2 h1.dom)
        cases en <;> (cases hc; exact this)
  · cases hc

theorem LI.op {P : Program} {cl : FuncId → List V → G → Option (En × G)} (hcl : LogOK cl) {g0 : G} {st : St} (h : LI g0 st.m) {slot : Option Nat} (hs : ∀ i, slot = some i → g0.nx ≤ i ∧ i < st.m.g.nx) {o : Oper} {x : R} {m' : Mem} (ho : opD P cl st slot o = some (x, m')) : LI g0 m' := by
  obtain ⟨regs, nt, m⟩ := st
  obtain ⟨dst, op, type, pos, after, guard⟩ := o
  simp only at h hs
  cases op
  case alloc e => simp only [opD] at ho; split at ho <;> cases ho; exact h.new slot hs _
  case box e y => simp only [opD] at ho; split at ho <;> cases ho; exact h.new slot hs _
  case buildSlice t n ps =>
    simp only [opD] at ho
    repeat' split at ho
    all_goals first | (cases ho; done) | (cases ho; exact h.new slot hs _)
  case makeSlice t l c =>
    simp only [opD] at ho
    repeat' split at ho
    all_goals first | (cases ho; done) | (cases ho; exact h.new slot hs _)
  case store t p v =>
    simp only [opD] at ho
    split at ho
    · split at ho
      · simp only [Option.map_eq_some_iff] at ho
        obtain ⟨m1, h1, ho⟩ := ho
        cases ho
        refine LI.write ?_ h1
        split
        · exact h
        · exact LI.spillL _ _ _ h
      · cases ho
    · cases ho
  case call c =>
    obtain ⟨callee, args, tys⟩ := c
    simp only [opD] at ho
    cases callee with
    | invoke r n => cases ho
    | value f =>
      simp only at ho
      split at ho
      · exact h.call hcl ho
      · cases ho
    | builtin b =>
      simp only at ho
      split at ho
      · cases ho; exact h
      · unfold builtinD at ho
        simp only at ho
        split at ho
        · split at ho <;> cases ho; exact h
        · repeat' split at ho
          all_goals first | (cases ho; done) | skip
          all_goals
            simp only [Option.map_eq_some_iff] at ho
            obtain ⟨y, hy, ho⟩ := ho
            cases ho
            exact LI.append (LI.spillL _ _ _ h) hy
        · repeat' split at ho
          all_goals first | (cases ho; done) | (rename_i hw; cases ho; exact h.write hw)
        · cases ho
  all_goals
    simp only [opD] at ho
    repeat' split at ho
    all_goals first
      | (cases ho; done)
      | (cases ho; exact h)
      | (simp only [Option.map_eq_some_iff] at ho; obtain ⟨y, hy, ho⟩ := ho; cases ho; exact h)
end Go.Sx

/- What is asked of calls, paid by the evaluator itself. -/
namespace Go.Sx

section
variable {P : Program} {cl : FuncId → List V → G → Option (En × G)}

mutual
theorem spillV_nx : ∀ (n : Nat) (v : V) (m : Mem), (spillV n v m).g.nx = m.g.nx
  | 0, v, m => by simp only [spillV]
  | n + 1, v, m => by
    have box : ∀ b, (match m.ob b with | some cs => spillL n cs (spill1 m b cs) | Option.none => m).g.nx = m.g.nx := by
      intro b
      split
      · rename_i cs ho
        rw [spillL_nx n cs _]; rfl
      · rfl
    cases v <;> simp only [spillV] <;> first
      | exact box _
      | rfl
      | exact spillV_nx n _ m
      | exact spillL_nx n _ m
      | skip
    rw [spillL_nx n _ _, spillL_nx n _ m]
theorem spillL_nx : ∀ (n : Nat) (l : List V) (m : Mem), (spillL n l m).g.nx = m.g.nx
  | 0, l, m => by simp only [spillL]
  | n + 1, [], m => by simp only [spillL]
  | n + 1, v :: l, m => by
    simp only [spillL]
    rw [spillL_nx n l _, spillV_nx n v m]
end
theorem write_nx {m m' : Mem} {b o : Nat} {vs : List V} (h : writeD m b o vs = some m') : m'.g.nx = m.g.nx := by
  unfold writeD at h
  repeat' split at h
  all_goals first | (cases h; done) | (cases h; rfl)
theorem append_nx {m m' : Mem} {z by_ n : Nat} {s v : V} {xs : List V} (h : appendD m z by_ s n xs = some (v, m')) : m.g.nx ≤ m'.g.nx := by
  unfold appendD at h
  simp only at h
  repeat' split at h
  all_goals first | (cases h; done) | (rename_i hw; cases h; rw [write_nx hw]; exact Nat.le_refl _) | (cases h; simp)
theorem new_nx (m : Mem) (slot : Option Nat) (cs : List V) : m.g.nx ≤ (newD m slot cs).2.g.nx := by
  cases slot <;> simp [newD]

theorem op_nx (hcl : LogOK cl) {g0 : G} {st : St} (h : LI g0 st.m) {slot : Option Nat} {o : Oper} {x : R} {m' : Mem} (ho : opD P cl st slot o = some (x, m')) : st.m.g.nx ≤ m'.g.nx := by
  obtain ⟨regs, nt, m⟩ := st
  obtain ⟨dst, op, type, pos, after, guard⟩ := o
  simp only at h ⊢
  cases op
  case alloc e => simp only [opD] at ho; split at ho <;> cases ho; exact new_nx _ _ _
  case box e y => simp only [opD] at ho; split at ho <;> cases ho; exact new_nx _ _ _
  case buildSlice t n ps =>
    simp only [opD] at ho
    repeat' split at ho
    all_goals first | (cases ho; done) | (cases ho; exact new_nx _ _ _)
  case makeSlice t l c =>
    simp only [opD] at ho
    repeat' split at ho
    all_goals first | (cases ho; done) | (cases ho; exact new_nx _ _ _)
  case store t p v =>
    simp only [opD] at ho
    split at ho
    · split at ho
      · simp only [Option.map_eq_some_iff] at ho
        obtain ⟨m1, h1, ho⟩ := ho
        cases ho
        rw [write_nx h1]
        split
        · exact Nat.le_refl _
        · rw [spillL_nx]; exact Nat.le_refl _
      · cases ho
    · cases ho
  case call c =>
    obtain ⟨callee, args, tys⟩ := c
    simp only [opD] at ho
    cases callee with
    | invoke r n => cases ho
    | value f =>
      simp only at ho
      split at ho
      · rename_i fid av cv hv
        unfold callD at ho
        split at ho
        · split at ho
          · cases ho
          · simp only at ho
            have h1 := LI.spillL spillFuel (av ++ args.toList.map (evalD regs) ++ cv) m h
            cases hc : cl fid (av ++ args.toList.map (evalD regs) ++ cv) (Sx.spillL spillFuel (av ++ args.toList.map (evalD regs) ++ cv) m).g with
            | none => rw [hc] at ho; cases ho
            | some y =>
              obtain ⟨en, g'⟩ := y
              rw [hc] at ho
              have h2 := (hcl _ _ _ _ _ hc h1.dom).nx
              rw [spillL_nx] at h2
              cases en <;> (cases ho; exact h2)
        · cases ho
      · cases ho
    | builtin b =>
      simp only at ho
      split at ho
      · cases ho; exact Nat.le_refl _
      · unfold builtinD at ho
        simp only at ho
        split at ho
        · split at ho <;> cases ho; exact Nat.le_refl _
        · repeat' split at ho
          all_goals first | (cases ho; done) | skip
          all_goals
            simp only [Option.map_eq_some_iff] at ho
            obtain ⟨y, hy, ho⟩ := ho
            cases ho
            have := append_nx hy
            rw [spillL_nx] at this
            exact this
        · repeat' split at ho
          all_goals first | (cases ho; done) | (rename_i hw; cases ho; rw [write_nx hw]; exact Nat.le_refl _)
        · cases ho
  all_goals
    simp only [opD] at ho
    repeat' split at ho
    all_goals first
      | (cases ho; done)
      | (cases ho; exact Nat.le_refl _)
      | (simp only [Option.map_eq_some_iff] at ho; obtain ⟨y, hy, ho⟩ := ho; cases ho; exact Nat.le_refl _)

theorem putD_m {st st' : St} {dst : Option Nat} {v : V} (h : putD st dst v = some st') : st'.m = st.m ∧ st'.nt = st.nt := by
  unfold putD at h
  cases dst with
  | none => cases h; exact ⟨rfl, rfl⟩
  | some d => simp only at h; split at h <;> cases h; exact ⟨rfl, rfl⟩

theorem LI.ops (hcl : LogOK cl) {g0 : G} {ops : Array Oper} : ∀ (l : List Oper) (st : St) (x : X) (st' : St), opsD P cl ops l st = some (x, st') → LI g0 st.m → LI g0 st'.m
  | [], st, x, st', h, k => by simp only [opsD] at h; cases h; exact k
  | o :: l, st, x, st', h, k => by
    simp only [opsD] at h
    split at h
    · split at h
      · rename_i v m hv
        have k1 := LI.op hcl k (fun i hi => by cases hi) hv
        split at h
        · rename_i st1 hp
          exact LI.ops hcl l st1 x st' h (by rw [(putD_m hp).1]; exact k1)
        · cases h
      · rename_i m hv
        have k1 := LI.op hcl k (fun i hi => by cases hi) hv
        split at h
        · rename_i st1 hp
          exact LI.ops hcl l st1 x st' h (by rw [(putD_m hp).1]; exact k1)
        · cases h
      · rename_i v m hv
        cases h
        exact LI.op hcl k (fun i hi => by cases hi) hv
      · cases h
    · split at h
      · rename_i st1 hp
        exact LI.ops hcl l st1 x st' h (by rw [(putD_m hp).1]; exact k)
      · cases h
    · cases h

theorem LI.stepI (hcl : LogOK cl) {g0 : G} {ops : Array Oper} {base i : Nat} {s s' : DS} (h : stepI P cl ops base i s = some s') (k : LI g0 s.1.m) (hb : g0.nx ≤ base) (hi : base + i < s.1.m.g.nx) : LI g0 s'.1.m ∧ s.1.m.g.nx ≤ s'.1.m.g.nx := by
  unfold Sx.stepI at h
  have hs : ∀ j, some (base + i) = some j → g0.nx ≤ j ∧ j < s.1.m.g.nx := by intro j e; cases e; exact ⟨by omega, hi⟩
  split at h
  · cases h
  · split at h
    · simp only [Option.map_eq_some_iff] at h
      obtain ⟨st1, hp, rfl⟩ := h
      rw [(putD_m hp).1]
      exact ⟨k, Nat.le_refl _⟩
    · split at h
      · rename_i v m hv
        simp only [Option.map_eq_some_iff] at h
        obtain ⟨st1, hp, rfl⟩ := h
        rw [(putD_m hp).1]
        exact ⟨LI.op hcl k hs hv, op_nx hcl k hv⟩
      · rename_i m hv
        simp only [Option.map_eq_some_iff] at h
        obtain ⟨st1, hp, rfl⟩ := h
        rw [(putD_m hp).1]
        exact ⟨LI.op hcl k hs hv, op_nx hcl k hv⟩
      · cases h
    · cases h

theorem LI.runI (hcl : LogOK cl) {g0 : G} {ops : Array Oper} {base : Nat} : ∀ (l : List Nat) (s s' : DS), runI P cl ops base l s = some s' → LI g0 s.1.m → g0.nx ≤ base → (∀ i ∈ l, base + i < s.1.m.g.nx) → LI g0 s'.1.m
  | [], s, s', h, k, _, _ => by simp only [Sx.runI] at h; cases h; exact k
  | i :: l, s, s', h, k, hb, hi => by
    simp only [Sx.runI] at h
    split at h
    · rename_i s1 h1
      obtain ⟨k1, k2⟩ := LI.stepI hcl h1 k hb (hi i (List.mem_cons_self ..))
      exact LI.runI hcl l s1 s' h k1 hb (fun j hj => Nat.lt_of_lt_of_le (hi j (List.mem_cons_of_mem _ hj)) k2)
    · cases h

theorem LI.panicR (hcl : LogOK cl) {g0 : G} {ops : Array Oper} {base : Nat} : ∀ (l : List Nat) (s : DS) (r : X × St), Sx.panicR P cl ops base l s = some r → LI g0 s.1.m → g0.nx ≤ base → (∀ i ∈ l, base + i < s.1.m.g.nx) → LI g0 r.2.m
  | [], s, r, h, _, _, _ => by simp only [Sx.panicR] at h; cases h
  | i :: l, s, r, h, k, hb, hl => by
    simp only [Sx.panicR] at h
    split at h
    · rename_i s1 h1
      obtain ⟨k1, k2⟩ := LI.stepI hcl h1 k hb (hl i (List.mem_cons_self ..))
      exact LI.panicR hcl l s1 r h k1 hb (fun j hj => Nat.lt_of_lt_of_le (hl j (List.mem_cons_of_mem _ hj)) k2)
    · obtain ⟨o, v, m, s', _, _, _, hop, _, rfl⟩ := panicAt_inv h
      exact LI.op hcl k (fun j e => by cases e; exact ⟨by omega, hl i (List.mem_cons_self ..)⟩) hop
theorem LI.draw (hcl : LogOK cl) {g0 : G} {ops : Array Oper} {st : St} {x : X} {st' : St} (h : drawD P cl ops st = some (x, st')) (k : LI g0 st.m) : LI g0 st'.m := by
  unfold drawD at h
  split at h
  · simp only at h
    split at h
    · rename_i st1 tr hr
      split at h
      · cases h
        refine LI.runI hcl _ _ _ hr ?_ k.nx (fun i hi => by simp at hi ⊢; exact hi)
        have hn := k.nx
        exact { log := k.log, nx := by simp; omega, root := k.root, own := k.own, dom0 := k.dom0, dom := fun b blk hb => by have := k.dom b blk hb; simp; omega, domo := fun b cs hb => by have := k.domo b cs hb; simp; omega }
      · cases h
    · refine LI.panicR hcl _ _ _ h ?_ k.nx (fun i hi => by simp at hi ⊢; exact hi)
      exact { log := k.log, nx := by have hn := k.nx; simp; omega, root := k.root, own := k.own, dom0 := k.dom0, dom := fun b blk hb => by have := k.dom b blk hb; simp; omega, domo := fun b cs hb => by have := k.domo b cs hb; simp; omega }
  · cases h

theorem LI.exec {S : FuncId → List V → Option V} : ∀ (n : Nat), (∀ (c : Code) (st : St) (x : X) (st' : St) (g0 : G), execD P S n c st = some (x, st') → LI g0 st.m → LI g0 st'.m) ∧ LogOK (runF P S (execD P S n)) := by
  have fn : ∀ n, (∀ (c : Code) (st : St) (x : X) (st' : St) (g0 : G), execD P S n c st = some (x, st') → LI g0 st.m → LI g0 st'.m) → LogOK (runF P S (execD P S n)) := by
    intro n ih f args g en g' h hd
    unfold runF at h
    have toBare : ∀ (st : St) (v : V), LI g st.m → LI g (bare (Sx.spillV spillFuel v st.m).g) := by
      intro st v k
      have k1 := LI.spillV spillFuel v st.m k
      exact { log := k1.log, nx := k1.nx, root := k1.root, own := (fun _ _ h => by cases h), dom0 := k1.dom0, dom := k1.dom, domo := (fun _ _ h => by cases h) }
    split at h
    · cases h; exact LI.refl hd
    split at h
    · unfold effD at h
      split at h
      · rcases joinD_inv h with ⟨x, _, hx⟩ | ⟨b, o, len, cap, sep, l, t, _, _, _, _, _, hx⟩ <;> cases hx <;> exact LI.refl hd
      rcases asD_inv h with ⟨x, rfl, hx⟩ | ⟨b, o, b2, o2, b3, o3, m, rfl, _, hw, hx⟩
      · cases hx; exact LI.refl hd
      · cases hx
        have k1 := LI.write (m := ⟨fun _ => Option.none, g⟩) (LI.refl hd) hw
        exact { log := k1.log, nx := k1.nx, root := k1.root, own := (fun _ _ h => by cases h), dom0 := k1.dom0, dom := k1.dom, domo := (fun _ _ h => by cases h) }
    split at h
    · split at h
      · rename_i body hb
        split at h
        · rename_i q hq
          split at h
          · cases h
          unfold runD at h
          split at h
          · rename_i st2 h2
            have hL : ∀ (l : List Code) (st st' : St), exL (execD P S n) l st = some st' → LI g st.m → LI g st'.m := by
              intro l
              induction l with
              | nil => intro st st' h k; simp only [exL] at h; cases h; exact k
              | cons c l ihl =>
                intro st st' h k
                simp only [exL] at h
                split at h
                · rename_i st1 h1
                  exact ihl st1 st' h (ih c st _ st1 g h1 k)
                · cases h
            have k2 := hL q.1 _ st2 h2 (LI.refl hd)
            have clo : ∀ (d : V) (u : Option V) (st3 st4 : St), LI g st3.m → closeD P (execD P S n) d u st3 = some st4 → LI g st4.m := by
              intro d u st3 st4 k3 hc
              unfold closeD at hc
              split at hc
              · split at hc
                · rename_i v m hcd
                  cases hc
                  refine LI.call (cl := runR P (execD P S n) u) ?_ k3 hcd
                  intro f args g en g' hr hd
                  unfold runR at hr
                  have toBare : ∀ (st : St) (v : V), LI g st.m → LI g (bare (Sx.spillV spillFuel v st.m).g) := by
                    intro st v k
                    have k1 := LI.spillV spillFuel v st.m k
                    exact { log := k1.log, nx := k1.nx, root := k1.root, own := (fun _ _ h => by cases h), dom0 := k1.dom0, dom := k1.dom, domo := (fun _ _ h => by cases h) }
                  split at hr
                  · split at hr
                    · split at hr
                      · split at hr
                        · cases hr
                        split at hr
                        · rename_i st1 hp
                          have k1 : LI g st1.m := by rw [(putD_m hp).1]; exact LI.refl hd
                          split at hr
                          · rename_i st hx
                            simp only [Option.map_eq_some_iff] at hr
                            obtain ⟨v, hv, hr⟩ := hr
                            cases hr
                            exact toBare st v (ih _ _ _ st g hx k1)
                          · rename_i st hx
                            simp only [Option.map_eq_some_iff] at hr
                            obtain ⟨v, hv, hr⟩ := hr
                            cases hr
                            exact toBare st v (ih _ _ _ st g hx k1)
                          · cases hr
                        · cases hr
                      · cases hr
                    · cases hr
                  · cases hr
                · cases hc
              · cases hc
            split at h
            · rename_i st4 h4
              simp only [Option.map_eq_some_iff] at h
              obtain ⟨v, hv, h⟩ := h
              cases h
              refine toBare st4 v ?_
              split at h4
              · rename_i st3 h3; exact clo _ _ _ _ (ih _ _ _ st3 g h3 k2) h4
              · rename_i st3 h3; exact clo _ _ _ _ (ih _ _ _ st3 g h3 k2) h4
              · rename_i v3 st3 h3; exact clo _ _ _ _ (ih _ _ _ st3 g h3 k2) h4
              · cases h4
            · cases h
          · cases h
        split at h
        · rename_i st hx
          simp only [Option.map_eq_some_iff] at h
          obtain ⟨v, hv, h⟩ := h
          cases h
          exact toBare st v (ih body _ _ st g hx (LI.refl hd))
        · rename_i st hx
          simp only [Option.map_eq_some_iff] at h
          obtain ⟨v, hv, h⟩ := h
          cases h
          exact toBare st v (ih body _ _ st g hx (LI.refl hd))
        · rename_i v st hx
          cases h
          exact toBare st v (ih body _ _ st g hx (LI.refl hd))
        · cases h
      · cases h
    · cases h
  intro n
  induction n with
  | zero => exact ⟨fun c st x st' g0 h _ => (by simp only [execD] at h; cases h), fn 0 (fun c st x st' g0 h _ => (by simp only [execD] at h; cases h))⟩
  | succ n ih =>
    obtain ⟨ih1, ih2⟩ := ih
    have key : ∀ (c : Code) (st : St) (x : X) (st' : St) (g0 : G), execD P S (n + 1) c st = some (x, st') → LI g0 st.m → LI g0 st'.m := by
      intro c st x st' g0 h k
      cases c <;> simp only [execD] at h
      case skip => cases h; exact k
      case label l => cases h; exact k
      case region id ops draw =>
        split at h
        · exact LI.draw ih2 h k
        · exact LI.ops ih2 _ _ _ _ h k
      case seq a b =>
        split at h
        · rename_i st1 h1
          exact ih1 b st1 x st' g0 h (ih1 a st _ st1 g0 h1 k)
        · exact ih1 a st x st' g0 h k
      case cond c t e =>
        split at h
        · exact ih1 _ st x st' g0 h k
        · cases h
      case block id body =>
        split at h
        · rename_i i st1 h1
          cases h
          exact ih1 body st _ st' g0 h1 k
        · exact ih1 body st x st' g0 h k
      case loop body =>
        split at h
        · rename_i st1 h1
          exact ih1 _ st1 x st' g0 h (ih1 body st _ st1 g0 h1 k)
        · exact ih1 body st x st' g0 h k
      case exit id => cases h; exact k
      case ret => cases h; exact k
      case scope body => exact ih1 body st x st' g0 h k
      case rangeFunc g ps assign body =>
        obtain ⟨_, _, gf, cb, co, e, p0, p1, z, sv, len, x', m', _, _, _, _, _, _, hr, hx⟩ := rangeD_inv h
        cases hx
        have go : ∀ (i : Nat) (m : Mem) (r : X × Mem), roundsB P (execD P S n) e z cb co p0 p1 assign body st i m = some r → LI g0 m → LI g0 r.2 := by
          intro i
          induction i with
          | zero => intro m r hr k; simp only [roundsB] at hr; cases hr; exact k
          | succ i ihr =>
            intro m r hr k
            obtain ⟨b, o, len, cap, v, st1, st2, st3, xb, st4, _, _, _, h4, h5, h6, h7, h8⟩ := roundsB_inv hr
            have k1 : LI g0 st1.m := by rw [(putD_m h4).1]; exact k
            have k2 : LI g0 st2.m := by rw [(putD_m h5).1]; exact k1
            have k4 := ih1 body st3 _ st4 g0 h7 (ih1 assign st2 _ st3 g0 h6 k2)
            rcases h8 with ⟨_, h8⟩ | ⟨_, rfl⟩ | ⟨_, _, rfl⟩
            · exact ihr _ _ h8 k4
            · exact k4
            · exact k4
        exact go _ _ _ hr k
      all_goals cases h
    exact ⟨key, fn _ key⟩
end
end Go.Sx

/- Regions that draw their order: what an operation hangs on. -/
namespace Go.Sx

section
variable {P : Program} {cl : FuncId → List V → G → Option (En × G)}

theorem plainD_congr {r1 r2 : Nat → V} {o : Oper} (h : ∀ x ∈ o.op.operands, evalD r1 x = evalD r2 x) : plainD P r1 o = plainD P r2 o := by
  by_cases hs : ∃ cs b, o.op = .select cs b
  · obtain ⟨cs, b, e⟩ := hs
    unfold plainD
    simp only [e]
    split <;> split <;> rfl
  · have hs' : ∀ cs b, o.op ≠ .select cs b := fun cs b e => hs ⟨cs, b, e⟩
    have h1 : (o.op.operands.toList.all fun x => (toVal (evalD r1 x)).isSome) = (o.op.operands.toList.all fun x => (toVal (evalD r2 x)).isSome) := by
      rw [Bool.eq_iff_iff, List.all_eq_true, List.all_eq_true]
      constructor <;> intro hh x hx <;> have := hh x hx
      · rw [← h x (Array.mem_toList_iff.1 hx)]; exact this
      · rw [h x (Array.mem_toList_iff.1 hx)]; exact this
    have h2 : execOp (fun x => (toVal (evalD r1 x)).getD undef) o = execOp (fun x => (toVal (evalD r2 x)).getD undef) o :=
      execOp_congr o hs' fun x hx => by rw [h x hx]
    unfold plainD
    rw [h1, h2]

theorem map_congr_op {r1 r2 : Nat → V} {l : List Operand} (h : ∀ x ∈ l, evalD r1 x = evalD r2 x) : l.map (evalD r1) = l.map (evalD r2) := List.map_congr_left h

theorem opD_congr {r1 r2 : Nat → V} {n1 n2 : Nat} {m : Mem} {sl : Option Nat} {o : Oper} (h : ∀ x ∈ o.op.operands, evalD r1 x = evalD r2 x) : opD P cl ⟨r1, n1, m⟩ sl o = opD P cl ⟨r2, n2, m⟩ sl o := by
  have hp := plainD_congr (P := P) h
  obtain ⟨dst, op, type, pos, after, guard⟩ := o
  have parts : ∀ ps : Array (Nat × Operand), (∀ x ∈ (ps.toList.map (·.2)).toArray, evalD r1 x = evalD r2 x) → partsD r1 ps = partsD r2 ps := by
    intro ps hh
    unfold partsD
    exact List.map_congr_left fun x hx => by
      rw [hh x.2 (by simp; exact ⟨x.1, by simpa using hx⟩)]
  cases op <;> simp only [Op.operands] at h <;> simp only [opD]
  case build t ps => rw [parts ps h]
  case buildSlice t n ps => rw [parts ps h]
  case makeFunc fn first cap =>
    have e1 : first.toList.map (evalD r1) = first.toList.map (evalD r2) := List.map_congr_left fun x hx => h x (by simp; exact .inl (Array.mem_toList_iff.1 hx))
    have e2 : cap.toList.map (evalD r1) = cap.toList.map (evalD r2) := List.map_congr_left fun x hx => h x (by simp; exact .inr (Array.mem_toList_iff.1 hx))
    rw [e1, e2]
  case slice t x lo hi mx =>
    have e0 : evalD r1 x = evalD r2 x := h x (by simp)
    have e1 : lo.map (evalD r1) = lo.map (evalD r2) := by cases lo <;> simp_all
    have e2 : hi.map (evalD r1) = hi.map (evalD r2) := by cases hi <;> simp_all
    have e3 : mx.map (evalD r1) = mx.map (evalD r2) := by cases mx <;> simp_all
    rw [e0, e1, e2, e3]
  case call c =>
    obtain ⟨callee, args, tys⟩ := c
    have ea : args.toList.map (evalD r1) = args.toList.map (evalD r2) := List.map_congr_left fun x hx => h x (by simp [Call.operands]; exact .inr (Array.mem_toList_iff.1 hx))
    cases callee with
    | value f =>
      have ef : evalD r1 f = evalD r2 f := h f (by simp [Call.operands])
      simp only [ef, ea]
    | invoke r n => rfl
    | builtin b =>
      simp only [hp]
      split
      · rfl
      · unfold builtinD; simp only [ea]
  all_goals (first | rfl | (simp_all; done) | (rw [hp]; simp_all; done) | (simp only [hp]; done))
end
end Go.Sx

/- Regions that draw their order: two operations that nothing orders may change places. -/
namespace Go.Sx

def putOb (m : Mem) (sl : Nat) : Option (List V) → Mem
  | Option.none => m
  | some cs => { m with ob := upd m.ob sl (some cs) }

section
variable {P : Program} {cl : FuncId → List V → G → Option (En × G)} {regs : Nat → V} {nt : Nat} {m m' : Mem} {sl : Nat} {o : Oper} {r : R}

theorem free_spec (hk : kindD P o = .free) (h : opD P cl ⟨regs, nt, m⟩ (some sl) o = some (r, m')) :
    ∃ al, m' = putOb m sl al ∧ ∀ m2 n2, opD P cl ⟨regs, n2, m2⟩ (some sl) o = some (r, putOb m2 sl al) := by
  obtain ⟨dst, op, type, pos, after, guard⟩ := o
  have same : ∀ (y : Option R), (y.map fun r => (r, m)) = some (r, m') → ∃ al, m' = putOb m sl al ∧ ∀ m2 : Mem, (y.map fun r => (r, m2)) = some (r, putOb m2 sl al) := by
    intro y hy
    simp only [Option.map_eq_some_iff] at hy
    obtain ⟨z, hz, hy⟩ := hy
    cases hy
    exact ⟨Option.none, rfl, fun m2 => by simp [hz, putOb]⟩
  cases op
  case alloc e =>
    simp only [opD] at h ⊢
    cases hz : zeroD P e with
    | none => rw [hz] at h; cases h
    | some cs =>
      rw [hz] at h
      cases h
      exact ⟨some cs, rfl, fun m2 n2 => rfl⟩
  case box e x =>
    simp only [opD] at h ⊢
    cases hz : cellsD (evalD regs x) with
    | none => rw [hz] at h; cases h
    | some cs =>
      rw [hz] at h
      cases h
      exact ⟨some cs, rfl, fun m2 n2 => rfl⟩
  case buildSlice t n ps =>
    simp only [opD] at h ⊢
    cases he : elemD P t with
    | none => rw [he] at h; cases h
    | some e =>
      rw [he] at h
      simp only at h ⊢
      cases hz : sizeD P e with
      | none => rw [hz] at h; cases h
      | some z =>
        cases hze : zeroD P e with
        | none => rw [hz, hze] at h; cases h
        | some zero =>
          rw [hz, hze] at h
          simp only at h ⊢
          split at h
          · rename_i hc
            simp only [if_pos hc]
            cases hf : fillD (fun i => some (i * z, z)) (repeatD zero n) (partsD regs ps) with
            | none => rw [hf] at h; cases h
            | some cs =>
              rw [hf] at h
              cases h
              exact ⟨some cs, rfl, fun m2 n2 => rfl⟩
          · cases h
  case makeSlice t l c =>
    simp only [opD] at h ⊢
    cases he : elemD P t with
    | none => rw [he] at h; cases h
    | some e =>
      rw [he] at h
      cases hl : asNat (evalD regs l) with
      | none => rw [hl] at h; cases h
      | some nl =>
        cases hcc : asNat (evalD regs c) with
        | none => rw [hl, hcc] at h; cases h
        | some nc =>
          rw [hl, hcc] at h
          simp only at h ⊢
          cases hz : sizeD P e with
          | none => rw [hz] at h; cases h
          | some z =>
            cases hb : bytesD P e with
            | none => rw [hz, hb] at h; cases h
            | some by_ =>
              cases hze : zeroD P e with
              | none => rw [hz, hb, hze] at h; cases h
              | some zero =>
                rw [hz, hb, hze] at h
                simp only at h ⊢
                split at h
                · rename_i hc
                  simp only [if_pos hc]
                  cases h
                  exact ⟨some (repeatD zero nc), rfl, fun m2 n2 => rfl⟩
                · cases h
  case convert s d x =>
    simp only [opD] at h ⊢
    simp only [kindD] at hk
    split at h
    · rename_i y hy
      cases h
      exact ⟨Option.none, rfl, fun m2 n2 => rfl⟩
    · exfalso
      cases hs : P.underlying s with
      | none => rw [hs] at h; simp at h
      | some ds =>
        rw [hs] at hk h
        cases ds <;> first | (simp at hk; done) | (simp at h; done)
  case call c =>
    obtain ⟨callee, args, tys⟩ := c
    simp only [kindD] at hk
    cases callee with
    | value f => cases hk
    | invoke rr n => cases hk
    | builtin b =>
      simp only [opD] at h ⊢
      cases hpl : plainD P regs ⟨dst, .call ⟨.builtin b, args, tys⟩, type, pos, after, guard⟩ with
      | some y =>
        rw [hpl] at h
        cases h
        exact ⟨Option.none, rfl, fun m2 n2 => rfl⟩
      | none =>
        rw [hpl] at h
        simp only at h ⊢
        cases b <;> simp only [reduceCtorEq] at hk
        case len =>
          unfold builtinD at h
          simp only at h
          split at h
          · rename_i v e0 hv
            split at h
            · rename_i b0 o0 len cap e he
              cases h
              refine ⟨Option.none, rfl, fun m2 n2 => ?_⟩
              unfold builtinD
              simp only [hv, he, putOb]
            · cases h
          · rename_i e0 hv; cases e0
          · rename_i e0 hv; cases e0
          · cases h
        all_goals
          exfalso
          unfold builtinD at h
          simp only at h
          cases h
  all_goals first
    | (simp [kindD] at hk; done)
    | skip
  all_goals
    simp only [opD] at h ⊢
    first
      | (cases h; exact ⟨Option.none, rfl, fun m2 n2 => rfl⟩)
      | (repeat' split at h
         all_goals first
           | (cases h; done)
           | (cases h; refine ⟨Option.none, rfl, fun m2 n2 => ?_⟩; simp_all [putOb]; done)
           | (simp only [Option.map_eq_some_iff] at h; obtain ⟨y, hy, h⟩ := h; cases h; refine ⟨Option.none, rfl, fun m2 n2 => ?_⟩; simp_all [putOb]; done))
end
end Go.Sx

/- Two operations that nothing orders change places: memory. -/
namespace Go.Sx

mutual
def hasId (i : Nat) : V → Bool
  | .ptr b _ => b == i
  | .slice b _ _ _ => b == i
  | .func _ a c => hasIds i a || hasIds i c
  | .iface _ v => hasId i v
  | .agg l => hasIds i l
  | .tuple l => hasIds i l
  | _ => false
def hasIds (i : Nat) : List V → Bool
  | [] => false
  | v :: l => hasId i v || hasIds i l
end

mutual
theorem hasId_rel {μ : Map} {i : Nat} (hi : μ i = Option.none) : ∀ {v : V} {v' : Value}, VRel μ v v' → hasId i v = false
  | _, _, .any _ => by simp [hasId]
  | _, _, .bool _ => by simp [hasId]
  | _, _, .int _ _ => by simp [hasId]
  | _, _, .str _ => by simp [hasId]
  | _, _, .ptr b o c p n h => by
    simp only [hasId, beq_eq_false_iff_ne]
    intro e; subst e; rw [hi] at h; cases h
  | _, _, .nilp => by simp [hasId]
  | _, _, .slice b o len cap c p n h h1 => by
    simp only [hasId, beq_eq_false_iff_ne]
    intro e; subst e; rw [hi] at h; cases h
  | _, _, .sliceU b o len z cap c p n h h1 h2 => by
    simp only [hasId, beq_eq_false_iff_ne]
    intro e; subst e; rw [hi] at h; cases h
  | _, _, .nils => by simp [hasId]
  | _, _, .func f a c a' c' h1 h2 => by simp [hasId, hasIds_rel hi h1, hasIds_rel hi h2]
  | _, _, .nilf => by simp [hasId]
  | _, _, .iface t v v' h => by simp [hasId, hasId_rel hi h]
  | _, _, .nili => by simp [hasId]
  | _, _, .agg l l' h => by simp [hasId, hasIds_rel hi h]
  | _, _, .tuple l l' h => by simp [hasId, hasIds_rel hi h]
theorem hasIds_rel {μ : Map} {i : Nat} (hi : μ i = Option.none) : ∀ {l : List V} {l' : List Value}, VRels μ l l' → hasIds i l = false
  | _, _, .nil => by simp [hasIds]
  | _, _, .cons v v' l l' h t => by simp [hasIds, hasId_rel hi h, hasIds_rel hi t]
end

def setOb (m : Mem) (sl : Nat) (x : Option (List V)) : Mem := { m with ob := upd m.ob sl x }

/-- No other block of the frame's own names the block. -/
def NoOb (sl : Nat) (m : Mem) : Prop := ∀ b cs, b ≠ sl → m.ob b = some cs → hasIds sl cs = false

theorem upd_comm {α : Type} {f : Nat → α} {i j : Nat} {x y : α} (h : i ≠ j) : upd (upd f i x) j y = upd (upd f j y) i x := by
  funext k
  unfold upd
  by_cases h1 : k = j <;> by_cases h2 : k = i
  · omega
  · simp [h1, h2]; omega
  · simp [h1, h2]; omega
  · simp [h1, h2]

theorem spill1_put {m : Mem} {sl b : Nat} {al : Option (List V)} {cs : List V} (h : b ≠ sl) : spill1 (setOb m sl al) b cs = setOb (spill1 m b cs) sl al := by
  simp only [setOb, spill1]; rw [upd_comm (fun e => h e.symm)]

theorem spill1_noOb {m : Mem} {sl b : Nat} {cs : List V} (h : NoOb sl m) : NoOb sl (spill1 m b cs) := by
  intro i cs' hne hi
  simp only [spill1, upd] at hi
  split at hi
  · cases hi
  · exact h i cs' hne hi

mutual
theorem spillV_put {sl : Nat} {al : Option (List V)} : ∀ (n : Nat) (v : V) (m : Mem), hasId sl v = false → NoOb sl m → spillV n v (setOb m sl al) = setOb (spillV n v m) sl al ∧ NoOb sl (spillV n v m)
  | 0, v, m, _, hm => by simp only [spillV]; exact ⟨trivial, hm⟩
  | n + 1, v, m, hv, hm => by
    have box : ∀ b, (b == sl) = false → (match (setOb m sl al).ob b with | some cs => spillL n cs (spill1 (setOb m sl al) b cs) | Option.none => setOb m sl al) = setOb (match m.ob b with | some cs => spillL n cs (spill1 m b cs) | Option.none => m) sl al ∧
        NoOb sl (match m.ob b with | some cs => spillL n cs (spill1 m b cs) | Option.none => m) := by
      intro b hb
      have hne : b ≠ sl := by simpa using hb
      have e1 : (setOb m sl al).ob b = m.ob b := by simp [setOb, upd, hne]
      rw [e1]
      cases ho : m.ob b with
      | none => exact ⟨rfl, hm⟩
      | some cs =>
        simp only
        rw [spill1_put hne]
        exact spillL_put n cs _ (hm b cs hne ho) (spill1_noOb hm)
    cases v <;> simp only [spillV, hasId, Bool.or_eq_false_iff] at hv ⊢ <;> first
      | exact box _ hv
      | exact ⟨trivial, hm⟩
      | exact spillV_put n _ m hv hm
      | exact spillL_put n _ m hv hm
      | skip
    obtain ⟨a1, a2⟩ := spillL_put (al := al) n _ m hv.1 hm
    obtain ⟨b1, b2⟩ := spillL_put (al := al) n _ _ hv.2 a2
    rw [a1, b1]
    exact ⟨rfl, b2⟩
theorem spillL_put {sl : Nat} {al : Option (List V)} : ∀ (n : Nat) (l : List V) (m : Mem), hasIds sl l = false → NoOb sl m → spillL n l (setOb m sl al) = setOb (spillL n l m) sl al ∧ NoOb sl (spillL n l m)
  | 0, l, m, _, hm => by simp only [spillL]; exact ⟨trivial, hm⟩
  | n + 1, [], m, _, hm => by simp only [spillL]; exact ⟨trivial, hm⟩
  | n + 1, v :: l, m, hv, hm => by
    simp only [hasIds, Bool.or_eq_false_iff] at hv
    simp only [spillL]
    obtain ⟨a1, a2⟩ := spillV_put (al := al) n v m hv.1 hm
    rw [a1]
    exact spillL_put n l _ hv.2 a2
end

theorem setOb_g (m : Mem) (sl : Nat) (al : Option (List V)) : (setOb m sl al).g = m.g := rfl
theorem setOb_setg (m : Mem) (sl : Nat) (al : Option (List V)) (g : G) : { setOb m sl al with g := g } = setOb { m with g := g } sl al := rfl

section
variable {P : Program} {cl : FuncId → List V → G → Option (En × G)}

theorem callD_put {f : FuncId} {args : List V} {m m' : Mem} {r : R} {sl : Nat} (al : Option (List V)) (ha : hasIds sl args = false) (hm : NoOb sl m) (h : callD P cl f args m = some (r, m')) : callD P cl f args (setOb m sl al) = some (r, setOb m' sl al) := by
  unfold callD at h ⊢
  cases hf : P.funcs[f]? with
  | none => rw [hf] at h; cases h
  | some fn =>
    rw [hf] at h
    simp only at h ⊢
    split at h
    · cases h
    · rename_i hok
      simp only [if_neg hok]
      obtain ⟨a1, a2⟩ := spillL_put (al := al) spillFuel args m ha hm
      rw [a1, setOb_g]
      cases hc : cl f args (spillL spillFuel args m).g with
      | none => rw [hc] at h; cases h
      | some y =>
        obtain ⟨en, g'⟩ := y
        rw [hc] at h
        cases en <;> (cases h; simp only [setOb_setg])

/-- What giving away leaves. -/
theorem spill1_left (m : Mem) (b : Nat) (cs : List V) : ∃ l, (spill1 m b cs).g.log = l ++ m.g.log ∧ ∀ i, i ∉ l → (spill1 m b cs).ob i = m.ob i ∧ (spill1 m b cs).g.hp i = m.g.hp i := by
  refine ⟨[b], rfl, fun i hi => ?_⟩
  have hne : i ≠ b := fun e => hi (by simp [e])
  simp [spill1, upd, hne]
structure Left (m m' : Mem) : Prop where
  log : ∃ l, m'.g.log = l ++ m.g.log ∧ ∀ i, i ∉ l → m'.ob i = m.ob i ∧ m'.g.hp i = m.g.hp i
  none : ∀ i, m.ob i = Option.none → m'.ob i = Option.none
theorem Left.refl (m : Mem) : Left m m := ⟨⟨[], rfl, fun _ _ => ⟨rfl, rfl⟩⟩, fun _ h => h⟩
theorem Left.trans {m m1 m2 : Mem} (h : Left m m1) (k : Left m1 m2) : Left m m2 := by
  obtain ⟨l1, e1, f1⟩ := h.log
  obtain ⟨l2, e2, f2⟩ := k.log
  refine ⟨⟨l2 ++ l1, by rw [e2, e1, List.append_assoc], fun i hi => ?_⟩, fun i hi => k.none i (h.none i hi)⟩
  have a := f1 i (fun hh => hi (List.mem_append_right _ hh))
  have b := f2 i (fun hh => hi (List.mem_append_left _ hh))
  exact ⟨b.1.trans a.1, b.2.trans a.2⟩
theorem Left.spill1 (m : Mem) (b : Nat) (cs : List V) : Left m (spill1 m b cs) :=
  ⟨spill1_left m b cs, fun i hi => by simp only [Sx.spill1, upd]; split; rfl; exact hi⟩
mutual
theorem Left.spillV : ∀ (n : Nat) (v : V) (m : Mem), Left m (Sx.spillV n v m)
  | 0, v, m => by simp only [Sx.spillV]; exact Left.refl _
  | n + 1, v, m => by
    have box : ∀ b, Left m (match m.ob b with | some cs => Sx.spillL n cs (Sx.spill1 m b cs) | Option.none => m) := by
      intro b
      split
      · exact (Left.spill1 m b _).trans (Left.spillL n _ _)
      · exact Left.refl _
    cases v <;> simp only [Sx.spillV] <;> first
      | exact box _
      | exact Left.refl _
      | exact Left.spillV n _ m
      | exact Left.spillL n _ m
      | skip
    exact (Left.spillL n _ m).trans (Left.spillL n _ _)
theorem Left.spillL : ∀ (n : Nat) (l : List V) (m : Mem), Left m (Sx.spillL n l m)
  | 0, l, m => by simp only [Sx.spillL]; exact Left.refl _
  | n + 1, [], m => by simp only [Sx.spillL]; exact Left.refl _
  | n + 1, v :: l, m => by
    simp only [Sx.spillL]
    exact (Left.spillV n v m).trans (Left.spillL n l _)
end

theorem newLog_append (l old : List Nat) : newLog (l ++ old) old = l := by simp [newLog]

/-- A call leaves a block that it does not tell of. -/
theorem call_block (hcl : LogOK cl) {f : FuncId} {args : List V} {m m' : Mem} {r : R} (hd : ∀ b blk, m.g.hp b = some blk → b < m.g.nx) (hdo : ∀ b cs, m.ob b = some cs → b < m.g.nx) {g0 : G} (hli : LI g0 m) (h : callD P cl f args m = some (r, m')) {b : Nat} (hb : b < m.g.nx) (h1 : b ∉ newLog m'.g.log m.g.log)
    (h2 : rootD m b ∉ newLog m'.g.log m.g.log ∧ (blockD m b).isSome = true ∨ rootD m' b ∉ newLog m'.g.log m.g.log ∧ (blockD m' b).isSome = true) : blockD m' b = blockD m b ∧ rootD m' b = rootD m b := by
  unfold callD at h
  split at h
  · rename_i fn hfn
    split at h
    · cases h
    · simp only at h
      have hl := Left.spillL spillFuel args m
      have hnx := spillL_nx spillFuel args m
      have hli1 := LI.spillL spillFuel args m hli
      generalize spillL spillFuel args m = m1 at h hl hnx hli1
      cases hc : cl f args m1.g with
      | none => rw [hc] at h; cases h
      | some y =>
        obtain ⟨en, g'⟩ := y
        rw [hc] at h
        have hm' : m' = { m1 with g := g' } := by cases en <;> (cases h; rfl)
        subst hm'
        clear h
        obtain ⟨l1, e1, f1⟩ := hl.log
        have hk := hcl f args m1.g en g' hc hli1.dom
        obtain ⟨l2, e2, f2⟩ := hk.log
        simp only [bare] at e2 f2
        have hL : newLog g'.log m.g.log = l2 ++ l1 := by rw [e2, e1, ← List.append_assoc]; exact newLog_append _ _
        simp only [hL, List.mem_append, not_or] at h1 h2
        obtain ⟨o1, o2⟩ := f1 b h1.2
        unfold blockD rootD at *
        simp only [o1] at h2 ⊢
        cases hob : m.ob b with
        | some cs => simp
        | none =>
          simp only [hob] at h2 ⊢
          have hr := hk.root b
          simp only [bare] at hr
          have hsame : g'.hp b = m.g.hp b := by
            rcases h2 with ⟨⟨h3, h4⟩, h5⟩ | ⟨⟨h3, h4⟩, h5⟩
            · cases hh : m.g.hp b with
              | none => rw [hh] at h5; simp at h5
              | some blk =>
                rw [hh] at h3
                exact f2 b blk (o2.trans hh) h3
            · cases hh : g'.hp b with
              | none => rw [hh] at h5; simp at h5
              | some blk =>
                rw [hh] at h3
                obtain ⟨blk0, k1, k2⟩ := hr blk hh (by omega)
                have := f2 b blk0 k1 (by rw [k2]; exact h3)
                rw [this] at hh
                rw [← hh, ← o2, k1]
          rw [hsame]
          exact ⟨rfl, rfl⟩
  · cases h
end
end Go.Sx

/- What an operation that writes leaves. -/
namespace Go.Sx

/-- Blocks that are not told of are as they were. -/
def Lv (L : List Nat) (m m' : Mem) : Prop := m.g.nx ≤ m'.g.nx ∧ ∀ b, b < m.g.nx → b ∉ L → (rootD m b ∉ L ∧ (blockD m b).isSome = true ∨ rootD m' b ∉ L ∧ (blockD m' b).isSome = true) → blockD m' b = blockD m b ∧ rootD m' b = rootD m b

theorem Lv.refl (L : List Nat) (m : Mem) : Lv L m m := ⟨Nat.le_refl _, fun _ _ _ _ => ⟨rfl, rfl⟩⟩
theorem Lv.mono {L L' : List Nat} {m m' : Mem} (h : Lv L m m') (hs : ∀ x ∈ L, x ∈ L') : Lv L' m m' :=
  ⟨h.1, fun b hb h1 h2 => h.2 b hb (fun e => h1 (hs _ e)) (h2.imp (fun k => ⟨fun e => k.1 (hs _ e), k.2⟩) (fun k => ⟨fun e => k.1 (hs _ e), k.2⟩))⟩
theorem Lv.trans {L : List Nat} {m m1 m2 : Mem} (h : Lv L m m1) (k : Lv L m1 m2) : Lv L m m2 := by
  refine ⟨Nat.le_trans h.1 k.1, fun b hb h1 h2 => ?_⟩
  rcases h2 with ⟨h3, h4⟩ | ⟨h3, h4⟩
  · obtain ⟨a1, a2⟩ := h.2 b hb h1 (.inl ⟨h3, h4⟩)
    obtain ⟨b1, b2⟩ := k.2 b (Nat.lt_of_lt_of_le hb h.1) h1 (.inl ⟨by rw [a2]; exact h3, by rw [a1]; exact h4⟩)
    exact ⟨b1.trans a1, b2.trans a2⟩
  · obtain ⟨b1, b2⟩ := k.2 b (Nat.lt_of_lt_of_le hb h.1) h1 (.inr ⟨h3, h4⟩)
    obtain ⟨a1, a2⟩ := h.2 b hb h1 (.inr ⟨by rw [← b2]; exact h3, by rw [← b1]; exact h4⟩)
    exact ⟨b1.trans a1, b2.trans a2⟩
theorem Left.lv {m m' : Mem} (h : Left m m') (hn : m'.g.nx = m.g.nx) {l : List Nat} (hl : m'.g.log = l ++ m.g.log) : Lv l m m' := by
  obtain ⟨l', e, f⟩ := h.log
  have : l' = l := List.append_cancel_right (e.symm.trans hl)
  subst this
  refine ⟨by omega, fun b _ h1 _ => ?_⟩
  obtain ⟨a1, a2⟩ := f b h1
  simp [blockD, rootD, a1, a2]

theorem write_lv {m m' : Mem} {b0 o : Nat} {vs : List V} (h : writeD m b0 o vs = some m') : ∃ l, m'.g.log = l ++ m.g.log ∧ Lv (b0 :: l) m m' := by
  have hn := write_nx h
  unfold writeD at h
  split at h
  · cases h
  split at h
  · rename_i cs hob
    split at h
    · cases h
      refine ⟨[], rfl, by omega, fun b _ h1 _ => ?_⟩
      have hne : b ≠ b0 := fun e => h1 (by simp [e])
      simp [blockD, rootD, upd, hne]
    · cases h
  · rename_i hob
    split at h
    · rename_i blk hb
      split at h
      · cases h
        refine ⟨[blk.root], rfl, by omega, fun b _ h1 h2 => ?_⟩
        have hne : b ≠ b0 := fun e => h1 (by simp [e])
        unfold blockD rootD at *
        simp only at *
        cases hob2 : m.ob b with
        | some cs => simp
        | none =>
          simp only [hob2] at h2 ⊢
          cases hh : m.g.hp b with
          | none => simp [wipe, hne, hh] at h2 ⊢
          | some y =>
            by_cases hr : y.root = blk.root
            · exfalso
              rcases h2 with ⟨h3, h4⟩ | ⟨h3, h4⟩
              · rw [hh] at h3; simp [hr] at h3
              · simp [wipe, hne, hh, hr] at h4
            · simp [wipe, hne, hh, hr]
      · cases h
    · cases h

theorem append_lv {m m' : Mem} {z by_ n : Nat} {s v : V} {xs : List V} (hd : ∀ b blk, m.g.hp b = some blk → b < m.g.nx) (h : appendD m z by_ s n xs = some (v, m')) : ∃ l, m'.g.log = l ++ m.g.log ∧ Lv (tgtV s ++ l) m m' := by
  have hn := append_nx h
  have fresh : ∀ (bl : Blk) (L : List Nat), Lv L m { m with g := { m.g with hp := upd m.g.hp m.g.nx (some bl), nx := m.g.nx + 1 } } := by
    intro bl L
    refine ⟨by simp, fun b hb _ _ => ?_⟩
    have hne : b ≠ m.g.nx := by omega
    simp [blockD, rootD, upd, hne]
  cases s with
  | nils =>
    simp only [appendD] at h
    split at h
    · cases h; exact ⟨[], rfl, Lv.refl _ _⟩
    · split at h
      · cases h; exact ⟨[], rfl, fresh _ _⟩
      · cases h
  | slice b o len cap =>
    cases cap with
    | is c =>
      simp only [appendD] at h
      split at h
      · split at h
        · rename_i m2 hw
          cases h
          obtain ⟨l, e, k⟩ := write_lv hw
          exact ⟨l, e, k⟩
        · cases h
      · split at h
        · split at h
          · cases h; exact ⟨[], rfl, fresh _ _⟩
          · cases h
        · cases h
    | unk z' =>
      simp only [appendD] at h
      split at h
      · cases h; exact ⟨[], rfl, Lv.refl _ _⟩
      · split at h
        · rename_i blk hob hb
          split at h
          · cases h
            refine ⟨[blk.root], rfl, by simp, fun i hi h1 h2 => ?_⟩
            have hne : i ≠ m.g.nx := by omega
            unfold blockD rootD at *
            simp only at *
            cases hob2 : m.ob i with
            | some cs => simp
            | none =>
              simp only [hob2, if_neg hne] at h2 ⊢
              cases hh : m.g.hp i with
              | none => simp
              | some y =>
                simp only [hh] at h2 ⊢
                by_cases hr : y.root = blk.root
                · exfalso
                  simp only [hr, if_true] at h2
                  rcases h2 with ⟨h3, _⟩ | ⟨h3, _⟩ <;> simp at h3
                · simp [hr]
          · cases h
        · cases h
  | _ => simp [appendD] at h

/-! ### Beside a new block -/
theorem read_put {m : Mem} {sl b o n : Nat} {al : Option (List V)} (h : b ≠ sl) : readD (setOb m sl al) b o n = readD m b o n := by
  have : blockD (setOb m sl al) b = blockD m b := by
    simp [blockD, setOb, upd, h]
  unfold readD
  rw [this]

theorem ob_put {m : Mem} {sl b : Nat} {al : Option (List V)} (h : b ≠ sl) : (setOb m sl al).ob b = m.ob b := by
  simp [setOb, upd, h]

theorem write_put {m m' : Mem} {sl b o : Nat} {al : Option (List V)} {vs : List V} (h : b ≠ sl) (hw : writeD m b o vs = some m') : writeD (setOb m sl al) b o vs = some (setOb m' sl al) := by
  unfold writeD at hw ⊢
  rw [ob_put h, setOb_g]
  split at hw
  · cases hw
  rename_i ho
  simp only [ho]
  cases hob : m.ob b with
  | some cs =>
    rw [hob] at hw
    simp only at hw ⊢
    split at hw
    · rename_i hle
      cases hw
      simp only [if_pos hle]
      simp only [setOb]; rw [upd_comm (fun e => h e.symm)]; rfl
    · cases hw
  | none =>
    rw [hob] at hw
    simp only at hw ⊢
    cases hb : m.g.hp b with
    | none => rw [hb] at hw; cases hw
    | some blk =>
      rw [hb] at hw
      simp only at hw ⊢
      split at hw
      · rename_i hle
        cases hw
        simp only [if_pos hle]
        cases al <;> rfl
      · cases hw

theorem append_put {m m' : Mem} {sl : Nat} {al : Option (List V)} {z by_ n : Nat} {s v : V} {xs : List V} (hs : hasId sl s = false) (h : appendD m z by_ s n xs = some (v, m')) : appendD (setOb m sl al) z by_ s n xs = some (v, setOb m' sl al) := by
  cases s with
  | nils =>
    simp only [appendD] at h ⊢
    split at h
    · rename_i h0; cases h; simp only [if_pos h0]
    · rename_i h0
      simp only [if_neg h0]
      split at h
      · rename_i hc; cases h; simp only [setOb_g, if_pos hc]; cases al <;> rfl
      · cases h
  | slice b o len cap =>
    have hne : b ≠ sl := by simpa [hasId] using hs
    cases cap with
    | is c =>
      simp only [appendD] at h ⊢
      split at h
      · rename_i hc
        simp only [if_pos hc]
        split at h
        · rename_i m2 hw
          cases h
          simp only [write_put (al := al) hne hw]
        · cases h
      · rename_i hc
        simp only [if_neg hc, read_put (al := al) hne]
        split at h
        · rename_i old hr
          try simp only [hr]
          split at h
          · rename_i hc2; cases h; simp only [setOb_g, if_pos hc2]; cases al <;> rfl
          · cases h
        · cases h
    | unk z' =>
      simp only [appendD] at h ⊢
      split at h
      · rename_i h0; cases h; simp only [if_pos h0]
      · rename_i h0
        simp only [if_neg h0, ob_put (al := al) hne, setOb_g]
        split at h
        · rename_i blk hob hb
          try simp only [hob, hb]
          split at h
          · rename_i hc; cases h; simp only [if_pos hc]; cases al <;> rfl
          · cases h
        · cases h
  | _ => simp [appendD] at h

theorem content_put {m : Mem} {sl z n : Nat} {al : Option (List V)} {x : V} (hx : hasId sl x = false) : contentD (setOb m sl al) z n x = contentD m z n x := by
  cases x <;> simp only [contentD]
  rename_i b o len cap
  have hne : b ≠ sl := by simpa [hasId] using hx
  rw [read_put hne]
end Go.Sx

/- Two operations that nothing orders change places. -/
namespace Go.Sx

section
variable {P : Program} {cl : FuncId → List V → G → Option (En × G)}

theorem hasIds_map {sl : Nat} {regs : Nat → V} (h : ∀ x, hasId sl (evalD regs x) = false) : ∀ (l : List Operand), hasIds sl (l.map (evalD regs)) = false
  | [] => rfl
  | x :: l => by simp [hasIds, h x, hasIds_map h l]
theorem hasIds_append {sl : Nat} : ∀ (l l' : List V), hasIds sl (l ++ l') = (hasIds sl l || hasIds sl l')
  | [], l' => by simp [hasIds]
  | v :: l, l' => by simp [hasIds, hasIds_append l l', Bool.or_assoc]
theorem hasIds_cells {sl : Nat} {v : V} {cs : List V} (h : hasId sl v = false) (hc : cellsD v = some cs) : hasIds sl cs = false := by
  cases v <;> simp only [cellsD] at hc <;> cases hc <;> simp_all [hasIds, hasId]

theorem cell_noId {m : Mem} {sl b o n : Nat} {cs : List V} (hne : b ≠ sl) (hm : NoOb sl m) (hh : ∀ b blk, m.g.hp b = some blk → hasIds sl blk.cells = false) (h : readD m b o n = some cs) : hasIds sl cs = false := by
  have sub : ∀ (l : List V) (k : Nat), hasIds sl l = false → hasIds sl (l.drop k) = false := by
    intro l
    induction l with
    | nil => intro k _; simp [hasIds]
    | cons v l ih =>
      intro k hl
      cases k with
      | zero => simpa using hl
      | succ k => simp only [hasIds, Bool.or_eq_false_iff] at hl; simpa using ih k hl.2
  have sub2 : ∀ (l : List V) (k : Nat), hasIds sl l = false → hasIds sl (l.take k) = false := by
    intro l
    induction l with
    | nil => intro k _; simp [hasIds]
    | cons v l ih =>
      intro k hl
      cases k with
      | zero => simp [hasIds]
      | succ k => simp only [hasIds, Bool.or_eq_false_iff] at hl; simp [hasIds, hl.1, ih k hl.2]
  unfold readD blockD at h
  cases hob : m.ob b with
  | some l =>
    rw [hob] at h
    simp only at h
    split at h
    · cases h; exact sub2 _ _ (sub _ _ (hm b l hne hob))
    · cases h
  | none =>
    rw [hob] at h
    cases hb : m.g.hp b with
    | none => rw [hb] at h; cases h
    | some blk =>
      rw [hb] at h
      simp only [Option.map_some] at h
      split at h
      · cases h; exact sub2 _ _ (sub _ _ (hh b blk hb))
      · cases h

theorem content_noId {m : Mem} {sl z n : Nat} {x : V} {xs : List V} (hx : hasId sl x = false) (hm : NoOb sl m) (hh : ∀ b blk, m.g.hp b = some blk → hasIds sl blk.cells = false) (h : contentD m z n x = some xs) : hasIds sl xs = false := by
  cases x <;> simp only [contentD] at h <;> try (cases h; done)
  · split at h
    · cases h
      rename_i s _
      generalize s.take n = l
      induction l with
      | nil => rfl
      | cons c l ih => simp [hasIds, hasId, ih]
    · cases h
  · split at h
    · exact cell_noId (by simpa [hasId] using hx) hm hh h
    · cases h
  · split at h
    · cases h; rfl
    · cases h

theorem eff_spec (hcl : LogOK cl) {regs : Nat → V} {nt : Nat} {m m' : Mem} {sl0 : Option Nat} {o : Oper} {r : R} {g0 : G} (hli : LI g0 m) (hk : kindD P o = .eff) (h : opD P cl ⟨regs, nt, m⟩ sl0 o = some (r, m')) :
    (∀ sl al, (∀ x, hasId sl (evalD regs x) = false) → NoOb sl m → (∀ b blk, m.g.hp b = some blk → hasIds sl blk.cells = false) → ∀ n2 sl2, opD P cl ⟨regs, n2, setOb m sl al⟩ sl2 o = some (r, setOb m' sl al)) ∧
    (∃ l, m'.g.log = l ++ m.g.log ∧ Lv (tgtD regs o ++ l) m m') ∧ (∀ n2 sl2, opD P cl ⟨regs, n2, m⟩ sl2 o = some (r, m')) := by
  obtain ⟨dst, op, type, pos, after, guard⟩ := o
  cases op <;> first | (simp [kindD] at hk; done) | skip
  case convert s d x => simp only [kindD] at hk; split at hk <;> cases hk
  case store t p v =>
    simp only [opD] at h ⊢
    cases hp : evalD regs p <;> rw [hp] at h <;> try (cases h; done)
    rename_i b o0
    cases hc : cellsD (evalD regs v) with
    | none => rw [hc] at h; cases h
    | some vs =>
      cases hz : sizeD P t with
      | none => rw [hc, hz] at h; cases h
      | some n =>
        rw [hc, hz] at h
        simp only at h ⊢
        split at h
        · rename_i hn
          simp only [if_pos hn]
          simp only [Option.map_eq_some_iff] at h
          obtain ⟨m1, h1, h⟩ := h
          cases h
          refine ⟨fun sl al hids hno _ n2 sl2 => ?_, ?_, fun n2 sl2 => ?_⟩
          · have hb : b ≠ sl := by have := hids p; rw [hp] at this; simpa [hasId] using this
            rw [ob_put hb]
            by_cases hob : (m.ob b).isSome = true
            · simp only [if_pos hob] at h1 ⊢
              rw [write_put hb h1]; rfl
            · simp only [if_neg hob] at h1 ⊢
              obtain ⟨a1, a2⟩ := spillL_put (al := al) spillFuel vs m (hasIds_cells (hids v) hc) hno
              rw [a1, write_put hb h1]; rfl
          · simp only [tgtD, hp, tgtV]
            by_cases hob : (m.ob b).isSome = true
            · simp only [if_pos hob] at h1
              obtain ⟨l, e, k⟩ := write_lv h1
              exact ⟨l, e, k⟩
            · simp only [if_neg hob] at h1
              obtain ⟨l, e, k⟩ := write_lv h1
              have hl := Left.spillL spillFuel vs m
              obtain ⟨l1, e1, _⟩ := hl.log
              refine ⟨l ++ l1, by rw [e, e1, List.append_assoc], ?_⟩
              have k1 := Left.lv hl (spillL_nx _ _ _) e1
              exact (k1.mono (fun x hx => by simp [hx])).trans (k.mono (fun x hx => by simp at hx ⊢; rcases hx with hx | hx <;> simp [hx]))
          · rw [h1]; rfl
        · cases h
  case call c =>
    obtain ⟨callee, args, tys⟩ := c
    cases callee with
    | invoke rr n => simp [kindD] at hk
    | value f =>
      simp only [opD] at h ⊢
      cases hf : evalD regs f <;> rw [hf] at h <;> try (cases h; done)
      rename_i fid av cv
      simp only at h ⊢
      refine ⟨fun sl al hids hno _ n2 sl2 => ?_, ?_, fun n2 sl2 => h⟩
      · refine callD_put al ?_ hno h
        have h1 := hids f
        rw [hf] at h1
        simp only [hasId, Bool.or_eq_false_iff] at h1
        simp [hasIds_append, h1.1, h1.2, hasIds_map hids]
      · have hd := hli.dom
        have hdo := hli.domo
        have hlog : ∃ l, m'.g.log = l ++ m.g.log := by
          unfold callD at h
          split at h
          · split at h
            · cases h
            · simp only at h
              have hl := Left.spillL spillFuel (av ++ args.toList.map (evalD regs) ++ cv) m
              have hli1 := LI.spillL spillFuel (av ++ args.toList.map (evalD regs) ++ cv) m hli
              generalize spillL spillFuel (av ++ args.toList.map (evalD regs) ++ cv) m = m1 at h hl hli1
              obtain ⟨l1, e1, _⟩ := hl.log
              cases hc : cl fid (av ++ args.toList.map (evalD regs) ++ cv) m1.g with
              | none => rw [hc] at h; cases h
              | some y =>
                obtain ⟨en, g'⟩ := y
                rw [hc] at h
                obtain ⟨l2, e2, _⟩ := (hcl _ _ _ _ _ hc hli1.dom).log
                simp only [bare] at e2
                cases en <;> (cases h; exact ⟨l2 ++ l1, by simp only [e2, e1, List.append_assoc]⟩)
          · cases h
        obtain ⟨l, hl⟩ := hlog
        have hnl : newLog m'.g.log m.g.log = l := by rw [hl]; exact newLog_append _ _
        refine ⟨l, hl, ?_, fun b hb h1 h2 => ?_⟩
        · have := op_nx (P := P) hcl (st := ⟨regs, nt, m⟩) hli (slot := sl0) (o := ⟨dst, .call ⟨.value f, args, tys⟩, type, pos, after, guard⟩) (x := r) (m' := m') (by simp only [opD, hf]; exact h)
          exact this
        · simp only [tgtD, List.nil_append] at h1 h2
          exact call_block hcl hd hdo hli h hb (by rw [hnl]; exact h1) (by rw [hnl]; exact h2)
    | builtin b =>
      simp only [opD] at h ⊢
      cases hpl : plainD P regs ⟨dst, .call ⟨.builtin b, args, tys⟩, type, pos, after, guard⟩ with
      | some y =>
        rw [hpl] at h
        cases h
        exact ⟨fun sl al _ _ _ n2 sl2 => rfl, ⟨[], rfl, Lv.refl _ _⟩, fun n2 sl2 => rfl⟩
      | none =>
        rw [hpl] at h
        simp only at h ⊢
        refine ⟨?_, ?_, fun n2 sl2 => h⟩
        · intro sl al hids hno hhp n2 sl2
          unfold builtinD at h ⊢
          simp only at h ⊢
          split at h
          · split at h
            · cases h; simp_all
            · cases h
          · rename_i s x hv
            have hs : hasId sl s = false := by
              have := hasIds_map hids args.toList; rw [hv] at this; simp only [hasIds, Bool.or_eq_false_iff] at this; exact this.1
            have hx : hasId sl x = false := by
              have := hasIds_map hids args.toList; rw [hv] at this; simp only [hasIds, Bool.or_eq_false_iff] at this; exact this.2.1
            try simp only [hv]
            split at h
            · rename_i st xt hst hxt
              try simp only [hst, hxt]
              split at h
              · rename_i e d he hd
                try simp only [he, hd]
                split at h
                · cases h
                · rename_i hni
                  split at h
                  · rename_i z by_ zero n hz hb hze hln
                    try simp only [hz, hb, hze, hln]
                    split at h
                    · rename_i hzl
                      simp only [if_pos hzl, content_put (al := al) hx]
                      split at h
                      · rename_i xs hc
                        try simp only [hc]
                        simp only [Option.map_eq_some_iff] at h
                        obtain ⟨y, hy, h⟩ := h
                        cases h
                        have hxs := content_noId hx hno hhp hc
                        obtain ⟨a1, a2⟩ := spillL_put (al := al) spillFuel xs m hxs hno
                        obtain ⟨y1, y2⟩ := y
                        rw [a1, append_put hs hy]
                        rfl
                      · cases h
                    · cases h
                  · cases h
              · cases h
            · cases h
          · rename_i dd ss hv
            have hs : hasId sl dd = false := by
              have := hasIds_map hids args.toList; rw [hv] at this; simp only [hasIds, Bool.or_eq_false_iff] at this; exact this.1
            have hx : hasId sl ss = false := by
              have := hasIds_map hids args.toList; rw [hv] at this; simp only [hasIds, Bool.or_eq_false_iff] at this; exact this.2.1
            try simp only [hv]
            split at h
            · rename_i e n k he hn hkk
              try simp only [he, hn, hkk]
              split at h
              · rename_i z b0 o0 l0 c0 hz
                (try simp only [hz]); simp only [content_put (al := al) hx]
                split at h
                · rename_i xs hc
                  try simp only [hc]
                  split at h
                  · rename_i m1 hw
                    cases h
                    have hb0 : b0 ≠ sl := by simpa [hasId] using hs
                    rw [write_put hb0 hw]
                  · cases h
                · cases h
              · cases h
            · cases h
          · cases h
        · unfold builtinD at h
          simp only at h
          split at h
          · split at h
            · cases h; exact ⟨[], rfl, Lv.refl _ _⟩
            · cases h
          · rename_i s x hv
            split at h
            · split at h
              · split at h
                · cases h
                · split at h
                  · split at h
                    · split at h
                      · rename_i xs hc
                        simp only [Option.map_eq_some_iff] at h
                        obtain ⟨y, hy, h⟩ := h
                        cases h
                        have hli1 := LI.spillL spillFuel xs m hli
                        obtain ⟨l, e, k⟩ := append_lv hli1.dom hy
                        have hl := Left.spillL spillFuel xs m
                        obtain ⟨l1, e1, _⟩ := hl.log
                        refine ⟨l ++ l1, by rw [e, e1, List.append_assoc], ?_⟩
                        have k1 := Left.lv hl (spillL_nx _ _ _) e1
                        have ht : tgtD regs ⟨dst, .call ⟨.builtin .append, args, tys⟩, type, pos, after, guard⟩ = tgtV s := by
                          unfold tgtD
                          simp only
                          cases hal : args.toList with
                          | nil => rw [hal] at hv; cases hv
                          | cons a0 at_ =>
                            rw [hal] at hv
                            simp only [List.map_cons, List.cons.injEq] at hv
                            simp only [hv.1]
                        rw [ht]
                        refine (k1.mono (fun x hx => by simp [hx])).trans (k.mono (fun x hx => ?_))
                        simp only [List.mem_append] at hx ⊢
                        rcases hx with hx | hx
                        · exact .inl hx
                        · exact .inr (.inl hx)
                      · cases h
                    · cases h
                  · cases h
              · cases h
            · cases h
          · rename_i dd ss hv
            split at h
            · split at h
              · rename_i z b0 o0 l0 c0 hz hlen0
                split at h
                · split at h
                  · rename_i m1 hw
                    cases h
                    obtain ⟨l, e, k⟩ := write_lv hw
                    refine ⟨l, e, ?_⟩
                    have ht : tgtD regs ⟨dst, .call ⟨.builtin .copy, args, tys⟩, type, pos, after, guard⟩ = tgtV (.slice b0 o0 l0 c0) := by
                      unfold tgtD
                      simp only
                      cases hal : args.toList with
                      | nil => rw [hal] at hv; cases hv
                      | cons a0 at_ =>
                        rw [hal] at hv
                        simp only [List.map_cons, List.cons.injEq] at hv
                        simp only [hv.1]
                    rw [ht]
                    exact k
                  · cases h
                · cases h
              · cases h
            · cases h
          · cases h
end
end Go.Sx

/- Two operations that nothing orders change places: the memory that both leave. -/
namespace Go.Sx

section
variable {P : Program} {cl : FuncId → List V → G → Option (En × G)}

theorem read_block {m m2 : Mem} {b : Nat} (h : blockD m2 b = blockD m b) (o n : Nat) : readD m2 b o n = readD m b o n := by
  unfold readD; rw [h]

theorem load_spec {regs : Nat → V} {nt : Nat} {m m' : Mem} {sl : Option Nat} {o : Oper} {r : R} (hk : kindD P o = .load) (h : opD P cl ⟨regs, nt, m⟩ sl o = some (r, m')) :
    m' = m ∧ ∃ t p b k, o.op = .load t p ∧ evalD regs p = .ptr b k ∧ (blockD m b).isSome = true ∧ ∀ m2 n2 sl2, blockD m2 b = blockD m b → opD P cl ⟨regs, n2, m2⟩ sl2 o = some (r, m2) := by
  obtain ⟨dst, op, type, pos, after, guard⟩ := o
  cases op
  case load t p =>
    simp only [opD] at h ⊢
    cases hp : evalD regs p <;> rw [hp] at h <;> try (cases h; done)
    rename_i b k
    have some_of : ∀ n cs, readD m b k n = some cs → (blockD m b).isSome = true := by
      intro n cs hr
      unfold readD at hr
      cases hb : blockD m b with
      | none => rw [hb] at hr; cases hr
      | some l => rfl
    cases ha : aggD P t with
    | none => rw [ha] at h; cases h
    | some ag =>
      rw [ha] at h
      cases ag with
      | true =>
        cases hz : sizeD P t with
        | none => rw [hz] at h; cases h
        | some n =>
          rw [hz] at h
          simp only [Option.map_eq_some_iff] at h
          obtain ⟨cs, hr, h⟩ := h
          cases h
          refine ⟨rfl, t, p, b, k, rfl, hp, some_of _ _ hr, fun m2 n2 sl2 hb => ?_⟩
          simp only [hp, read_block hb, hr, Option.map_some]
      | false =>
        simp only at h
        split at h
        · rename_i v hr
          cases h
          refine ⟨rfl, t, p, b, k, rfl, hp, some_of _ _ hr, fun m2 n2 sl2 hb => ?_⟩
          simp only [hp, read_block hb, hr]
        · cases h
  case convert s d x => simp only [kindD] at hk; split at hk <;> cases hk
  case call c =>
    obtain ⟨callee, args, tys⟩ := c
    cases callee with
    | value f => simp [kindD] at hk
    | invoke rr n => simp [kindD] at hk
    | builtin b => cases b <;> simp [kindD] at hk
  all_goals (simp [kindD] at hk)

/-! ### One operation, as a region does it -/
def actD (P : Program) (cl : FuncId → List V → G → Option (En × G)) (ops : Array Oper) (base i : Nat) (regs : Nat → V) (nt : Nat) (m : Mem) (o : Oper) : Option (V × Mem × Option Rec) :=
  match wantedD regs ops o with
  | some false => some (undefV, m, Option.none)
  | some true => match opD P cl ⟨regs, nt, m⟩ (some (base + i)) o with
    | some (.val v, m') => some (v, m', some (recD P ⟨regs, nt, m⟩ o (newLog m'.g.log m.g.log)))
    | some (.skip, m') => some (undefV, m', some (recD P ⟨regs, nt, m⟩ o (newLog m'.g.log m.g.log)))
    | _ => Option.none
  | Option.none => Option.none

def setR (tr : Nat → Rec) (i : Nat) : Option Rec → (Nat → Rec)
  | some r => upd tr i r
  | Option.none => tr

theorem stepI_eq {ops : Array Oper} {base i : Nat} {s : DS} {o : Oper} (ho : ops[i]? = some o) :
    stepI P cl ops base i s = (actD P cl ops base i s.1.regs s.1.nt s.1.m o).bind fun x => (putD { s.1 with m := x.2.1 } o.dst x.1).map fun st => (st, setR s.2 i x.2.2) := by
  obtain ⟨⟨regs, nt, m⟩, tr⟩ := s
  unfold stepI actD
  rw [ho]
  simp only
  cases hw : wantedD regs ops o with
  | none => rfl
  | some b =>
    cases b with
    | false => rfl
    | true =>
      simp only
      cases opD P cl ⟨regs, nt, m⟩ (some (base + i)) o with
      | none => rfl
      | some y =>
        obtain ⟨r, m'⟩ := y
        cases r <;> rfl

structure Fr (sl : Nat) (regs : Nat → V) (m : Mem) : Prop where
  ids : ∀ x, hasId sl (evalD regs x) = false
  own : m.ob sl = Option.none
  ob : NoOb sl m
  hp : ∀ b blk, m.g.hp b = some blk → hasIds sl blk.cells = false

theorem putOb_set {m : Mem} {sl : Nat} {al : Option (List V)} (h : m.ob sl = Option.none) : putOb m sl al = setOb m sl al := by
  cases al with
  | some l => rfl
  | none =>
    have : upd m.ob sl Option.none = m.ob := by
      funext i
      unfold upd
      split
      · rename_i e; rw [e, h]
      · rfl
    simp only [putOb, setOb, this]

theorem block_putOb {m : Mem} {sl b : Nat} {al : Option (List V)} (h : b ≠ sl) : blockD (putOb m sl al) b = blockD m b ∧ rootD (putOb m sl al) b = rootD m b := by
  cases al with
  | none => exact ⟨rfl, rfl⟩
  | some l => simp [blockD, rootD, putOb, upd, h]

theorem set_set (m : Mem) (sl : Nat) (x y : Option (List V)) : setOb (setOb m sl x) sl y = setOb m sl y := by
  have : upd (upd m.ob sl x) sl y = upd m.ob sl y := by funext i; unfold upd; split <;> simp_all
  simp only [setOb, this]

theorem set_self {m : Mem} {sl : Nat} (h : m.ob sl = Option.none) : setOb m sl Option.none = m := by
  rw [← putOb_set h]; rfl

theorem actD_inv {ops : Array Oper} {base i : Nat} {regs : Nat → V} {nt : Nat} {m m' : Mem} {o : Oper} {v : V} {rc : Option Rec} (h : actD P cl ops base i regs nt m o = some (v, m', rc)) :
    (wantedD regs ops o = some false ∧ v = undefV ∧ m' = m ∧ rc = Option.none) ∨ (wantedD regs ops o = some true ∧ rc = some (recD P ⟨regs, nt, m⟩ o (newLog m'.g.log m.g.log)) ∧ ∃ r, opD P cl ⟨regs, nt, m⟩ (some (base + i)) o = some (r, m') ∧
      ∀ m1 m2, opD P cl ⟨regs, nt, m1⟩ (some (base + i)) o = some (r, m2) → actD P cl ops base i regs nt m1 o = some (v, m2, some (recD P ⟨regs, nt, m1⟩ o (newLog m2.g.log m1.g.log)))) := by
  unfold actD at h
  cases hw : wantedD regs ops o with
  | none => rw [hw] at h; cases h
  | some b =>
    rw [hw] at h
    cases b with
    | false => cases h; exact .inl ⟨rfl, rfl, rfl, rfl⟩
    | true =>
      simp only at h
      cases ho : opD P cl ⟨regs, nt, m⟩ (some (base + i)) o with
      | none => rw [ho] at h; cases h
      | some y =>
        obtain ⟨r, m1⟩ := y
        rw [ho] at h
        cases r with
        | val v => cases h; exact .inr ⟨rfl, rfl, _, rfl, fun m1 m2 hh => by unfold actD; rw [hw]; simp only [hh]⟩
        | skip => cases h; exact .inr ⟨rfl, rfl, _, rfl, fun m1 m2 hh => by unfold actD; rw [hw]; simp only [hh]⟩
        | panic v => cases h

theorem rec_free {st : St} {o : Oper} {l : List Nat} (h : kindD P o = .free) : recD P st o l = .no := by
  unfold recD; rw [h]
theorem rec_eff {st : St} {o : Oper} {l : List Nat} (h : kindD P o = .eff) : recD P st o l = .call (tgtD st.regs o ++ l) := by
  unfold recD; rw [h]
theorem rec_load {st : St} {o : Oper} {l : List Nat} {t : TypeId} {p : Operand} {b k : Nat} (h : kindD P o = .load) (ho : o.op = .load t p) (hp : evalD st.regs p = .ptr b k) : recD P st o l = .load b (rootD st.m b) := by
  unfold recD; rw [h, ho]; simp only [hp]

theorem log_putOb (m : Mem) (sl : Nat) (al : Option (List V)) : (putOb m sl al).g = m.g := by cases al <;> rfl

theorem LI.putOb {g0 : G} {m : Mem} (h : LI g0 m) {sl : Nat} (al : Option (List V)) (h1 : g0.nx ≤ sl) (h2 : sl < m.g.nx) : LI g0 (Sx.putOb m sl al) := by
  cases al with
  | none => exact h
  | some cs => exact h.new (some sl) (fun i e => by cases e; exact ⟨h1, h2⟩) cs

theorem act_swap (hcl : LogOK cl) {g0 : G} {ops : Array Oper} {base i j : Nat} {regs : Nat → V} {nt : Nat} {m mi mj : Mem} {oi oj : Oper} {vi vj : V} {ri rj : Option Rec} (hij : i ≠ j)
    (hli : LI g0 m) (hbase : g0.nx ≤ base) (hi : base + i < m.g.nx) (hlt : ∀ x b k, evalD regs x = .ptr b k → b < m.g.nx) (fi : Fr (base + i) regs m) (fj : Fr (base + j) regs m) (hp : pairOk (kindD P oi) (kindD P oj) = true)
    (h1 : actD P cl ops base i regs nt m oi = some (vi, mi, ri)) (h2 : actD P cl ops base j regs nt mi oj = some (vj, mj, rj)) (hr : ∀ x y, ri = some x → rj = some y → recOk x y = true) :
    ∃ m1, actD P cl ops base j regs nt m oj = some (vj, m1, rj) ∧ actD P cl ops base i regs nt m1 oi = some (vi, mj, ri) := by
  have hne : base + i ≠ base + j := by omega
  rcases actD_inv h1 with ⟨w1, rfl, rfl, rfl⟩ | ⟨w1, rfl, r1, e1, k1⟩
  · refine ⟨mj, h2, ?_⟩
    unfold actD; rw [w1]
  rcases actD_inv h2 with ⟨w2, rfl, rfl, rfl⟩ | ⟨w2, rfl, r2, e2, k2⟩
  · refine ⟨m, ?_, h1⟩
    unfold actD; rw [w2]
  have hr' := hr _ _ rfl rfl
  clear hr h1 h2
  cases hki : kindD P oi with
  | bad => rw [hki] at hp; cases kindD P oj <;> cases hp
  | free =>
    obtain ⟨al, rfl, f1⟩ := free_spec hki e1
    cases hkj : kindD P oj with
    | bad => rw [hki, hkj] at hp; cases hp
    | free =>
      obtain ⟨al2, rfl, f2⟩ := free_spec hkj e2
      refine ⟨putOb m (base + j) al2, ?_, ?_⟩
      · rw [k2 _ _ (f2 m nt), rec_free hkj, rec_free hkj]
      · have := k1 _ _ (f1 (putOb m (base + j) al2) nt)
        rw [this, rec_free hki, rec_free hki]
        have : putOb (putOb m (base + j) al2) (base + i) al = putOb (putOb m (base + i) al) (base + j) al2 := by
          cases al <;> cases al2 <;> simp only [putOb]
          rw [upd_comm (fun e => hne e.symm)]
        rw [this]
    | load =>
      obtain ⟨rfl, t, p, b, k, ho, hpv, hb, f2⟩ := load_spec hkj e2
      have hbne : b ≠ base + i := by have := fi.ids p; rw [hpv] at this; simpa [hasId] using this
      obtain ⟨q1, q2⟩ := block_putOb (m := m) (al := al) hbne
      refine ⟨m, ?_, ?_⟩
      · rw [k2 _ _ (f2 m nt _ q1.symm)]
        rw [rec_load hkj ho (st := ⟨regs, nt, m⟩) hpv, rec_load hkj ho (st := ⟨regs, nt, putOb m (base + i) al⟩) hpv]
        simp only [q2]
      · rw [k1 _ _ (f1 m nt)]
    | eff =>
      have hset := putOb_set (al := al) fi.own
      have hli1 : LI g0 (setOb m (base + i) al) := by rw [← hset]; exact hli.putOb al (by omega) hi
      rw [hset] at e2 ⊢
      obtain ⟨E1, _, _⟩ := eff_spec hcl hli1 hkj e2
      have hno : NoOb (base + i) (setOb m (base + i) al) := fun b cs hb hob => fi.ob b cs hb (by rw [ob_put hb] at hob; exact hob)
      have a1 := E1 (base + i) Option.none fi.ids hno fi.hp nt (some (base + j))
      have a2 := E1 (base + i) al fi.ids hno fi.hp nt (some (base + j))
      rw [set_set, set_self fi.own] at a1
      rw [set_set, e2] at a2
      have a3 : setOb mj (base + i) al = mj := by injection a2 with a2; injection a2 with _ a2; exact a2.symm
      refine ⟨setOb mj (base + i) Option.none, ?_, ?_⟩
      · rw [k2 _ _ a1, rec_eff hkj, rec_eff hkj]
        rfl
      · rw [k1 _ _ (f1 _ nt)]
        simp only [rec_free hki]
        rw [putOb_set (by simp [setOb, upd]), set_set, a3]
  | load =>
    obtain ⟨rfl, t, p, b, k, ho, hpv, hb, f1⟩ := load_spec hki e1
    cases hkj : kindD P oj with
    | bad => rw [hki, hkj] at hp; cases hp
    | free =>
      obtain ⟨al2, rfl, f2⟩ := free_spec hkj e2
      have hbne : b ≠ base + j := by have := fj.ids p; rw [hpv] at this; simpa [hasId] using this
      obtain ⟨q1, q2⟩ := block_putOb (m := mi) (al := al2) hbne
      refine ⟨putOb mi (base + j) al2, ?_, ?_⟩
      · rw [k2 _ _ (f2 mi nt)]
      · rw [k1 _ _ (f1 _ nt _ q1), rec_load hki ho (st := ⟨regs, nt, mi⟩) hpv, rec_load hki ho (st := ⟨regs, nt, putOb mi (base + j) al2⟩) hpv]
        simp only [q2]
    | load =>
      obtain ⟨rfl, t2, p2, b2, k22, ho2, hpv2, hb2, f2⟩ := load_spec hkj e2
      exact ⟨mj, k2 _ _ e2, k1 _ _ e1⟩
    | eff =>
      obtain ⟨_, ⟨l, el, lv⟩, E3⟩ := eff_spec hcl hli hkj e2
      rw [rec_load hki ho (st := ⟨regs, nt, mi⟩) hpv, rec_eff hkj, el, newLog_append] at hr'
      simp only [recOk, Bool.and_eq_true, Bool.not_eq_true', List.contains_eq_mem, decide_eq_false_iff_not] at hr'
      obtain ⟨q1, q2⟩ := lv.2 b (hlt p b k hpv) hr'.1 (.inl ⟨hr'.2, hb⟩)
      refine ⟨mj, k2 _ _ e2, ?_⟩
      rw [k1 _ _ (f1 _ nt _ q1), rec_load hki ho (st := ⟨regs, nt, mi⟩) hpv, rec_load hki ho (st := ⟨regs, nt, mj⟩) hpv]
      simp only [q2]
  | eff =>
    obtain ⟨E1, ⟨l, el, lv⟩, E3⟩ := eff_spec hcl hli hki e1
    cases hkj : kindD P oj with
    | bad => rw [hki, hkj] at hp; cases hp
    | free =>
      obtain ⟨al2, rfl, f2⟩ := free_spec hkj e2
      have a1 := E1 (base + j) al2 fj.ids fj.ob fj.hp nt (some (base + i))
      have a2 := E1 (base + j) Option.none fj.ids fj.ob fj.hp nt (some (base + i))
      rw [set_self fj.own, e1] at a2
      have a3 : setOb mi (base + j) Option.none = mi := by injection a2 with a2; injection a2 with _ a2; exact a2.symm
      have a4 : mi.ob (base + j) = Option.none := by rw [← a3]; simp [setOb, upd]
      rw [← putOb_set fj.own, ← putOb_set a4] at a1
      refine ⟨putOb m (base + j) al2, ?_, ?_⟩
      · rw [k2 _ _ (f2 m nt), rec_free hkj, rec_free hkj]
      · rw [k1 _ _ a1]; simp only [rec_eff hki, log_putOb]
    | load =>
      obtain ⟨rfl, t, p, b, k, ho, hpv, hb, f2⟩ := load_spec hkj e2
      rw [rec_load hkj ho (st := ⟨regs, nt, mj⟩) hpv, rec_eff hki, el, newLog_append] at hr'
      simp only [recOk, Bool.and_eq_true, Bool.not_eq_true', List.contains_eq_mem, decide_eq_false_iff_not] at hr'
      obtain ⟨q1, q2⟩ := lv.2 b (hlt p b k hpv) hr'.1 (.inr ⟨hr'.2, hb⟩)
      refine ⟨m, ?_, k1 _ _ e1⟩
      rw [k2 _ _ (f2 m nt _ q1.symm), rec_load hkj ho (st := ⟨regs, nt, mj⟩) hpv, rec_load hkj ho (st := ⟨regs, nt, m⟩) hpv]
      simp only [q2]
    | eff => rw [hki, hkj] at hp; cases hp
end
end Go.Sx

/- Regions that draw their order: any order leaves the same. -/
namespace Go.Sx

/-! ### Masks -/
theorem masks_fold : ∀ (l : List Oper) (acc : List Nat), ∃ t, t.length = l.length ∧ l.foldl (fun acc o => acc ++ [maskOf acc o]) acc = acc ++ t
  | [], acc => ⟨[], rfl, by simp⟩
  | o :: l, acc => by
    obtain ⟨t, h1, h2⟩ := masks_fold l (acc ++ [maskOf acc o])
    refine ⟨maskOf acc o :: t, by simp [h1], ?_⟩
    rw [List.foldl_cons, h2, List.append_assoc]; rfl
theorem masks_append (l l' : List Oper) : ∃ t, masks (l ++ l') = masks l ++ t := by
  obtain ⟨t, _, h⟩ := masks_fold l' (masks l)
  exact ⟨t, by unfold masks at *; rw [List.foldl_append, h]⟩
theorem masks_length (l : List Oper) : (masks l).length = l.length := by
  obtain ⟨t, h1, h2⟩ := masks_fold l []
  unfold masks; rw [h2]; simpa using h1
theorem masks_get {l : List Oper} {j : Nat} {o : Oper} (h : l[j]? = some o) : (masks l).getD j 0 = maskOf (masks (l.take j)) o ∧ ∀ k, k < j → (masks l).getD k 0 = (masks (l.take j)).getD k 0 := by
  have hlt : j < l.length := by
    rcases Nat.lt_or_ge j l.length with h1 | h1
    · exact h1
    · rw [List.getElem?_eq_none h1] at h; cases h
  have e : l = (l.take j ++ [o]) ++ l.drop (j + 1) := by
    have : o = l[j] := by rw [List.getElem?_eq_getElem hlt] at h; exact (Option.some.inj h).symm
    subst this
    rw [List.take_append_getElem hlt, List.take_append_drop]
  obtain ⟨t, ht⟩ := masks_append (l.take j ++ [o]) (l.drop (j + 1))
  rw [← e] at ht
  have h1 : masks (l.take j ++ [o]) = masks (l.take j) ++ [maskOf (masks (l.take j)) o] := by
    unfold masks; rw [List.foldl_append]; rfl
  have hl : (masks (l.take j)).length = j := by rw [masks_length]; simp; omega
  rw [h1] at ht
  constructor
  · rw [ht]
    rw [List.getD_eq_getElem?_getD, List.getElem?_append_left (by simp [hl]), List.getElem?_append_right (by omega)]
    simp [hl]
  · intro k hk
    rw [ht]
    rw [List.getD_eq_getElem?_getD, List.getD_eq_getElem?_getD, List.getElem?_append_left (by simp [hl]; omega), List.getElem?_append_left (by omega)]

theorem maskOf_bit (acc : List Nat) (x : Nat) (l : List Edge) : ∀ (s : Nat), (l.foldl (fun s e => if Region.binds .any e then s ||| 2 ^ e.on ||| acc.getD e.on 0 else s) s).testBit x = true →
    s.testBit x = true ∨ ∃ e ∈ l, Region.binds .any e = true ∧ (x = e.on ∨ (acc.getD e.on 0).testBit x = true) := by
  induction l with
  | nil => intro s h; exact .inl h
  | cons e l ih =>
    intro s h
    rw [List.foldl_cons] at h
    rcases ih _ h with h | ⟨e', h1, h2⟩
    · split at h
      · rename_i hb
        rw [Nat.testBit_or, Nat.testBit_or, Nat.testBit_two_pow] at h
        simp only [Bool.or_eq_true, decide_eq_true_eq] at h
        rcases h with (h | h) | h
        · exact .inl h
        · exact .inr ⟨e, List.mem_cons_self .., hb, .inl h.symm⟩
        · exact .inr ⟨e, List.mem_cons_self .., hb, .inr h⟩
      · exact .inl h
    · exact .inr ⟨e', List.mem_cons_of_mem _ h1, h2⟩

theorem ordered_spec {ops : Array Oper} {i : Nat} {o : Oper} (ho : ops[i]? = some o) (hlt : ∀ e ∈ o.after.toList, Region.binds .any e = true → e.on < i) {x : Nat} (h : ordered (masks ops.toList) x i = true) :
    ∃ e ∈ o.after.toList, Region.binds .any e = true ∧ (x = e.on ∨ ordered (masks ops.toList) x e.on = true) := by
  obtain ⟨h1, h2⟩ := masks_get (l := ops.toList) (j := i) (o := o) (by simpa using ho)
  unfold ordered at h ⊢
  rw [h1] at h
  unfold maskOf at h
  rcases maskOf_bit _ x _ 0 h with h | ⟨e, h3, h4, h5⟩
  · simp at h
  · exact ⟨e, h3, h4, h5.imp id fun h5 => by rw [h2 e.on (hlt e h3 h4)]; exact h5⟩

section
variable {P : Program} {cl : FuncId → List V → G → Option (En × G)}

theorem drawOk_spec {ops : Array Oper} (h : drawOk P ops = true) {j : Nat} {oj : Oper} (hj : ops[j]? = some oj) :
    (∀ e ∈ oj.after.toList, Region.binds .any e = true → e.on < j) ∧ ∀ i, i < j → ordered (masks ops.toList) i j = true ∨ ∃ oi, ops[i]? = some oi ∧ oi.apart ops oj = true ∧ oj.apart ops oi = true ∧ pairOk (kindD P oi) (kindD P oj) = true := by
  have hlt : j < ops.size := by
    rcases Nat.lt_or_ge j ops.size with h1 | h1
    · exact h1
    · rw [Array.getElem?_eq_none h1] at hj; cases hj
  unfold drawOk at h
  simp only [Bool.and_eq_true] at h
  have h1 := List.all_eq_true.1 h.2 j (List.mem_range.2 hlt)
  rw [hj] at h1
  simp only [Bool.and_eq_true] at h1
  obtain ⟨h2, h3⟩ := h1
  refine ⟨fun e he hb => ?_, fun i hi => ?_⟩
  · have := List.all_eq_true.1 h2 e he
    simp only [hb, Bool.not_true, Bool.false_or, decide_eq_true_eq] at this
    exact this
  · have := List.all_eq_true.1 h3 i (List.mem_range.2 hi)
    simp only [Bool.or_eq_true] at this
    rcases this with h4 | h4
    · exact .inl h4
    · refine .inr ?_
      cases hoi : ops[i]? with
      | none => rw [hoi] at h4; cases h4
      | some oi =>
        rw [hoi] at h4
        simp only [Bool.and_eq_true] at h4
        exact ⟨oi, rfl, h4.1.1, h4.1.2, h4.2⟩

/-! ### Two steps -/
theorem look_congr {ops : Array Oper} {regs : Nat → V} {d : Nat} {v : V} {o : Oper} (h : d ∉ o.looksAt ops) : (∀ x ∈ o.op.operands, evalD (upd regs d v) x = evalD regs x) ∧ wantedD (upd regs d v) ops o = wantedD regs ops o := by
  constructor
  · intro x hx
    cases x with
    | tmp t =>
      have : t ≠ d := by
        intro e
        subst e
        exact h (List.mem_append_left _ (List.mem_filterMap.2 ⟨.tmp t, by simpa using hx, rfl⟩))
      simp [evalD, upd, this]
    | _ => rfl
  · unfold wantedD
    cases hg : o.guard with
    | none => rfl
    | some gw =>
      obtain ⟨g, want⟩ := gw
      simp only
      cases ht : (ops[g]?).bind (·.dst) with
      | none => rfl
      | some t =>
        have : t ≠ d := by
          intro e
          subst e
          exact h (by simp [Oper.looksAt, hg, ht])
        simp [upd, this]

theorem recD_congr {r1 r2 : Nat → V} {n1 n2 : Nat} {m : Mem} {o : Oper} (l : List Nat) (h : ∀ x ∈ o.op.operands, evalD r1 x = evalD r2 x) : recD P ⟨r1, n1, m⟩ o l = recD P ⟨r2, n2, m⟩ o l := by
  unfold recD
  have ht : tgtD r1 o = tgtD r2 o := by
    obtain ⟨dst, op, type, pos, after, guard⟩ := o
    unfold tgtD
    cases op <;> simp only [Op.operands] at h ⊢
    case store t a x => rw [h a (by simp)]
    case call c =>
      obtain ⟨callee, args, tys⟩ := c
      cases callee <;> simp only
      rename_i b
      cases hal : args.toList with
      | nil => rfl
      | cons s t =>
        simp only
        rw [h s (by simp [Call.operands]; exact (by rw [← Array.mem_toList_iff, hal]; exact List.mem_cons_self ..))]
  obtain ⟨dst, op, type, pos, after, guard⟩ := o
  split
  · simp only [ht]
  · cases op <;> simp only [Op.operands] at h ⊢
    rename_i t a _
    rw [h a (by simp)]
  · rfl

theorem actD_congr {ops : Array Oper} {base i : Nat} {r1 r2 : Nat → V} {n1 n2 : Nat} {m : Mem} {o : Oper} (h : ∀ x ∈ o.op.operands, evalD r1 x = evalD r2 x) (hw : wantedD r1 ops o = wantedD r2 ops o) :
    actD P cl ops base i r1 n1 m o = actD P cl ops base i r2 n2 m o := by
  unfold actD
  rw [hw, opD_congr (n1 := n1) (n2 := n2) h]
  have hr : ∀ l, recD P ⟨r1, n1, m⟩ o l = recD P ⟨r2, n2, m⟩ o l := fun l => recD_congr l h
  simp only [hr]

def setT (regs : Nat → V) : Option Nat → V → (Nat → V)
  | Option.none, _ => regs
  | some d, v => upd regs d v
theorem putD_eq {st st' : St} {dst : Option Nat} {v : V} (h : putD st dst v = some st') : (∀ d, dst = some d → d < st.nt) ∧ st' = { st with regs := setT st.regs dst v } := by
  unfold putD at h
  cases dst with
  | none => cases h; exact ⟨(fun d e => by cases e), rfl⟩
  | some d =>
    simp only at h
    split at h
    · rename_i hd; cases h; exact ⟨(fun e he => by cases he; exact hd), rfl⟩
    · cases h
theorem putD_of {st : St} {dst : Option Nat} {v : V} (h : ∀ d, dst = some d → d < st.nt) : putD st dst v = some { st with regs := setT st.regs dst v } := by
  unfold putD
  cases dst with
  | none => rfl
  | some d => simp only [h d rfl, if_true]; rfl

theorem stepI_swap (hcl : LogOK cl) {g0 : G} {ops : Array Oper} {base i j : Nat} {s s1 s2 : DS} {oi oj : Oper} (hoi : ops[i]? = some oi) (hoj : ops[j]? = some oj) (hij : i ≠ j)
    (hli : LI g0 s.1.m) (hbase : g0.nx ≤ base) (hi : base + i < s.1.m.g.nx) (hlt : ∀ x b k, evalD s.1.regs x = .ptr b k → b < s.1.m.g.nx) (fi : Fr (base + i) s.1.regs s.1.m) (fj : Fr (base + j) s.1.regs s.1.m)
    (hap : oi.apart ops oj = true) (hp : pairOk (kindD P oi) (kindD P oj) = true)
    (h1 : stepI P cl ops base i s = some s1) (h2 : stepI P cl ops base j s1 = some s2) (hr : recOk (s2.2 i) (s2.2 j) = true) :
    ∃ s1', stepI P cl ops base j s = some s1' ∧ stepI P cl ops base i s1' = some s2 := by
  obtain ⟨p1, p2, p3⟩ := Oper.apart_spec hap
  obtain ⟨⟨regs, nt, m⟩, tr⟩ := s
  rw [stepI_eq hoi] at h1
  simp only [Option.bind_eq_some_iff, Option.map_eq_some_iff] at h1
  obtain ⟨⟨vi, mi, ri⟩, a1, st1, q1, rfl⟩ := h1
  obtain ⟨d1, rfl⟩ := putD_eq q1
  rw [stepI_eq hoj] at h2
  simp only [Option.bind_eq_some_iff, Option.map_eq_some_iff] at h2
  obtain ⟨⟨vj, mj, rj⟩, a2, st2, q2, rfl⟩ := h2
  obtain ⟨d2, rfl⟩ := putD_eq q2
  simp only at *
  have c2 : actD P cl ops base j regs nt mi oj = some (vj, mj, rj) := by
    rw [← a2]
    cases hd : oi.dst with
    | none => rfl
    | some d =>
      simp only [setT]
      obtain ⟨l1, l2⟩ := look_congr (regs := regs) (v := vi) (p1 d hd)
      exact actD_congr (fun x hx => (l1 x hx).symm) l2.symm
  obtain ⟨m1, b1, b2⟩ := act_swap hcl hij hli hbase hi hlt fi fj hp a1 c2 (fun x y ex ey => by
    subst ex; subst ey
    have e1 : setR (setR tr i (some x)) j (some y) i = x := by simp [setR, upd, hij]
    have e2 : setR (setR tr i (some x)) j (some y) j = y := by simp [setR, upd]
    rw [e1, e2] at hr; exact hr)
  refine ⟨({ regs := setT regs oj.dst vj, nt := nt, m := m1 }, setR tr j rj), ?_, ?_⟩
  · rw [stepI_eq hoj]
    simp only [b1, Option.bind_some]
    rw [putD_of (fun d hd => d2 d hd)]
    rfl
  · rw [stepI_eq hoi]
    simp only
    have c1 : actD P cl ops base i (setT regs oj.dst vj) nt m1 oi = some (vi, mj, ri) := by
      rw [← b2]
      cases hd : oj.dst with
      | none => rfl
      | some d =>
        simp only [setT]
        obtain ⟨l1, l2⟩ := look_congr (regs := regs) (v := vj) (p3 d hd)
        exact actD_congr l1 l2
    rw [c1]
    simp only [Option.bind_some]
    rw [putD_of (fun d hd => d1 d hd)]
    simp only [Option.map_some, Option.some.injEq, Prod.mk.injEq, St.mk.injEq]
    refine ⟨⟨?_, trivial, trivial⟩, ?_⟩
    · cases hd1 : oi.dst with
      | none => rfl
      | some e1 =>
        cases hd2 : oj.dst with
        | none => rfl
        | some e2 =>
          simp only [setT]
          have : e1 ≠ e2 := fun e => p2 e1 hd1 (by rw [hd2, e])
          rw [upd_comm (fun e => this e.symm)]
    · cases ri <;> cases rj <;> simp only [setR]
      rw [upd_comm (fun e => hij e.symm)]
end
end Go.Sx

/- Regions that draw their order: whatever the order, the same is left. -/
namespace Go.Sx
open Go.RowKit

section
variable {D : List V} {P : Program} {cl : FuncId → List V → G → Option (En × G)} {B : Nat} {μ0 : Map} {g0 : G} {w0 : World} {bs : Base} {base : Nat} {ops : Array Oper}

theorem Step.trans_slot {i : Nat} {μ μ1 μ2 : Map} {m m1 m2 : Mem} {w w1 w2 : World} (h : Step Option.none μ m w μ1 m1 w1) (k : Step (some i) μ1 m1 w1 μ2 m2 w2) (hi : m.g.nx ≤ i) : Step Option.none μ m w μ2 m2 w2 := by
  have t := (h.slot (slot := some i)).trans k
  refine { t with ids := ?_ }
  intro b x e
  rcases t.ids b x e with e | e | e
  · exact .inl e
  · exact .inr (.inl e)
  · cases e; exact .inr (.inl hi)

structure RI (D : List V) (B : Nat) (μ0 : Map) (g0 : G) (w0 : World) (bs : Base) (base n : Nat) (done : Nat → Prop) (st : St) (a : Act) (w : World) (μ : Map) : Prop where
  inv : Inv D B μ0 g0 w0 bs st a w μ
  li : LI g0 st.m
  fresh : ∀ i, i < n → ¬ done i → μ (base + i) = Option.none
  nx : base + n ≤ st.m.g.nx
  base : g0.nx ≤ base

variable {n : Nat} {done : Nat → Prop} {st : St} {a : Act} {w : World} {μ : Map}

theorem RI.fr (r : RI D B μ0 g0 w0 bs base n done st a w μ) {i : Nat} (hi : i < n) (hd : ¬ done i) : Fr (base + i) st.regs st.m := by
  have hm := r.fresh i hi hd
  refine ⟨fun x => hasId_rel hm (evals r.inv.h.gl r.inv.regs x), ?_, fun b cs _ hob => ?_, fun b blk hb => ?_⟩
  · cases ho : st.m.ob (base + i) with
    | none => rfl
    | some cs =>
      obtain ⟨c, arr, e, h1, _⟩ := r.inv.h.ob _ cs ho
      rw [hm] at h1; cases h1
  · obtain ⟨c, arr, e, _, _, h3⟩ := r.inv.h.ob b cs hob
    exact hasIds_rel hm h3
  · obtain ⟨c, p, k, arr, e, _, _, _, _, h5⟩ := r.inv.h.hp b blk hb
    have : ∀ (l : List V), (∀ (j : Nat) v, l[j]? = some v → hasId (base + i) v = false) → hasIds (base + i) l = false := by
      intro l
      induction l with
      | nil => intro _; rfl
      | cons v l ih =>
        intro h
        simp only [hasIds, Bool.or_eq_false_iff]
        exact ⟨h 0 v rfl, ih fun j u hu => h (j + 1) u (by simpa using hu)⟩
    refine this _ fun j v hv => ?_
    obtain ⟨v', _, hr⟩ := h5 j v hv
    exact hasId_rel hm hr

theorem RI.ptr (r : RI D B μ0 g0 w0 bs base n done st a w μ) (x : Operand) (b k : Nat) (h : evalD st.regs x = .ptr b k) : b < st.m.g.nx := by
  have := evals r.inv.h.gl r.inv.regs x
  rw [h] at this
  generalize a.eval x = v at this
  cases this with
  | ptr _ _ c p n h => exact (r.inv.h.dom b c p n h).1

theorem stepI_wp {ro : Option Nat} (hcl : FnOK P cl) (hlog : LogOK cl) {s s' : DS} {i : Nat} {Q : Exit → Act → World → Prop} (r : RI D B μ0 g0 w0 bs base n done s.1 a w μ) (hi : i < n) (hd : ¬ done i) (h : stepI P cl ops base i s = some s') :
    wpOpIn (fw ro) 0 P ops Q i (fun a' w' => ∃ μ', RI D B μ0 g0 w0 bs base n (fun x => x = i ∨ done x) s'.1 a' w' μ') a w := by
  obtain ⟨⟨regs, nt, m⟩, tr⟩ := s
  have hb := r.base
  have hn := r.nx
  unfold wpOpIn
  cases ho : ops[i]? with
  | none => unfold stepI at h; rw [ho] at h; cases h
  | some o =>
    simp only
    have hli' := (LI.stepI hlog h r.li r.base (by simp only at hn ⊢; omega))
    unfold stepI at h
    rw [ho] at h
    simp only at h
    cases hw : wantedD regs ops o with
    | none => rw [hw] at h; cases h
    | some b =>
      rw [hw] at h
      rw [wanted_rel r.inv.regs hw]
      cases b with
      | false =>
        simp only [Option.map_eq_some_iff] at h
        obtain ⟨st1, hp, rfl⟩ := h
        simp only [Bool.false_eq_true, if_false]
        refine ⟨fun _ _ => trivial, μ, { inv := r.inv.put hp (undef_rel μ), li := hli'.1, fresh := fun j hj hd2 => r.fresh j hj (fun e => hd2 (.inr e)), nx := ?_, base := hb }⟩
        have := (putD_m hp).1
        simp only at this ⊢
        rw [this]; exact hn
      | true =>
        simp only [if_true]
        have fin : ∀ (v : V) (m1 : Mem) (μ' : Map) (w' : World) (v' : Value) (st1 : St), Step (some (base + i)) μ m w μ' m1 w' → HRel B μ' m1 w' → VRel μ' v v' → putD ⟨regs, nt, m1⟩ o.dst v = some st1 → LI g0 st1.m →
            RI D B μ0 g0 w0 bs base n (fun x => x = i ∨ done x) st1 (a.put o.dst v') w' μ' := by
          intro v m1 μ' w' v' st1 hs hr hv hp hl
          have i1 : Inv D B μ0 g0 w0 bs ⟨regs, nt, m1⟩ a w' μ' :=
            { regs := fun t => (r.inv.regs t).mono hs.sub, size := r.inv.size, defers := r.inv.defers.mono hs.sub (fun c o e hn => hs.keeps r.inv.h e hn), sub1 := r.inv.sub1.trans hs.sub, oth := fun c o e hn => hs.keeps r.inv.h (r.inv.oth c o e hn) hn, h := hr, s := r.inv.s.trans_slot hs (by simp only [bare]; omega), hB := r.inv.hB, low := hs.low r.inv.h r.inv.low }
          refine { inv := i1.put hp hv, li := hl, fresh := fun j hj hd2 => ?_, nx := ?_, base := hb }
          · have h1 := r.fresh j hj (fun e => hd2 (.inr e))
            cases hm : μ' (base + j) with
            | none => rfl
            | some x =>
              exfalso
              rcases hs.ids _ _ hm with e | e | e
              · rw [h1] at e; cases e
              · simp only at hn e; omega
              · have : i = j := by injection e with e; omega
                exact hd2 (.inl this.symm)
          · have := (putD_m hp).1
            have := hs.nx
            simp only at *
            rw [(putD_m hp).1]; simp only; omega
        have hslot : ∀ k, some (base + i) = some k → μ k = Option.none ∧ k < m.g.nx := by
          intro k e; cases e; exact ⟨r.fresh i hi hd, by simp only at hn; omega⟩
        cases hop : opD P cl ⟨regs, nt, m⟩ (some (base + i)) o with
        | none => rw [hop] at h; cases h
        | some y =>
          obtain ⟨x, m1⟩ := y
          rw [hop] at h
          refine op_wpIn hcl (evals r.inv.h.gl r.inv.regs) r.inv.h r.inv.B_le r.inv.low hslot hop (fun μ' w' hs hr => ?_)
          cases x with
          | val v =>
            simp only [Option.map_eq_some_iff] at h
            obtain ⟨st1, hp, rfl⟩ := h
            intro v' hv
            exact ⟨μ', fin v m1 μ' w' v' st1 hs hr hv hp hli'.1⟩
          | skip =>
            simp only [Option.map_eq_some_iff] at h
            obtain ⟨st1, hp, rfl⟩ := h
            exact ⟨μ', fin undefV m1 μ' w' undef st1 hs hr (undef_rel μ') hp hli'.1⟩
          | panic v => cases h

theorem wp_exists {ro : Option Nat} {o : Oper} {K : Act → World → Prop} (h : o.wpIn (fw ro) 0 P a w K (fun _ _ _ => False)) : ∃ a' w', K a' w' := by
  obtain ⟨_, h⟩ := h
  generalize (o.semAt (fw ro).round a.eval).run P w = r at h
  cases r with
  | ok x w1 =>
    cases x with
    | value v => exact ⟨_, _, h⟩
    | skip => exact ⟨_, _, h⟩
    | defer d => exact ⟨_, _, h⟩
    | enter f args =>
      obtain ⟨e, w', fr, hR, _⟩ := (callsIn_fw.1 h.2) []
      cases e with
      | returned v => exact ⟨_, _, hR⟩
      | panicked c => exact hR.elim
      | outgrown => obtain ⟨_, _, hf⟩ := hR; exact hf.elim
    | row rw_ args =>
      obtain ⟨v, w', hR, _⟩ := h.2 default [] (fw_room ro _)
      exact ⟨_, _, hR⟩
    | round l f tmps assign body =>
      obtain ⟨e, w', hR, _⟩ := h.2.2 default [] (fw_room ro _)
      cases e with
      | returned v => exact ⟨_, _, hR⟩
      | panicked c => exact hR.elim
      | outgrown => obtain ⟨_, _, hf⟩ := hR; exact hf.elim
    | _ => exact h.elim
  | halt x w1 =>
    cases x <;> exact h.elim

theorem wpOp_exists {ro : Option Nat} {i : Nat} {K : Act → World → Prop} (h : wpOpIn (fw ro) 0 P ops (fun _ _ _ => False) i K a w) : ∃ a' w', K a' w' := by
  unfold wpOpIn at h
  split at h
  · exact ⟨_, _, h⟩
  · split at h
    · exact wp_exists h
    · exact ⟨_, _, h.2⟩

def Rz (D : List V) (B : Nat) (μ0 : Map) (g0 : G) (w0 : World) (bs : Base) (base n : Nat) (done : Nat → Prop) (st : St) : Prop := ∃ a w μ, RI D B μ0 g0 w0 bs base n done st a w μ

theorem Rz.step (hcl : FnOK P cl) (hlog : LogOK cl) {s s' : DS} {i : Nat} (r : Rz D B μ0 g0 w0 bs base n done s.1) (hi : i < n) (hd : ¬ done i) (h : stepI P cl ops base i s = some s') : Rz D B μ0 g0 w0 bs base n (fun x => x = i ∨ done x) s'.1 := by
  obtain ⟨a, w, μ, r⟩ := r
  obtain ⟨a', w', μ', k⟩ := wpOp_exists (stepI_wp (ro := Option.none) hcl hlog r hi hd h)
  exact ⟨a', w', μ', k⟩

theorem stepI_tr {i j : Nat} {s s' : DS} (hij : j ≠ i) (h : stepI P cl ops base i s = some s') : s'.2 j = s.2 j := by
  cases ho : ops[i]? with
  | none => unfold stepI at h; rw [ho] at h; cases h
  | some o =>
    rw [stepI_eq ho] at h
    simp only [Option.bind_eq_some_iff, Option.map_eq_some_iff] at h
    obtain ⟨⟨v, m, r⟩, _, st1, _, rfl⟩ := h
    cases r <;> simp [setR, upd, hij]

theorem runI_tr {j : Nat} : ∀ (l : List Nat) (s s' : DS), j ∉ l → runI P cl ops base l s = some s' → s'.2 j = s.2 j
  | [], s, s', _, h => by simp only [runI] at h; cases h; rfl
  | i :: l, s, s', hj, h => by
    simp only [runI] at h
    split at h
    · rename_i s1 h1
      rw [runI_tr l s1 s' (fun e => hj (List.mem_cons_of_mem _ e)) h, stepI_tr (fun e => hj (by rw [e]; exact List.mem_cons_self ..)) h1]
    · cases h

theorem bubble (hcl : FnOK P cl) (hlog : LogOK cl) {i : Nat} {oi : Oper} (hoi : ops[i]? = some oi) (hi : i < n) {r2 : List Nat} (hi2 : i ∉ r2) {s' : DS} : ∀ (r1 : List Nat) (s : DS) (done : Nat → Prop), Rz D B μ0 g0 w0 bs base n done s.1 → ¬ done i →
    (∀ x ∈ r1, x < n ∧ ¬ done x ∧ x ≠ i ∧ x ∉ r2 ∧ (∃ ox, ops[x]? = some ox ∧ ox.apart ops oi = true ∧ pairOk (kindD P ox) (kindD P oi) = true) ∧ recOk (s'.2 x) (s'.2 i) = true) → r1.Nodup → 
    runI P cl ops base (r1 ++ i :: r2) s = some s' → runI P cl ops base (i :: (r1 ++ r2)) s = some s'
  | [], s, done, hz, hd, hx, hnd, h => h
  | x :: r1, s, done, hz, hd, hx, hnd, h => by
    obtain ⟨hxn, hxd, hxi, hx2, ⟨ox, hox, hap, hpk⟩, hrec⟩ := hx x (List.mem_cons_self ..)
    have hnd' := List.nodup_cons.1 hnd
    rw [List.cons_append] at h
    simp only [runI] at h
    cases h1 : stepI P cl ops base x s with
    | none => rw [h1] at h; cases h
    | some s1 =>
      rw [h1] at h
      have hz1 := hz.step hcl hlog hxn hxd h1
      have ih := bubble hcl hlog hoi hi hi2 r1 s1 _ hz1 (fun e => e.elim (fun e => hxi e.symm) hd)
        (fun y hy => by
          obtain ⟨k1, k2, k3, k4, k5, k6⟩ := hx y (List.mem_cons_of_mem _ hy)
          exact ⟨k1, fun e => e.elim (fun e => hnd'.1 (e ▸ hy)) k2, k3, k4, k5, k6⟩) hnd'.2 h
      simp only [runI] at ih
      cases h2 : stepI P cl ops base i s1 with
      | none => rw [h2] at ih; cases ih
      | some s2 =>
        rw [h2] at ih
        simp only at ih
        have hx3 : x ∉ r1 ++ r2 := fun e => (List.mem_append.1 e).elim hnd'.1 hx2
        have hi3 : i ∉ r1 ++ r2 := fun e => (List.mem_append.1 e).elim (fun e => (hx i (List.mem_cons_of_mem _ e)).2.2.1 rfl) hi2
        rw [runI_tr _ _ _ hx3 ih, runI_tr _ _ _ hi3 ih] at hrec
        obtain ⟨a, w, μ, r⟩ := hz
        have hn := r.nx
        obtain ⟨s1', e1, e2⟩ := stepI_swap hlog hox hoi hxi r.li r.base (by omega) r.ptr (r.fr hxn hxd) (r.fr hi hd) hap hpk h1 h2 hrec
        simp only [List.cons_append, runI, e1, e2]
        exact ih

theorem getD_set {l : Array Bool} {i j : Nat} (hi : i < l.size) : (l.setIfInBounds i true).getD j true = if j = i then true else l.getD j true := by
  rw [Array.getD_eq_getD_getElem?, Array.getD_eq_getD_getElem?, Array.getElem?_setIfInBounds]
  by_cases h : i = j
  · subst h; simp [hi]
  · rw [if_neg h, if_neg (fun e => h e.symm)]

theorem any_sound {ro : Option Nat} (hcl : FnOK P cl) (hlog : LogOK cl) (hok : drawOk P ops = true) {sf : DS} (htr : ∀ x y, x < y → y < ops.size → ordered (masks ops.toList) x y = true ∨ recOk (sf.2 x) (sf.2 y) = true) :
    ∀ (fuel : Nat) (listed : Array Bool) (r : List Nat) (s : DS) (a : Act) (w : World) (μ : Map), listed.size = ops.size → r.Pairwise (· < ·) → (∀ i, i ∈ r ↔ i < ops.size ∧ listed.getD i true = false) →
      RI D B μ0 g0 w0 bs base ops.size (fun i => listed.getD i true = true) s.1 a w μ → runI P cl ops base r s = some sf → r.length ≤ fuel →
      (∀ i, i < ops.size → listed.getD i true = true → ∀ x, ordered (masks ops.toList) x i = true → listed.getD x true = true) →
      wpAnyIn (fw ro) 0 P .any ops (Post D B μ0 g0 w0 bs .normal sf.1) fuel listed a w := by
  have least : ∀ (listed : Array Bool) (r : List Nat), listed.size = ops.size → r.Pairwise (· < ·) → (∀ i, i ∈ r ↔ i < ops.size ∧ listed.getD i true = false) → Region.ready .any ops listed = [] → r = [] := by
    intro listed r hsz hs hm hr
    cases r with
    | nil => rfl
    | cons i r =>
      exfalso
      obtain ⟨hi, hl⟩ := (hm i).1 (List.mem_cons_self ..)
      have : i ∈ Region.ready .any ops listed := by
        unfold Region.ready
        rw [List.mem_filter]
        refine ⟨List.mem_range.2 hi, ?_⟩
        obtain ⟨o, ho⟩ : ∃ o, ops[i]? = some o := ⟨ops[i], Array.getElem?_eq_getElem hi⟩
        obtain ⟨d1, _⟩ := drawOk_spec hok ho
        rw [hl, ho]
        simp only [Bool.not_false, Option.map_some, Option.getD_some, Bool.true_and]
        rw [Array.all_eq_true_iff_forall_mem]
        intro e he
        by_cases hb : Region.binds .any e = true
        · have hlt := d1 e (by simpa using he) hb
          simp only [hb, Bool.not_true, Bool.false_or]
          have : e.on ∉ i :: r := by
            intro hh
            rcases List.mem_cons.1 hh with hh | hh
            · omega
            · have := List.rel_of_pairwise_cons hs hh; omega
          have h2 : listed.getD e.on true = true := by
            cases hg : listed.getD e.on true with
            | true => rfl
            | false => exact absurd ((hm e.on).2 ⟨by omega, hg⟩) this
          have hlt2 : e.on < listed.size := by omega
          rw [Array.getD_eq_getD_getElem?, Array.getElem?_eq_getElem hlt2] at h2 ⊢
          simpa using h2
        · simp [hb]
      rw [hr] at this
      cases this
  intro fuel
  induction fuel with
  | zero =>
    intro listed r s a w μ hsz hs hm hri h hl _
    have : r = [] := by cases r with | nil => rfl | cons _ _ => simp at hl
    subst this
    simp only [runI] at h
    cases h
    refine ⟨?_, μ, hri.inv, rfl⟩
    cases hrd : Region.ready .any ops listed with
    | nil => rfl
    | cons i l =>
      exfalso
      have : i ∈ Region.ready .any ops listed := by rw [hrd]; exact List.mem_cons_self ..
      unfold Region.ready at this
      rw [List.mem_filter] at this
      simp only [Bool.and_eq_true, Bool.not_eq_true'] at this
      have := (hm i).2 ⟨List.mem_range.1 this.1, this.2.1⟩
      cases this
  | succ fuel ih =>
    intro listed r s a w μ hsz hs hm hri h hl hc
    refine ⟨fun hr => ?_, fun i hir => ?_⟩
    · have := least listed r hsz hs hm hr
      subst this
      simp only [runI] at h
      cases h
      exact ⟨μ, hri.inv, rfl⟩
    · unfold Region.ready at hir
      rw [List.mem_filter] at hir
      simp only [Bool.and_eq_true, Bool.not_eq_true'] at hir
      obtain ⟨hi, hl0, hpre⟩ := hir
      have hi := List.mem_range.1 hi
      obtain ⟨oi, hoi⟩ : ∃ o, ops[i]? = some o := ⟨ops[i], Array.getElem?_eq_getElem hi⟩
      obtain ⟨d1, d2⟩ := drawOk_spec hok hoi
      rw [hoi] at hpre
      simp only [Option.map_some, Option.getD_some] at hpre
      rw [Array.all_eq_true_iff_forall_mem] at hpre
      have pre : ∀ x, ordered (masks ops.toList) x i = true → listed.getD x true = true := by
        intro x hx
        obtain ⟨e, he, hb, hor⟩ := ordered_spec hoi d1 hx
        have h1 := hpre e (by simpa using he)
        simp only [hb, Bool.not_true, Bool.false_or] at h1
        have hlt : e.on < ops.size := by have := d1 e he hb; omega
        have h2 : listed.getD e.on true = true := by
          rw [Array.getD_eq_getD_getElem?, Array.getElem?_eq_getElem (by omega)] at h1 ⊢
          simpa using h1
        rcases hor with rfl | hor
        · exact h2
        · exact hc e.on hlt h2 x hor
      have hmem := (hm i).2 ⟨hi, hl0⟩
      obtain ⟨r1, r2, rfl⟩ := List.append_of_mem hmem
      rw [List.pairwise_append, List.pairwise_cons] at hs
      obtain ⟨s1, ⟨s2, s3⟩, s4⟩ := hs
      have hnd : ∀ (l : List Nat), l.Pairwise (· < ·) → l.Nodup := fun l hl => hl.imp (fun h => Nat.ne_of_lt h)
      have hb := bubble hcl hlog hoi hi (r2 := r2) (fun e => absurd (s2 i e) (by omega)) r1 s _ ⟨a, w, μ, hri⟩ (by simp [hl0])
        (fun x hx => by
          have hxi := s4 x hx i (List.mem_cons_self ..)
          obtain ⟨hxn, hxl⟩ := (hm x).1 (List.mem_append_left _ hx)
          have hno : ordered (masks ops.toList) x i ≠ true := fun e => by rw [pre x e] at hxl; cases hxl
          refine ⟨hxn, by simp [hxl], by omega, fun e => absurd (s2 x e) (by omega), ?_, ?_⟩
          · rcases d2 x hxi with e | ⟨ox, k1, k2, k3, k4⟩
            · exact absurd e hno
            · exact ⟨ox, k1, k2, k4⟩
          · rcases htr x i hxi hi with e | e
            · exact absurd e hno
            · exact e) (hnd _ s1) h
      simp only [runI] at hb
      cases h1 : stepI P cl ops base i s with
      | none => rw [h1] at hb; cases hb
      | some s' =>
        rw [h1] at hb
        simp only at hb
        refine wpOpIn_mono (fun a' w' hh => ?_) (stepI_wp hcl hlog hri hi (by simp [hl0]) h1)
        obtain ⟨μ', hri'⟩ := hh
        have hset : ∀ j, (listed.setIfInBounds i true).getD j true = if j = i then true else listed.getD j true := fun j => getD_set (by omega)
        refine ih (listed.setIfInBounds i true) (r1 ++ r2) s' a' w' μ' (by simpa using hsz) ?_ ?_ ?_ hb ?_ ?_
        · rw [List.pairwise_append]
          exact ⟨s1, s3, fun x hx y hy => s4 x hx y (List.mem_cons_of_mem _ hy)⟩
        · intro j
          rw [hset]
          have := hm j
          by_cases hji : j = i
          · subst hji
            simp only [if_true]
            constructor
            · intro e
              rcases List.mem_append.1 e with e | e
              · have := s4 j e j (List.mem_cons_self ..); omega
              · have := s2 j e; omega
            · intro e; cases e.2
          · rw [if_neg hji, ← this]
            simp [hji]
        · have : (fun j => (listed.setIfInBounds i true).getD j true = true) = (fun j => j = i ∨ listed.getD j true = true) := by
            funext j
            rw [hset]
            by_cases hji : j = i <;> simp [hji]
          rw [this]; exact hri'
        · simp at hl ⊢; omega
        · intro j hj hjl x hx
          rw [hset] at hjl ⊢
          by_cases hxi : x = i
          · simp [hxi]
          · rw [if_neg hxi]
            by_cases hji : j = i
            · subst hji; exact pre x hx
            · rw [if_neg hji] at hjl
              exact hc j hj hjl x hx

/-! ### What goes wrong -/
theorem pure_mem {o : Oper} (hp : pureOp o = true) {st : St} {slot : Option Nat} {x : R} {m' : Mem} (h : opD P cl st slot o = some (x, m')) : m' = st.m := by
  obtain ⟨dst, op, type, pos, after, guard⟩ := o
  cases op <;> simp only [pureOp, Bool.false_eq_true] at hp
  all_goals
    unfold opD at h
    try simp only at h
    repeat' split at h
    all_goals first
      | (cases h; done)
      | (cases h; rfl)
      | (simp only [Option.map_eq_some_iff, Prod.mk.injEq] at h; obtain ⟨_, _, _, h⟩ := h; exact h.symm)
theorem pure_kind {o : Oper} (hp : pureOp o = true) : kindD P o ≠ .eff := by
  obtain ⟨dst, op, type, pos, after, guard⟩ := o
  cases op <;> simp only [pureOp, Bool.false_eq_true] at hp
  all_goals simp [kindD]
def NC (tr : Nat → Rec) : Prop := ∀ y l, tr y ≠ .call l
theorem calm_step {x : Nat} {ox : Oper} (hox : ops[x]? = some ox) (hp : pureOp ox = true) {s s' : DS} (h : stepI P cl ops base x s = some s') :
    (∃ v, s'.1 = { regs := setT s.1.regs ox.dst v, nt := s.1.nt, m := s.1.m }) ∧ (NC s.2 → NC s'.2) := by
  rw [stepI_eq hox] at h
  simp only [Option.bind_eq_some_iff, Option.map_eq_some_iff] at h
  obtain ⟨⟨v, m1, rc⟩, ha, st1, q1, rfl⟩ := h
  obtain ⟨_, rfl⟩ := putD_eq q1
  have hm : m1 = s.1.m ∧ ∀ rr, rc = some rr → ∀ l, rr ≠ .call l := by
    have hk : ∀ (st : St) (l l' : List Nat), recD P st ox l ≠ .call l' := by
      intro st l l' e
      unfold recD at e
      split at e
      · rename_i h2; exact pure_kind hp h2
      · split at e
        · split at e <;> cases e
        · cases e
      · cases e
    unfold actD at ha
    split at ha
    · cases ha; exact ⟨rfl, fun rr e => by cases e⟩
    · split at ha
      · rename_i hop
        cases ha
        exact ⟨pure_mem hp hop, fun rr e l => by cases e; exact hk _ _ _⟩
      · rename_i hop
        cases ha
        exact ⟨pure_mem hp hop, fun rr e l => by cases e; exact hk _ _ _⟩
      · cases ha
    · cases ha
  refine ⟨⟨v, by simp only; rw [hm.1]⟩, fun hn y l => ?_⟩
  cases rc with
  | none => exact hn y l
  | some rr =>
    simp only [setR, upd]
    split
    · exact hm.2 rr rfl l
    · exact hn y l
theorem calm_run {o : Oper} : ∀ (r : List Nat) (s s' : DS), (∀ x ∈ r, ∃ ox, ops[x]? = some ox ∧ pureOp ox = true ∧ ∀ d, ox.dst = some d → d ∉ o.looksAt ops) → runI P cl ops base r s = some s' →
    s'.1.m = s.1.m ∧ s'.1.nt = s.1.nt ∧ (∀ y ∈ o.op.operands, evalD s'.1.regs y = evalD s.1.regs y) ∧ wantedD s'.1.regs ops o = wantedD s.1.regs ops o ∧ (NC s.2 → NC s'.2)
  | [], s, s', _, h => by simp only [runI] at h; cases h; exact ⟨rfl, rfl, fun _ _ => rfl, rfl, id⟩
  | x :: r, s, s', hx, h => by
    simp only [runI] at h
    split at h
    · rename_i s1 h1
      obtain ⟨ox, hox, hp, hd⟩ := hx x (List.mem_cons_self ..)
      obtain ⟨⟨v, e1⟩, hn⟩ := calm_step hox hp h1
      obtain ⟨k1, k2, k3, k4, k5⟩ := calm_run r s1 s' (fun y hy => hx y (List.mem_cons_of_mem _ hy)) h
      have hl : (∀ y ∈ o.op.operands, evalD s1.1.regs y = evalD s.1.regs y) ∧ wantedD s1.1.regs ops o = wantedD s.1.regs ops o := by
        rw [e1]
        cases hdst : ox.dst with
        | none => exact ⟨fun _ _ => rfl, rfl⟩
        | some d => exact look_congr (hd d hdst)
      refine ⟨k1.trans (by rw [e1]), k2.trans (by rw [e1]), fun y hy => (k3 y hy).trans (hl.1 y hy), k4.trans hl.2, fun q => k5 (hn q)⟩
    · cases h
theorem calmAt_spec {i j : Nat} (h : calmAt ops i = true) (hj : j < ops.size) (hij : j = i ∨ others ops i j = true) : ∃ oj, ops[j]? = some oj ∧ (j = i ∨ pureOp oj = true) ∧ ∀ e ∈ oj.after.toList, Region.binds .any e = true → others ops i e.on = true := by
  unfold calmAt at h
  have h1 := List.all_eq_true.1 h j (List.mem_range.2 hj)
  split at h1
  · rename_i oj hoj
    refine ⟨oj, hoj, ?_⟩
    have hc : (decide (j = i) || others ops i j) = true := by rcases hij with rfl | h2 <;> simp [*]
    rw [hc] at h1
    simp only [Bool.not_true, Bool.false_or, Bool.and_eq_true, Bool.or_eq_true, decide_eq_true_eq] at h1
    refine ⟨h1.1, fun e he hb => ?_⟩
    have := List.all_eq_true.1 h1.2 e he
    simpa [hb] using this
  · cases h1
theorem others_ne {i j : Nat} (h : others ops i j = true) : j ≠ i ∧ ordered (masks ops.toList) i j ≠ true := by
  unfold others at h
  simpa using h
/-- Two that nothing orders keep out of each other's way. -/
theorem apart_of (hok : drawOk P ops = true) {x i : Nat} {ox oi : Oper} (hx : ops[x]? = some ox) (hi : ops[i]? = some oi) (hne : x ≠ i) (h1 : ordered (masks ops.toList) x i ≠ true) (h2 : ordered (masks ops.toList) i x ≠ true) : ox.apart ops oi = true ∧ pairOk (kindD P ox) (kindD P oi) = true := by
  rcases Nat.lt_or_ge x i with h | h
  · rcases (drawOk_spec hok hi).2 x h with e | ⟨oy, q1, q2, q3, q4⟩
    · exact absurd e h1
    · rw [hx] at q1; cases q1; exact ⟨q2, q4⟩
  · rcases (drawOk_spec hok hx).2 i (by omega) with e | ⟨oy, q1, q2, q3, q4⟩
    · exact absurd e h2
    · rw [hi] at q1; cases q1
      refine ⟨q3, ?_⟩
      revert q4
      cases kindD P oi <;> cases kindD P ox <;> simp [pairOk]

theorem any_panic {ro : Option Nat} (hcl : FnOK P cl) (hlog : LogOK cl) (hok : drawOk P ops = true) {i : Nat} {oi : Oper} (hoi : ops[i]? = some oi) (hcalm : calmAt ops i = true) {regs0 : Nat → V} {nt0 : Nat} {m0 m1 : Mem} {v : V} {sE : DS}
    (hwE : wantedD sE.1.regs ops oi = some true) (hpE : opD P cl sE.1 (some (base + i)) oi = some (.panic v, m1)) (hmE : sE.1.m = m0) :
    ∀ (fuel : Nat) (listed : Array Bool) (r : List Nat) (s : DS) (a : Act) (w : World) (μ : Map), listed.size = ops.size → r.Pairwise (· < ·) → (∀ j, j ∈ r ↔ (j < ops.size ∧ others ops i j = true) ∧ listed.getD j true = false) →
      listed.getD i true = false → RI D B μ0 g0 w0 bs base ops.size (fun j => listed.getD j true = true) s.1 a w μ → runI P cl ops base r s = some sE → r.length + 1 ≤ fuel →
      (∀ j, j < ops.size → listed.getD j true = true → ∀ x, ordered (masks ops.toList) x j = true → listed.getD x true = true) → s.1.m = m0 → s.1.nt = nt0 → (∀ t, (ops.toList.any fun o => o.dst == some t) = false → s.1.regs t = regs0 t) → NC s.2 →
      wpAnyIn (fw ro) 0 P .any ops (Post D B μ0 g0 w0 bs (.panic v) { regs := forgetD ops regs0, nt := nt0, m := m1 }) fuel listed a w := by
  have hin : i < ops.size := by
    rcases Nat.lt_or_ge i ops.size with h | h
    · exact h
    · rw [Array.getElem?_eq_none h] at hoi; cases hoi
  intro fuel
  induction fuel with
  | zero => intro listed r s a w μ _ _ _ _ _ _ hl; omega
  | succ fuel ih =>
    intro listed r s a w μ hsz hs hm hil hri hrun hl hc hm0 hnt hreg hnc
    -- what comes ahead of one that is ready has been
    have pre : ∀ {x : Nat} {ox : Oper}, ops[x]? = some ox → (ox.after.all fun e => !Region.binds .any e || listed.getD e.on false) = true → ∀ y, ordered (masks ops.toList) y x = true → listed.getD y true = true := by
      intro x ox hox hpre y hy
      obtain ⟨d1, _⟩ := drawOk_spec hok hox
      have hx : x < ops.size := by
        rcases Nat.lt_or_ge x ops.size with h | h
        · exact h
        · rw [Array.getElem?_eq_none h] at hox; cases hox
      obtain ⟨e, he, hb, hor⟩ := ordered_spec hox d1 hy
      rw [Array.all_eq_true_iff_forall_mem] at hpre
      have h1 := hpre e (by simpa using he)
      simp only [hb, Bool.not_true, Bool.false_or] at h1
      have hlt : e.on < ops.size := by have := d1 e he hb; omega
      have h2 : listed.getD e.on true = true := by
        rw [Array.getD_eq_getD_getElem?, Array.getElem?_eq_getElem (by omega)] at h1 ⊢
        simpa using h1
      rcases hor with rfl | hor
      · exact h2
      · exact hc e.on hlt h2 y hor
    refine ⟨fun hr => ?_, fun x hxr => ?_⟩
    · -- one is always ready
      exfalso
      have mk : ∀ (j : Nat) (oj : Oper), j < ops.size → ops[j]? = some oj → listed.getD j true = false → (∀ e ∈ oj.after.toList, Region.binds .any e = true → listed.getD e.on true = true ∧ e.on < ops.size) → False := by
        intro j oj hj hoj hlj hpre
        have : j ∈ Region.ready .any ops listed := by
          unfold Region.ready
          rw [List.mem_filter]
          refine ⟨List.mem_range.2 hj, ?_⟩
          rw [hlj, hoj]
          simp only [Bool.not_false, Option.map_some, Option.getD_some, Bool.true_and]
          rw [Array.all_eq_true_iff_forall_mem]
          intro e he
          by_cases hb : Region.binds .any e = true
          · obtain ⟨h2, hlt⟩ := hpre e (by simpa using he) hb
            simp only [hb, Bool.not_true, Bool.false_or]
            have hlt2 : e.on < listed.size := by omega
            rw [Array.getD_eq_getD_getElem?, Array.getElem?_eq_getElem hlt2] at h2 ⊢
            simpa using h2
          · simp [hb]
        rw [hr] at this
        cases this
      cases r with
      | nil =>
        obtain ⟨oj, q1, _, q3⟩ := calmAt_spec hcalm hin (.inl rfl)
        obtain ⟨d1, _⟩ := drawOk_spec hok q1
        refine mk i oj hin q1 hil fun e he hb => ?_
        have hlt : e.on < ops.size := by have := d1 e he hb; omega
        refine ⟨?_, hlt⟩
        cases hg : listed.getD e.on true with
        | true => rfl
        | false => exact absurd ((hm e.on).2 ⟨⟨hlt, q3 e he hb⟩, hg⟩) (by simp)
      | cons j r =>
        obtain ⟨⟨hj, hoj⟩, hlj⟩ := (hm j).1 (List.mem_cons_self ..)
        obtain ⟨oj, q1, _, q3⟩ := calmAt_spec hcalm hj (.inr hoj)
        obtain ⟨d1, _⟩ := drawOk_spec hok q1
        refine mk j oj hj q1 hlj fun e he hb => ?_
        have hlt := d1 e he hb
        have hlt2 : e.on < ops.size := by omega
        refine ⟨?_, hlt2⟩
        cases hg : listed.getD e.on true with
        | true => rfl
        | false =>
          have hmem := (hm e.on).2 ⟨⟨hlt2, q3 e he hb⟩, hg⟩
          rcases List.mem_cons.1 hmem with hh | hh
          · omega
          · have := List.rel_of_pairwise_cons hs hh; omega
    · unfold Region.ready at hxr
      rw [List.mem_filter] at hxr
      simp only [Bool.and_eq_true, Bool.not_eq_true'] at hxr
      obtain ⟨hx, hl0, hpre⟩ := hxr
      have hx := List.mem_range.1 hx
      obtain ⟨ox, hox⟩ : ∃ o, ops[x]? = some o := ⟨ops[x], Array.getElem?_eq_getElem hx⟩
      rw [hox] at hpre
      simp only [Option.map_some, Option.getD_some] at hpre
      have hpx := pre hox hpre
      have hcalmr : ∀ y ∈ r, ∃ oy, ops[y]? = some oy ∧ pureOp oy = true := by
        intro y hy
        obtain ⟨⟨h1, h2⟩, _⟩ := (hm y).1 hy
        obtain ⟨oy, q1, q2, _⟩ := calmAt_spec hcalm h1 (.inr h2)
        exact ⟨oy, q1, q2.resolve_left (others_ne h2).1⟩
      by_cases hxi : x = i
      · -- it goes wrong
        subst hxi
        rw [hoi] at hox; cases hox
        have hrr : ∀ y ∈ r, ∃ oy, ops[y]? = some oy ∧ pureOp oy = true ∧ ∀ d, oy.dst = some d → d ∉ oi.looksAt ops := by
          intro y hy
          obtain ⟨oy, q1, q2⟩ := hcalmr y hy
          obtain ⟨⟨h1, h2⟩, hly⟩ := (hm y).1 hy
          obtain ⟨hne, hno⟩ := others_ne h2
          have hap := (apart_of hok q1 hoi hne (fun e => by rw [hpx y e] at hly; cases hly) hno).1
          exact ⟨oy, q1, q2, (Oper.apart_spec hap).1⟩
        obtain ⟨k1, k2, k3, k4, _⟩ := calm_run (o := oi) r s sE hrr hrun
        have hop : opD P cl s.1 (some (base + x)) oi = some (.panic v, m1) := by
          obtain ⟨⟨regs, nt, m⟩, tr⟩ := s
          obtain ⟨⟨regsE, ntE, mE⟩, trE⟩ := sE
          simp only at k1 k2 k3 hpE
          subst k1 k2
          rw [← hpE]
          exact opD_congr (fun y hy => (k3 y hy).symm)
        have hw : wantedD s.1.regs ops oi = some true := k4 ▸ hwE
        unfold wpOpIn
        rw [hoi]
        simp only
        rw [wanted_rel hri.inv.regs hw]
        simp only [if_true]
        have hslot : ∀ k, some (base + x) = some k → μ k = Option.none ∧ k < s.1.m.g.nx := by
          intro k e; cases e
          have := hri.nx
          exact ⟨hri.fresh x hx (by simp [hil]), by omega⟩
        refine op_wpIn hcl (evals hri.inv.h.gl hri.inv.regs) hri.inv.h hri.inv.B_le hri.inv.low hslot hop (fun μ' w' hs hr => ?_)
        intro v' hv
        refine ⟨μ', ?_, v', rfl, hv⟩
        have hb := hri.base
        refine { regs := fun t => ?_, size := by rw [← hnt]; exact hri.inv.size, defers := hri.inv.defers.mono hs.sub (fun c o e hn => hs.keeps hri.inv.h e hn), sub1 := hri.inv.sub1.trans hs.sub, oth := fun c o e hn => hs.keeps hri.inv.h (hri.inv.oth c o e hn) hn,
                 h := hr, s := hri.inv.s.trans_slot hs (by simp only [bare]; omega), hB := hri.inv.hB, low := hs.low hri.inv.h hri.inv.low }
        simp only [forgetD]
        split
        · exact .any _
        · rename_i hq
          rw [← hreg t (by simpa using hq)]
          exact (hri.inv.regs t).mono hs.sub
      · by_cases hxo : ordered (masks ops.toList) i x = true
        · have := hpx i hxo
          rw [hil] at this; cases this
        · -- a calm one
          have hoth : others ops i x = true := by unfold others; simp [hxi, hxo]
          have hmem := (hm x).2 ⟨⟨hx, hoth⟩, hl0⟩
          obtain ⟨r1, r2, rfl⟩ := List.append_of_mem hmem
          rw [List.pairwise_append, List.pairwise_cons] at hs
          obtain ⟨s1, ⟨s2, s3⟩, s4⟩ := hs
          have hnd : ∀ (l : List Nat), l.Pairwise (· < ·) → l.Nodup := fun l hl => hl.imp (fun h => Nat.ne_of_lt h)
          obtain ⟨oy, q1, q2⟩ := hcalmr x (by simp)
          rw [hox] at q1; cases q1
          have hncE : NC sE.2 := by
            have : ∀ (l : List Nat) (s s' : DS), (∀ y ∈ l, ∃ oy, ops[y]? = some oy ∧ pureOp oy = true) → runI P cl ops base l s = some s' → NC s.2 → NC s'.2 := by
              intro l
              induction l with
              | nil => intro s s' _ h k; simp only [runI] at h; cases h; exact k
              | cons y l ihl =>
                intro s s' hy h k
                simp only [runI] at h
                split at h
                · rename_i s1 h1
                  obtain ⟨oy, e1, e2⟩ := hy y (List.mem_cons_self ..)
                  exact ihl s1 s' (fun z hz => hy z (List.mem_cons_of_mem _ hz)) h ((calm_step e1 e2 h1).2 k)
                · cases h
            exact this _ s sE hcalmr hrun hnc
          have hb := bubble hcl hlog hox hx (r2 := r2) (fun e => absurd (s2 x e) (by omega)) r1 s _ ⟨a, w, μ, hri⟩ (by simp [hl0])
            (fun y hy => by
              have hyx := s4 y hy x (List.mem_cons_self ..)
              obtain ⟨⟨hyn, hyo⟩, hyl⟩ := (hm y).1 (List.mem_append_left _ hy)
              have hno : ordered (masks ops.toList) y x ≠ true := fun e => by rw [hpx y e] at hyl; cases hyl
              refine ⟨hyn, by simp [hyl], by omega, fun e => absurd (s2 y e) (by omega), ?_, ?_⟩
              · rcases (drawOk_spec hok hox).2 y hyx with e | ⟨oy, k1, k2, k3, k4⟩
                · exact absurd e hno
                · exact ⟨oy, k1, k2, k4⟩
              · cases h1 : sE.2 y with
                | call l => exact absurd h1 (hncE y l)
                | _ => cases h2 : sE.2 x with
                  | call l => exact absurd h2 (hncE x l)
                  | _ => rfl) (hnd _ s1) hrun
          simp only [runI] at hb
          cases h1 : stepI P cl ops base x s with
          | none => rw [h1] at hb; cases hb
          | some s' =>
            rw [h1] at hb
            simp only at hb
            obtain ⟨⟨u, e1⟩, hnc'⟩ := calm_step hox q2 h1
            refine wpOpIn_mono (fun a' w' hh => ?_) (stepI_wp hcl hlog hri hx (by simp [hl0]) h1)
            obtain ⟨μ', hri'⟩ := hh
            have hset : ∀ j, (listed.setIfInBounds x true).getD j true = if j = x then true else listed.getD j true := fun j => getD_set (by omega)
            refine ih (listed.setIfInBounds x true) (r1 ++ r2) s' a' w' μ' (by simpa using hsz) ?_ ?_ ?_ ?_ hb ?_ ?_ (by rw [e1]; exact hm0) (by rw [e1]; exact hnt) ?_ (hnc' hnc)
            · rw [List.pairwise_append]
              exact ⟨s1, s3, fun y hy z hz => s4 y hy z (List.mem_cons_of_mem _ hz)⟩
            · intro j
              rw [hset]
              have := hm j
              by_cases hji : j = x
              · subst hji
                simp only [if_true]
                constructor
                · intro e
                  rcases List.mem_append.1 e with e | e
                  · have := s4 j e j (List.mem_cons_self ..); omega
                  · have := s2 j e; omega
                · intro e; cases e.2
              · rw [if_neg hji, ← this]
                simp [hji]
            · rw [hset, if_neg (fun e => hxi e.symm)]; exact hil
            · have : (fun j => (listed.setIfInBounds x true).getD j true = true) = (fun j => j = x ∨ listed.getD j true = true) := by
                funext j
                rw [hset]
                by_cases hji : j = x <;> simp [hji]
              rw [this]; exact hri'
            · simp at hl ⊢; omega
            · intro j hj hjl y hy
              rw [hset] at hjl ⊢
              by_cases hyx : y = x
              · simp [hyx]
              · rw [if_neg hyx]
                by_cases hji : j = x
                · subst hji; exact hpx y hy
                · rw [if_neg hji] at hjl
                  exact hc j hj hjl y hy
            · intro t ht
              rw [e1]
              cases hd : ox.dst with
              | none => exact hreg t ht
              | some d =>
                have hne : t ≠ d := by
                  intro e
                  subst e
                  have : (ops.toList.any fun o => o.dst == some t) = true := List.any_eq_true.2 ⟨ox, by simpa using Array.mem_of_getElem? hox, by simp [hd]⟩
                  rw [ht] at this; cases this
                simp only [setT, upd, if_neg hne]
                exact hreg t ht

theorem calm_regs : ∀ (r : List Nat) (s s' : DS), (∀ x ∈ r, ∃ ox, ops[x]? = some ox ∧ pureOp ox = true) → runI P cl ops base r s = some s' → s'.1.m = s.1.m ∧ s'.1.nt = s.1.nt ∧ ∀ t, (ops.toList.any fun o => o.dst == some t) = false → s'.1.regs t = s.1.regs t
  | [], s, s', _, h => by simp only [runI] at h; cases h; exact ⟨rfl, rfl, fun _ _ => rfl⟩
  | x :: r, s, s', hx, h => by
    simp only [runI] at h
    split at h
    · rename_i s1 h1
      obtain ⟨ox, hox, hp⟩ := hx x (List.mem_cons_self ..)
      obtain ⟨⟨v, e1⟩, _⟩ := calm_step hox hp h1
      obtain ⟨k1, k2, k3⟩ := calm_regs r s1 s' (fun y hy => hx y (List.mem_cons_of_mem _ hy)) h
      refine ⟨k1.trans (by rw [e1]), k2.trans (by rw [e1]), fun t ht => (k3 t ht).trans ?_⟩
      rw [e1]
      cases hd : ox.dst with
      | none => rfl
      | some d =>
        have hne : t ≠ d := by
          intro e
          subst e
          have : (ops.toList.any fun o => o.dst == some t) = true := List.any_eq_true.2 ⟨ox, by simpa using Array.mem_of_getElem? hox, by simp [hd]⟩
          rw [ht] at this; cases this
        simp [setT, upd, hne]
    · cases h
theorem ordered_lt (hok : drawOk P ops = true) : ∀ (j x : Nat), j < ops.size → ordered (masks ops.toList) x j = true → x < j := by
  intro j
  induction j using Nat.strongRecOn with
  | _ j ih =>
    intro x hj h
    obtain ⟨oj, hoj⟩ : ∃ o, ops[j]? = some o := ⟨ops[j], Array.getElem?_eq_getElem hj⟩
    obtain ⟨d1, _⟩ := drawOk_spec hok hoj
    obtain ⟨e, he, hb, hor⟩ := ordered_spec hoj d1 h
    have hlt := d1 e he hb
    rcases hor with rfl | hor
    · exact hlt
    · have := ih e.on hlt x (by omega) hor; omega
theorem panicR_split : ∀ (l : List Nat) (s : DS) (r : X × St), panicR P cl ops base l s = some r → ∃ l1 i l2 s1, l = l1 ++ i :: l2 ∧ runI P cl ops base l1 s = some s1 ∧ panicAt P cl ops base i s1 = some r
  | [], s, r, h => by simp only [panicR] at h; cases h
  | i :: l, s, r, h => by
    simp only [panicR] at h
    split at h
    · rename_i s1 h1
      obtain ⟨l1, j, l2, s2, e1, e2, e3⟩ := panicR_split l s1 r h
      exact ⟨i :: l1, j, l2, s2, by rw [e1]; rfl, by simp only [runI, h1]; exact e2, e3⟩
    · exact ⟨[], i, l, s, rfl, rfl, h⟩
theorem range_split {n i : Nat} {l1 l2 : List Nat} (h : List.range n = l1 ++ i :: l2) : l1 = List.range i ∧ i < n := by
  have hlen : l1.length < n := by have := congrArg List.length h; simp at this; omega
  have hi : i = l1.length := by
    have := congrArg (fun l => l[l1.length]?) h
    simp [hlen] at this
    exact this.symm
  refine ⟨?_, by omega⟩
  have h2 := congrArg (List.take l1.length) h
  rw [List.take_left' rfl, List.take_range] at h2
  have h3 : min l1.length n = l1.length := by omega
  rw [h3] at h2
  rw [hi]
  exact h2.symm
theorem pw_len : ∀ (l : List Nat) (a n : Nat), l.Pairwise (· < ·) → (∀ x ∈ l, a ≤ x ∧ x < n) → l.length ≤ n - a
  | [], _, _, _, _ => by simp
  | x :: l, a, n, h, k => by
    rw [List.pairwise_cons] at h
    have h1 := k x (List.mem_cons_self ..)
    have := pw_len l (x + 1) n h.2 (fun y hy => ⟨h.1 y hy, (k y (List.mem_cons_of_mem _ hy)).2⟩)
    simp only [List.length_cons]
    omega
theorem runI_append : ∀ (l1 l2 : List Nat) (s s1 : DS), runI P cl ops base l1 s = some s1 → runI P cl ops base (l1 ++ l2) s = runI P cl ops base l2 s1
  | [], l2, s, s1, h => by simp only [runI] at h; cases h; rfl
  | i :: l1, l2, s, s1, h => by
    simp only [runI, List.cons_append] at h ⊢
    split at h
    · exact runI_append l1 l2 _ s1 h
    · cases h
theorem drawD_sound {ro : Option Nat} (hm : P.follows .mixedOrders = true) (hcl : FnOK P cl) (hlog : LogOK cl) {id : Nat} {st st' : St} {x : X} (h : drawD P cl ops st = some (x, st')) {a : Act} {w : World} {μ : Map} (hi : Inv D B μ0 g0 w0 bs st a w μ) (hli : LI g0 st.m) :
    (Code.region id ops true).wpIn (fw ro) 0 P (Post D B μ0 g0 w0 bs x st') a w := by
  unfold drawD at h
  split at h
  · rename_i hok
    simp only at h
    split at h
    · rename_i st1 tr hr
      split at h
      · rename_i hrec
        cases h
        refine wpIn_region_any hm ?_
        have htr : ∀ x y, x < y → y < ops.size → ordered (masks ops.toList) x y = true ∨ recOk (tr x) (tr y) = true := by
          intro x y hxy hy
          unfold recsOk at hrec
          have h1 := List.all_eq_true.1 hrec y (List.mem_range.2 hy)
          have h2 := List.all_eq_true.1 h1 x (List.mem_range.2 hxy)
          simpa using h2
        refine any_sound (sf := (st', tr)) (μ0 := μ0) (g0 := g0) (w0 := w0) (B := B) (base := st.m.g.nx) hcl hlog hok htr ops.size (Array.replicate ops.size false) (List.range ops.size) _ a { w with drawn := w.drawn + 1 } μ (by simp) List.pairwise_lt_range ?_ ?_ hr (by simp) ?_
        · intro i
          rw [List.mem_range]
          constructor
          · intro e; exact ⟨e, by simp [e]⟩
          · intro e; exact e.1
        · have hn := hli.nx
          have hh := hi.h
          refine { inv := ?_, li := ?_, fresh := ?_, nx := by simp, base := hn }
          · refine { regs := hi.regs, size := hi.size, defers := hi.defers.mono (Sub.refl μ) (fun c o e _ => e), sub1 := hi.sub1, oth := hi.oth, h := ?_, s := ?_, hB := hi.hB, low := hi.low }
            · exact { dom := fun b c p n e => by have := hh.dom b c p n e; simp only; refine ⟨by omega, this.2⟩, hp := hh.hp, ob := hh.ob, dj := hh.dj, oo := hh.oo, oh := hh.oh, gl := hh.gl }
            · have := hi.s
              exact { sub := this.sub, nx := by have := this.nx; simp only at this ⊢; omega, os := this.os, tape := this.tape, output := this.output, size := this.size, fz := this.fz, ids := this.ids, upd := this.upd, newh := this.newh, newo := this.newo }
          · exact { log := hli.log, nx := by simp only; omega, root := hli.root, own := hli.own, dom0 := hli.dom0, dom := fun b blk hb => by have := hli.dom b blk hb; simp only; omega, domo := fun b cs hb => by have := hli.domo b cs hb; simp only; omega }
          · intro i hin _
            cases hmu : μ (st.m.g.nx + i) with
            | none => rfl
            | some y =>
              obtain ⟨c, p, k⟩ := y
              have := (hh.dom _ c p k hmu).1
              omega
        · intro i hin e
          simp [hin] at e
      · cases h
    · refine wpIn_region_any hm ?_
      obtain ⟨l1, i, l2, si, e1, e2, e3⟩ := panicR_split _ _ _ h
      obtain ⟨rfl, hin⟩ := range_split e1
      obtain ⟨oi, v, m1, sE, hoi, hcalm, hw, hop, hrest, hx⟩ := panicAt_inv e3
      simp only [Prod.mk.injEq] at hx
      obtain ⟨rfl, rfl⟩ := hx
      have hlow : ∀ j, j < i → others ops i j = true := by
        intro j hj
        have : ordered (masks ops.toList) i j ≠ true := fun e => by have := ordered_lt hok j i (by omega) e; omega
        unfold others
        rw [Bool.and_eq_true]
        exact ⟨by simp; omega, by simpa using this⟩
      have hpure : ∀ j, j < ops.size → others ops i j = true → ∃ oj, ops[j]? = some oj ∧ pureOp oj = true := by
        intro j hj ho
        obtain ⟨oj, q1, q2, _⟩ := calmAt_spec hcalm hj (.inr ho)
        exact ⟨oj, q1, q2.resolve_left (others_ne ho).1⟩
      have hp1 : ∀ j ∈ List.range i, ∃ oj, ops[j]? = some oj ∧ pureOp oj = true := fun j hj => hpure j (by have := List.mem_range.1 hj; omega) (hlow j (List.mem_range.1 hj))
      have hmr : ∀ j, j ∈ restI ops i ↔ j < ops.size ∧ i < j ∧ others ops i j = true := by
        intro j
        unfold restI
        rw [List.mem_filter, List.mem_range]
        simp [and_assoc]
      obtain ⟨k1, k2, k3⟩ := calm_regs _ _ _ hp1 e2
      have hrest' : ∀ y ∈ restI ops i, ∃ oy, ops[y]? = some oy ∧ pureOp oy = true ∧ ∀ d, oy.dst = some d → d ∉ oi.looksAt ops := by
        intro y hy
        obtain ⟨h1, h2, h3⟩ := (hmr y).1 hy
        obtain ⟨oy, q1, q2⟩ := hpure y h1 h3
        have hno : ordered (masks ops.toList) y i ≠ true := fun e => by have := ordered_lt hok i y hin e; omega
        exact ⟨oy, q1, q2, (Oper.apart_spec (apart_of hok q1 hoi (by omega) hno (others_ne h3).2).1).1⟩
      obtain ⟨c1, c2, c3, c4, _⟩ := calm_run (o := oi) _ _ _ hrest' hrest
      have hf : forgetD ops si.1.regs = forgetD ops st.regs := by
        funext t
        unfold forgetD
        split
        · rfl
        · rename_i hq; exact k3 t (by simpa using hq)
      rw [hf, k2]
      have hopE : opD P cl sE.1 (some (st.m.g.nx + i)) oi = some (.panic v, m1) := by
        rw [← hop]
        obtain ⟨⟨regs, nt, m⟩, tr⟩ := si
        obtain ⟨⟨regsE, ntE, mE⟩, trE⟩ := sE
        simp only at c1 c2 c3
        subst c1 c2
        exact opD_congr (fun y hy => c3 y hy)
      have hn := hli.nx
      have hh := hi.h
      refine any_panic (base := st.m.g.nx) hcl hlog hok hoi hcalm (c4.trans hw) hopE rfl ops.size (Array.replicate ops.size false) (List.range i ++ restI ops i) _ a { w with drawn := w.drawn + 1 } μ (by simp) ?_ ?_ (by simp [hin]) ?_ ((runI_append _ _ _ _ e2).trans hrest) ?_ ?_ (k1.symm.trans c1.symm) rfl (fun t _ => rfl) (fun y l => by simp)
      · rw [List.pairwise_append]
        exact ⟨List.pairwise_lt_range, List.pairwise_lt_range.sublist List.filter_sublist, fun x hx y hy => by have := List.mem_range.1 hx; have := ((hmr y).1 hy).2.1; omega⟩
      · intro j
        rw [List.mem_append, List.mem_range, hmr]
        constructor
        · rintro (hj | ⟨h1, h2, h3⟩)
          · exact ⟨⟨by omega, hlow j hj⟩, by simp [show j < ops.size by omega]⟩
          · exact ⟨⟨h1, h3⟩, by simp [h1]⟩
        · rintro ⟨⟨h1, h2⟩, _⟩
          rcases Nat.lt_or_ge j i with hj | hj
          · exact .inl hj
          · exact .inr ⟨h1, by have := (others_ne h2).1; omega, h2⟩
      · refine { inv := ?_, li := ?_, fresh := ?_, nx := by simp, base := hn }
        · refine { regs := hi.regs, size := hi.size, defers := hi.defers.mono (Sub.refl μ) (fun c o e _ => e), sub1 := hi.sub1, oth := hi.oth, h := ?_, s := ?_, hB := hi.hB, low := hi.low }
          · exact { dom := fun b c p n e => by have := hh.dom b c p n e; simp only; refine ⟨by omega, this.2⟩, hp := hh.hp, ob := hh.ob, dj := hh.dj, oo := hh.oo, oh := hh.oh, gl := hh.gl }
          · have := hi.s
            exact { sub := this.sub, nx := by have := this.nx; simp only at this ⊢; omega, os := this.os, tape := this.tape, output := this.output, size := this.size, fz := this.fz, ids := this.ids, upd := this.upd, newh := this.newh, newo := this.newo }
        · exact { log := hli.log, nx := by simp only; omega, root := hli.root, own := hli.own, dom0 := hli.dom0, dom := fun b blk hb => by have := hli.dom b blk hb; simp only; omega, domo := fun b cs hb => by have := hli.domo b cs hb; simp only; omega }
        · intro i hin _
          cases hmu : μ (st.m.g.nx + i) with
          | none => rfl
          | some y =>
            obtain ⟨c, p, k⟩ := y
            have := (hh.dom _ c p k hmu).1
            omega
      · have := pw_len (restI ops i) (i + 1) ops.size (List.pairwise_lt_range.sublist List.filter_sublist) (fun x hx => ⟨((hmr x).1 hx).2.1, ((hmr x).1 hx).1⟩)
        simp
        omega
      · intro j hjn e
        simp [hjn] at e
  · cases h
end
end Go.Sx

/- Code and functions: what the evaluator says, the model does. -/
namespace Go.Sx
open Go.RowKit

section
variable {D : List V} {P : Program} {B : Nat} {μ0 : Map} {g0 : G} {w0 : World} {bs : Base} {μ : Map} {w : World} {a : Act} {st : St}

def resM (tmps : Array Value) : ResultVar → Sem Value
  | .tmp t => pure (tmps.getD t undef)
  | .cell x t => do loadVar t (← asAddr (tmps.getD x undef))

theorem resD_sound (hi : Inv D B μ0 g0 w0 bs st a w μ) {r : ResultVar} {v : V} (h : resD P st r = some v) :
    ∃ v', (resM a.tmps r).run P w = .ok v' w ∧ VRel μ v v' := by
  cases r with
  | tmp t =>
    simp only [resD] at h
    cases h
    exact ⟨_, rfl, hi.regs t⟩
  | cell x t =>
    simp only [resD] at h
    have hx := hi.regs x
    cases hv : st.regs x <;> rw [hv] at h hx <;> try (cases h; done)
    rename_i b o
    cases ha : aggD P t with
    | none => rw [ha] at h; cases h
    | some ag =>
      rw [ha] at h
      generalize hy : a.tmps.getD x undef = y at hx
      cases hx with
      | ptr _ _ c p k hm =>
      cases ag with
      | true =>
        cases hz : sizeD P t with
        | none => rw [hz] at h; cases h
        | some n =>
          rw [hz] at h
          simp only [Option.map_eq_some_iff] at h
          obtain ⟨cs, hr, rfl⟩ := h
          obtain ⟨arr, e, h1, h2, h3, h4⟩ := read_sound hi.h hr hm
          refine ⟨.agg ((arr.toList.drop (p + o)).take n).toArray, ?_, .agg _ _ h4⟩
          simp only [resM, hy, asAddr, Sem.run_bind, Sem.run_pure, Result.andThen, loadVar, isAgg_run ha, sizeOf_run hz, if_true, loadCells_run h1 (p + o) n h2]
      | false =>
        simp only at h
        split at h
        · rename_i u hr
          cases h
          obtain ⟨arr, e, h1, h2, h3, h4⟩ := read_sound hi.h hr hm
          have hlt : p + o < arr.size := by omega
          have h5 : (arr.toList.drop (p + o)).take 1 = [arr[p + o]] := by
            rw [List.drop_eq_getElem_cons (by simpa using hlt)]
            simp
          rw [h5] at h4
          cases h4 with
          | cons _ _ _ _ h6 _ =>
          refine ⟨arr[p + o], ?_, h6⟩
          have hc : w.cell? ⟨c, p + o, Option.none⟩ = some arr[p + o] := by rw [cell_of_heap h1, Array.getElem?_eq_getElem hlt]
          simp only [resM, hy, asAddr, Sem.run_bind, Sem.run_pure, Result.andThen, loadVar, isAgg_run ha, Bool.false_eq_true, if_false, Go.load, Sem.run, hc]
        · cases h

theorem ressD_sound (hi : Inv D B μ0 g0 w0 bs st a w μ) : ∀ (l : List ResultVar) (vs : List V), ressD P st l = some vs →
    ∃ vs', (l.mapM (resM a.tmps)).run P w = .ok vs' w ∧ VRels μ vs vs'
  | [], vs, h => by
    simp only [ressD] at h
    cases h
    exact ⟨[], by simp [Sem.run_pure], .nil⟩
  | r :: l, vs, h => by
    simp only [ressD] at h
    cases h1 : resD P st r with
    | none => rw [h1] at h; cases h
    | some v =>
      cases h2 : ressD P st l with
      | none => rw [h1, h2] at h; cases h
      | some us =>
        rw [h1, h2] at h
        cases h
        obtain ⟨v', e1, e2⟩ := resD_sound hi h1
        obtain ⟨us', e3, e4⟩ := ressD_sound hi l us h2
        refine ⟨v' :: us', ?_, .cons _ _ _ _ e2 e4⟩
        rw [List.mapM_cons]
        simp only [Sem.run_bind, e1, Result.andThen, e3, Sem.run_pure]

theorem resultD_sound (hi : Inv D B μ0 g0 w0 bs st a w μ) {fn : Func} {v : V} (h : resultD P st fn = some v) : ∃ v', (results fn a.tmps).run P w = .ok v' w ∧ VRel μ v v' := by
  unfold resultD at h
  cases hr : ressD P st fn.results.toList with
  | none => rw [hr] at h; cases h
  | some vs =>
    rw [hr] at h
    obtain ⟨vs', e1, e2⟩ := ressD_sound hi _ _ hr
    have hrun : ∀ k : Array Value → Sem Value, (fn.results.mapM (resM a.tmps) >>= k).run P w = (k vs'.toArray).run P w := by
      intro k
      rw [Array.mapM_eq_mapM_toList]
      simp only [Sem.run_bind, map_eq_pure_bind, e1, Result.andThen, Sem.run_pure]
    have hfn : results fn a.tmps = fn.results.mapM (resM a.tmps) >>= fun vs => pure (if h : vs.size = 1 then vs[0] else .tuple vs) := by
      unfold results
      have : ∀ (f g : ResultVar → Sem Value), f = g → (fn.results.mapM f >>= fun vs => (pure (if h : vs.size = 1 then vs[0] else .tuple vs) : Sem Value)) = fn.results.mapM g >>= fun vs => pure (if h : vs.size = 1 then vs[0] else .tuple vs) := by
        intro f g e; rw [e]
      exact this _ _ (by funext r; cases r <;> rfl)
    have hres : (results fn a.tmps).run P w = (pure (if h : vs'.toArray.size = 1 then vs'.toArray[0] else .tuple vs'.toArray) : Sem Value).run P w := by rw [hfn]; exact hrun _
    rw [hres, Sem.run_pure]
    split at h
    · rename_i u hu
      cases hu
      cases h
      cases e2 with
      | cons _ u' _ _ e3 e4 =>
      cases e4
      exact ⟨u', rfl, e3⟩
    · rename_i us hne hu
      cases hu
      cases h
      have hl := e2.length
      have : vs'.toArray.size ≠ 1 := by
        intro e
        simp at e
        rw [e] at hl
        match vs, hl with
        | [x], _ => exact hne x rfl
      refine ⟨.tuple vs'.toArray, ?_, .tuple _ _ e2⟩
      rw [dif_neg this]
    · cases h

theorem Step.dropOb {m : Mem} (h : Step Option.none μ0 (bare g0) w0 μ m w) : Step Option.none μ0 (bare g0) w0 μ (bare m.g) w :=
  { sub := h.sub, nx := h.nx, os := h.os, tape := h.tape, output := h.output, size := h.size, fz := h.fz, ids := h.ids, upd := h.upd, newh := h.newh, newo := (fun _ _ _ _ _ hb => by cases hb) }

theorem Post.normal {st' : St} {e : Exit} (h : Post D B μ0 g0 w0 bs .normal st' e a w) : e = .normal ∧ ∃ μ, Inv D B μ0 g0 w0 bs st' a w μ := by
  obtain ⟨μ, h1, h2⟩ := h
  exact ⟨h2, μ, h1⟩

/-- What is not .normal is handed on. -/
theorem then_of_post {x : X} {st' : St} {K : Act → World → Prop} {e : Exit} (hx : x ≠ .normal) (h : Post D B μ0 g0 w0 bs x st' e a w) : Exit.then K (Post D B μ0 g0 w0 bs x st') e a w := by
  obtain ⟨μ, h1, h2⟩ := h
  cases x with
  | normal => exact absurd rfl hx
  | exit id => simp only [XRel] at h2; subst h2; exact ⟨μ, h1, rfl⟩
  | ret => simp only [XRel] at h2; subst h2; exact ⟨μ, h1, rfl⟩
  | panic v => obtain ⟨v', rfl, hv⟩ := h2; exact ⟨μ, h1, v', rfl, hv⟩

/-- What a call may have done that nobody sees. -/
structure Quiet (w w' : World) : Prop where
  os : w'.os = w.os
  tape : w'.tape = w.tape
  output : w'.output = w.output
  size : w.heap.size ≤ w'.heap.size
  fz : ∀ a, (looseFz = true → a.block < w.heap.size) → w'.frozen? a = w.frozen? a
  heap : ∀ c, c < w.heap.size → w'.heap[c]? = w.heap[c]?

def noMap : Map := fun _ => Option.none
/-- Functions of which it is known, once for all, what they answer to some arguments. -/
def SumOK (P : Program) (S : FuncId → List V → Option V) : Prop := ∀ f args v, S f args = some v → ∀ (μ : Map) (w : World) (args' : List Value), VRels μ args args' →
  Calls P f args'.toArray w fun e w' => ∃ v', e = .returned v' ∧ VRel noMap v v' ∧ Quiet w w'

theorem sum_ok {S : FuncId → List V → Option V} (hS : SumOK P S) {f : FuncId} {args : List V} {v : V} {g : G} (hs : S f args = some v) (hr : HRel B μ (bare g) w) {args' : List Value} (hargs : VRels μ args args') :
    Calls P f args'.toArray w fun e w' => ∃ μ', HRel B μ' (bare g) w' ∧ Step Option.none μ (bare g) w μ' (bare g) w' ∧ EnRel μ' (.ret v) e := by
  refine (hS f args v hs μ w args' hargs).mono fun e w' he => ?_
  obtain ⟨v', rfl, hv, q⟩ := he
  refine ⟨μ, ?_, ?_, v', rfl, hv.mono (fun b x h => by cases h)⟩
  · have lt : ∀ b c p n, μ b = some (c, p, n) → c < w.heap.size := fun b c p n h => (hr.dom b c p n h).2.2
    refine { dom := fun b c p n h => ?_, hp := fun b blk hb => ?_, ob := (fun b cs hb => by cases hb), dj := hr.dj, oo := (fun _ _ _ _ _ _ _ _ _ h => by cases h), oh := (fun _ _ _ _ _ _ _ _ _ h => by cases h), gl := hr.gl }
    · obtain ⟨h1, h2, h3⟩ := hr.dom b c p n h
      exact ⟨h1, h2, Nat.lt_of_lt_of_le h3 q.size⟩
    · obtain ⟨c, p, n, arr, e, h1, h2, h3⟩ := hr.hp b blk hb
      exact ⟨c, p, n, arr, e, h1, by rw [q.heap c (lt b c p n h1)]; exact h2, h3⟩
  · exact { sub := Sub.refl μ, nx := Nat.le_refl _, os := q.os, tape := q.tape, output := q.output, size := q.size, fz := q.fz, ids := fun _ _ h => .inl h
            upd := ⟨[], rfl, fun c hc _ _ => q.heap c hc⟩
            newh := fun b blk c p n h k => .inr (.inl ⟨b, blk, p, n, h, k, rfl⟩)
            newo := (fun b cs c p n h k => by cases h) }

/-! ### A closure handed to a body's end -/
def ExecOK (P : Program) (ex : Code → St → Option (X × St)) : Prop := ∀ (c : Code) (st : St) (x : X) (st' : St), ex c st = some (x, st') →
  ∀ (D : List V) (B : Nat) (μ0 : Map) (g0 : G) (w0 : World) (bs : Base) (a : Act) (w : World) (μ : Map), (flatC c = true ∨ bs.mks = true ∧ D = []) → Inv D B μ0 g0 w0 bs st a w μ → LI g0 st.m → c.wp P (Post D B μ0 g0 w0 bs x st') a w
def KeepOK (ex : Code → St → Option (X × St)) : Prop := ∀ (c : Code) (st : St) (x : X) (st' : St) (g0 : G), ex c st = some (x, st') → LI g0 st.m → LI g0 st'.m

theorem inv_enter {mk : Bool} {fn : Func} {args : List V} {args' : List Value} {g : G} (hargs : VRels μ args args') (hr : HRel B μ (bare g) w) (hB : B ≤ w.heap.size) (hlow : LowOK B w) :
    Inv [] B μ g w ⟨μ, w, mk⟩ (enterD fn args g) { tmps := args'.toArray ++ Array.replicate (fn.ntmps - args'.toArray.size) undef, defers := [] } w μ := by
  refine { regs := fun t => ?_, size := by simp [enterD]; omega, defers := DefOK.nil, sub1 := Sub.refl μ, oth := fun _ _ h _ => h, h := hr, s := Step.refl _ _ _ _, hB := hB, low := hlow }
  have hl := hargs.length
  simp only [enterD]
  rw [Array.getD_eq_getD_getElem?, Array.getElem?_append]
  cases hv : args[t]? with
  | some v =>
    obtain ⟨v', h1, h2⟩ := hargs.get t v hv
    have hlt : t < args'.length := by
      rcases Nat.lt_or_ge t args'.length with h3 | h3
      · exact h3
      · rw [List.getElem?_eq_none h3] at h1; cases h1
    simp only [List.size_toArray, hlt, if_true, List.getElem?_toArray, h1, Option.getD_some]
    exact h2
  | none =>
    have hge : args'.length ≤ t := by
      rw [hl]
      rcases Nat.lt_or_ge t args.length with h3 | h3
      · rw [List.getElem?_eq_getElem h3] at hv; cases hv
      · exact h3
    rw [if_neg (by simp; omega)]
    have : ((Array.replicate (fn.ntmps - args'.toArray.size) undef)[t - args'.toArray.size]?).getD undef = undef := by
      rw [Array.getElem?_replicate]; split <;> rfl
    rw [this]
    exact undef_rel μ

theorem deferReg_some {ops : List Oper} {o : Oper} {t : Nat} (h : deferReg ops = some (o, t)) : ∃ o2 c, ops = [o, o2] ∧ o.guard = Option.none ∧ o2.guard = Option.none ∧ o.dst = some t ∧ o2.dst = Option.none ∧ o2.op = .defer c ∧ c.callee = .value (.tmp t) ∧ c.args.toList = [] := by
  unfold deferReg at h
  split at h
  · rename_i o1 o2
    split at h
    · rename_i t1 c g1 g2 d1 d2 hop
      split at h
      · rename_i t2 hc ha
        split at h
        · rename_i e
          cases h
          subst e
          exact ⟨o2, c, rfl, g1, g2, d1, d2, hop, hc, ha⟩
        · cases h
      · cases h
    · cases h
  · cases h

theorem Inv.rel (hi : Inv D B μ0 g0 w0 bs st a w μ) (hk : bs.mks = false) : DsRel μ D a.defers := by
  have := hi.defers
  rw [hk] at this
  exact this.rel
theorem last_wp (hk : bs.mks = false) {ops : Array Oper} {o2 : Oper} {c : Call} {t : Nat} {f : FuncId} {ca cc : List V} {Q : Exit → Act → World → Prop} (g2 : o2.guard = Option.none) (d2 : o2.dst = Option.none) (hop : o2.op = .defer c) (hc : c.callee = .value (.tmp t)) (ha : c.args.toList = [])
    (hf : st.regs t = .func f ca cc) (hi : Inv [] B μ0 g0 w0 bs st a w μ) (k : ∀ a2, Inv [.func f ca cc] B μ0 g0 w0 bs st a2 w μ → Q .normal a2 w) : wpList P ops Q [o2] a w := by
  unfold wpList
  have hw : Region.wanted o2 (yielded ops a.tmps) = true := by unfold Region.wanted; rw [g2]
  rw [hw]
  simp only [if_true]
  refine .inl ?_
  unfold Oper.wp
  have hr := hi.regs t
  rw [hf] at hr
  generalize hcf : a.tmps.getD t undef = cf at hr
  cases hr with
  | func _ _ _ a' c' r1 r2 =>
  have hev : a.eval (.tmp t) = .func (.func f) a'.toArray c'.toArray := hcf
  have hargs : c.args = #[] := by
    apply Array.ext'
    simpa using ha
  have hrun : (execOp a.eval o2).run P w = .ok (.defer ⟨.fn (.func f) c'.toArray, a'.toArray⟩) w := by
    unfold execOp
    rw [hop]
    simp only [resolve, hc, hev, hargs, Deferred.ofValue, Sem.run_bind, Sem.run_pure, Result.andThen]
    simp
  rw [hrun, Oper.upon_defer]
  unfold wpList
  refine k _ ?_
  have hd := (hi.rel hk).nil
  have e : Act.put { a with defers := ⟨.fn (.func f) c'.toArray, a'.toArray⟩ :: a.defers } o2.dst undef = { a with defers := ⟨.fn (.func f) c'.toArray, a'.toArray⟩ :: a.defers } := by rw [d2]; rfl
  rw [e]
  exact { regs := hi.regs, size := hi.size, defers := (by show DefOK bs.mks μ w0 w [V.func f ca cc] (⟨.fn (.func f) c'.toArray, a'.toArray⟩ :: a.defers); rw [hd]; exact DefOK.of (D := [V.func f ca cc]) ⟨.mk f ca cc a' c' r1 r2, trivial⟩), sub1 := hi.sub1, oth := hi.oth, h := hi.h, s := hi.s, hB := hi.hB, low := hi.low }

theorem defer_wp (hk : bs.mks = false) {cl : FuncId → List V → G → Option (En × G)} (hcl : FnOK P cl) {id : Nat} {ops : Array Oper} {o : Oper} {t : Nat} {st2 : St} {f : FuncId} {ca cc : List V} {Q : Exit → Act → World → Prop} (hreg : deferReg ops.toList = some (o, t)) (h : opsD P cl #[o] [o] st = some (.normal, st2))
    (hf : st2.regs t = .func f ca cc) (hi : Inv [] B μ0 g0 w0 bs st a w μ) (k : ∀ a2 w2 μ2, Inv [.func f ca cc] B μ0 g0 w0 bs st2 a2 w2 μ2 → Q .normal a2 w2) : (Code.region id ops false).wp P Q a w := by
  obtain ⟨o2, c, hops, g1, g2, d1, d2, hop, hc, ha⟩ := deferReg_some hreg
  refine wp_region_list ?_
  rw [hops]
  simp only [opsD, wantedD, g1] at h
  unfold wpList
  have hw : Region.wanted o (yielded ops a.tmps) = true := by unfold Region.wanted; rw [g1]
  rw [hw]
  simp only [if_true]
  refine .inl ?_
  cases ho : opD P cl st Option.none o with
  | none => rw [ho] at h; cases h
  | some y =>
    obtain ⟨r, m1⟩ := y
    rw [ho] at h
    refine op_wp hcl (evals hi.h.gl hi.regs) hi.h hi.B_le hi.low (fun i hh => by cases hh) ho (fun μ' w' hs hr => ?_)
    have hi' := hi.step hs hr
    cases r with
    | val v =>
      simp only at h
      cases hp : putD { st with m := m1 } o.dst v with
      | none => rw [hp] at h; cases h
      | some st1 =>
        rw [hp] at h
        simp only [Option.some.injEq, Prod.mk.injEq, true_and] at h
        subst h
        intro v' hv
        exact last_wp hk g2 d2 hop hc ha hf (hi'.put hp hv) fun a2 h2 => k a2 w' μ' h2
    | skip =>
      simp only at h
      cases hp : putD { st with m := m1 } o.dst undefV with
      | none => rw [hp] at h; cases h
      | some st1 =>
        rw [hp] at h
        simp only [Option.some.injEq, Prod.mk.injEq, true_and] at h
        subst h
        exact last_wp hk g2 d2 hop hc ha hf (hi'.put hp (undef_rel μ')) fun a2 h2 => k a2 w' μ' h2
    | panic v =>
      simp only at h
      cases h

theorem headOf_some {a : Code} {o : Oper} {t : Nat} (h : headOf a = some (o, t)) : ∃ id ops, a = .region id ops false ∧ deferReg ops.toList = some (o, t) := by
  unfold headOf at h
  split at h
  · exact ⟨_, _, rfl, h⟩
  · cases h

theorem spine_wp (hk : bs.mks = false) {S : FuncId → List V → Option V} {n : Nat} (hcl : ∀ k, n = k + 1 → FnOK P (runF P S (execD P S k))) (hex : ExecOK P (execD P S n)) (hkeep : KeepOK (execD P S n)) {st2 : St} {t : Nat} {f : FuncId} {ca cc : List V} {post : Code} {Q : Exit → Act → World → Prop} (hf : st2.regs t = .func f ca cc)
    (k : ∀ a2 w2 μ2, Inv [.func f ca cc] B μ0 g0 w0 bs st2 a2 w2 μ2 → LI g0 st2.m → post.wp P Q a2 w2) : ∀ (c : Code) (l : List Code), deferOf c = some (l, t, post) → l.all flatC = true → ∀ (st : St) (a : Act) (w : World) (μ : Map), exL (execD P S n) l st = some st2 → Inv [] B μ0 g0 w0 bs st a w μ → LI g0 st.m → c.wp P Q a w := by
  intro c
  induction c with
  | seq x y _ ihy =>
    intro l hd hfl st a w μ hL hi hl
    simp only [deferOf] at hd
    cases hh : headOf x with
    | some z =>
      obtain ⟨o, t1⟩ := z
      rw [hh] at hd
      simp only [Option.some.injEq, Prod.mk.injEq] at hd
      obtain ⟨rfl, rfl, rfl⟩ := hd
      obtain ⟨id, ops, rfl, hreg⟩ := headOf_some hh
      simp only [exL] at hL
      cases hx : execD P S n (.region 0 #[o] false) st with
      | none => rw [hx] at hL; cases hL
      | some z =>
        obtain ⟨xx, st1⟩ := z
        rw [hx] at hL
        cases xx with
        | normal =>
          simp only [Option.some.injEq] at hL
          subst hL
          have hl2 := hkeep _ _ _ _ g0 hx hl
          cases n with
          | zero => simp only [execD] at hx; cases hx
          | succ m =>
            simp only [execD, Bool.false_eq_true, if_false] at hx
            exact wp_seq (defer_wp hk (hcl m rfl) hreg hx hf hi fun a2 w2 μ2 h2 => k a2 w2 μ2 h2 hl2)
        | exit id => cases hL
        | ret => cases hL
        | panic v => cases hL
    | none =>
      rw [hh] at hd
      simp only at hd
      cases hdy : deferOf y with
      | none => rw [hdy] at hd; cases hd
      | some z =>
        obtain ⟨pre, t1, post1⟩ := z
        rw [hdy] at hd
        simp only [Option.some.injEq, Prod.mk.injEq] at hd
        obtain ⟨rfl, rfl, rfl⟩ := hd
        simp only [exL] at hL
        cases hx : execD P S n x st with
        | none => rw [hx] at hL; cases hL
        | some z =>
          obtain ⟨xx, st1⟩ := z
          rw [hx] at hL
          cases xx with
          | normal =>
            simp only at hL
            rw [List.all_cons, Bool.and_eq_true] at hfl
            refine wp_seq (wp_mono (hex _ _ _ _ hx [] B μ0 g0 w0 bs a w μ (.inl hfl.1) hi hl) (fun e a1 w1 hp => ?_))
            obtain ⟨rfl, μ1, hi1⟩ := hp.normal
            exact ihy pre hdy hfl.2 st1 a1 w1 μ1 hL hi1 (hkeep _ _ _ _ g0 hx hl)
          | exit id => cases hL
          | ret => cases hL
          | panic v => cases hL
  | _ => intro l hd; simp only [deferOf] at hd; cases hd

/-- What went wrong, in the frame's mode. -/
def URel (μ : Map) : Option V → FrameMode → Prop
  | Option.none, um => um = .returning
  | some v, um => ∃ v', um = .panicking [{ v := v', recovered := false }] ∧ VRel μ v v'

theorem recReg_some {ops : List Oper} {t : Nat} (h : recReg ops = some t) : ∃ o c, ops = [o] ∧ o.guard = Option.none ∧ o.dst = some t ∧ o.op = .call c ∧ c.callee = .builtin .recover := by
  unfold recReg at h
  split at h
  · rename_i o
    split at h
    · rename_i t1 c g1 d1 hop
      split at h
      · rename_i hc
        cases h
        exact ⟨o, c, rfl, g1, d1, hop, hc⟩
      · cases h
    · cases h
  · cases h
theorem recOf_some {c : Code} {t : Nat} {rest : Code} (h : recOf c = some (t, rest)) : ∃ id ops, c = .seq (.region id ops false) rest ∧ recReg ops.toList = some t := by
  unfold recOf at h
  split at h
  · split at h
    · simp only [Option.map_eq_some_iff, Prod.mk.injEq] at h
      obtain ⟨t1, h1, rfl, rfl⟩ := h
      exact ⟨_, _, rfl, h1⟩
    · cases h
  · cases h

theorem runR_sound {ex : Code → St → Option (X × St)} (hex : ExecOK P ex) {u : Option V} {um : FrameMode} {f : FuncId} {args : List V} {args' : List Value} {g g' : G} {v : V} (h : runR P ex u f args g = some (.ret v, g')) (hr : HRel B μ (bare g) w) (hB : B ≤ w.heap.size) (hlow : LowOK B w)
    (hdom : ∀ b blk, g.hp b = some blk → b < g.nx) (hargs : VRels μ args args') (hu : URel μ u um) :
    CallsD P f args'.toArray um w fun e um' w' => (∃ v', e = .returned v') ∧ settle um' = .returning ∧ ∃ μ', HRel B μ' (bare g') w' ∧ Step Option.none μ (bare g) w μ' (bare g') w' := by
  unfold runR at h
  cases hf : P.funcs[f]? with
  | none => rw [hf] at h; cases h
  | some fn =>
    rw [hf] at h
    simp only at h
    cases hb : fn.body with
    | none => rw [hb] at h; cases h
    | some body =>
      rw [hb] at h
      simp only at h
      cases hrec : recOf body with
      | none => rw [hrec] at h; cases h
      | some z =>
        obtain ⟨t, rest⟩ := z
        rw [hrec] at h
        simp only at h
        split at h
        · cases h
        rename_i hfl
        have hfl : flatC rest = true := by simpa using hfl
        obtain ⟨id, ops, hbody, hreg⟩ := recOf_some hrec
        obtain ⟨o, c, hops, g1, d1, hop, hc⟩ := recReg_some hreg
        have hops' : ops = #[o] := by apply Array.ext'; simpa using hops
        subst hops'
        cases hp : putD (enterD fn args g) (some t) (u.getD .nili) with
        | none => rw [hp] at h; cases h
        | some st1 =>
          rw [hp] at h
          simp only at h
          have i0 := inv_enter (mk := false) (fn := fn) hargs hr hB hlow
          have l0 : LI g (bare g) := LI.refl hdom
          have l1 : LI g st1.m := by rw [(putD_m hp).1]; exact l0
          have leave : ∀ (st : St) (v : V) (a : Act) (w1 : World) (μ1 : Map) (v' : Value), Inv [] B μ g w ⟨μ, w, false⟩ st a w1 μ1 → VRel μ1 v v' →
              HRel B μ1 (bare (spillV spillFuel v st.m).g) w1 ∧ Step Option.none μ (bare g) w μ1 (bare (spillV spillFuel v st.m).g) w1 := by
            intro st v a w1 μ1 v' hi hv
            obtain ⟨s1, s2⟩ := spillV_sound Option.none spillFuel v st.m hi.h
            exact ⟨s2.bare, (hi.s.trans s1).dropOb⟩
          refine callsD_of_wpS hf hb (fun c₀ cs hmode => ?_)
          rw [hbody]
          refine wpS_seq (wpS_region ?_)
          have hrun : ∀ (a : Act) (w : World), (execOp a.eval o).run P w = .ok .recover w := by
            intro a w
            unfold execOp
            rw [hop]
            simp [resolve, hc, invoke, builtin]
          have after : ∀ (um' : FrameMode) (v' : Value), settle um' = .returning → VRel μ (u.getD .nili) v' →
              rest.wpS P (bodyPostS P fn c₀ cs fun e um' w' => (∃ v', e = .returned v') ∧ settle um' = .returning ∧ ∃ μ', HRel B μ' (bare g') w' ∧ Step Option.none μ (bare g) w μ' (bare g') w')
                (({ tmps := args'.toArray ++ Array.replicate (fn.ntmps - args'.toArray.size) undef, defers := [] } : Act).put o.dst v') ({ c₀ with mode := um' } :: cs) w := by
            intro um' v' hset hv
            have i1 : Inv [] B μ g w ⟨μ, w, false⟩ st1 (({ tmps := args'.toArray ++ Array.replicate (fn.ntmps - args'.toArray.size) undef, defers := [] } : Act).put o.dst v') w μ := by
              rw [d1]; exact i0.put hp hv
            refine wpS_of_wp ?_
            cases hx : ex rest st1 with
            | none => rw [hx] at h; cases h
            | some y =>
              obtain ⟨x, st⟩ := y
              rw [hx] at h
              refine wp_mono (hex rest _ x st hx [] B μ g w _ _ w μ (.inl hfl) i1 l1) (fun e a w1 hpost => ?_)
              obtain ⟨μ1, hi, hxr⟩ := hpost
              cases x with
              | normal =>
                simp only [XRel] at hxr
                subst hxr
                simp only [Option.map_eq_some_iff, Prod.mk.injEq] at h
                obtain ⟨v1, hv1, e1, rfl⟩ := h
                obtain ⟨v'', r1, r2⟩ := resultD_sound hi hv1
                obtain ⟨l1, l2⟩ := leave st v1 a w1 μ1 v'' hi r2
                exact ⟨(hi.rel rfl).nil, um', rfl, v'', r1, ⟨v'', rfl⟩, hset, μ1, l1, l2⟩
              | ret =>
                simp only [XRel] at hxr
                subst hxr
                simp only [Option.map_eq_some_iff, Prod.mk.injEq] at h
                obtain ⟨v1, hv1, e1, rfl⟩ := h
                obtain ⟨v'', r1, r2⟩ := resultD_sound hi hv1
                obtain ⟨l1, l2⟩ := leave st v1 a w1 μ1 v'' hi r2
                exact ⟨(hi.rel rfl).nil, um', rfl, v'', r1, ⟨v'', rfl⟩, hset, μ1, l1, l2⟩
              | panic v => cases h
              | exit id => cases h
          have hrange : List.range (#[o] : Array Oper).size = [0] := rfl
          rw [hrange]
          unfold wpOpsS
          have ho0 : (#[o] : Array Oper)[0]? = some o := rfl
          rw [ho0]
          simp only
          have hw : ∀ l, Region.wanted o l = true := by intro l; unfold Region.wanted; rw [g1]
          rw [hw]
          simp only [if_true]
          rw [hrun]
          simp only
          cases u with
          | none =>
            simp only [URel] at hu
            have hrd : recoverD (c₀ :: cs) = Option.none := by unfold recoverD; simp only [hmode, hu]
            rw [hrd]
            simp only
            unfold wpOpsS
            have := after um .nilIface (by rw [hu]; rfl) (by simp only [Option.getD_none]; exact .nili)
            have hc0 : ({ c₀ with mode := um } : Frame) = c₀ := by rw [← hmode]
            rw [hc0] at this
            exact this
          | some uv =>
            obtain ⟨v', hum, hv⟩ := hu
            have hrd : recoverD (c₀ :: cs) = some (v', { c₀ with mode := .panicking [{ v := v', recovered := true }] } :: cs) := by unfold recoverD; simp only [hmode, hum]
            rw [hrd]
            simp only
            unfold wpOpsS
            exact after _ v' rfl hv

theorem close_sound (hk : bs.mks = false) {ex : Code → St → Option (X × St)} (hex : ExecOK P ex) {fn : Func} {d : V} {u : Option V} {um : FrameMode} {st4 : St} {v : V} {R : Ending → World → Prop} (h : closeD P ex d u st = some st4) (hres : resultD P st4 fn = some v) (hi : Inv [d] B μ0 g0 w0 bs st a w μ) (hl : LI g0 st.m) (hne : um ≠ .run) (hu : URel μ u um)
    (k : ∀ μ' w' v', Step Option.none μ st.m w μ' st4.m w' → HRel B μ' st4.m w' → VRel μ' v v' → R (.returned v') w') : Leaves P fn a.tmps R a.defers um w := by
  unfold closeD at h
  have hd := hi.rel hk
  split at h
  · rename_i cf ca cc
    split at h
    · rename_i rv m4 hc
      cases h
      have : ∃ ca' cc', a.defers = [⟨.fn (.func cf) (List.toArray cc'), List.toArray ca'⟩] ∧ VRels μ ca ca' ∧ VRels μ cc cc' := by
        cases hds : a.defers with
        | nil => rw [hds] at hd; exact hd.elim
        | cons d0 ds =>
          rw [hds] at hd
          obtain ⟨h1, h2⟩ := hd
          cases h1 with
          | mk _ _ _ ca' cc' r1 r2 => exact ⟨ca', cc', by rw [h2.nil], r1, r2⟩
      obtain ⟨ca', cc', hds, r1, r2⟩ := this
      rw [hds]
      unfold callD at hc
      split at hc
      · rename_i fnc hfn
        split at hc
        · cases hc
        · rename_i hok
          simp only [Bool.or_eq_true, not_or, Bool.not_eq_true] at hok
          obtain ⟨sp1, sp2⟩ := spillL_sound Option.none spillFuel (ca ++ cc) st.m hi.h
          have lsp := LI.spillL spillFuel (ca ++ cc) st.m hl
          generalize spillL spillFuel (ca ++ cc) st.m = m1 at hc sp1 sp2 lsp
          simp only at hc
          cases hrun : runR P ex u cf (ca ++ cc) m1.g with
          | none => rw [hrun] at hc; cases hc
          | some y =>
            obtain ⟨en, g'⟩ := y
            rw [hrun] at hc
            cases en with
            | panic pv => simp only [Option.some.injEq, Prod.mk.injEq, reduceCtorEq, false_and] at hc
            | ret r =>
              simp only [Option.some.injEq, Prod.mk.injEq] at hc
              obtain ⟨_, rfl⟩ := hc
              have hinv : (invoke (.fn (.func cf) cc'.toArray) ca'.toArray).run P w = .ok (.enter cf (ca' ++ cc').toArray) w := by
                simp only [invoke, callFunc, Sem.run_bind, program_run, Sem.run_pure, Result.andThen, hfn, hok.1, hok.2, Bool.false_eq_true, if_false]
                simp
              refine leaves_cons hne hinv ((runR_sound hex hrun sp2.bare hi.B_le hi.low (fun b blk hb => lsp.dom b blk hb) (r1.append r2) hu).mono fun e um' w' he => ?_)
              obtain ⟨⟨v', rfl⟩, hset, μ', e1, e2⟩ := he
              have b1 : Step Option.none μ m1 w μ' { m1 with g := g' } w' := (Step.beside (ob := m1.ob) e2 sp2).slot
              have b2 : HRel B μ' { m1 with g := g' } w' := HRel.beside (ob := m1.ob) e2 sp2 e1
              have hi4 := hi.step (sp1.trans b1) b2
              obtain ⟨v'', q1, q2⟩ := resultD_sound hi4 hres
              show Leaves P fn a.tmps R [] (settle um') w'
              rw [hset]
              exact ⟨v'', q1, k μ' w' v'' (sp1.trans b1) b2 q2⟩
      · cases hc
    · cases h
  · cases h

end
end Go.Sx

/- What is no cells may turn; the marks of ranges over functions; a range over a slice's backward iterator. -/
namespace Go.Sx
open Go.RowKit
section
variable {D : List V} {P : Program} {B : Nat} {μ0 : Map} {g0 : G} {w0 : World} {bs : Base} {μ : Map} {w : World} {a : Act} {st : St}

/-- Nothing turns but what is no cells and is new since w0. -/
structure Oth (w0 w w' : World) : Prop where
  os : w'.os = w.os
  tape : w'.tape = w.tape
  output : w'.output = w.output
  size : w.heap.size ≤ w'.heap.size
  fz : ∀ a, w'.frozen? a = w.frozen? a
  cells : ∀ (c : Nat) (arr : Array Value) (e : TypeId) (f : Nat × Nat), w.heap[c]? = some (.cells arr e f) → w'.heap[c]? = some (.cells arr e f)
  old : ∀ (c : Nat), c < w0.heap.size → w'.heap[c]? = w.heap[c]?
theorem Oth.cell {w0 w w' : World} (h : Oth w0 w w') {a : Addr} {v : Value} (hc : w.cell? a = some v) : w'.cell? a = some v := by
  unfold World.cell? at hc ⊢
  cases ho : w.heap[a.block]? with
  | none => rw [ho] at hc; cases hc
  | some o =>
    cases o with
    | cells arr e f => rw [h.cells _ _ _ _ ho]; rw [ho] at hc; exact hc
    | _ => rw [ho] at hc; cases hc
theorem Oth.refl (w0 w : World) : Oth w0 w w := ⟨rfl, rfl, rfl, Nat.le_refl _, fun _ => rfl, fun _ _ _ _ h => h, fun _ _ => rfl⟩
theorem Oth.trans {w0 w w1 w2 : World} (h : Oth w0 w w1) (k : Oth w0 w1 w2) : Oth w0 w w2 :=
  ⟨k.os.trans h.os, k.tape.trans h.tape, k.output.trans h.output, Nat.le_trans h.size k.size, fun a => (k.fz a).trans (h.fz a), fun c arr e f q => k.cells c arr e f (h.cells c arr e f q), fun c hc => (k.old c hc).trans (h.old c hc)⟩
theorem frozen_of_heap' {w w' : World} {a : Addr} (h : ∀ arr e f, w.heap[a.block]? = some (.cells arr e f) ↔ w'.heap[a.block]? = some (.cells arr e f)) : w'.frozen? a = w.frozen? a := by
  unfold World.frozen?
  cases h1 : w.heap[a.block]? with
  | none =>
    cases h2 : w'.heap[a.block]? with
    | none => rfl
    | some o => cases o <;> first | rfl | (have := (h _ _ _).2 h2; rw [h1] at this; cases this)
  | some o =>
    cases o with
    | cells arr e f => rw [(h arr e f).1 h1]
    | _ =>
      cases h2 : w'.heap[a.block]? with
      | none => rfl
      | some o' => cases o' <;> first | rfl | (have := (h _ _ _).2 h2; rw [h1] at this; cases this)
theorem Oth.alloc {w0 w : World} (hw : w0.heap.size ≤ w.heap.size) (o : Obj) (hn : notCells o) : Oth w0 w (w.alloc o) := by
  have hlt : ∀ (c : Nat) (x : Obj), w.heap[c]? = some x → c < w.heap.size := fun c x h => (Array.getElem?_eq_some_iff.1 h).1
  refine ⟨rfl, rfl, rfl, by rw [size_alloc]; omega, fun a => ?_, fun c arr e f h => ?_, fun c hc => heap_alloc_old _ _ _ (by omega)⟩
  · refine frozen_of_heap' fun arr e f => ⟨fun h => ?_, fun h => ?_⟩
    · rw [heap_alloc_old _ _ _ (hlt _ _ h)]; exact h
    · have : a.block < (w.alloc o).heap.size := (Array.getElem?_eq_some_iff.1 h).1
      rw [size_alloc] at this
      by_cases e1 : a.block = w.heap.size
      · rw [e1, heap_alloc_new] at h; exact absurd (Option.some.inj h) (hn _ _ _)
      · rw [heap_alloc_old _ _ _ (by omega)] at h; exact h
  · rw [heap_alloc_old _ _ _ (hlt _ _ h)]; exact h
theorem Oth.put {w0 w : World} {r : Nat} {o : Obj} (hr : w0.heap.size ≤ r) (h : w.heap[r]? = some o) (hn : notCells o) (o' : Obj) (hn' : notCells o') : Oth w0 w (w.putObj r o') := by
  have hlt : r < w.heap.size := (Array.getElem?_eq_some_iff.1 h).1
  refine ⟨rfl, rfl, rfl, by simp, fun a => ?_, fun c arr e f q => ?_, fun c hc => World.putObj_heap_other (by omega)⟩
  · refine frozen_of_heap' fun arr e f => ?_
    by_cases e1 : a.block = r
    · rw [e1, h, World.putObj_heap_same hlt]
      exact ⟨fun h => absurd (Option.some.inj h) (hn _ _ _), fun h => absurd (Option.some.inj h) (hn' _ _ _)⟩
    · rw [World.putObj_heap_other e1]
  · rw [World.putObj_heap_other]
    · exact q
    · intro e1; subst e1; rw [h] at q; exact hn _ _ _ (Option.some.inj q)
theorem Oth.drawn {w0 w : World} (d : Nat) : Oth w0 w { w with drawn := d } := ⟨rfl, rfl, rfl, Nat.le_refl _, fun _ => rfl, fun _ _ _ _ h => h, fun _ _ => rfl⟩

theorem Inv.reb (hi : Inv D B μ0 g0 w0 bs st a w μ) {w' : World} (ho : Oth w0 w w') {D' : List V} {bs' : Base} {ds' : List Deferred} (h1 : Sub bs'.μ1 μ) (h2 : ∀ (c : Nat) (o : Obj), bs'.w1.heap[c]? = some o → notCells o → w'.heap[c]? = some o) (hd : DefOK bs'.mks μ w0 w' D' ds') :
    Inv D' B μ0 g0 w0 bs' st { tmps := a.tmps, defers := ds' } w' μ := by
  have hh := hi.h
  have hs := hi.s
  refine { regs := hi.regs, size := hi.size, defers := hd, sub1 := h1, oth := h2, h := ?_, s := ?_, hB := hi.hB, low := fun x hx => ⟨(hi.low x hx).1, ho.cell (hi.low x hx).2⟩ }
  · refine { dom := fun b c p n e => ?_, hp := fun b blk e => ?_, ob := fun b cs e => ?_, dj := hh.dj, oo := hh.oo, oh := hh.oh, gl := hh.gl }
    · obtain ⟨k1, k2, k3⟩ := hh.dom b c p n e
      exact ⟨k1, k2, Nat.lt_of_lt_of_le k3 ho.size⟩
    · obtain ⟨c, p, n, arr, e1, k1, k2, k3⟩ := hh.hp b blk e
      exact ⟨c, p, n, arr, e1, k1, ho.cells _ _ _ _ k2, k3⟩
    · obtain ⟨c, arr, e1, k1, k2, k3⟩ := hh.ob b cs e
      exact ⟨c, arr, e1, k1, ho.cells _ _ _ _ k2, k3⟩
  · obtain ⟨l, e, f⟩ := hs.upd
    exact { sub := hs.sub, nx := hs.nx, os := ho.os.trans hs.os, tape := ho.tape.trans hs.tape, output := ho.output.trans hs.output, size := Nat.le_trans hs.size ho.size, fz := fun a ha => (ho.fz a).trans (hs.fz a ha), ids := hs.ids
            upd := ⟨l, e, fun c hc q1 q2 => (ho.old c hc).trans (f c hc q1 q2)⟩, newh := hs.newh, newo := hs.newo }

theorem Marks.tail {w w' : World} {r : Nat} {rs : List Nat} (h : Marks w0 w (r :: rs)) (e : ∀ c, c ≠ r → w'.heap[c]? = w.heap[c]?) : Marks w0 w' rs :=
  ⟨(List.nodup_cons.1 h.nodup).2, fun x hx => ⟨(h.lies x (List.mem_cons_of_mem _ hx)).1, by rw [e x (fun q => (List.nodup_cons.1 h.nodup).1 (q ▸ hx))]; exact (h.lies x (List.mem_cons_of_mem _ hx)).2⟩⟩
theorem leaves_marks {fn : Func} {tmps : Array Value} {R : Ending → World → Prop} {u : FrameMode} (hu : u ≠ .run) : ∀ (rs : List Nat) (w : World), Marks w0 w rs → (∀ w', Oth w0 w w' → LeavesIn Fence.wide 0 P fn tmps R [] u w') → LeavesInM Fence.wide 0 P fn tmps R (rs.map markD) u w
  | [], w, _, k => k w (Oth.refl _ _)
  | r :: rs, w, hm, k => by
    obtain ⟨h1, h2⟩ := hm.lies r (List.mem_cons_self ..)
    refine ⟨hu, .inl ⟨r, _, rfl, run_takeDeferred h2, leaves_marks hu rs _ (hm.tail fun c hc => World.putObj_heap_other hc) fun w' hw' => k w' ((Oth.put h1 h2 (not_deferred _) _ (not_deferred _)).trans hw')⟩⟩
end
end Go.Sx

/- A range over a slice's backward iterator. -/
namespace Go.Sx
open Go.RowKit

/-- What a backward iterator does: round by round from the end on. -/
def BackAt (P : Program) (gf : FuncId) (e : TypeId) (z : Nat) : Prop :=
  (∃ fn, P.funcs[gf]? = some fn ∧ (fn.name == "runtime.NumGoroutine") = false ∧ fn.body.isNone = false) ∧
  ∀ (l : Nat) (pb : Addr) (J : Nat → World → Prop) (Jx : World → Prop) (len : Nat) (W : World), (∀ k W d, J k W → J k { W with drawn := d }) → (∀ W d, Jx W → Jx { W with drawn := d }) →
    len ≤ 65536 → (∃ ad cap, W.cell? pb = some (.slice ad len cap)) → J len W →
    (∀ k W, J (k + 1) W → ∃ c off n cap v, W.cell? pb = some (.slice (some ⟨c, off, Option.none⟩) n cap) ∧ k < n ∧ (loadVar e ⟨c, off + k * z, Option.none⟩).run P W = .ok v W ∧
      YieldAt Fence.wide 0 P l #[.int .i64 (k : Int), v] W fun e' W' => (e' = .returned (.bool true) ∧ J k W') ∨ (e' = .returned (.bool false) ∧ Jx W')) →
    Calls P gf #[.func (.yield l) #[] #[], .pointer (some pb)] W fun e W' => (∃ v, e = .returned v) ∧ (J 0 W' ∨ Jx W')
def BackOK (P : Program) : Prop := ∀ (gf : FuncId) (e : TypeId) (z : Nat), backOf P gf = some e → sizeD P e = some z → BackAt P gf e z

section
variable {D : List V} {P : Program} {B : Nat} {μ0 : Map} {g0 : G} {w0 : World} {bs : Base} {μ : Map} {w : World} {a : Act} {st : St}

theorem loadE_sound {m : Mem} (r : HRel B μ m w) {e : TypeId} {b o : Nat} {v : V} (h : loadE P e m b o = some v) {c p n : Nat} (hm : μ b = some (c, p, n)) :
    ∃ v', (loadVar e ⟨c, p + o, Option.none⟩).run P w = .ok v' w ∧ VRel μ v v' := by
  unfold loadE at h
  cases ha : aggD P e with
  | none => rw [ha] at h; cases h
  | some ag =>
    cases hz : sizeD P e with
    | none => rw [ha, hz] at h; cases ag <;> cases h
    | some n' =>
    rw [ha, hz] at h
    cases ag with
    | true =>
      simp only [Option.map_eq_some_iff] at h
      obtain ⟨cs, hr, rfl⟩ := h
      obtain ⟨arr, e1, h1, h2, h3, h4⟩ := read_sound r hr hm
      refine ⟨.agg ((arr.toList.drop (p + o)).take n').toArray, ?_, .agg _ _ h4⟩
      simp only [loadVar, Sem.run_bind, isAgg_run ha, sizeOf_run hz, Result.andThen, if_true, loadCells_run h1 (p + o) n' h2, Sem.run_pure]
    | false =>
      simp only at h
      split at h
      · rename_i u hr
        cases h
        obtain ⟨arr, e1, h1, h2, h3, h4⟩ := read_sound r hr hm
        have hlt : p + o < arr.size := by omega
        have h5 : (arr.toList.drop (p + o)).take 1 = [arr[p + o]] := by
          rw [List.drop_eq_getElem_cons (by simpa using hlt)]
          simp
        rw [h5] at h4
        cases h4 with
        | cons _ _ _ _ h6 _ =>
        refine ⟨arr[p + o], ?_, h6⟩
        have hc : w.cell? ⟨c, p + o, Option.none⟩ = some arr[p + o] := by rw [cell_of_heap h1, Array.getElem?_eq_getElem hlt]
        simp only [loadVar, Sem.run_bind, isAgg_run ha, Result.andThen, Bool.false_eq_true, if_false, Go.load, Sem.run, hc]
      · cases h
theorem read1_cell {m : Mem} (r : HRel B μ m w) {b o : Nat} {v : V} (h : readD m b o 1 = some [v]) {c p n : Nat} (hm : μ b = some (c, p, n)) : ∃ v', w.cell? ⟨c, p + o, Option.none⟩ = some v' ∧ VRel μ v v' := by
  obtain ⟨arr, e1, h1, h2, h3, h4⟩ := read_sound r h hm
  have hlt : p + o < arr.size := by omega
  have h5 : (arr.toList.drop (p + o)).take 1 = [arr[p + o]] := by
    rw [List.drop_eq_getElem_cons (by simpa using hlt)]
    simp
  rw [h5] at h4
  cases h4 with
  | cons _ _ _ _ h6 _ => exact ⟨arr[p + o], by rw [cell_of_heap h1, Array.getElem?_eq_getElem hlt], h6⟩

theorem zip_two (t : Array Value) (p0 p1 : Tmp) (x y : Value) : (#[p0, p1].zip #[x, y]).foldl (fun tmps (t, a) => tmps.setIfInBounds t a) t = (t.setIfInBounds p0 x).setIfInBounds p1 y := by
  have : #[p0, p1].zip #[x, y] = #[(p0, x), (p1, y)] := by simp [← Array.toList_inj]
  rw [this]; simp
/-- What code in a round does. -/
def RoundExec (P : Program) (ex : Code → St → Option (X × St)) : Prop := ∀ (c : Code) (st : St) (x : X) (st' : St), ex c st = some (x, st') → flatC c = true →
  ∀ (l : Nat) (B : Nat) (μ0 : Map) (g0 : G) (w0 : World) (bs : Base) (a : Act) (w : World) (μ : Map), Inv [] B μ0 g0 w0 bs st a w μ → LI g0 st.m → c.wpIn (fw (some l)) 0 P (Post [] B μ0 g0 w0 bs x st') a w

theorem range_wp (hbk : BackOK P) {ex : Code → St → Option (X × St)} (hex : RoundExec P ex) (hkeep : KeepOK ex) {g : Operand} {ps : Array Tmp} {assign body : Code} {x : X} {st' : St} (h : rangeD P ex g ps assign body st = some (x, st')) (hmk : bs.mks = true)
    (hi : Inv [] B μ0 g0 w0 bs st a w μ) (hl : LI g0 st.m) : (Code.rangeFunc g ps assign body).wpIn (fw Option.none) 0 P (Post [] B μ0 g0 w0 bs x st') a w := by
  obtain ⟨fa, fb, gf, cb, co, e, p0, p1, z, sv, len, x', m', h1, h2, h3, h4, h5, h6, h7, hx⟩ := rangeD_inv h
  simp only [Prod.mk.injEq] at hx
  obtain ⟨rfl, rfl⟩ := hx
  obtain ⟨⟨fn0, hfn, hnm, hbody⟩, hback⟩ := hbk gf e z h2 h4
  have hps : ps = #[p0, p1] := by apply Array.ext'; simpa using h3
  subst hps
  have hg := evals hi.h.gl hi.regs g
  rw [h1] at hg
  generalize hgv : a.eval g = gv at hg
  cases hg with
  | func _ _ _ a' c' r1 r2 =>
  cases r1
  cases r2 with
  | cons _ pv _ _ hp hnil =>
  cases hnil
  cases hp with
  | ptr _ _ c p n hcb =>
  refine wpIn_rangeFunc (F := fw Option.none) ?_
  intro fn hfnF
  obtain ⟨rec, hrec⟩ : ∃ rec : LoopState → Option Code → Loop, rec = fun s pe => { state := s, pending := pe, fn, tmps := a.tmps, params := #[p0, p1], assign, body, defers := w.heap.size } := ⟨_, rfl⟩
  obtain ⟨Wm, hWm⟩ : ∃ Wm, w.alloc (.deferred (some [])) = Wm := ⟨_, rfl⟩
  obtain ⟨W1, hW1⟩ : ∃ W1, Wm.alloc (.loop (rec .ready Option.none)) = W1 := ⟨_, rfl⟩
  have hsz : Wm.heap.size = w.heap.size + 1 := by rw [← hWm, size_alloc]
  have hL1 : W1.heap[w.heap.size + 1]? = some (.loop (rec .ready Option.none)) := by rw [← hW1, ← hsz]; exact heap_alloc_new _ _
  have hsW : w0.heap.size ≤ w.heap.size := hi.s.size
  have o1 : Oth w0 w W1 := by
    rw [← hW1, ← hWm]
    exact (Oth.alloc hsW _ (not_deferred _)).trans (Oth.alloc (by rw [size_alloc]; omega) _ (not_loop _))
  have hltW : ∀ (W : World) (c : Nat) (o : Obj), W.heap[c]? = some o → c < W.heap.size := fun W c o h => (Array.getElem?_eq_some_iff.1 h).1
  have old1 : ∀ (c : Nat) (o : Obj), Wm.heap[c]? = some o → notCells o → W1.heap[c]? = some o := by
    intro c o h _
    rw [← hW1, heap_alloc_old _ _ _ (hltW _ _ _ h)]; exact h
  have oldm : ∀ (c : Nat) (o : Obj), w.heap[c]? = some o → Wm.heap[c]? = some o := by
    intro c o h
    rw [← hWm, heap_alloc_old _ _ _ (hltW _ _ _ h)]; exact h
  have hDm : Wm.heap[w.heap.size]? = some (.deferred (some [])) := by rw [← hWm]; exact heap_alloc_new _ _
  obtain ⟨bj, hbj⟩ : ∃ bj : Base, bj = ⟨μ, Wm, false⟩ := ⟨_, rfl⟩
  obtain ⟨lr, hlr⟩ : ∃ lr, w.heap.size + 1 = lr := ⟨_, rfl⟩
  rw [hlr] at hL1
  have hlr0 : w0.heap.size ≤ lr := by omega
  -- between two rounds
  obtain ⟨J, hJ⟩ : ∃ J : Nat → World → Prop, J = fun k W => ∃ m μ', roundsB P ex e z cb co p0 p1 assign body st k m = some (x, m') ∧ LI g0 m ∧ Inv [] B μ0 g0 w0 bj { st with m := m } { tmps := a.tmps, defers := [] } W μ' ∧
    W.heap[lr]? = some (.loop (rec .ready Option.none)) := ⟨_, rfl⟩
  obtain ⟨Jx, hJx⟩ : ∃ Jx : World → Prop, Jx = fun W => ∃ μ' jc, ((x = .ret ∧ jc = .ret) ∨ ∃ id, x = .exit id ∧ jc = .exit id) ∧ Inv [] B μ0 g0 w0 bj { st with m := m' } { tmps := a.tmps, defers := [] } W μ' ∧
    W.heap[lr]? = some (.loop (rec .done (some jc))) := ⟨_, rfl⟩
  refine ⟨lr, [markD w.heap.size], W1, { target := .fn (.func gf) #[.pointer (some ⟨c, p + co, Option.none⟩)], args := #[.func (.yield lr) #[] #[]] }, W1, gf,
    #[.func (.yield lr) #[] #[], .pointer (some ⟨c, p + co, Option.none⟩)], W1, ?_, ?_, fun _ _ => trivial, ?_, fw_depth _ _, ?_⟩
  · show (Instr.enterLoop fn a.tmps #[p0, p1] assign body Option.none).run P w = _
    rw [run_enterLoop_outer, ← hW1, ← hWm, hrec, hlr]; rfl
  · simp only [resolve, hgv]
    simp [go_sem]
  · simp only [invoke, callFunc, Sem.run_bind, program_run, Sem.run_pure, Result.andThen, hfn, hnm, hbody, Bool.false_eq_true, if_false]
    rfl
  · refine callsIn_fw.2 ((hback lr ⟨c, p + co, Option.none⟩ J Jx len W1 ?_ ?_ ?_ ?_ ?_ ?_).mono ?_)
    · intro k W d hk
      rw [hJ] at hk ⊢
      obtain ⟨m, μ', q1, q2, q3, q4⟩ := hk
      exact ⟨m, μ', q1, q2, q3.reb (Oth.drawn d) q3.sub1 q3.oth (q3.defers.mono (Sub.refl _) fun _ _ h _ => h), q4⟩
    · intro W d hk
      rw [hJx] at hk ⊢
      obtain ⟨μ', jc, q1, q3, q4⟩ := hk
      exact ⟨μ', jc, q1, q3.reb (Oth.drawn d) q3.sub1 q3.oth (q3.defers.mono (Sub.refl _) fun _ _ h _ => h), q4⟩
    · cases sv <;> simp only [lenS, reduceCtorEq, Option.some.injEq] at h6
      · split at h6
        · cases h6; assumption
        · cases h6
      · omega
    · obtain ⟨v', q1, q2⟩ := read1_cell hi.h h5 hcb
      have q1 : W1.cell? ⟨c, p + co, Option.none⟩ = some v' := by
        obtain ⟨arr, e1, k1, k2, k3, k4⟩ := read_sound hi.h h5 hcb
        rw [cell_of_heap (o1.cells _ _ _ _ k1), ← cell_of_heap k1]; exact q1
      cases q2 <;> simp only [lenS, reduceCtorEq, Option.some.injEq] at h6
      · split at h6
        · cases h6; exact ⟨_, _, q1⟩
        · cases h6
      · split at h6
        · cases h6; exact ⟨_, _, q1⟩
        · cases h6
      · subst h6; exact ⟨_, _, q1⟩
    · rw [hJ]
      refine ⟨st.m, μ, h7, hl, hi.reb o1 ?_ ?_ ?_, hL1⟩
      · rw [hbj]; exact Sub.refl _
      · rw [hbj]; exact old1
      · exact DefOK.nil
    · -- one round
      intro k W hk
      rw [hJ] at hk
      obtain ⟨m, μ', hr, hlm, hinv, hlo⟩ := hk
      obtain ⟨b, o, len', cap, v, st1, st2, st3, xb, st4, i1, i2, i3, i4, i5, i6, i7, i8⟩ := roundsB_inv hr
      have hsub : Sub μ μ' := by have := hinv.sub1; rw [hbj] at this; exact this
      obtain ⟨sv', q1, q2⟩ := read1_cell hinv.h i1 (hsub _ _ hcb)
      have hsl : ∃ c2 p2 n2 cap', sv' = .slice (some ⟨c2, p2 + o, Option.none⟩) len' cap' ∧ μ' b = some (c2, p2, n2) := by
        cases q2 with
        | slice _ _ _ cp c2 p2 n2 hb _ => exact ⟨c2, p2, n2, cp, rfl, hb⟩
        | sliceU _ _ _ zz cp c2 p2 n2 hb _ _ => exact ⟨c2, p2, n2, cp, rfl, hb⟩
      obtain ⟨c2, p2, n2, cap', rfl, hb2⟩ := hsl
      obtain ⟨v', q3, q4⟩ := loadE_sound hinv.h i3 hb2
      refine ⟨c2, p2 + o, len', cap', v', q1, i2, ?_, ?_⟩
      · rw [Nat.add_assoc]; exact q3
      · have hrl := hlo
        have hy := run_yield (P := P) (args := #[.int .i64 (k : Int), v']) hlo (by rw [hrec]; rfl)
        refine ⟨_, _, _, _, hy, ?_⟩
        refine roundIn_of_wpIn (F := Fence.wide) trivial ?_
        rw [hrec]
        simp only []
        rw [zip_two]
        show assign.wpIn (fw (some lr)) 0 P _ { tmps := (a.tmps.setIfInBounds p0 (.int .i64 (k : Int))).setIfInBounds p1 v', defers := [] } W
        -- the frame of the round
        have j0 : Inv [] B μ0 g0 w0 ⟨μ', W, false⟩ { st with m := m } { tmps := a.tmps, defers := [] } W μ' := hinv.reb (Oth.refl _ _) (Sub.refl _) (fun _ _ h _ => h) DefOK.nil
        have j2 := (j0.put i4 (VRel.int .i64 (k : Int))).put i5 q4
        have l2 : LI g0 st2.m := by rw [(putD_m i5).1, (putD_m i4).1]; exact hlm
        refine wpIn_mono (hex assign st2 .normal st3 i6 fa lr B μ0 g0 w0 _ _ W μ' j2 l2) ?_
        intro ex1 a3 W3 hp
        obtain ⟨rfl, μ3, j3⟩ := hp.normal
        have hlo3 : W3.heap[lr]? = some (.loop (rec .ready Option.none)) := j3.oth _ _ hlo (not_loop _)
        have hbr := run_beginRound (P := P) hlo3 (by rw [hrec])
        refine ⟨_, hbr, ?_⟩
        obtain ⟨W3', hW3'⟩ : ∃ W3', W3.putObj lr (.loop { rec .ready Option.none with state := .busy }) = W3' := ⟨_, rfl⟩
        rw [hW3']
        have hlo3' : W3'.heap[lr]? = some (.loop { rec .ready Option.none with state := .busy }) := by rw [← hW3']; exact World.putObj_heap_same (hltW _ _ _ hlo3)
        have j3' : Inv [] B μ0 g0 w0 ⟨μ3, W3', false⟩ st3 { tmps := a3.tmps, defers := [] } W3' μ3 := j3.reb (by rw [← hW3']; exact Oth.put hlr0 hlo3 (not_loop _) _ (not_loop _)) (Sub.refl _) (fun _ _ h _ => h) DefOK.nil
        have ha3 : a3 = { tmps := a3.tmps, defers := [] } := by
          have := (j3.rel rfl).nil
          cases a3; simp only at this; rw [this]
        rw [ha3]
        have l3 : LI g0 st3.m := hkeep _ _ _ _ g0 i6 l2
        refine wpIn_mono (hex body st3 xb st4 i7 fb lr B μ0 g0 w0 _ _ W3' μ3 j3' l3) ?_
        intro ex2 a4 W4 hp4
        obtain ⟨μ4, j4, hx4⟩ := hp4
        have hlo4 : W4.heap[lr]? = some (.loop { rec .ready Option.none with state := .busy }) := j4.oth _ _ hlo3' (not_loop _)
        have l4 : LI g0 st4.m := hkeep _ _ _ _ g0 i7 l3
        have s34 : Sub μ3 μ4 := j4.sub1
        have s13 : Sub μ' μ3 := j3.sub1
        -- the round's end
        have fin : ∀ (jump : Option Code), ∃ W5, (Instr.endRound lr jump).run P W4 = .ok (.bool jump.isNone) W5 ∧ W5.heap[lr]? = some (.loop (rec (if jump.isNone then .ready else .done) jump)) ∧
            Inv [] B μ0 g0 w0 bj { st with m := st4.m } { tmps := a.tmps, defers := [] } W5 μ4 := by
          intro jump
          have hr := run_endRound (P := P) jump hlo4
          refine ⟨_, hr, ?_, ?_⟩
          · rw [World.putObj_heap_same (hltW _ _ _ hlo4), hrec]
          · have j5 := j4.reb (Oth.put hlr0 hlo4 (not_loop _) (.loop { { rec .ready Option.none with state := .busy } with state := if jump.isNone then .ready else .done, pending := jump }) (not_loop _)) (D' := []) (bs' := ⟨μ4, (W4.putObj lr (.loop { { rec .ready Option.none with state := .busy } with state := if jump.isNone then .ready else .done, pending := jump })), false⟩) (ds' := []) (Sub.refl _) (fun _ _ h _ => h) DefOK.nil
            refine { regs := fun t => ((hinv.regs t).mono s13).mono s34, size := hinv.size, defers := DefOK.nil, sub1 := ?_, oth := ?_, h := j5.h, s := j5.s, hB := j5.hB, low := j5.low }
            · rw [hbj]; exact (hsub.trans s13).trans s34
            · intro c o hc hn
              have hc' := hc
              rw [hbj] at hc'
              have hne : c ≠ lr := by have h9 : c < Wm.heap.size := hltW _ _ _ hc'; omega
              have t1 := hinv.oth c o hc hn
              have t3 : W3.heap[c]? = some o := j3.oth c o t1 hn
              have t3' : W3'.heap[c]? = some o := by rw [← hW3', World.putObj_heap_other hne]; exact t3
              have t4 : W4.heap[c]? = some o := j4.oth c o t3' hn
              rw [World.putObj_heap_other hne]; exact t4
        rcases i8 with ⟨rfl, hrest⟩ | ⟨rfl, hend⟩ | ⟨id, rfl, hend⟩
        · simp only [XRel] at hx4
          subst hx4
          obtain ⟨W5, f1, f2, f3⟩ := fin Option.none
          exact ⟨_, W5, f1, .inl ⟨rfl, by rw [hJ]; exact ⟨st4.m, μ4, hrest, l4, f3, f2⟩⟩⟩
        · simp only [XRel] at hx4
          subst hx4
          obtain ⟨W5, f1, f2, f3⟩ := fin (some .ret)
          simp only [Prod.mk.injEq] at hend
          obtain ⟨rfl, rfl⟩ := hend
          exact ⟨_, W5, f1, .inr ⟨rfl, by rw [hJx]; exact ⟨μ4, .ret, .inl ⟨rfl, rfl⟩, f3, f2⟩⟩⟩
        · simp only [XRel] at hx4
          subst hx4
          obtain ⟨W5, f1, f2, f3⟩ := fin (some (.exit id))
          simp only [Prod.mk.injEq] at hend
          obtain ⟨rfl, rfl⟩ := hend
          exact ⟨_, W5, f1, .inr ⟨rfl, by rw [hJx]; exact ⟨μ4, .exit id, .inr ⟨id, rfl, rfl⟩, f3, f2⟩⟩⟩
    · -- behind the iterator
      rintro e2 W2 ⟨⟨v, rfl⟩, hJ2⟩
      have close : ∀ (W2 : World) (r : Loop) (μ' : Map), W2.heap[lr]? = some (.loop r) → r.state ≠ .busy → Inv [] B μ0 g0 w0 bj { st with m := m' } { tmps := a.tmps, defers := [] } W2 μ' →
          ∃ W4, (Instr.endLoop lr).run P W2 = .ok r.pending W4 ∧ Inv [] B μ0 g0 w0 bs { st with m := m' } { a with defers := [markD w.heap.size] ++ a.defers } W4 μ' := by
        intro W2 r μ' q1 q2 q3
        refine ⟨_, run_endLoop (P := P) q1 q2, ?_⟩
        have hsub : Sub μ μ' := by have := q3.sub1; rw [hbj] at this; exact this
        have keep : ∀ (c : Nat) (o : Obj), Wm.heap[c]? = some o → notCells o → (W2.putObj lr (.loop { r with state := .exhausted })).heap[c]? = some o := by
          intro c o hc hn
          have hne : c ≠ lr := by have := hltW _ _ _ hc; omega
          rw [World.putObj_heap_other hne]
          exact q3.oth c o (by rw [hbj]; exact hc) hn
        refine q3.reb (Oth.put hlr0 q1 (not_loop _) _ (not_loop _)) (hi.sub1.trans hsub) (fun c o hc hn => keep c o (oldm c o (hi.oth c o hc hn)) hn) ?_
        obtain ⟨rs, ds', e1, hm, hd, hn⟩ := hi.defers
        refine ⟨w.heap.size :: rs, ds', by rw [e1]; rfl, ⟨List.nodup_cons.2 ⟨fun hin => ?_, hm.nodup⟩, fun r hr => ?_⟩, hd.mono hsub, fun e => by rw [hmk] at e; cases e⟩
        · have := hltW _ _ _ (hm.lies _ hin).2
          omega
        · rcases List.mem_cons.1 hr with rfl | hr
          · exact ⟨hsW, keep _ _ hDm (not_deferred _)⟩
          · exact ⟨(hm.lies r hr).1, keep _ _ (oldm _ _ (hm.lies r hr).2) (not_deferred _)⟩
      rcases hJ2 with hJ2 | hJ2
      · rw [hJ] at hJ2
        obtain ⟨m, μ', q1, q2, q3, q4⟩ := hJ2
        simp only [roundsB, Option.some.injEq, Prod.mk.injEq] at q1
        obtain ⟨rfl, rfl⟩ := q1
        obtain ⟨W4, t1, t2⟩ := close W2 _ μ' q4 (by rw [hrec]; simp) q3
        refine ⟨_, W4, t1, ?_⟩
        rw [hrec]
        exact ⟨μ', t2, rfl⟩
      · rw [hJx] at hJ2
        obtain ⟨μ', jc, q1, q3, q4⟩ := hJ2
        obtain ⟨W4, t1, t2⟩ := close W2 _ μ' q4 (by rw [hrec]; simp) q3
        refine ⟨_, W4, t1, ?_⟩
        rw [hrec]
        rcases q1 with ⟨rfl, rfl⟩ | ⟨id, rfl, rfl⟩
        · exact wpIn_ret ⟨μ', t2, rfl⟩
        · exact wpIn_exit ⟨μ', t2, rfl⟩
end
end Go.Sx

/- Code and functions: what the evaluator says, the model does. -/
namespace Go.Sx
open Go.RowKit

section
variable {D : List V} {P : Program} {B : Nat} {μ0 : Map} {g0 : G} {w0 : World} {bs : Base} {μ : Map} {w : World} {a : Act} {st : St}

/-- errors.As, as the evaluator sums it up. -/
def joinB (sep : List UInt8) : List (List UInt8) → List UInt8
  | [] => []
  | x :: r => x ++ (r.map (sep ++ ·)).flatten
def EffAt (P : Program) (f : FuncId) (s : Eff) : Prop :=
  (∃ fn b, P.funcs[f]? = some fn ∧ fn.body = some b) ∧
  (s.join = true → (∀ (x : ByteArray) (w : World), Calls P f #[.slice Option.none 0 0, .string x] w fun e w' => e = .returned (.string ⟨#[]⟩) ∧ w' = w) ∧
    ∀ (l : List (List UInt8)) (sep : List UInt8) (c p cap : Nat) (w : World), (∀ j x, l[j]? = some x → w.cell? ⟨c, p + j, Option.none⟩ = some (.string ⟨x.toArray⟩)) → c < w.heap.size → l.length ≤ 65536 → l.length ≤ cap → (joinB sep l).length ≤ 1048576 →
      Calls P f #[.slice (some ⟨c, p, Option.none⟩) l.length cap, .string ⟨sep.toArray⟩] w fun e w' => e = .returned (.string ⟨(joinB sep l).toArray⟩) ∧ Quiet w w') ∧
  (s.join = false → ∀ (t : Value) (w : World), Calls P f #[.nilIface, t] w fun e w' => e = .returned (.bool false) ∧ w' = w) ∧
  (s.join = false → ∀ (B c p c2 p2 : Nat) (x : Option Addr) (old : Value) (w : World), LowOK B w → w.cell? ⟨c, p + s.off, Option.none⟩ = some (.iface s.tf (.pointer x)) → w.cell? ⟨c2, p2, Option.none⟩ = some old → w.frozen? ⟨c2, p2, Option.none⟩ = false →
    Calls P f #[.iface s.tw (.pointer (some ⟨c, p, Option.none⟩)), .iface s.tpp (.pointer (some ⟨c2, p2, Option.none⟩))] w fun e w' => e = .returned (.bool true) ∧ ∃ w1, Quiet w w1 ∧ (storeCells ⟨c2, p2, Option.none⟩ [.pointer x]).run P w1 = .ok () w')
def EffOK (P : Program) : Prop := ∀ f s, effTab f = some s → EffAt P f s
theorem quiet_step {w' : World} {g : G} (hr : HRel B μ (bare g) w) (q : Quiet w w') : HRel B μ (bare g) w' ∧ Step Option.none μ (bare g) w μ (bare g) w' := by
  have lt : ∀ b c p n, μ b = some (c, p, n) → c < w.heap.size := fun b c p n h => (hr.dom b c p n h).2.2
  refine ⟨{ dom := fun b c p n h => ?_, hp := fun b blk hb => ?_, ob := (fun b cs hb => by cases hb), dj := hr.dj, oo := (fun _ _ _ _ _ _ _ _ _ h => by cases h), oh := (fun _ _ _ _ _ _ _ _ _ h => by cases h), gl := hr.gl }, ?_⟩
  · obtain ⟨h1, h2, h3⟩ := hr.dom b c p n h
    exact ⟨h1, h2, Nat.lt_of_lt_of_le h3 q.size⟩
  · obtain ⟨c, p, n, arr, e, h1, h2, h3⟩ := hr.hp b blk hb
    exact ⟨c, p, n, arr, e, h1, by rw [q.heap c (lt b c p n h1)]; exact h2, h3⟩
  · exact { sub := Sub.refl μ, nx := Nat.le_refl _, os := q.os, tape := q.tape, output := q.output, size := q.size, fz := q.fz, ids := fun _ _ h => .inl h
            upd := ⟨[], rfl, fun c hc _ _ => q.heap c hc⟩
            newh := fun b blk c p n h k => .inr (.inl ⟨b, blk, p, n, h, k, rfl⟩)
            newo := (fun b cs c p n h k => by cases h) }
theorem writeD_bare {g : G} {b o : Nat} {vs : List V} {m : Mem} (h : writeD (bare g) b o vs = some m) : m = bare m.g := by
  unfold writeD at h
  split at h
  · cases h
  simp only [bare] at h
  split at h
  · split at h
    · cases h; rfl
    · cases h
  · cases h
theorem joinT_strs {sep : List UInt8} : ∀ {l : List V} {t : List UInt8}, joinT sep l = some t → ∃ xs : List (List UInt8), l = xs.map V.str ∧ t = (xs.map (sep ++ ·)).flatten
  | [], t, h => by cases h; exact ⟨[], rfl, rfl⟩
  | v :: r, t, h => by
    cases v with
    | str s =>
      simp only [joinT, Option.map_eq_some_iff] at h
      obtain ⟨t', h1, rfl⟩ := h
      obtain ⟨xs, rfl, rfl⟩ := joinT_strs h1
      exact ⟨s :: xs, rfl, by simp [List.append_assoc]⟩
    | _ => simp [joinT] at h
theorem joinS_strs {sep : List UInt8} {l : List V} {t : List UInt8} (h : joinS sep l = some t) : ∃ xs : List (List UInt8), l = xs.map V.str ∧ t = joinB sep xs := by
  cases l with
  | nil => cases h; exact ⟨[], rfl, rfl⟩
  | cons v r =>
    cases v with
    | str s =>
      simp only [joinS, Option.map_eq_some_iff] at h
      obtain ⟨t', h1, rfl⟩ := h
      obtain ⟨xs, rfl, rfl⟩ := joinT_strs h1
      exact ⟨s :: xs, rfl, rfl⟩
    | _ => simp [joinS] at h
theorem eff_ok {f : FuncId} {s : Eff} (hs : EffAt P f s) {args : List V} {g g' : G} {en : En} (h : effD s args g = some (en, g')) (hr : HRel B μ (bare g) w) (hB : B ≤ w.heap.size) (hlow : LowOK B w) {args' : List Value} (hargs : VRels μ args args') :
    Calls P f args'.toArray w fun e w' => ∃ μ', HRel B μ' (bare g') w' ∧ Step Option.none μ (bare g) w μ' (bare g') w' ∧ EnRel μ' en e := by
  obtain ⟨_, hj, hn, hh⟩ := hs
  unfold effD at h
  cases hb : s.join with
  | true =>
    rw [if_pos hb] at h
    obtain ⟨hj0, hj1⟩ := hj hb
    rcases joinD_inv h with ⟨x, rfl, hx⟩ | ⟨b, o, len, cap, sep, l, t, rfl, h0, h1, h2, h3, hx⟩
    · simp only [Prod.mk.injEq] at hx
      obtain ⟨rfl, rfl⟩ := hx
      cases hargs with
      | cons _ _ _ _ h1 h2 =>
      cases h2 with
      | cons _ x' _ _ h3 h4 =>
      cases h4
      cases h1
      cases h3
      exact (hj0 _ w).mono fun e w' he => by
        obtain ⟨rfl, rfl⟩ := he
        exact ⟨μ, hr, Step.refl _ _ _ _, _, rfl, .str []⟩
    · simp only [Prod.mk.injEq] at hx
      obtain ⟨rfl, rfl⟩ := hx
      cases hargs with
      | cons _ sl _ _ k1 k2 =>
      cases k2 with
      | cons _ _ _ _ k3 k4 =>
      cases k4
      cases k3
      obtain ⟨c, p, n, cap', hm, hle, rfl⟩ : ∃ c p n cap', μ b = some (c, p, n) ∧ len ≤ cap' ∧ sl = .slice (some ⟨c, p + o, Option.none⟩) len cap' := by
        cases k1 with
        | slice _ _ _ cap c p n hm hl => exact ⟨c, p, n, cap, hm, hl, rfl⟩
        | sliceU _ _ _ z cap c p n hm hl _ => exact ⟨c, p, n, cap, hm, hl, rfl⟩
      obtain ⟨arr, e1, q1, q2, q3, q4⟩ := read_sound hr h1 hm
      obtain ⟨xs, rfl, e2⟩ := joinS_strs h2
      have hlen : xs.length = len := by rw [List.length_map] at q3; exact q3
      subst hlen
      have hcell : ∀ j x, xs[j]? = some x → w.cell? ⟨c, p + o + j, Option.none⟩ = some (.string ⟨x.toArray⟩) := by
        intro j x hx
        have hjl : j < xs.length := by
          rcases Nat.lt_or_ge j xs.length with h | h
          · exact h
          · rw [List.getElem?_eq_none h] at hx; cases hx
        have := q4.get j (.str x) (by rw [List.getElem?_map, hx]; rfl)
        obtain ⟨v', e3, e4⟩ := this
        cases e4
        rw [List.getElem?_take, if_pos hjl, List.getElem?_drop, Array.getElem?_toList] at e3
        rw [cell_of_heap q1, e3]
      rw [e2] at h3 ⊢
      refine (hj1 xs sep c (p + o) cap' w hcell (hr.dom b c p n hm).2.2 h0 hle h3).mono fun e w' he => ?_
      obtain ⟨rfl, qq⟩ := he
      obtain ⟨r1, s1⟩ := quiet_step hr qq
      exact ⟨μ, r1, s1, _, rfl, .str _⟩
  | false =>
  rw [if_neg (by rw [hb]; decide)] at h
  have hn := hn hb
  have hh := hh hb
  rcases asD_inv h with ⟨x, rfl, hx⟩ | ⟨b, o, b2, o2, b3, o3, m, rfl, hrd, hw, hx⟩
  · simp only [Prod.mk.injEq] at hx
    obtain ⟨rfl, rfl⟩ := hx
    cases hargs with
    | cons _ _ _ _ h1 h2 =>
    cases h2 with
    | cons _ x' _ _ h3 h4 =>
    cases h4
    cases h1
    exact (hn x' w).mono fun e w' he => by
      obtain ⟨rfl, rfl⟩ := he
      exact ⟨μ, hr, Step.refl _ _ _ _, .bool false, rfl, .bool false⟩
  · simp only [Prod.mk.injEq] at hx
    obtain ⟨rfl, rfl⟩ := hx
    cases hargs with
    | cons _ _ _ _ h1 h2 =>
    cases h2 with
    | cons _ _ _ _ h3 h4 =>
    cases h4
    cases h1 with
    | iface _ _ _ h1 =>
    cases h1 with
    | ptr _ _ c p n hb =>
    cases h3 with
    | iface _ _ _ h3 =>
    cases h3 with
    | ptr _ _ c2 p2 n2 hb2 =>
    have hrd : readD (bare g) b (o + s.off) 1 = some [.iface s.tf (.ptr b3 o3)] := hrd
    have hw : writeD (bare g) b2 o2 [.ptr b3 o3] = some m := hw
    obtain ⟨v', q1, q2⟩ := read1_cell hr hrd hb
    cases q2 with
    | iface _ _ y q2 =>
    have hy := q2
    cases q2 with
    | ptr _ _ c3 p3 n3 hb3 =>
    -- the target's cell
    obtain ⟨wx, r0, _, _⟩ := write_sound Option.none hr hw hb2 (.cons _ _ _ _ hy .nil) P
    obtain ⟨old, o1, o2'⟩ : ∃ old, w.cell? ⟨c2, p2 + o2, Option.none⟩ = some old ∧ w.frozen? ⟨c2, p2 + o2, Option.none⟩ = false := by
      unfold writeD at hw
      split at hw
      · cases hw
      simp only [bare] at hw
      split at hw
      · rename_i blk hblk
        split at hw
        · rename_i hle
          obtain ⟨c', p', n', arr, e, k1, k2, k3, k4, k5⟩ := hr.hp b2 blk hblk
          rw [hb2] at k1
          cases k1
          have hlt : p2 + o2 < arr.size := by simp at hle; omega
          exact ⟨arr[p2 + o2], by rw [cell_of_heap k2, Array.getElem?_eq_getElem hlt], frozen_of_heap k2⟩
        · cases hw
      · cases hw
    refine (hh B c (p + o) c2 (p2 + o2) (some ⟨c3, p3 + o3, Option.none⟩) old w hlow (by rw [Nat.add_assoc]; exact q1) o1 o2').mono fun e w' he => ?_
    obtain ⟨rfl, w1, qq, hst⟩ := he
    obtain ⟨r1, s1⟩ := quiet_step hr qq
    obtain ⟨w2, e2, s2, r2⟩ := write_sound Option.none r1 hw hb2 (.cons _ _ _ _ hy .nil) P
    have : w2 = w' := by
      have e2' : (storeCells ⟨c2, p2 + o2, Option.none⟩ [.pointer (some ⟨c3, p3 + o3, Option.none⟩)]).run P w1 = .ok () w2 := e2
      rw [e2'] at hst
      cases hst; rfl
    subst this
    rw [writeD_bare hw] at s2 r2
    exact ⟨μ, r2, s1.trans s2, .bool true, rfl, .bool true⟩

/-- Where code may be met: anywhere if no range over a function is in it. -/
def MayC (c : Code) (ro : Option Nat) (bs : Base) (D : List V) : Prop := flatC c = true ∨ ro = Option.none ∧ bs.mks = true ∧ D = []
def AllExec (P : Program) (ex : Code → St → Option (X × St)) : Prop := ∀ (c : Code) (st : St) (x : X) (st' : St), ex c st = some (x, st') →
  ∀ (ro : Option Nat) (D : List V) (B : Nat) (μ0 : Map) (g0 : G) (w0 : World) (bs : Base) (a : Act) (w : World) (μ : Map), MayC c ro bs D → Inv D B μ0 g0 w0 bs st a w μ → LI g0 st.m → c.wpIn (fw ro) 0 P (Post D B μ0 g0 w0 bs x st') a w
def AllLoop (P : Program) (ex : Code → St → Option (X × St)) (n : Nat) : Prop := ∀ (c : Code) (st : St) (x : X) (st' : St), ex (.loop c) st = some (x, st') →
  ∀ (ro : Option Nat) (D : List V) (B : Nat) (μ0 : Map) (g0 : G) (w0 : World) (bs : Base) (a : Act) (w : World) (μ : Map), MayC c ro bs D → Inv D B μ0 g0 w0 bs st a w μ → LI g0 st.m → Code.roundsIn (fw ro) 0 P c (Post D B μ0 g0 w0 bs x st') n a w
theorem AllExec.one {P : Program} {ex : Code → St → Option (X × St)} (h : AllExec P ex) : ExecOK P ex := fun c st x st' e D B μ0 g0 w0 bs a w μ hc hi hl =>
  wpIn_wide.1 (h c st x st' e Option.none D B μ0 g0 w0 bs a w μ (hc.imp id fun k => ⟨rfl, k⟩) hi hl)
theorem AllExec.round {P : Program} {ex : Code → St → Option (X × St)} (h : AllExec P ex) : RoundExec P ex := fun c st x st' e hc l B μ0 g0 w0 bs a w μ hi hl => h c st x st' e (some l) [] B μ0 g0 w0 bs a w μ (.inl hc) hi hl
theorem scope_wpIn {F : Fence} {n : Nat} {Q : Exit → Act → World → Prop} {c : Code} (h : c.wpIn F n P (Exit.noGoto Q) a w) : (Code.scope c).wpIn F n P Q a w := by
  intro b k cs hro hb hr
  have h0 : (lone (b.atR a (.code (.scope c) :: k)) cs w).fenced P F := fenced_calm hb hr rfl
  have st1 : step P (lone (b.atR a (.code (.scope c) :: k)) cs w) = .next (lone (b.atR a (.code c :: .inScope c :: k)) cs w) := step_lone_go (by simp [stepG, stepG.exec, Frame.atR])
  have st2 : ∀ (a : Act) (w : World), step P (lone (b.atR a (.inScope c :: k)) cs w) = .next (lone (b.atR a k) cs w) := fun a w => step_lone_go (by simp [stepG, stepG.exec, Frame.atR])
  obtain ⟨e, a₁, w₁, hq, harr⟩ := h b (.inScope c :: k) cs hro hb hr
  cases e with
  | normal => exact ⟨.normal, a₁, w₁, hq, .head h0 st1 (StepsIn.trans harr (.one (fenced_calm hb hr rfl) (st2 a₁ w₁)))⟩
  | exit id =>
    have hx : exitTo id (.inScope c :: k) = exitTo id k := by simp [exitTo]
    exact ⟨.exit id, a₁, w₁, hq, fun k' hk => .head h0 st1 (harr.1 k' (by rw [hx]; exact hk)), fun hr' hk => let ⟨k₁, q1, q2⟩ := harr.2 hr' (by rw [hx]; exact hk); ⟨k₁, q1, .head h0 st1 q2⟩⟩
  | goto l => exact hq.elim
  | ret => exact ⟨_, a₁, w₁, hq, .of_steps (.one h0 st1) harr⟩
  | panic ch => exact ⟨_, a₁, w₁, hq, .of_steps (.one h0 st1) harr⟩
  | outgrown => exact ⟨_, a₁, w₁, hq, .of_steps (.one h0 st1) harr⟩

theorem exec_sound (hbk : BackOK P) (heff : EffOK P) {S : FuncId → List V → Option V} (hS : SumOK P S) (hm : P.follows .mixedOrders = true) : ∀ (n : Nat),
    AllExec P (execD P S n) ∧
    AllLoop P (execD P S n) n ∧
    FnOK P (runF P S (execD P S n)) := by
  have fn : ∀ n, (∀ k, n = k + 1 → FnOK P (runF P S (execD P S k))) → AllExec P (execD P S n) → FnOK P (runF P S (execD P S n)) := by
    intro n hcl ih f args g en g' h B μ w args' hr hB hlow hargs
    unfold runF at h
    cases hs : S f args with
    | some v =>
      rw [hs] at h
      cases h
      exact sum_ok hS hs hr hargs
    | none =>
    rw [hs] at h
    simp only at h
    cases he : effTab f with
    | some s =>
      rw [he] at h
      exact eff_ok (heff f s he) h hr hB hlow hargs
    | none =>
    rw [he] at h
    simp only at h
    cases hf : P.funcs[f]? with
    | none => rw [hf] at h; cases h
    | some fn =>
      rw [hf] at h
      simp only at h
      cases hb : fn.body with
      | none => rw [hb] at h; cases h
      | some body =>
        rw [hb] at h
        simp only at h
        have i0 : Inv [] B μ g w ⟨μ, w, true⟩ { regs := fun t => (args[t]?).getD undefV, nt := fn.ntmps, m := ⟨fun _ => Option.none, g⟩ } { tmps := args'.toArray ++ Array.replicate (fn.ntmps - args'.toArray.size) undef, defers := [] } w μ := inv_enter (mk := true) hargs hr hB hlow
        have dom0 : ∀ b blk, g.hp b = some blk → b < g.nx := fun b blk hb => by
          obtain ⟨c, p, k, arr, e, h1, _⟩ := hr.hp b blk hb
          exact (hr.dom b c p k h1).1
        cases hdf : deferOf body with
        | some q =>
          obtain ⟨l, t, post⟩ := q
          rw [hdf] at h
          simp only at h
          split at h
          · cases h
          rename_i hfq
          have hfq : flatQ (l, t, post) = true := by simpa using hfq
          unfold flatQ at hfq
          rw [Bool.and_eq_true] at hfq
          obtain ⟨hfl, hfp⟩ := hfq
          unfold runD at h
          simp only at h
          cases hL : exL (execD P S n) l (enterD fn args g) with
          | none => rw [hL] at h; cases h
          | some st2 =>
            rw [hL] at h
            simp only at h
            have keepL : ∀ (l : List Code) (st st' : St), exL (execD P S n) l st = some st' → LI g st.m → LI g st'.m := by
              intro l
              induction l with
              | nil => intro st st' h k; simp only [exL] at h; cases h; exact k
              | cons c l ihl =>
                intro st st' h k
                simp only [exL] at h
                split at h
                · rename_i st1 h1
                  exact ihl st1 st' h ((LI.exec n).1 c st _ st1 g h1 k)
                · cases h
            cases hx : execD P S n post st2 with
            | none => rw [hx] at h; cases h
            | some y =>
              obtain ⟨x, st3⟩ := y
              rw [hx] at h
              have fin : ∀ (u : Option V), (match closeD P (execD P S n) (st2.regs t) u st3 with | some st4 => (resultD P st4 fn).map fun v => (En.ret v, (spillV spillFuel v st4.m).g) | Option.none => Option.none) = some (en, g') →
                  ∃ f ca cc st4 v, st2.regs t = .func f ca cc ∧ closeD P (execD P S n) (.func f ca cc) u st3 = some st4 ∧ resultD P st4 fn = some v ∧ en = .ret v ∧ g' = (spillV spillFuel v st4.m).g := by
                intro u hh
                cases hcd : closeD P (execD P S n) (st2.regs t) u st3 with
                | none => rw [hcd] at hh; cases hh
                | some st4 =>
                  rw [hcd] at hh
                  simp only [Option.map_eq_some_iff, Prod.mk.injEq] at hh
                  obtain ⟨v, hv, rfl, rfl⟩ := hh
                  have hcd' := hcd
                  unfold closeD at hcd'
                  split at hcd'
                  · rename_i cf ca cc hreg
                    exact ⟨cf, ca, cc, st4, v, hreg, by rw [← hreg]; exact hcd, hv, rfl, rfl⟩
                  · cases hcd'
              have go : ∀ (u : Option V), (∀ (e : Exit) (a3 : Act) (w3 : World) (μ3 : Map), XRel μ3 x e → ∃ um, um ≠ FrameMode.run ∧ URel μ3 u um ∧ ∀ R, Leaves P fn a3.tmps R a3.defers um w3 → bodyPostD P fn R e a3 w3) →
                  (match closeD P (execD P S n) (st2.regs t) u st3 with | some st4 => (resultD P st4 fn).map fun v => (En.ret v, (spillV spillFuel v st4.m).g) | Option.none => Option.none) = some (en, g') →
                  Calls P f args'.toArray w fun e w' => ∃ μ', HRel B μ' (bare g') w' ∧ Step Option.none μ (bare g) w μ' (bare g') w' ∧ EnRel μ' en e := by
                intro u hxu hh
                obtain ⟨cf, ca, cc, st4, v, hreg, hcd, hres, rfl, rfl⟩ := fin u hh
                refine calls_of_wp_defers hf hb (spine_wp (bs := ⟨μ, w, false⟩) rfl hcl ih.one (LI.exec n).1 hreg (fun a2 w2 μ2 hi2 hl2 => ?_) body l hdf hfl _ _ w μ hL (inv_enter hargs hr hB hlow) (LI.refl dom0))
                refine wp_mono (ih.one post st2 x st3 hx _ B μ g w _ a2 w2 μ2 (.inl hfp) hi2 hl2) (fun e a3 w3 hp => ?_)
                obtain ⟨μ3, hi3, hxr⟩ := hp
                obtain ⟨um, hne, hur, hbp⟩ := hxu e a3 w3 μ3 hxr
                refine hbp _ (close_sound rfl ih.one hcd hres hi3 ((LI.exec n).1 _ _ _ _ g hx hl2) hne hur (fun μ' w' v' s1 r1 hv => ?_))
                obtain ⟨s2, r2⟩ := spillV_sound Option.none spillFuel v st4.m r1
                exact ⟨μ', r2.bare, ((hi3.s.trans s1).trans s2).dropOb, v', rfl, hv⟩
              cases x with
              | normal => exact go Option.none (fun e a3 w3 μ3 hxr => by simp only [XRel] at hxr; subst hxr; exact ⟨.returning, by simp, rfl, fun R h => h⟩) h
              | ret => exact go Option.none (fun e a3 w3 μ3 hxr => by simp only [XRel] at hxr; subst hxr; exact ⟨.returning, by simp, rfl, fun R h => h⟩) h
              | panic v => exact go (some v) (fun e a3 w3 μ3 hxr => by obtain ⟨v', rfl, hv⟩ := hxr; exact ⟨.panicking [{ v := v', recovered := false }], by simp, ⟨v', rfl, hv⟩, fun R h => h⟩) h
              | exit id => cases h
        | none =>
        rw [hdf] at h
        simp only at h
        have dom : ∀ b blk, g.hp b = some blk → b < g.nx := fun b blk hb => by
          obtain ⟨c, p, k, arr, e, h1, _⟩ := hr.hp b blk hb
          exact (hr.dom b c p k h1).1
        have li0 : LI g (bare g) := LI.refl dom
        have leave : ∀ (st : St) (v : V) (a : Act) (w1 : World) (μ1 : Map) (v' : Value), Inv [] B μ g w ⟨μ1, w1, false⟩ st a w1 μ1 → VRel μ1 v v' →
            HRel B μ1 (bare (spillV spillFuel v st.m).g) w1 ∧ Step Option.none μ (bare g) w μ1 (bare (spillV spillFuel v st.m).g) w1 := by
          intro st v a w1 μ1 v' hi hv
          obtain ⟨s1, s2⟩ := spillV_sound Option.none spillFuel v st.m hi.h
          exact ⟨s2.bare, (hi.s.trans s1).dropOb⟩
        refine (callsIn_wide (n := 0)).1 (callsIn_of_wp_marks hf hb trivial ?_)
        cases hx : execD P S n body { regs := fun t => (args[t]?).getD undefV, nt := fn.ntmps, m := ⟨fun _ => Option.none, g⟩ } with
        | none => rw [hx] at h; cases h
        | some y =>
          obtain ⟨x, st⟩ := y
          rw [hx] at h
          refine wpIn_mono (ih body _ x st hx Option.none [] B μ g w ⟨μ, w, true⟩ _ w μ (.inr ⟨rfl, rfl, rfl⟩) i0 li0) (fun e a w1 hp => ?_)
          obtain ⟨μ1, hi, hxr⟩ := hp
          have out : ∀ (u : FrameMode) {R : Ending → World → Prop}, u ≠ .run → (∀ w', Inv [] B μ g w ⟨μ1, w', false⟩ st { tmps := a.tmps, defers := [] } w' μ1 → LeavesIn Fence.wide 0 P fn a.tmps R [] u w') → LeavesInM Fence.wide 0 P fn a.tmps R a.defers u w1 := by
            intro u R hu k
            obtain ⟨rs, ds', e1, hm, hd, _⟩ := hi.defers
            rw [hd.nil, List.append_nil] at e1
            rw [e1]
            exact leaves_marks hu rs w1 hm fun w' ho => k w' (hi.reb ho (Sub.refl _) (fun _ _ h _ => h) DefOK.nil)
          cases x with
          | normal =>
            simp only [XRel] at hxr
            subst hxr
            simp only [Option.map_eq_some_iff, Prod.mk.injEq] at h
            obtain ⟨v, hv, rfl, rfl⟩ := h
            refine out .returning (by simp) fun w' hi' => ?_
            obtain ⟨v', r1, r2⟩ := resultD_sound hi' hv
            obtain ⟨l1, l2⟩ := leave st v _ w' μ1 v' hi' r2
            exact ⟨v', r1, μ1, l1, l2, v', rfl, r2⟩
          | ret =>
            simp only [XRel] at hxr
            subst hxr
            simp only [Option.map_eq_some_iff, Prod.mk.injEq] at h
            obtain ⟨v, hv, rfl, rfl⟩ := h
            refine out .returning (by simp) fun w' hi' => ?_
            obtain ⟨v', r1, r2⟩ := resultD_sound hi' hv
            obtain ⟨l1, l2⟩ := leave st v _ w' μ1 v' hi' r2
            exact ⟨v', r1, μ1, l1, l2, v', rfl, r2⟩
          | panic v =>
            obtain ⟨v', rfl, hv⟩ := hxr
            simp only [Option.some.injEq, Prod.mk.injEq] at h
            obtain ⟨rfl, rfl⟩ := h
            refine out (.panicking _) (by simp) fun w' hi' => ?_
            obtain ⟨l1, l2⟩ := leave st v _ w' μ1 v' hi' hv
            exact ⟨μ1, l1, l2, v', rfl, hv⟩
          | exit id => cases h
  intro n
  induction n with
  | zero =>
    have z : ∀ (c : Code) (st : St) (x : X) (st' : St), execD P S 0 c st = some (x, st') → False := fun c st x st' h => by simp only [execD] at h; cases h
    exact ⟨fun c st x st' h => (z _ _ _ _ h).elim, fun c st x st' h => (z _ _ _ _ h).elim, fn 0 (fun k hk => by omega) (fun c st x st' h => (z _ _ _ _ h).elim)⟩
  | succ n ih =>
    obtain ⟨ih1, ih2, ih3⟩ := ih
    have hlog : LogOK (runF P S (execD P S n)) := (LI.exec n).2
    have keep := (LI.exec (P := P) (S := S) n).1
    have loop : AllLoop P (execD P S (n + 1)) (n + 1) := by
      intro c st x st' h ro D B μ0 g0 w0 bs a w μ hc hi hl
      rw [roundsIn_succ]
      simp only [execD] at h
      cases h1 : execD P S n c st with
      | none => rw [h1] at h; cases h
      | some y =>
        obtain ⟨x1, st1⟩ := y
        rw [h1] at h
        have hw := ih1 c st x1 st1 h1 ro D B μ0 g0 w0 bs a w μ hc hi hl
        cases x1 with
        | normal =>
          simp only at h
          refine wpIn_mono hw (fun e a1 w1 hp => ?_)
          obtain ⟨rfl, μ1, hi1⟩ := hp.normal
          exact ih2 c st1 x st' h ro D B μ0 g0 w0 bs a1 w1 μ1 hc hi1 (keep _ _ _ _ _ h1 hl)
        | exit id => cases h; exact wpIn_mono hw (fun e a1 w1 hp => then_of_post (by simp) hp)
        | ret => cases h; exact wpIn_mono hw (fun e a1 w1 hp => then_of_post (by simp) hp)
        | panic v => cases h; exact wpIn_mono hw (fun e a1 w1 hp => then_of_post (by simp) hp)
    have key : AllExec P (execD P S (n + 1)) := by
      intro c st x st' h ro D B μ0 g0 w0 bs a w μ hc hi hl
      cases c
      case loop body => exact wpIn_loop_rounds _ (loop body st x st' h ro D B μ0 g0 w0 bs a w μ hc hi hl)
      all_goals simp only [execD] at h
      case skip => cases h; exact wpIn_skip ⟨μ, hi, rfl⟩
      case label l => cases h; exact wpIn_label ⟨μ, hi, rfl⟩
      case exit id => cases h; exact wpIn_exit ⟨μ, hi, rfl⟩
      case ret => cases h; exact wpIn_ret ⟨μ, hi, rfl⟩
      case region id ops draw =>
        cases draw with
        | true => simp only [if_true] at h; exact drawD_sound hm ih3 hlog h hi hl
        | false =>
          simp only [Bool.false_eq_true, if_false] at h
          exact wpIn_region_list (opsD_sound ih3 _ _ _ _ h a w μ hi)
      case seq c1 c2 =>
        refine wpIn_seq ?_
        cases h1 : execD P S n c1 st with
        | none => rw [h1] at h; cases h
        | some y =>
          obtain ⟨x1, st1⟩ := y
          rw [h1] at h
          have hw := ih1 c1 st x1 st1 h1 ro D B μ0 g0 w0 bs a w μ (hc.imp (fun q => (Bool.and_eq_true _ _ ▸ q : _ ∧ _).1) id) hi hl
          cases x1 with
          | normal =>
            simp only at h
            refine wpIn_mono hw (fun e a1 w1 hp => ?_)
            obtain ⟨rfl, μ1, hi1⟩ := hp.normal
            exact ih1 c2 st1 x st' h ro D B μ0 g0 w0 bs a1 w1 μ1 (hc.imp (fun q => (Bool.and_eq_true _ _ ▸ q : _ ∧ _).2) id) hi1 (keep _ _ _ _ _ h1 hl)
          | exit id => cases h; exact wpIn_mono hw (fun e a1 w1 hp => then_of_post (by simp) hp)
          | ret => cases h; exact wpIn_mono hw (fun e a1 w1 hp => then_of_post (by simp) hp)
          | panic v => cases h; exact wpIn_mono hw (fun e a1 w1 hp => then_of_post (by simp) hp)
      case cond c1 t e =>
        cases hv : evalD st.regs c1 <;> rw [hv] at h <;> try (cases h; done)
        rename_i b
        have := evals hi.h.gl hi.regs c1
        rw [hv] at this
        generalize hcv : a.eval c1 = cv at this
        cases this
        refine wpIn_cond hcv ?_
        cases b
        · exact ih1 _ st x st' h ro D B μ0 g0 w0 bs a w μ (hc.imp (fun q => (Bool.and_eq_true _ _ ▸ q : _ ∧ _).2) id) hi hl
        · exact ih1 _ st x st' h ro D B μ0 g0 w0 bs a w μ (hc.imp (fun q => (Bool.and_eq_true _ _ ▸ q : _ ∧ _).1) id) hi hl
      case block id body =>
        refine wpIn_block ?_
        cases h1 : execD P S n body st with
        | none => rw [h1] at h; cases h
        | some y =>
          obtain ⟨x1, st1⟩ := y
          rw [h1] at h
          refine wpIn_mono (ih1 body st x1 st1 h1 ro D B μ0 g0 w0 bs a w μ hc hi hl) (fun e a1 w1 hp => ?_)
          obtain ⟨μ1, hi1, hx⟩ := hp
          cases x1 with
          | normal => simp only at h; cases h; simp only [XRel] at hx; subst hx; exact ⟨μ1, hi1, rfl⟩
          | ret => simp only at h; cases h; simp only [XRel] at hx; subst hx; exact ⟨μ1, hi1, rfl⟩
          | panic v => simp only at h; cases h; obtain ⟨v', rfl, hv⟩ := hx; exact ⟨μ1, hi1, v', rfl, hv⟩
          | exit i =>
            simp only at h
            cases h
            simp only [XRel] at hx
            subst hx
            simp only [Exit.inBlock]
            by_cases hid : i = id
            · simp only [hid, if_true]; exact ⟨μ1, hi1, rfl⟩
            · simp only [hid, if_false]; exact ⟨μ1, hi1, rfl⟩
      case scope body =>
        refine scope_wpIn ?_
        refine wpIn_mono (ih1 body st x st' h ro D B μ0 g0 w0 bs a w μ hc hi hl) (fun e a1 w1 hp => ?_)
        obtain ⟨μ1, hi1, hx⟩ := hp
        cases x with
        | normal => simp only [XRel] at hx; subst hx; exact ⟨μ1, hi1, rfl⟩
        | exit i => simp only [XRel] at hx; subst hx; exact ⟨μ1, hi1, rfl⟩
        | ret => simp only [XRel] at hx; subst hx; exact ⟨μ1, hi1, rfl⟩
        | panic v => obtain ⟨v', rfl, hv⟩ := hx; exact ⟨μ1, hi1, v', rfl, hv⟩
      case rangeFunc g ps assign body =>
        rcases hc with q | ⟨rfl, q1, rfl⟩
        · cases q
        · exact range_wp hbk ih1.round keep h q1 hi hl
      all_goals cases h
    exact ⟨key, loop, fn _ (fun k hk => by cases hk; exact ih3) key⟩
end
end Go.Sx

/- The contract of the closure that slices.Backward hands back: from the loaded code. -/
namespace Go.Sx
open Go.RowKit
section
variable {P : Program} {w : World} {a : Act}

theorem ev_put (d : Nat) (v : Value) (t : Nat) (hd : d < a.tmps.size) : (a.put (some d) v).eval (.tmp t) = if t = d then v else a.eval (.tmp t) := by
  show (a.tmps.setIfInBounds d v).getD t undef = _
  by_cases h : t = d
  · subst h; rw [if_pos rfl]; simp [hd]
  · rw [if_neg h]
    show _ = a.tmps.getD t undef
    rw [Array.getD_eq_getD_getElem?, Array.getD_eq_getD_getElem?, Array.getElem?_setIfInBounds_ne (fun e => h e.symm)]
theorem ev_mk (t : Array Value) (i : Nat) : ({ tmps := t, defers := [] } : Act).eval (.tmp i) = t.getD i undef := rfl
theorem size_put (d : Nat) (v : Value) : (a.put (some d) v).tmps.size = a.tmps.size := by simp [Act.put]
theorem def_put (d : Nat) (v : Value) : (a.put (some d) v).defers = a.defers := rfl
theorem list_val {ops : Array Oper} {l : List Oper} {o : Oper} {v : Value} {Q : Exit → Act → World → Prop} (hg : o.guard = Option.none) (hd : ∀ c, o.op ≠ .defer c) (h : (execOp a.eval o).run P w = .ok (.value v) w) (k : wpListIn Fence.wide 0 P ops Q l (a.put o.dst v) w) : wpListIn Fence.wide 0 P ops Q (o :: l) a w := by
  unfold wpListIn
  have hw : Region.wanted o (yielded ops a.tmps) = true := by unfold Region.wanted; rw [hg]
  rw [if_pos hw]
  refine ⟨fun _ _ => trivial, ?_⟩
  rw [show Fence.wide.round = Option.none from rfl, Oper.semAt_none, h]
  exact k
theorem wrap_small {n : Int} (h : -1 ≤ n) (h2 : n ≤ 65536) : IntKind.i64.wrap n = n := by
  simp [IntKind.wrap, IntKind.bits, IntKind.signed]
  by_cases h0 : 0 ≤ n
  · have : n % 18446744073709551616 = n := by omega
    rw [this]; split <;> omega
  · have : n = -1 := by omega
    subst this; rfl
theorem run_sub {o : Oper} {t : TypeId} {x : Operand} {t2 : TypeId} {m : Int} (ho : o.op = .binOp .sub t x (.const (.int .i64 1)) t2) (hx : a.eval x = .int .i64 m) (h0 : 0 ≤ m) (h1 : m ≤ 65536) : (execOp a.eval o).run P w = .ok (.value (.int .i64 (m - 1))) w := by
  unfold execOp
  rw [ho]
  have hc : a.eval (.const (.int .i64 1)) = .int .i64 1 := rfl
  simp only [hx, hc, eqGuard, binOp, Op.intArith, Sem.run_bind, Sem.run_pure, Result.andThen, ne_eq, not_true_eq_false, if_false]
  simp [Sem.run_pure, Result.andThen, wrap_small (n := m - 1) (by omega) (by omega)]
theorem run_geq {o : Oper} {t : TypeId} {x : Operand} {t2 : TypeId} {m : Int} (ho : o.op = .binOp .geq t x (.const (.int .i64 0)) t2) (hx : a.eval x = .int .i64 m) : (execOp a.eval o).run P w = .ok (.value (.bool (decide (0 ≤ m)))) w := by
  unfold execOp
  rw [ho]
  have hc : a.eval (.const (.int .i64 0)) = .int .i64 0 := rfl
  simp only [hx, hc, eqGuard, binOp, Op.intCmp, Sem.run_bind, Sem.run_pure, Result.andThen, ne_eq, not_true_eq_false, if_false]
  simp [Sem.run_pure, Result.andThen]
theorem run_move {o : Oper} {x : Operand} (ho : o.op = .move x ∨ o.op = .assign x) : (execOp a.eval o).run P w = .ok (.value (a.eval x)) w := by
  unfold execOp
  rcases ho with ho | ho <;> rw [ho] <;> simp [Sem.run_pure]
theorem run_load {o : Oper} {t : TypeId} {x : Operand} {ad : Addr} {v : Value} (ho : o.op = .load t x) (hx : a.eval x = .pointer (some ad)) (hl : (loadVar t ad).run P w = .ok v w) : (execOp a.eval o).run P w = .ok (.value v) w := by
  unfold execOp
  rw [ho]
  simp only [hx, Instr.loadAt, Instr.sureAddr, Sem.run_bind, Sem.run_pure, Result.andThen, hl]
theorem load_slice {ts e : TypeId} (hts : P.underlying ts = some (.slice e)) {ad : Addr} {v : Value} (hc : w.cell? ad = some v) : (loadVar ts ad).run P w = .ok v w := by
  have ha : aggD P ts = some false := by unfold aggD; rw [hts]; rfl
  simp only [loadVar, Sem.run_bind, isAgg_run ha, Result.andThen, Bool.false_eq_true, if_false, Go.load, Sem.run, hc]
theorem run_len {o : Oper} {t : Nat} {ts e : TypeId} (hts : P.underlying ts = some (.slice e)) {ad : Option Addr} {len cap : Nat} (ho : o.op = .call ⟨.builtin .len, #[.tmp t], #[ts]⟩) (hx : a.eval (.tmp t) = .slice ad len cap) : (execOp a.eval o).run P w = .ok (.value (.int .i64 len)) w := by
  unfold execOp
  rw [ho]
  simp [resolve, invoke, builtin, Sem.run_bind, Sem.run_pure, Result.andThen, hx, Builtin.len_, underlying_run hts, goInt]
theorem run_index {o : Oper} {ts e : TypeId} {z : Nat} (hts : P.underlying ts = some (.slice e)) (hz : sizeD P e = some z) {x ix : Operand} {c off len cap k : Nat} (ho : o.op = .indexAddr ts x ix) (hx : a.eval x = .slice (some ⟨c, off, Option.none⟩) len cap) (hi : a.eval ix = .int .i64 (k : Int)) (hk : k < len) :
    (execOp a.eval o).run P w = .ok (.value (.pointer (some ⟨c, off + k * z, Option.none⟩))) w := by
  unfold execOp
  rw [ho]
  have hk' : (0 : Int) ≤ (k : Int) ∧ (k : Int) < (len : Int) := ⟨by omega, by omega⟩
  simp only [hx, hi, Instr.indexAt, asIntOf, underlying_run hts, sizeOf_run hz, Sem.run_bind, Sem.run_pure, Result.andThen, hk', and_self, if_true, add_none, Int.toNat_natCast]
theorem run_not {o : Oper} {t : TypeId} {x : Operand} {b : Bool} (ho : o.op = .unOp .not t x) (hx : a.eval x = .bool b) : (execOp a.eval o).run P w = .ok (.value (.bool (!b))) w := by
  unfold execOp
  rw [ho]
  simp only [hx, Op.unary, Sem.run_bind, Sem.run_pure, Result.andThen]

/-- An operation, whatever stands beside what it does. -/
def oper (dst : Nat) (op : Op) (x : TypeId × String × Array Edge) : Oper := { dst := some dst, op := op, type := x.1, pos := x.2.1, after := x.2.2, guard := Option.none }
/-- The body of the closure that slices.Backward hands back. -/
def backBody (x : Nat → TypeId × String × Array Edge) (i : Nat → Nat) (ts e t3 t4 : TypeId) : Code :=
  .seq (.region (i 0) #[oper 4 (.load ts (.tmp 1)) (x 0), oper 5 (.call ⟨.builtin .len, #[.tmp 4], #[ts]⟩) (x 1), oper 6 (.binOp .sub t3 (.tmp 5) (.const (.int .i64 1)) t3) (x 2), oper 3 (.assign (.tmp 6)) (x 3)] false)
    (.block 0 (.loop (.seq (.seq (.region (i 1) #[oper 7 (.move (.tmp 3)) (x 4), oper 8 (.binOp .geq t3 (.tmp 7) (.const (.int .i64 0)) t3) (x 5)] false) (.cond (.tmp 8) .skip (.exit 0)))
      (.seq (.block 1 (.seq (.region (i 2) #[oper 11 (.move (.tmp 0)) (x 6), oper 12 (.move (.tmp 3)) (x 7), oper 13 (.load ts (.tmp 1)) (x 8), oper 14 (.move (.tmp 3)) (x 9), oper 15 (.indexAddr ts (.tmp 13) (.tmp 14)) (x 10), oper 16 (.load e (.tmp 15)) (x 11),
          oper 17 (.call ⟨.value (.tmp 11), #[.tmp 12, .tmp 16], #[t3, e]⟩) (x 12), oper 18 (.unOp .not t4 (.tmp 17)) (x 13)] false) (.cond (.tmp 18) .ret .skip)))
        (.region (i 3) #[oper 9 (.move (.tmp 3)) (x 14), oper 10 (.binOp .sub t3 (.tmp 9) (.const (.int .i64 1)) t3) (x 15), oper 3 (.assign (.tmp 10)) (x 16)] false)))))
theorem nodef (dst : Nat) (op : Op) (x : TypeId × String × Array Edge) (h : ∀ c, op ≠ .defer c) : ∀ c, (oper dst op x).op ≠ .defer c := h

/-- What waits beside the walk. -/
structure BI (l : Nat) (pb : Addr) (a : Act) : Prop where
  size : a.tmps.size = 19
  defers : a.defers = []
  yld : a.eval (.tmp 0) = .func (.yield l) #[] #[]
  box : a.eval (.tmp 1) = .pointer (some pb)
theorem BI.put {l : Nat} {pb : Addr} (h : BI l pb a) {d : Nat} (v : Value) (h0 : d ≠ 0) (h1 : d ≠ 1) (hd : d < 19) : BI l pb (a.put (some d) v) := by
  have hs := h.size
  refine ⟨by rw [size_put]; exact hs, by rw [def_put]; exact h.defers, ?_, ?_⟩
  · rw [ev_put _ _ _ (by omega), if_neg (by omega)]; exact h.yld
  · rw [ev_put _ _ _ (by omega), if_neg (by omega)]; exact h.box

theorem back_shape {gf : FuncId} {fn : Func} (hf : P.funcs[gf]? = some fn) (hn : fn.ntmps = 19) (hr : fn.results = #[]) {x : Nat → TypeId × String × Array Edge} {i : Nat → Nat} {ts e t3 t4 : TypeId} {z : Nat}
    (hb : fn.body = some (backBody x i ts e t3 t4)) (hts : P.underlying ts = some (.slice e)) (hz : sizeD P e = some z) (l : Nat) (pb : Addr) (J : Nat → World → Prop) (Jx : World → Prop) (len : Nat) (W : World) (hle : len ≤ 65536)
    (hbox : ∃ ad cap, W.cell? pb = some (.slice ad len cap)) (h0 : J len W)
    (hround : ∀ k W, J (k + 1) W → ∃ c off n cap v, W.cell? pb = some (.slice (some ⟨c, off, Option.none⟩) n cap) ∧ k < n ∧ (loadVar e ⟨c, off + k * z, Option.none⟩).run P W = .ok v W ∧
      YieldAt Fence.wide 0 P l #[.int .i64 (k : Int), v] W fun e' W' => (e' = .returned (.bool true) ∧ J k W') ∨ (e' = .returned (.bool false) ∧ Jx W')) :
    Calls P gf #[.func (.yield l) #[] #[], .pointer (some pb)] W fun e W' => (∃ v, e = .returned v) ∧ (J 0 W' ∨ Jx W') := by
  refine (callsIn_wide (n := 0)).1 (callsIn_of_wp hf hb trivial ?_ rfl)
  rw [hn]
  have tmp0 : ({ tmps := #[.func (.yield l) #[] #[], .pointer (some pb)] ++ Array.replicate (19 - 2) undef, defers := [] } : Act).eval (.tmp 0) = .func (.yield l) #[] #[] := by
    rw [ev_mk, Array.getD_eq_getD_getElem?, Array.getElem?_append_left (by simp)]; rfl
  have tmp1 : ({ tmps := #[.func (.yield l) #[] #[], .pointer (some pb)] ++ Array.replicate (19 - 2) undef, defers := [] } : Act).eval (.tmp 1) = .pointer (some pb) := by
    rw [ev_mk, Array.getD_eq_getD_getElem?, Array.getElem?_append_left (by simp)]; rfl
  have b0 : BI l pb { tmps := #[.func (.yield l) #[] #[], .pointer (some pb)] ++ Array.replicate (19 - 2) undef, defers := [] } := ⟨by simp, rfl, tmp0, tmp1⟩
  generalize hbp : bodyPost P fn (fun e W' => (∃ v, e = .returned v) ∧ (J 0 W' ∨ Jx W')) = BP
  have post : ∀ (e' : Exit) (a : Act) (w : World), (e' = .normal ∨ e' = .ret) → a.defers = [] → (J 0 w ∨ Jx w) → BP e' a w := by
    intro e' a w he hd hj
    have hrs : (results fn a.tmps).run P w = .ok (.tuple #[]) w := by
      unfold results
      rw [hr]
      simp [Sem.run_bind, Sem.run_pure, Result.andThen]
    rw [← hbp]
    rcases he with rfl | rfl <;> exact ⟨hd, _, hrs, ⟨_, rfl⟩, hj⟩
  have hsz : (#[Value.func (.yield l) #[] #[], .pointer (some pb)] : Array Value).size = 2 := rfl
  rw [hsz]
  generalize ({ tmps := #[.func (.yield l) #[] #[], .pointer (some pb)] ++ Array.replicate (19 - 2) undef, defers := [] } : Act) = a0 at b0
  obtain ⟨ad, cap, hc⟩ := hbox
  unfold backBody
  refine wpIn_seq (wpIn_region_list ?_)
  have nd : ∀ {dst : Nat} {op : Op} {y : TypeId × String × Array Edge}, (∀ c, op ≠ .defer c) → ∀ c, (oper dst op y).op ≠ .defer c := fun h => h
  have get : ∀ {a : Act} {d : Nat} {v : Value}, BI l pb a → d < 19 → (a.put (some d) v).eval (.tmp d) = v := fun hb hd => by rw [ev_put _ _ _ (by rw [hb.size]; exact hd), if_pos rfl]
  have oth : ∀ {a : Act} {d : Nat} {v : Value} (t : Nat), BI l pb a → d < 19 → t ≠ d → (a.put (some d) v).eval (.tmp t) = a.eval (.tmp t) := fun t hb hd ht => by rw [ev_put _ _ _ (by rw [hb.size]; exact hd), if_neg ht]
  -- the length
  refine list_val rfl (nd fun c h => by cases h) (run_load rfl b0.box (load_slice hts hc)) ?_
  have b1 := b0.put (.slice ad len cap) (d := 4) (by omega) (by omega) (by omega)
  have s1 := get (v := .slice ad len cap) b0 (d := 4) (by omega)
  show wpListIn _ _ _ _ _ _ (a0.put (some 4) _) W
  generalize a0.put (some 4) (.slice ad len cap) = a1 at b1 s1
  refine list_val rfl (nd fun c h => by cases h) (run_len hts rfl s1) ?_
  have b2 := b1.put (.int .i64 (len : Int)) (d := 5) (by omega) (by omega) (by omega)
  have s2 := get (v := .int .i64 (len : Int)) b1 (d := 5) (by omega)
  show wpListIn _ _ _ _ _ _ (a1.put (some 5) _) W
  generalize a1.put (some 5) (.int .i64 (len : Int)) = a2 at b2 s2
  refine list_val rfl (nd fun c h => by cases h) (run_sub rfl s2 (by omega) (by omega)) ?_
  have b3 := b2.put (.int .i64 ((len : Int) - 1)) (d := 6) (by omega) (by omega) (by omega)
  have s3 := get (v := .int .i64 ((len : Int) - 1)) b2 (d := 6) (by omega)
  show wpListIn _ _ _ _ _ _ (a2.put (some 6) _) W
  generalize a2.put (some 6) (.int .i64 ((len : Int) - 1)) = a3 at b3 s3
  refine list_val rfl (nd fun c h => by cases h) (run_move (.inr rfl)) ?_
  rw [s3]
  have b4 := b3.put (.int .i64 ((len : Int) - 1)) (d := 3) (by omega) (by omega) (by omega)
  have e4 := get (v := .int .i64 ((len : Int) - 1)) b3 (d := 3) (by omega)
  show wpListIn _ _ _ _ _ [] (a3.put (some 3) _) W
  generalize a3.put (some 3) (.int .i64 ((len : Int) - 1)) = a4 at b4 e4
  clear b1 b2 b3 s1 s2 s3
  unfold wpListIn
  show Code.wpIn _ _ _ _ _ a4 W
  refine wpIn_block (wpIn_loop (fun a w => BI l pb a ∧ ∃ k : Nat, k ≤ 65536 ∧ a.eval (.tmp 3) = .int .i64 ((k : Int) - 1) ∧ J k w) (fun a _ => match a.eval (.tmp 3) with | .int _ n => (n + 1).toNat | _ => 0) ⟨b4, len, hle, e4, h0⟩ ?_)
  rintro a w ⟨hb, k, hk, e3, hJ⟩
  refine wpIn_seq (wpIn_seq (wpIn_region_list ?_))
  refine list_val rfl (nd fun c h => by cases h) (run_move (.inl rfl)) ?_
  rw [e3]
  have c1 := hb.put (.int .i64 ((k : Int) - 1)) (d := 7) (by omega) (by omega) (by omega)
  have f1 : (a.put (some 7) (.int .i64 ((k : Int) - 1))).eval (.tmp 3) = .int .i64 ((k : Int) - 1) := (oth 3 hb (by omega) (by omega)).trans e3
  refine list_val rfl (nd fun c h => by cases h) (run_geq rfl (get hb (by omega))) ?_
  have c2 := c1.put (.bool (decide ((0 : Int) ≤ (k : Int) - 1))) (d := 8) (by omega) (by omega) (by omega)
  have f2 : ((a.put (some 7) (.int .i64 ((k : Int) - 1))).put (some 8) (.bool (decide ((0 : Int) ≤ (k : Int) - 1)))).eval (.tmp 3) = .int .i64 ((k : Int) - 1) := (oth 3 c1 (by omega) (by omega)).trans f1
  have g2 := get (v := .bool (decide ((0 : Int) ≤ (k : Int) - 1))) c1 (d := 8) (by omega)
  show wpListIn _ _ _ _ _ [] ((a.put (some 7) _).put (some 8) _) w
  generalize (a.put (some 7) (.int .i64 ((k : Int) - 1))).put (some 8) (.bool (decide ((0 : Int) ≤ (k : Int) - 1))) = a2 at c2 f2 g2
  clear c1 f1
  unfold wpListIn
  show Code.wpIn _ _ _ _ _ a2 w
  cases k with
  | zero =>
    refine wpIn_cond_false (by rw [g2, decide_eq_false (by omega)]) (wpIn_exit ?_)
    show Exit.inBlock 0 BP (.exit 0) a2 w
    simp only [Exit.inBlock, if_true]
    exact post _ _ _ (.inl rfl) c2.defers (.inl hJ)
  | succ k =>
    refine wpIn_cond_true (by rw [g2, decide_eq_true (by omega)]) (wpIn_skip ?_)
    have f2 : a2.eval (.tmp 3) = .int .i64 (k : Int) := by rw [f2, show (((k + 1 : Nat) : Int) - 1) = (k : Int) by omega]
    obtain ⟨c, off, n, cap, v, h1, h2, h3, fn', tmps, assign, body, hy, hR⟩ := hround k w hJ
    show Code.wpIn _ _ _ _ _ a2 w
    refine wpIn_seq (wpIn_block (wpIn_seq (wpIn_region_list ?_)))
    refine list_val rfl (nd fun c h => by cases h) (run_move (.inl rfl)) ?_
    rw [c2.yld]
    have d1 := c2.put (.func (.yield l) #[] #[]) (d := 11) (by omega) (by omega) (by omega)
    have y1 := get (v := .func (.yield l) #[] #[]) c2 (d := 11) (by omega)
    have t1 := (oth (v := .func (.yield l) #[] #[]) (d := 11) 3 c2 (by omega) (by omega)).trans f2
    show wpListIn _ _ _ _ _ _ (a2.put (some 11) _) w
    generalize a2.put (some 11) (.func (.yield l) #[] #[]) = a3 at d1 y1 t1
    refine list_val rfl (nd fun c h => by cases h) (run_move (.inl rfl)) ?_
    rw [t1]
    have d2 := d1.put (.int .i64 (k : Int)) (d := 12) (by omega) (by omega) (by omega)
    have y2 := (oth (v := .int .i64 (k : Int)) (d := 12) 11 d1 (by omega) (by omega)).trans y1
    have z2 := get (v := .int .i64 (k : Int)) d1 (d := 12) (by omega)
    have t2 := (oth (v := .int .i64 (k : Int)) (d := 12) 3 d1 (by omega) (by omega)).trans t1
    show wpListIn _ _ _ _ _ _ (a3.put (some 12) _) w
    generalize a3.put (some 12) (.int .i64 (k : Int)) = a5 at d2 y2 z2 t2
    refine list_val rfl (nd fun c h => by cases h) (run_load rfl d2.box (load_slice hts h1)) ?_
    have d3 := d2.put (.slice (some ⟨c, off, Option.none⟩) n cap) (d := 13) (by omega) (by omega) (by omega)
    have y3 := (oth (v := .slice (some ⟨c, off, Option.none⟩) n cap) (d := 13) 11 d2 (by omega) (by omega)).trans y2
    have z3 := (oth (v := .slice (some ⟨c, off, Option.none⟩) n cap) (d := 13) 12 d2 (by omega) (by omega)).trans z2
    have t3' := (oth (v := .slice (some ⟨c, off, Option.none⟩) n cap) (d := 13) 3 d2 (by omega) (by omega)).trans t2
    have s3 := get (v := .slice (some ⟨c, off, Option.none⟩) n cap) d2 (d := 13) (by omega)
    show wpListIn _ _ _ _ _ _ (a5.put (some 13) _) w
    generalize a5.put (some 13) (.slice (some ⟨c, off, Option.none⟩) n cap) = a6 at d3 y3 z3 t3' s3
    refine list_val rfl (nd fun c h => by cases h) (run_move (.inl rfl)) ?_
    rw [t3']
    have d4 := d3.put (.int .i64 (k : Int)) (d := 14) (by omega) (by omega) (by omega)
    have y4 := (oth (v := .int .i64 (k : Int)) (d := 14) 11 d3 (by omega) (by omega)).trans y3
    have z4 := (oth (v := .int .i64 (k : Int)) (d := 14) 12 d3 (by omega) (by omega)).trans z3
    have t4' := (oth (v := .int .i64 (k : Int)) (d := 14) 3 d3 (by omega) (by omega)).trans t3'
    have s4 := (oth (v := .int .i64 (k : Int)) (d := 14) 13 d3 (by omega) (by omega)).trans s3
    have i4 := get (v := .int .i64 (k : Int)) d3 (d := 14) (by omega)
    show wpListIn _ _ _ _ _ _ (a6.put (some 14) _) w
    generalize a6.put (some 14) (.int .i64 (k : Int)) = a7 at d4 y4 z4 t4' s4 i4
    refine list_val rfl (nd fun c h => by cases h) (run_index hts hz rfl s4 i4 h2) ?_
    have d5 := d4.put (.pointer (some ⟨c, off + k * z, Option.none⟩)) (d := 15) (by omega) (by omega) (by omega)
    have y5 := (oth (v := .pointer (some ⟨c, off + k * z, Option.none⟩)) (d := 15) 11 d4 (by omega) (by omega)).trans y4
    have z5 := (oth (v := .pointer (some ⟨c, off + k * z, Option.none⟩)) (d := 15) 12 d4 (by omega) (by omega)).trans z4
    have t5 := (oth (v := .pointer (some ⟨c, off + k * z, Option.none⟩)) (d := 15) 3 d4 (by omega) (by omega)).trans t4'
    have p5 := get (v := .pointer (some ⟨c, off + k * z, Option.none⟩)) d4 (d := 15) (by omega)
    show wpListIn _ _ _ _ _ _ (a7.put (some 15) _) w
    generalize a7.put (some 15) (.pointer (some ⟨c, off + k * z, Option.none⟩)) = a8 at d5 y5 z5 t5 p5
    refine list_val rfl (nd fun c h => by cases h) (run_load rfl p5 h3) ?_
    have d6 := d5.put v (d := 16) (by omega) (by omega) (by omega)
    have y6 := (oth (v := v) (d := 16) 11 d5 (by omega) (by omega)).trans y5
    have z6 := (oth (v := v) (d := 16) 12 d5 (by omega) (by omega)).trans z5
    have t6 := (oth (v := v) (d := 16) 3 d5 (by omega) (by omega)).trans t5
    have v6 := get (v := v) d5 (d := 16) (by omega)
    show wpListIn _ _ _ _ _ _ (a8.put (some 16) _) w
    generalize a8.put (some 16) v = a9 at d6 y6 z6 t6 v6
    -- the round
    unfold wpListIn
    have hw : Region.wanted (oper 17 (.call ⟨.value (.tmp 11), #[.tmp 12, .tmp 16], #[t3, e]⟩) (x 12)) = fun _ => true := rfl
    rw [hw]
    simp only [if_true]
    refine ⟨fun _ _ => trivial, ?_⟩
    have hrun : (execOp a9.eval (oper 17 (.call ⟨.value (.tmp 11), #[.tmp 12, .tmp 16], #[t3, e]⟩) (x 12))).run P w = .ok (.round l fn' tmps assign body) w := by
      show ((do let d ← resolve a9.eval ⟨.value (.tmp 11), #[.tmp 12, .tmp 16], #[t3, e]⟩ (x 12).1; invoke d.target d.args) : Sem Next).run P w = _
      simp only [resolve, y6, Deferred.ofValue, Sem.run_bind, Sem.run_pure, Result.andThen, invoke]
      have : (#[] ++ Array.map a9.eval #[.tmp 12, .tmp 16]) = #[.int .i64 (k : Int), v] := by simp [z6, v6]
      simp only [this]
      exact hy
    rw [show Fence.wide.round = Option.none from rfl, Oper.semAt_none, hrun, Oper.uponIn_round]
    refine ⟨fw_depth Option.none 0, hR.mono ?_⟩
    rintro e' W3 (⟨rfl, hJ3⟩ | ⟨rfl, hJ3⟩)
    · show wpListIn _ _ _ _ _ _ (a9.put (some 17) _) W3
      have d7 := d6.put (.bool true) (d := 17) (by omega) (by omega) (by omega)
      have t7 := (oth (v := .bool true) (d := 17) 3 d6 (by omega) (by omega)).trans t6
      have q7 := get (v := .bool true) d6 (d := 17) (by omega)
      generalize a9.put (some 17) (.bool true) = a10 at d7 t7 q7
      refine list_val rfl (nd fun c h => by cases h) (run_not rfl q7) ?_
      have d8 := d7.put (.bool (!true)) (d := 18) (by omega) (by omega) (by omega)
      have t8 := (oth (v := .bool (!true)) (d := 18) 3 d7 (by omega) (by omega)).trans t7
      have q8 := get (v := .bool (!true)) d7 (d := 18) (by omega)
      show wpListIn _ _ _ _ _ [] (a10.put (some 18) _) W3
      generalize a10.put (some 18) (.bool (!true)) = a11 at d8 t8 q8
      unfold wpListIn
      refine wpIn_cond_false (by rw [q8]; rfl) (wpIn_skip ?_)
      show Code.wpIn _ _ _ _ _ a11 W3
      refine wpIn_region_list ?_
      refine list_val rfl (nd fun c h => by cases h) (run_move (.inl rfl)) ?_
      rw [t8]
      have d9 := d8.put (.int .i64 (k : Int)) (d := 9) (by omega) (by omega) (by omega)
      have q9 := get (v := .int .i64 (k : Int)) d8 (d := 9) (by omega)
      show wpListIn _ _ _ _ _ _ (a11.put (some 9) _) W3
      generalize a11.put (some 9) (.int .i64 (k : Int)) = a12 at d9 q9
      refine list_val rfl (nd fun c h => by cases h) (run_sub rfl q9 (by omega) (by omega)) ?_
      have d10 := d9.put (.int .i64 ((k : Int) - 1)) (d := 10) (by omega) (by omega) (by omega)
      have q10 := get (v := .int .i64 ((k : Int) - 1)) d9 (d := 10) (by omega)
      show wpListIn _ _ _ _ _ _ (a12.put (some 10) _) W3
      generalize a12.put (some 10) (.int .i64 ((k : Int) - 1)) = a13 at d10 q10
      refine list_val rfl (nd fun c h => by cases h) (run_move (.inr rfl)) ?_
      rw [q10]
      have d11 := d10.put (.int .i64 ((k : Int) - 1)) (d := 3) (by omega) (by omega) (by omega)
      have q11 := get (v := .int .i64 ((k : Int) - 1)) d10 (d := 3) (by omega)
      show wpListIn _ _ _ _ _ [] (a13.put (some 3) _) W3
      generalize a13.put (some 3) (.int .i64 ((k : Int) - 1)) = a14 at d11 q11
      unfold wpListIn
      refine ⟨⟨d11, k, by omega, q11, hJ3⟩, ?_⟩
      rw [q11]
      show ((k : Int) - 1 + 1).toNat < (((k + 1 : Nat) : Int) - 1 + 1).toNat
      omega
    · show wpListIn _ _ _ _ _ _ (a9.put (some 17) _) W3
      have d7 := d6.put (.bool false) (d := 17) (by omega) (by omega) (by omega)
      have q7 := get (v := .bool false) d6 (d := 17) (by omega)
      generalize a9.put (some 17) (.bool false) = a10 at d7 q7
      refine list_val rfl (nd fun c h => by cases h) (run_not rfl q7) ?_
      have d8 := d7.put (.bool (!false)) (d := 18) (by omega) (by omega) (by omega)
      have q8 := get (v := .bool (!false)) d7 (d := 18) (by omega)
      show wpListIn _ _ _ _ _ [] (a10.put (some 18) _) W3
      generalize a10.put (some 18) (.bool (!false)) = a11 at d8 q8
      unfold wpListIn
      refine wpIn_cond_true (by rw [q8]; rfl) (wpIn_ret ?_)
      show BP .ret a11 W3
      exact post _ _ _ (.inr rfl) d8.defers (.inr hJ3)

def opersOf : Code → List Oper
  | .region _ ops _ => ops.toList
  | .seq a b => opersOf a ++ opersOf b
  | .block _ a => opersOf a
  | .loop a => opersOf a
  | _ => []
def idsOf : Code → List Nat
  | .region i _ _ => [i]
  | .seq a b => idsOf a ++ idsOf b
  | .block _ a => idsOf a
  | .loop a => idsOf a
  | _ => []
def besideOf (c : Code) (k : Nat) : TypeId × String × Array Edge := match (opersOf c)[k]? with
  | some o => (o.type, o.pos, o.after)
  | Option.none => (0, "", #[])
def idOf (c : Code) (k : Nat) : Nat := ((idsOf c)[k]?).getD 0
theorem back_at {gf : FuncId} {fn : Func} {b : Code} (hf : P.funcs[gf]? = some fn) (hnm : (fn.name == "runtime.NumGoroutine") = false) (hn : fn.ntmps = 19) (hr : fn.results = #[]) (hb : fn.body = some b) {ts e t3 t4 : TypeId}
    (hs : b = backBody (besideOf b) (idOf b) ts e t3 t4) (hts : P.underlying ts = some (.slice e)) (z : Nat) (hz : sizeD P e = some z) : BackAt P gf e z :=
  ⟨⟨fn, hf, hnm, by rw [hb]; rfl⟩, fun l pb J Jx len W _ _ hle hbox h0 hround => back_shape hf hn hr (hb.trans (congrArg some hs)) hts hz l pb J Jx len W hle hbox h0 hround⟩
end
end Go.Sx

/- Whole numbers that hang on variables, and what is known of these. -/
namespace Go.Sx
noncomputable section
def bcond.{u} {α : Sort u} (c : Bool) (x y : α) : α := Bool.rec y x c
@[simp] theorem bcond_true.{u} {α : Sort u} (x y : α) : bcond true x y = x := rfl
@[simp] theorem bcond_false.{u} {α : Sort u} (x y : α) : bcond false x y = y := rfl
/-! Whole numbers' sums and products, as the kernel does them fast. -/
def isb (m n : Nat) : Int := bcond (Nat.ble n m) (.ofNat (Nat.sub m n)) (.negSucc (Nat.sub (Nat.sub n m) 1))
def iadd (x y : Int) : Int := Int.rec (fun a => Int.rec (fun b => .ofNat (Nat.add a b)) (fun b => isb a (Nat.succ b)) y) (fun a => Int.rec (fun b => isb b (Nat.succ a)) (fun b => .negSucc (Nat.succ (Nat.add a b))) y) x
def ineg (x : Int) : Int := Int.rec (fun a => Nat.rec (.ofNat 0) (fun n _ => .negSucc n) a) (fun a => .ofNat (Nat.succ a)) x
def imul (x y : Int) : Int := Int.rec (fun a => Int.rec (fun b => .ofNat (Nat.mul a b)) (fun b => ineg (.ofNat (Nat.mul a (Nat.succ b)))) y) (fun a => Int.rec (fun b => ineg (.ofNat (Nat.mul (Nat.succ a) b))) (fun b => .ofNat (Nat.mul (Nat.succ a) (Nat.succ b))) y) x
def ile0 (x : Int) : Bool := Int.rec (fun a => Nat.beq a 0) (fun _ => true) x
def iz (x : Int) : Bool := Int.rec (fun a => Nat.beq a 0) (fun _ => false) x
def inn (x : Int) : Bool := Int.rec (fun _ => true) (fun _ => false) x
theorem isb_eq (m n : Nat) : isb m n = (m : Int) - n := by
  unfold isb
  cases h : Nat.ble n m with
  | true => have := Nat.le_of_ble_eq_true h; simp only [bcond_true, Int.ofNat_eq_natCast, Nat.sub_eq]; omega
  | false =>
    have : ¬ n ≤ m := fun e => by rw [Nat.ble_eq_true_of_le e] at h; cases h
    simp only [bcond_false, Nat.sub_eq, Int.negSucc_eq]; omega
theorem iadd_eq (x y : Int) : iadd x y = x + y := by
  cases x with
  | ofNat a => cases y with
    | ofNat b => rfl
    | negSucc b => show isb a (Nat.succ b) = _; rw [isb_eq]; simp only [Int.ofNat_eq_natCast, Int.negSucc_eq]; omega
  | negSucc a => cases y with
    | ofNat b => show isb b (Nat.succ a) = _; rw [isb_eq]; simp only [Int.ofNat_eq_natCast, Int.negSucc_eq]; omega
    | negSucc b => rfl
theorem ineg_eq (x : Int) : ineg x = -x := by
  cases x with
  | ofNat a => cases a <;> rfl
  | negSucc a => rfl
theorem imul_eq (x y : Int) : imul x y = x * y := by
  cases x with
  | ofNat a => cases y with
    | ofNat b => rfl
    | negSucc b => show ineg (.ofNat (Nat.mul a (Nat.succ b))) = _; rw [ineg_eq]; rfl
  | negSucc a => cases y with
    | ofNat b => show ineg (.ofNat (Nat.mul (Nat.succ a) b)) = _; rw [ineg_eq]; rfl
    | negSucc b => rfl
theorem ile0_eq (x : Int) : ile0 x = decide (x ≤ 0) := by
  cases x with
  | ofNat a =>
    cases a with
    | zero => rfl
    | succ n => exact (decide_eq_false (by simp only [Int.ofNat_eq_natCast]; omega)).symm
  | negSucc a => exact (decide_eq_true (by simp only [Int.negSucc_eq]; omega)).symm
theorem iz_eq (x : Int) : iz x = decide (x = 0) := by
  cases x with
  | ofNat a =>
    cases a with
    | zero => rfl
    | succ n => exact (decide_eq_false (by simp only [Int.ofNat_eq_natCast]; omega)).symm
  | negSucc a => exact (decide_eq_false (by simp only [Int.negSucc_eq]; omega)).symm
theorem inn_eq (x : Int) : inn x = decide (0 ≤ x) := by
  cases x with
  | ofNat a => exact (decide_eq_true (by simp only [Int.ofNat_eq_natCast]; omega)).symm
  | negSucc a => exact (decide_eq_false (by simp only [Int.negSucc_eq]; omega)).symm
def oRec.{u, v} {α : Type u} {β : Type v} (o : Option α) (n : β) (s : α → β) : β := Option.rec n s o
@[simp] theorem oRec_none.{u, v} {α : Type u} {β : Type v} (n : β) (s : α → β) : oRec none n s = n := rfl
@[simp] theorem oRec_some.{u, v} {α : Type u} {β : Type v} (x : α) (n : β) (s : α → β) : oRec (some x) n s = s x := rfl
abbrev Ts := List (Nat × Int)
inductive KI where
  | p (n : Nat)
  | m (n : Nat)
  | a (c : Int) (ts : Ts)
  deriving Inhabited

def evT (ρ : Nat → Int) : Ts → Int
  | [] => 0
  | x :: l => x.2 * ρ x.1 + evT ρ l
def KI.ev (ρ : Nat → Int) : KI → Int
  | .p n => n
  | .m n => -(n : Int) - 1
  | .a c ts => c + evT ρ ts
def KI.ofInt (x : Int) : KI := Int.rec (fun n => .p n) (fun n => .m n) x
theorem KI.ofInt_ev (ρ : Nat → Int) (i : Int) : (KI.ofInt i).ev ρ = i := by
  cases i with
  | ofNat n => rfl
  | negSucc n => show -(n : Int) - 1 = _; rw [Int.negSucc_eq]; omega
def KI.cst : KI → Option Int
  | .p n => some (.ofNat n)
  | .m n => some (.negSucc n)
  | .a _ _ => none
theorem KI.cst_ev {ρ : Nat → Int} {x : KI} {i : Int} (h : x.cst = some i) : x.ev ρ = i := by
  cases x <;> simp [KI.cst] at h <;> subst h <;> simp [KI.ev, Int.negSucc_eq]; omega
def KI.cOf (x : KI) : Int := KI.rec (fun n => .ofNat n) (fun n => .negSucc n) (fun c _ => c) x
def KI.tOf (x : KI) : Ts := KI.rec (fun _ => []) (fun _ => []) (fun _ ts => ts) x
theorem KI.split (ρ : Nat → Int) (x : KI) : x.ev ρ = x.cOf + evT ρ x.tOf := by
  cases x with
  | p n => show (n : Int) = (n : Int) + 0; omega
  | m n => show -(n : Int) - 1 = Int.negSucc n + 0; rw [Int.negSucc_eq]; omega
  | a c ts => rfl
def KI.mk (c : Int) (ts : Ts) : KI := List.rec (KI.ofInt c) (fun x l _ => .a c (x :: l)) ts
theorem KI.mk_ev (ρ : Nat → Int) (c : Int) (ts : Ts) : (KI.mk c ts).ev ρ = c + evT ρ ts := by
  cases ts with
  | nil => show (KI.ofInt c).ev ρ = c + 0; rw [KI.ofInt_ev]; omega
  | cons x l => rfl

def insT (v : Nat) (k : Int) (l : Ts) : Ts :=
  List.rec [(v, k)] (fun x r ih => bcond (Nat.beq v x.1) (bcond (iz (iadd k x.2)) r ((v, iadd k x.2) :: r)) (bcond (Nat.blt v x.1) ((v, k) :: x :: r) (x :: ih))) l
theorem insT_ev (ρ : Nat → Int) (v : Nat) (k : Int) (l : Ts) : evT ρ (insT v k l) = k * ρ v + evT ρ l := by
  induction l with
  | nil => simp [insT, evT]
  | cons x r ih =>
    show evT ρ (bcond (Nat.beq v x.1) (bcond (iz (iadd k x.2)) r ((v, iadd k x.2) :: r)) (bcond (Nat.blt v x.1) ((v, k) :: x :: r) (x :: insT v k r))) = _
    rw [iz_eq, iadd_eq]
    cases h1 : Nat.beq v x.1 with
    | true =>
      have e := Nat.eq_of_beq_eq_true h1
      simp only [bcond_true]
      cases h2 : decide (k + x.2 = 0) with
      | true =>
        have e2 : k + x.2 = 0 := by simpa using h2
        have : k * ρ v + x.2 * ρ x.1 = 0 := by rw [← e, ← Int.add_mul, e2, Int.zero_mul]
        simp only [bcond_true, evT]; omega
      | false =>
        have : (k + x.2) * ρ v = k * ρ v + x.2 * ρ x.1 := by rw [← e, Int.add_mul]
        simp only [bcond_false, evT, this]; omega
    | false =>
      simp only [bcond_false]
      cases h2 : Nat.blt v x.1 with
      | true => simp only [bcond_true, evT]
      | false => simp only [bcond_false, evT, ih]; omega
def addT (l l' : Ts) : Ts := List.rec l' (fun x _ ih => insT x.1 x.2 ih) l
theorem addT_ev (ρ : Nat → Int) (l l' : Ts) : evT ρ (addT l l') = evT ρ l + evT ρ l' := by
  induction l with
  | nil => simp [addT, evT]
  | cons x r ih =>
    show evT ρ (insT x.1 x.2 (addT r l')) = _
    rw [insT_ev, ih]; simp only [evT]; omega
def scT (k : Int) (l : Ts) : Ts := List.rec [] (fun x _ ih => (x.1, imul k x.2) :: ih) l
theorem scT_ev (ρ : Nat → Int) (k : Int) (l : Ts) : evT ρ (scT k l) = k * evT ρ l := by
  induction l with
  | nil => simp [scT, evT]
  | cons x r ih =>
    show evT ρ ((x.1, imul k x.2) :: scT k r) = _
    simp only [evT, imul_eq, ih, Int.mul_add, Int.mul_assoc]
def negT (l : Ts) : Ts := List.rec [] (fun x _ ih => (x.1, ineg x.2) :: ih) l
theorem negT_eq (l : Ts) : negT l = scT (-1) l := by
  induction l with
  | nil => rfl
  | cons x r ih =>
    show (x.1, ineg x.2) :: negT r = (x.1, imul (-1) x.2) :: scT (-1) r
    rw [ih, ineg_eq, imul_eq, Int.neg_one_mul]

def KI.neg (x : KI) : KI := KI.rec (fun n => Nat.rec (.p 0) (fun n _ => .m n) n) (fun n => .p (Nat.succ n)) (fun c ts => .a (ineg c) (negT ts)) x
theorem KI.neg_ev (ρ : Nat → Int) (x : KI) : x.neg.ev ρ = -x.ev ρ := by
  cases x with
  | p n => cases n <;> simp [KI.neg, KI.ev]; omega
  | m n => simp [KI.neg, KI.ev]; omega
  | a c ts => show ineg c + evT ρ (negT ts) = -(c + evT ρ ts); rw [negT_eq, scT_ev, ineg_eq]; omega
def KI.pm (a b : Nat) : KI := bcond (Nat.ble a b) (.m (Nat.sub b a)) (.p (Nat.sub (Nat.sub a b) 1))
theorem KI.pm_ev (ρ : Nat → Int) (a b : Nat) : (KI.pm a b).ev ρ = (a : Int) + (-(b : Int) - 1) := by
  unfold KI.pm
  cases h : Nat.ble a b with
  | true =>
    have := Nat.le_of_ble_eq_true h
    simp only [bcond_true, KI.ev, Nat.sub_eq]; omega
  | false =>
    have : ¬ a ≤ b := fun e => by rw [Nat.ble_eq_true_of_le e] at h; cases h
    simp only [bcond_false, KI.ev, Nat.sub_eq]; omega
def KI.addG (x y : KI) : KI := KI.mk (iadd x.cOf y.cOf) (addT x.tOf y.tOf)
def KI.add (x y : KI) : KI := KI.rec
  (fun i => KI.rec (fun j => .p (Nat.add i j)) (fun j => KI.pm i j) (fun c ts => .a (iadd (.ofNat i) c) ts) y)
  (fun i => KI.rec (fun j => KI.pm j i) (fun j => .m (Nat.succ (Nat.add i j))) (fun c ts => .a (iadd (.negSucc i) c) ts) y)
  (fun c ts => KI.rec (fun j => .a (iadd c (.ofNat j)) ts) (fun j => .a (iadd c (.negSucc j)) ts) (fun d us => KI.mk (iadd c d) (addT ts us)) y) x
theorem KI.addG_ev (ρ : Nat → Int) (x y : KI) : (KI.addG x y).ev ρ = x.ev ρ + y.ev ρ := by
  unfold KI.addG
  rw [KI.mk_ev, addT_ev, KI.split ρ x, KI.split ρ y, iadd_eq]; omega
theorem KI.add_ev (ρ : Nat → Int) (x y : KI) : (KI.add x y).ev ρ = x.ev ρ + y.ev ρ := by
  cases x with
  | p i => cases y with
    | p j => show ((Nat.add i j : Nat) : Int) = i + j; rw [Nat.add_eq]; omega
    | m j => exact KI.pm_ev ρ i j
    | a c ts => show iadd (.ofNat i) c + evT ρ ts = i + (c + evT ρ ts); rw [iadd_eq, Int.ofNat_eq_natCast]; omega
  | m i => cases y with
    | p j => show (KI.pm j i).ev ρ = _; rw [KI.pm_ev]; show _ = (-(i : Int) - 1) + j; omega
    | m j => show -((Nat.succ (Nat.add i j) : Nat) : Int) - 1 = (-(i : Int) - 1) + (-(j : Int) - 1); rw [Nat.add_eq]; omega
    | a c ts => show iadd (.negSucc i) c + evT ρ ts = (-(i : Int) - 1) + (c + evT ρ ts); rw [iadd_eq, Int.negSucc_eq]; omega
  | a c ts => cases y with
    | p j => show iadd c (.ofNat j) + evT ρ ts = c + evT ρ ts + j; rw [iadd_eq, Int.ofNat_eq_natCast]; omega
    | m j => show iadd c (.negSucc j) + evT ρ ts = c + evT ρ ts + (-(j : Int) - 1); rw [iadd_eq, Int.negSucc_eq]; omega
    | a d us => show (KI.mk (iadd c d) (addT ts us)).ev ρ = c + evT ρ ts + (d + evT ρ us); rw [KI.mk_ev, addT_ev, iadd_eq]; omega
def KI.sub (x y : KI) : KI := x.add y.neg
theorem KI.sub_ev (ρ : Nat → Int) (x y : KI) : (KI.sub x y).ev ρ = x.ev ρ - y.ev ρ := by
  unfold KI.sub; rw [KI.add_ev, KI.neg_ev]; omega
def KI.scale (k : Int) (x : KI) : KI := bcond (iz k) (.p 0) (KI.mk (imul k x.cOf) (scT k x.tOf))
theorem KI.scale_ev (ρ : Nat → Int) (k : Int) (x : KI) : (KI.scale k x).ev ρ = k * x.ev ρ := by
  unfold KI.scale
  rw [iz_eq]
  cases h : decide (k = 0) with
  | true =>
    have : k = 0 := by simpa using h
    simp [KI.ev, this]
  | false => simp only [bcond_false, KI.mk_ev, scT_ev, imul_eq, KI.split ρ x, Int.mul_add]
def KI.mul (x y : KI) : Option KI :=
  match x.cst with
  | some k => some (y.scale k)
  | none => match y.cst with
    | some k => some (x.scale k)
    | none => none
theorem KI.mul_ev (ρ : Nat → Int) {x y z : KI} (h : KI.mul x y = some z) : z.ev ρ = x.ev ρ * y.ev ρ := by
  unfold KI.mul at h
  cases hx : x.cst with
  | some k => rw [hx] at h; cases h; rw [KI.scale_ev, KI.cst_ev hx]
  | none =>
    rw [hx] at h
    cases hy : y.cst with
    | some k => rw [hy] at h; cases h; rw [KI.scale_ev, KI.cst_ev hy, Int.mul_comm]
    | none => rw [hy] at h; cases h

/-! ### What is known of the variables -/
abbrev Con := Int × Ts
/-- What is known of variable z: it is what an operator makes of two numbers, or a number turned into another kind. -/
structure Df where
  n : Nat
  k : IntKind
  x : KI
  y : KI
  z : Nat
/-- What is known: of each variable its bounds, of all of them what is at most 0, and of some what they are. -/
structure Cx where
  box : List (Int × Int)
  cs : List Con
  df : List Df
/-- An operator by its number: 0 mul, 1 quo, 2 rem, 3 and, 4 or, 5 xor, 6 shr, 7 turned into another kind, 8 shl. -/
def dfV (n : Nat) (k : IntKind) (x y : Int) : Option Int := match n with
  | 0 => some (k.wrap (x * y))
  | 1 => if y = 0 then none else some (k.wrap (x.tdiv y))
  | 2 => if y = 0 then none else some (x.tmod y)
  | 3 => some (k.wrap (BitVec.ofInt k.bits x &&& BitVec.ofInt k.bits y).toNat)
  | 4 => some (k.wrap (BitVec.ofInt k.bits x ||| BitVec.ofInt k.bits y).toNat)
  | 5 => some (k.wrap (BitVec.ofInt k.bits x ^^^ BitVec.ofInt k.bits y).toNat)
  | 6 => if y < 0 then none else some (x.fdiv (2 ^ (min y.toNat k.bits)))
  | 7 => some (k.wrap x)
  | 8 => if y < 0 then none else some (k.wrap (x * 2 ^ (min y.toNat k.bits)))
  | _ => none
def Df.ok (ρ : Nat → Int) (d : Df) : Prop := dfV d.n d.k (d.x.ev ρ) (d.y.ev ρ) = some (ρ d.z)
def Con.ok (ρ : Nat → Int) (c : Con) : Prop := c.1 + evT ρ c.2 ≤ 0
def boxOk (ρ : Nat → Int) (box : List (Int × Int)) : Prop := ∀ v b, box[v]? = some b → b.1 ≤ ρ v ∧ ρ v ≤ b.2
/-! A text that is not known: variable v is its rank among the texts (its box begins at 'svLo'), variable svBase + v its code. -/
def svBase : Nat := 1000000
def svLo : Int := -1000003
def encS : List UInt8 → Nat
  | [] => 0
  | c :: l => c.toNat + 1 + 257 * encS l
def decS : Nat → Nat → List UInt8
  | 0, _ => []
  | f + 1, n => if n = 0 then [] else UInt8.ofNat (n % 257 - 1) :: decS f (n / 257)
theorem decS_enc : ∀ (l : List UInt8) (f : Nat), encS l ≤ f → decS f (encS l) = l
  | [], f, _ => by cases f <;> simp [encS, decS]
  | c :: l, 0, h => by simp only [encS] at h; omega
  | c :: l, f + 1, h => by
    have hc : c.toNat < 256 := c.toNat_lt
    simp only [encS] at h
    have h0 : encS (c :: l) ≠ 0 := by simp only [encS]; omega
    have h1 : encS (c :: l) % 257 - 1 = c.toNat := by simp only [encS]; omega
    have h2 : encS (c :: l) / 257 = encS l := by simp only [encS]; omega
    simp only [decS, if_neg h0, h1, h2]
    rw [decS_enc l f (by omega)]
    simp
def svS (ρ : Nat → Int) (v : Nat) : List UInt8 := decS (ρ (svBase + v)).toNat (ρ (svBase + v)).toNat
def SvOk (ρ : Nat → Int) (box : List (Int × Int)) : Prop := ∀ v w a b, box[v]? = some a → box[w]? = some b → a.1 = svLo → b.1 = svLo →
  Op.bytesLess (svS ρ v) (svS ρ w) = decide (ρ v < ρ w) ∧ (svS ρ v == svS ρ w) = decide (ρ v = ρ w)
structure Sat (ρ : Nat → Int) (cx : Cx) : Prop where
  box : boxOk ρ cx.box
  cs : ∀ c ∈ cx.cs, Con.ok ρ c
  sv : SvOk ρ cx.box
  df : ∀ d ∈ cx.df, Df.ok ρ d

def nthB (l : List (Int × Int)) (v : Nat) : Option (Int × Int) := List.rec (fun _ => none) (fun x _ ih v => Nat.rec (some x) (fun n _ => ih n) v) l v
theorem nthB_eq (l : List (Int × Int)) : ∀ v, nthB l v = l[v]? := by
  induction l with
  | nil => intro v; rfl
  | cons x r ih => intro v; cases v with
    | zero => rfl
    | succ n => exact ih n
/-- The greatest that the terms may be. -/
def ubT (box : List (Int × Int)) (ts : Ts) : Option Int :=
  List.rec (some (.ofNat 0)) (fun x _ ih => oRec ih none fun u => oRec (nthB box x.1) none fun b => some (iadd u (bcond (inn x.2) (imul x.2 b.2) (imul x.2 b.1)))) ts
theorem ubT_le {ρ : Nat → Int} {box : List (Int × Int)} (hb : boxOk ρ box) : ∀ (ts : Ts) (u : Int), ubT box ts = some u → evT ρ ts ≤ u
  | [], u, h => by
    have : (some 0 : Option Int) = some u := h
    cases this; simp [evT]
  | x :: l, u, h => by
    have h' : (oRec (ubT box l) none fun u => oRec (nthB box x.1) none fun b => some (iadd u (bcond (inn x.2) (imul x.2 b.2) (imul x.2 b.1)))) = some u := h
    cases h1 : ubT box l with
    | none => rw [h1] at h'; cases h'
    | some u1 =>
      cases h2 : nthB box x.1 with
      | none => rw [h1, h2] at h'; cases h'
      | some b =>
        rw [h1, h2] at h'
        simp only [oRec_some, Option.some.injEq, iadd_eq, imul_eq, inn_eq] at h'
        have ih := ubT_le hb l u1 h1
        rw [nthB_eq] at h2
        have ⟨b1, b2⟩ := hb _ _ h2
        have : x.2 * ρ x.1 ≤ bcond (decide (0 ≤ x.2)) (x.2 * b.2) (x.2 * b.1) := by
          by_cases hk : 0 ≤ x.2
          · rw [decide_eq_true hk]; exact Int.mul_le_mul_of_nonneg_left b2 hk
          · rw [decide_eq_false hk]; exact Int.mul_le_mul_of_nonpos_left (by omega) b1
        simp only [evT]; omega

/-! ### No numbers are so -/
def coefT (v : Nat) (ts : Ts) : Int := List.rec 0 (fun x _ ih => bcond (Nat.beq v x.1) x.2 ih) ts
def combine (a : Int) (x : Con) (b : Int) (y : Con) : Con := (iadd (imul a x.1) (imul b y.1), addT (scT a x.2) (scT b y.2))
theorem combine_ok {ρ : Nat → Int} {a b : Int} {x y : Con} (ha : 0 ≤ a) (hb : 0 ≤ b) (hx : Con.ok ρ x) (hy : Con.ok ρ y) : Con.ok ρ (combine a x b y) := by
  unfold Con.ok combine at *
  simp only [addT_ev, scT_ev, iadd_eq, imul_eq]
  have h1 := Int.mul_le_mul_of_nonneg_left hx ha
  have h2 := Int.mul_le_mul_of_nonneg_left hy hb
  rw [Int.mul_add, Int.mul_zero] at h1 h2
  omega
/-- One with variable v is paired with all that have it the other way round. -/
def pairUp (v : Nat) (x : Con) (k : Int) (l : List Con) (acc : List Con) : List Con :=
  List.rec acc (fun y _ ih => if coefT v y.2 < 0 then combine (-coefT v y.2) x k y :: ih else ih) l
theorem pairUp_ok {ρ : Nat → Int} {v : Nat} {x : Con} {k : Int} (hx : Con.ok ρ x) (hk : 0 ≤ k) (acc : List Con) (ha : ∀ c ∈ acc, Con.ok ρ c) : ∀ (l : List Con), (∀ c ∈ l, Con.ok ρ c) → ∀ c ∈ pairUp v x k l acc, Con.ok ρ c
  | [], _, c, hc => ha c hc
  | y :: l, hl, c, hc => by
    have ih := pairUp_ok (v := v) hx hk acc ha l (fun c h => hl c (List.mem_cons_of_mem _ h))
    have hc' : c ∈ (if coefT v y.2 < 0 then combine (-coefT v y.2) x k y :: pairUp v x k l acc else pairUp v x k l acc) := hc
    split at hc'
    · rename_i hlt
      rcases List.mem_cons.1 hc' with e | e
      · subst e; exact combine_ok (by omega) hk hx (hl y (List.mem_cons_self ..))
      · exact ih c e
    · exact ih c hc'
def elimV (v : Nat) (all : List Con) (l : List Con) : List Con :=
  List.rec [] (fun x _ ih => if coefT v x.2 = 0 then x :: ih else if 0 < coefT v x.2 then pairUp v x (coefT v x.2) all ih else ih) l
theorem elimV_ok {ρ : Nat → Int} {v : Nat} {all : List Con} (ha : ∀ c ∈ all, Con.ok ρ c) : ∀ (l : List Con), (∀ c ∈ l, Con.ok ρ c) → ∀ c ∈ elimV v all l, Con.ok ρ c
  | [], _, c, hc => by cases hc
  | x :: l, hl, c, hc => by
    have ih := elimV_ok (v := v) ha l (fun c h => hl c (List.mem_cons_of_mem _ h))
    have hc' : c ∈ (if coefT v x.2 = 0 then x :: elimV v all l else if 0 < coefT v x.2 then pairUp v x (coefT v x.2) all (elimV v all l) else elimV v all l) := hc
    split at hc'
    · rcases List.mem_cons.1 hc' with e | e
      · subst e; exact hl _ (List.mem_cons_self ..)
      · exact ih c e
    · split at hc'
      · rename_i hlt
        exact pairUp_ok (hl x (List.mem_cons_self ..)) (by omega) _ ih all ha c hc'
      · exact ih c hc'
/-- Surely one is not so. -/
def anyBad (l : List Con) : Bool := List.rec false (fun x _ ih => match x.2 with | [] => decide (0 < x.1) || ih | _ => ih) l
theorem anyBad_no {ρ : Nat → Int} : ∀ (l : List Con), (∀ c ∈ l, Con.ok ρ c) → anyBad l = false
  | [], _ => rfl
  | x :: l, hl => by
    have ih := anyBad_no l (fun c h => hl c (List.mem_cons_of_mem _ h))
    show (match x.2 with | [] => decide (0 < x.1) || anyBad l | _ => anyBad l) = false
    have hx := hl x (List.mem_cons_self ..)
    unfold Con.ok at hx
    split
    · rename_i e; rw [e] at hx; simp only [evT] at hx
      rw [ih]; simp; omega
    · exact ih
def infeas (n : Nat) (l : List Con) : Bool := Nat.rec (fun l => anyBad l) (fun v ih l => anyBad l || (Nat.ble l.length 60 && ih (elimV v l l))) n l
theorem infeas_no {ρ : Nat → Int} : ∀ (n : Nat) (l : List Con), (∀ c ∈ l, Con.ok ρ c) → infeas n l = false
  | 0, l, h => anyBad_no l h
  | n + 1, l, h => by
    show (anyBad l || (Nat.ble l.length 60 && infeas n (elimV n l l))) = false
    rw [anyBad_no l h, infeas_no n _ (elimV_ok h l h)]; simp
/-- The box's own, for the variables. -/
def boxCs (box : List (Int × Int)) : Nat → List Con := List.rec (fun _ => []) (fun b _ ih v => (b.1, [(v, -1)]) :: (-b.2, [(v, 1)]) :: ih (Nat.succ v)) box
theorem boxCs_ok {ρ : Nat → Int} : ∀ (box : List (Int × Int)) (v : Nat), (∀ i b, box[i]? = some b → b.1 ≤ ρ (v + i) ∧ ρ (v + i) ≤ b.2) → ∀ c ∈ boxCs box v, Con.ok ρ c
  | [], v, _, c, hc => by cases hc
  | b :: l, v, h, c, hc => by
    have hc' : c ∈ (b.1, [(v, -1)]) :: (-b.2, [(v, 1)]) :: boxCs l (Nat.succ v) := hc
    have h0 := h 0 b rfl
    rcases List.mem_cons.1 hc' with e | e
    · subst e; simp [Con.ok, evT]; have := h0.1; simp at this; omega
    · rcases List.mem_cons.1 e with e | e
      · subst e; simp [Con.ok, evT]; have := h0.2; simp at this; omega
      · exact boxCs_ok l (v + 1) (fun i b hb => by
          have := h (i + 1) b (by simpa using hb)
          have e : v + (i + 1) = v + 1 + i := by omega
          rwa [e] at this) c e
def Cx.dead (cx : Cx) : Bool := infeas cx.box.length (cx.cs ++ boxCs cx.box 0)
theorem Cx.dead_no {ρ : Nat → Int} {cx : Cx} (h : Sat ρ cx) : cx.dead = false := by
  unfold Cx.dead
  refine infeas_no (ρ := ρ) _ _ (fun c hc => ?_)
  rcases List.mem_append.1 hc with e | e
  · exact h.cs c e
  · exact boxCs_ok cx.box 0 (fun i b hb => by simpa using h.box i b hb) c e
def Cx.with (cx : Cx) (c : Con) : Cx := ⟨cx.box, c :: cx.cs, cx.df⟩
theorem Sat.with {ρ : Nat → Int} {cx : Cx} {c : Con} (h : Sat ρ cx) (hc : Con.ok ρ c) : Sat ρ (cx.with c) :=
  ⟨h.box, fun x hx => by rcases List.mem_cons.1 hx with e | e; exact e ▸ hc; exact h.cs x e, h.sv, h.df⟩

/-- Surely not so, by the bounds alone. -/
def oneSub (c : Int) : Int := iadd (.ofNat 1) (ineg c)
theorem oneSub_eq (c : Int) : oneSub c = 1 - c := by unfold oneSub; rw [iadd_eq, ineg_eq]; simp only [Int.ofNat_eq_natCast]; omega
def badBox (box : List (Int × Int)) (q : Con) : Bool := oRec (ubT box (negT q.2)) false fun l => ile0 (iadd (oneSub q.1) l)
theorem badBox_no {ρ : Nat → Int} {box : List (Int × Int)} (hb : boxOk ρ box) {q : Con} (hq : Con.ok ρ q) : badBox box q = false := by
  unfold badBox
  rw [negT_eq]
  cases h : ubT box (scT (-1) q.2) with
  | none => rfl
  | some l =>
    have := ubT_le hb _ _ h
    rw [scT_ev] at this
    unfold Con.ok at hq
    rw [oRec_some, ile0_eq, iadd_eq, oneSub_eq]
    exact decide_eq_false (by omega)
/-- Two that have a variable the other way round, put together at the first such one. -/
def joinC (q x : Con) : Option Con := List.rec Option.none (fun t _ ih => let k := coefT t.1 x.2; bcond (decide (t.2 * k < 0)) (some (combine (Int.ofNat k.natAbs) q (Int.ofNat t.2.natAbs) x)) ih) q.2
theorem joinC_ok {ρ : Nat → Int} {q x r : Con} (hq : Con.ok ρ q) (hx : Con.ok ρ x) (h : joinC q x = some r) : Con.ok ρ r := by
  have go : ∀ l : Ts, (List.rec Option.none (fun t _ ih => let k := coefT t.1 x.2; bcond (decide (t.2 * k < 0)) (some (combine (Int.ofNat k.natAbs) q (Int.ofNat t.2.natAbs) x)) ih) l : Option Con) = some r → Con.ok ρ r := by
    intro l
    induction l with
    | nil => intro h; cases h
    | cons t l ih =>
      intro h
      change bcond (decide (t.2 * coefT t.1 x.2 < 0)) (some (combine (Int.ofNat (coefT t.1 x.2).natAbs) q (Int.ofNat t.2.natAbs) x)) _ = some r at h
      by_cases c : t.2 * coefT t.1 x.2 < 0
      · simp only [c, decide_true, bcond_true, Option.some.injEq] at h
        rw [← h]
        exact combine_ok (Int.natCast_nonneg _) (Int.natCast_nonneg _) hq hx
      · simp only [c, decide_false, bcond_false] at h
        exact ih h
  exact go q.2 h
def anyC (f : Con → Bool) (cs : List Con) : Bool := List.rec false (fun x _ ih => bcond (f x) true ih) cs
theorem anyC_no {f : Con → Bool} : ∀ {cs : List Con}, (∀ x ∈ cs, f x = false) → anyC f cs = false
  | [], _ => rfl
  | x :: cs, h => by
    show bcond (f x) true (anyC f cs) = false
    rw [h x (List.mem_cons_self ..), bcond_false]
    exact anyC_no fun y hy => h y (List.mem_cons_of_mem _ hy)
/-- Surely not so, by a few of what is known and the bounds. -/
def chainC (box : List (Int × Int)) (cs : List Con) (n : Nat) : Con → Bool := Nat.rec (fun q => badBox box q) (fun _ ih q => bcond (badBox box q) true (anyC (fun x => match joinC q x with | some r => ih r | none => false) cs)) n
theorem chainC_no {ρ : Nat → Int} {box : List (Int × Int)} {cs : List Con} (hb : boxOk ρ box) (hc : ∀ x ∈ cs, Con.ok ρ x) : ∀ (n : Nat) {q : Con}, Con.ok ρ q → chainC box cs n q = false
  | 0, q, hq => badBox_no hb hq
  | n + 1, q, hq => by
    show bcond (badBox box q) true (anyC (fun x => match joinC q x with | some r => chainC box cs n r | none => false) cs) = false
    rw [badBox_no hb hq, bcond_false]
    refine anyC_no fun x hx => ?_
    cases h : joinC q x with
    | none => rfl
    | some r => exact chainC_no hb hc n (joinC_ok hq (hc x hx) h)
/-- Is a further fact against what is known? -/
def Cx.deadQ (cx : Cx) (q : Con) : Bool := (cx.with q).dead
theorem Cx.deadQ_no {ρ : Nat → Int} {cx : Cx} {q : Con} (h : Sat ρ cx) (hq : Con.ok ρ q) : cx.deadQ q = false := Cx.dead_no (h.with hq)
/-! What is known already, word for word. -/
def intEq (a b : Int) : Bool := match a with
  | .ofNat i => match b with
    | .ofNat j => Nat.beq i j
    | .negSucc _ => false
  | .negSucc i => match b with
    | .ofNat _ => false
    | .negSucc j => Nat.beq i j
theorem intEq_eq {a b : Int} (h : intEq a b = true) : a = b := by
  cases a <;> cases b <;> simp only [intEq] at h <;> first | (cases h; done) | (rw [Nat.eq_of_beq_eq_true h])
def tsEq (l l' : Ts) : Bool := List.rec (fun l' => List.rec true (fun _ _ _ => false) l') (fun x _ ih l' => List.rec false (fun y r _ => bcond (Nat.beq x.1 y.1) (bcond (intEq x.2 y.2) (ih r) false) false) l') l l'
theorem tsEq_eq : ∀ {l l' : Ts}, tsEq l l' = true → l = l'
  | [], [], _ => rfl
  | [], _ :: _, h => by cases h
  | _ :: _, [], h => by cases h
  | x :: l, y :: r, h => by
    change bcond (Nat.beq x.1 y.1) (bcond (intEq x.2 y.2) (tsEq l r) false) false = true at h
    cases h1 : Nat.beq x.1 y.1 with
    | false => rw [h1] at h; cases h
    | true =>
      rw [h1] at h
      cases h2 : intEq x.2 y.2 with
      | false => rw [h2] at h; cases h
      | true =>
        rw [h2] at h
        have e1 := Nat.eq_of_beq_eq_true h1
        have e2 := intEq_eq h2
        rw [tsEq_eq (l := l) (l' := r) h]
        obtain ⟨a, b⟩ := x; obtain ⟨c, d⟩ := y
        simp only at e1 e2; rw [e1, e2]
def knownLe (cs : List Con) (c : Int) (ts : Ts) : Bool := List.rec false (fun x _ ih => bcond (tsEq x.2 ts) (bcond (ile0 (iadd c (ineg x.1))) true ih) ih) cs
theorem knownLe_ok {ρ : Nat → Int} {c : Int} {ts : Ts} : ∀ {cs : List Con}, (∀ x ∈ cs, Con.ok ρ x) → knownLe cs c ts = true → c + evT ρ ts ≤ 0
  | [], _, h => by cases h
  | x :: cs, hx, h => by
    have ih := fun h => knownLe_ok (c := c) (ts := ts) (cs := cs) (fun y hy => hx y (List.mem_cons_of_mem _ hy)) h
    change bcond (tsEq x.2 ts) (bcond (ile0 (iadd c (ineg x.1))) true (knownLe cs c ts)) (knownLe cs c ts) = true at h
    rw [ile0_eq, iadd_eq, ineg_eq] at h
    cases h1 : tsEq x.2 ts with
    | false => rw [h1] at h; exact ih h
    | true =>
      rw [h1] at h
      simp only [bcond_true] at h
      by_cases h2 : c + -x.1 ≤ 0
      · have h0 := hx x (List.mem_cons_self ..)
        unfold Con.ok at h0
        rw [tsEq_eq h1] at h0
        omega
      · simp only [h2, decide_false, bcond_false] at h
        exact ih h
/-! What is worked out is laid down as it is. -/
def forceM.{u} {β : Sort u} (n : Nat) (k : Nat → β) : β := Nat.rec (k 0) (fun m _ => k (Nat.succ m)) n
theorem forceM_eq.{u} {β : Sort u} (n : Nat) (k : Nat → β) : forceM n k = k n := by cases n <;> rfl
def forceZ.{u} {β : Sort u} (x : Int) (k : Int → β) : β := Int.rec (fun n => forceM n fun n => k (.ofNat n)) (fun n => forceM n fun n => k (.negSucc n)) x
theorem forceZ_eq.{u} {β : Sort u} (x : Int) (k : Int → β) : forceZ x k = k x := by
  cases x with
  | ofNat n => exact forceM_eq n fun n => k (.ofNat n)
  | negSucc n => exact forceM_eq n fun n => k (.negSucc n)
def forceT.{u} {β : Sort u} (l : Ts) (k : Ts → β) : β := List.rec (motive := fun _ => (Ts → β) → β) (fun k => k []) (fun x _ ih k => forceM x.1 fun v => forceZ x.2 fun c => ih fun r => k ((v, c) :: r)) l k
theorem forceT_eq.{u} {β : Sort u} : ∀ (l : Ts) (k : Ts → β), forceT l k = k l
  | [], k => rfl
  | x :: l, k => by
    show (forceM x.1 fun v => forceZ x.2 fun c => forceT l fun r => k ((v, c) :: r)) = _
    rw [forceM_eq, forceZ_eq, forceT_eq l]
/-- Is a number at most 0? Both ways are gone where it is not known. -/
def forkLe (cx : Cx) (c : Int) (ts : Ts) (k : Cx → Bool → Bool) : Bool :=
  bcond (knownLe cx.cs c ts) (k cx true) (forceZ (oneSub c) fun c' => forceT (negT ts) fun ts' =>
    bcond (knownLe cx.cs c' ts') (k cx false) (bcond (cx.deadQ (c', ts')) (k cx true) (bcond (cx.deadQ (c, ts)) (k cx false) (k (cx.with (c, ts)) true && k (cx.with (c', ts')) false))))
def decLeA (cx : Cx) (c : Int) (ts : Ts) (k : Cx → Bool → Bool) : Bool :=
  oRec (ubT cx.box ts) false fun u => bcond (ile0 (iadd c u)) (k cx true) (forceZ c fun c => forceT ts fun ts => oRec (ubT cx.box (negT ts)) false fun l => bcond (ile0 (iadd (oneSub c) l)) (k cx false) (forkLe cx c ts k))
def decLe (cx : Cx) (x : KI) (k : Cx → Bool → Bool) : Bool := KI.rec (fun n => k cx (Nat.beq n 0)) (fun _ => k cx true) (fun c ts => decLeA cx c ts k) x
theorem decLe_sound {ρ : Nat → Int} {cx : Cx} {x : KI} {k : Cx → Bool → Bool} (hs : Sat ρ cx) (h : decLe cx x k = true) : ∃ cx', Sat ρ cx' ∧ cx'.box = cx.box ∧ k cx' (decide (x.ev ρ ≤ 0)) = true := by
  cases x with
  | p n =>
    refine ⟨cx, hs, rfl, ?_⟩
    have h : k cx (Nat.beq n 0) = true := h
    have : decide ((KI.p n).ev ρ ≤ 0) = Nat.beq n 0 := by
      simp only [KI.ev]
      cases n with
      | zero => rfl
      | succ n => exact decide_eq_false (by omega)
    rw [this]; exact h
  | m n =>
    refine ⟨cx, hs, rfl, ?_⟩
    have : decide ((KI.m n).ev ρ ≤ 0) = true := decide_eq_true (by simp only [KI.ev]; omega)
    rw [this]; exact h
  | a c ts =>
    have hno : ¬ (c + evT ρ ts ≤ 0) → Con.ok ρ (1 - c, scT (-1) ts) := fun hn => by unfold Con.ok; simp only [scT_ev]; omega
    have h : decLeA cx c ts k = true := h
    simp only [decLeA, forkLe, forceZ_eq, forceT_eq, ile0_eq, iadd_eq, oneSub_eq, negT_eq] at h
    cases h1 : ubT cx.box ts with
    | none => rw [h1] at h; cases h
    | some u =>
      rw [h1] at h
      have hu := ubT_le hs.box _ _ h1
      simp only [oRec_some] at h
      by_cases hc : c + u ≤ 0
      · simp only [hc, decide_true, bcond_true] at h
        have : decide ((KI.a c ts).ev ρ ≤ 0) = true := decide_eq_true (by simp only [KI.ev]; omega)
        exact ⟨cx, hs, rfl, by rw [this]; exact h⟩
      · simp only [hc, decide_false, bcond_false] at h
        cases h2 : ubT cx.box (scT (-1) ts) with
        | none => rw [h2] at h; cases h
        | some l =>
          rw [h2] at h
          have hl := ubT_le hs.box _ _ h2
          rw [scT_ev] at hl
          simp only [oRec_some] at h
          by_cases hc2 : 1 - c + l ≤ 0
          · simp only [hc2, decide_true, bcond_true] at h
            have : decide ((KI.a c ts).ev ρ ≤ 0) = false := decide_eq_false (by simp only [KI.ev]; omega)
            exact ⟨cx, hs, rfl, by rw [this]; exact h⟩
          · simp only [hc2, decide_false, bcond_false] at h
            by_cases he : c + evT ρ ts ≤ 0
            · have hd : decide ((KI.a c ts).ev ρ ≤ 0) = true := decide_eq_true he
              rw [hd]
              cases hk : knownLe cx.cs c ts with
              | true => rw [hk] at h; exact ⟨cx, hs, rfl, h⟩
              | false =>
              rw [hk] at h
              cases hk2 : knownLe cx.cs (1 - c) (scT (-1) ts) with
              | true =>
                have := knownLe_ok hs.cs hk2
                rw [scT_ev] at this
                omega
              | false =>
              rw [hk2] at h
              simp only [bcond_false] at h
              cases hn : cx.deadQ (1 - c, scT (-1) ts) with
              | true => rw [hn] at h; exact ⟨cx, hs, rfl, h⟩
              | false =>
                rw [hn] at h
                rw [Cx.deadQ_no hs (q := (c, ts)) he] at h
                simp only [bcond_false, Bool.and_eq_true] at h
                exact ⟨_, hs.with (c := (c, ts)) he, rfl, h.1⟩
            · have hd : decide ((KI.a c ts).ev ρ ≤ 0) = false := decide_eq_false he
              rw [hd]
              have hw := hs.with (hno he)
              cases hk : knownLe cx.cs c ts with
              | true => exact absurd (knownLe_ok hs.cs hk) he
              | false =>
              rw [hk] at h
              cases hk2 : knownLe cx.cs (1 - c) (scT (-1) ts) with
              | true => rw [hk2] at h; exact ⟨cx, hs, rfl, h⟩
              | false =>
              rw [hk2, Cx.deadQ_no hs (hno he)] at h
              simp only [bcond_false] at h
              cases hy : cx.deadQ (c, ts) with
              | true => rw [hy] at h; exact ⟨cx, hs, rfl, h⟩
              | false =>
                rw [hy] at h
                simp only [bcond_false, Bool.and_eq_true] at h
                exact ⟨_, hw, rfl, h.2⟩

/-! ### Numbers that are known by name only -/
def kiEq (x y : KI) : Bool := match x with
  | .p i => match y with
    | .p j => Nat.beq i j
    | _ => false
  | .m i => match y with
    | .m j => Nat.beq i j
    | _ => false
  | .a c ts => match y with
    | .a d us => bcond (intEq c d) (tsEq ts us) false
    | _ => false
theorem kiEq_eq {x y : KI} (h : kiEq x y = true) : x = y := by
  cases x <;> cases y <;> simp only [kiEq] at h <;> first | (cases h; done) | (rw [Nat.eq_of_beq_eq_true h]; done) | skip
  rename_i c ts d us
  cases h1 : intEq c d with
  | false => rw [h1] at h; cases h
  | true => rw [h1] at h; rw [intEq_eq h1, tsEq_eq h]
def dfIx : IntKind → Nat := IntKind.rec 0 1 2 3 4 5 6 7
theorem dfIx_inj {a b : IntKind} (h : Nat.beq (dfIx a) (dfIx b) = true) : a = b := by cases a <;> cases b <;> first | rfl | cases h
/-- Which variable it is, if it is known by name. -/
def dfI (n : Nat) (k : IntKind) (cx : Cx) (x y : KI) (f : Cx → KI → Bool) (rest : Unit → Bool) : Bool :=
  List.rec (rest ()) (fun d _ ih => bcond (Nat.beq n d.n) (bcond (Nat.beq (dfIx k) (dfIx d.k)) (bcond (kiEq x d.x) (bcond (kiEq y d.y) (f cx (.a 0 [(d.z, 1)])) ih) ih) ih) ih) cx.df
theorem dfI_sound {ρ : Nat → Int} {n : Nat} {k : IntKind} {cx : Cx} {x y : KI} {f : Cx → KI → Bool} {rest : Unit → Bool} (hs : Sat ρ cx) (h : dfI n k cx x y f rest = true) :
    rest () = true ∨ ∃ z, f cx z = true ∧ dfV n k (x.ev ρ) (y.ev ρ) = some (z.ev ρ) := by
  have go : ∀ l : List Df, (∀ d ∈ l, Df.ok ρ d) → (List.rec (rest ()) (fun d _ ih => bcond (Nat.beq n d.n) (bcond (Nat.beq (dfIx k) (dfIx d.k)) (bcond (kiEq x d.x) (bcond (kiEq y d.y) (f cx (.a 0 [(d.z, 1)])) ih) ih) ih) ih) l : Bool) = true → rest () = true ∨ ∃ z, f cx z = true ∧ dfV n k (x.ev ρ) (y.ev ρ) = some (z.ev ρ) := by
    intro l
    induction l with
    | nil => intro _ h; exact .inl h
    | cons d l ih =>
      intro hl h
      have ih' := ih (fun e he => hl e (List.mem_cons_of_mem _ he))
      change bcond (Nat.beq n d.n) (bcond (Nat.beq (dfIx k) (dfIx d.k)) (bcond (kiEq x d.x) (bcond (kiEq y d.y) (f cx (.a 0 [(d.z, 1)])) _) _) _) _ = true at h
      cases h1 : Nat.beq n d.n with
      | false => rw [h1] at h; exact ih' h
      | true =>
        rw [h1] at h
        simp only [bcond_true] at h
        cases h2 : Nat.beq (dfIx k) (dfIx d.k) with
        | false => rw [h2] at h; exact ih' h
        | true =>
          rw [h2] at h
          simp only [bcond_true] at h
          cases h3 : kiEq x d.x with
          | false => rw [h3] at h; exact ih' h
          | true =>
            rw [h3] at h
            simp only [bcond_true] at h
            cases h4 : kiEq y d.y with
            | false => rw [h4] at h; exact ih' h
            | true =>
              rw [h4] at h
              simp only [bcond_true] at h
              refine .inr ⟨_, h, ?_⟩
              have e := hl d (List.mem_cons_self ..)
              unfold Df.ok at e
              rw [Nat.eq_of_beq_eq_true h1, dfIx_inj h2, kiEq_eq h3, kiEq_eq h4, e]
              simp [KI.ev, evT]
  exact go cx.df hs.df h
end
end Go.Sx
