/- The evaluator that the proofs of this claim run, part 1 of 5: a plain evaluator of loaded code, proved sound against the model, and one that runs in the kernel, proved against the plain one. No condition. -/
import Derived.WalkKit
import Derived.Orders
import Derived.RowKit3
import Derived.Laws.Sem
import Derived.RangeFuncRecord
import Derived.TacticsIn
import Derived.OrdersIn
import Derived.LoopNIn
set_option linter.unusedVariables false
set_option linter.unusedSimpArgs false
/- The evaluator's values and what they stand for in a world of the model. -/
namespace Go.Sx

/-- A slice's capacity: a number, or one that is not known (elements of z cells each). -/
inductive Cap where
  | is (n : Nat)
  | unk (z : Nat)
  deriving DecidableEq, Inhabited

/-- Values. Addresses: a number of a block and a place in it. 'none': not known. -/
inductive V where
  | none
  | bool (b : Bool)
  | int (k : IntKind) (n : Int)
  | str (s : List UInt8)
  | ptr (b o : Nat)
  | nilp
  | slice (b o len : Nat) (cap : Cap)
  | nils
  | func (f : FuncId) (first captured : List V)
  | nilf
  | iface (t : TypeId) (v : V)
  | nili
  | agg (vs : List V)
  | tuple (vs : List V)
  deriving Inhabited

/-- Where a block lies: its number in the heap, the first place, and how many cells there are from there on. -/
abbrev Loc := Nat × Nat × Nat
abbrev Map := Nat → Option Loc

mutual
inductive VRel (μ : Map) : V → Value → Prop
  | any (v : Value) : VRel μ .none v
  | bool (b : Bool) : VRel μ (.bool b) (.bool b)
  | int (k : IntKind) (n : Int) : VRel μ (.int k n) (.int k n)
  | str (s : List UInt8) : VRel μ (.str s) (.string ⟨s.toArray⟩)
  | ptr (b o c p n : Nat) (h : μ b = some (c, p, n)) : VRel μ (.ptr b o) (.pointer (some ⟨c, p + o, Option.none⟩))
  | nilp : VRel μ .nilp (.pointer Option.none)
  | slice (b o len cap c p n : Nat) (h : μ b = some (c, p, n)) (h1 : len ≤ cap) : VRel μ (.slice b o len (.is cap)) (.slice (some ⟨c, p + o, Option.none⟩) len cap)
  | sliceU (b o len z cap c p n : Nat) (h : μ b = some (c, p, n)) (h1 : len ≤ cap) (h2 : o + cap * z ≤ n) : VRel μ (.slice b o len (.unk z)) (.slice (some ⟨c, p + o, Option.none⟩) len cap)
  | nils : VRel μ .nils (.slice Option.none 0 0)
  | func (f : FuncId) (a c : List V) (a' c' : List Value) (h1 : VRels μ a a') (h2 : VRels μ c c') : VRel μ (.func f a c) (.func (.func f) a'.toArray c'.toArray)
  | nilf : VRel μ .nilf .nilFunc
  | iface (t : TypeId) (v : V) (v' : Value) (h : VRel μ v v') : VRel μ (.iface t v) (.iface t v')
  | nili : VRel μ .nili .nilIface
  | agg (l : List V) (l' : List Value) (h : VRels μ l l') : VRel μ (.agg l) (.agg l'.toArray)
  | tuple (l : List V) (l' : List Value) (h : VRels μ l l') : VRel μ (.tuple l) (.tuple l'.toArray)
inductive VRels (μ : Map) : List V → List Value → Prop
  | nil : VRels μ [] []
  | cons (v : V) (v' : Value) (l : List V) (l' : List Value) (h : VRel μ v v') (t : VRels μ l l') : VRels μ (v :: l) (v' :: l')
end

/-- One map goes on from another. -/
def Sub (μ μ' : Map) : Prop := ∀ b x, μ b = some x → μ' b = some x
theorem Sub.refl (μ : Map) : Sub μ μ := fun _ _ h => h
theorem Sub.trans {μ μ' μ'' : Map} (h : Sub μ μ') (k : Sub μ' μ'') : Sub μ μ'' := fun b x e => k b x (h b x e)

mutual
theorem VRel.mono {μ μ' : Map} (hs : Sub μ μ') : ∀ {v : V} {v' : Value}, VRel μ v v' → VRel μ' v v'
  | _, _, .any v => .any v
  | _, _, .bool b => .bool b
  | _, _, .int k n => .int k n
  | _, _, .str s => .str s
  | _, _, .ptr b o c p n h => .ptr b o c p n (hs _ _ h)
  | _, _, .nilp => .nilp
  | _, _, .slice b o len cap c p n h h1 => .slice b o len cap c p n (hs _ _ h) h1
  | _, _, .sliceU b o len z cap c p n h h1 h2 => .sliceU b o len z cap c p n (hs _ _ h) h1 h2
  | _, _, .nils => .nils
  | _, _, .func f a c a' c' h1 h2 => .func f a c a' c' (VRels.mono hs h1) (VRels.mono hs h2)
  | _, _, .nilf => .nilf
  | _, _, .iface t v v' h => .iface t v v' (VRel.mono hs h)
  | _, _, .nili => .nili
  | _, _, .agg l l' h => .agg l l' (VRels.mono hs h)
  | _, _, .tuple l l' h => .tuple l l' (VRels.mono hs h)
theorem VRels.mono {μ μ' : Map} (hs : Sub μ μ') : ∀ {l : List V} {l' : List Value}, VRels μ l l' → VRels μ' l l'
  | _, _, .nil => .nil
  | _, _, .cons v v' l l' h t => .cons v v' l l' (VRel.mono hs h) (VRels.mono hs t)
end

theorem VRels.length {μ : Map} : ∀ {l : List V} {l' : List Value}, VRels μ l l' → l'.length = l.length
  | _, _, .nil => rfl
  | _, _, .cons _ _ _ _ _ t => by simp [VRels.length t]

theorem VRels.append {μ : Map} : ∀ {l : List V} {l' : List Value} {m : List V} {m' : List Value}, VRels μ l l' → VRels μ m m' → VRels μ (l ++ m) (l' ++ m')
  | _, _, _, _, .nil, h => h
  | _, _, _, _, .cons v v' l l' h t, k => .cons v v' _ _ h (t.append k)

theorem VRels.get {μ : Map} : ∀ {l : List V} {l' : List Value} (h : VRels μ l l') (i : Nat) (v : V), l[i]? = some v → ∃ v', l'[i]? = some v' ∧ VRel μ v v'
  | _, _, .nil, i, v, h => by simp at h
  | _, _, .cons v v' l l' h t, 0, u, e => by simp at e; subst e; exact ⟨v', rfl, h⟩
  | _, _, .cons v v' l l' h t, i + 1, u, e => by simp at e; simpa using VRels.get t i u e

theorem VRels.of_get {μ : Map} : ∀ {l : List V} {l' : List Value}, l'.length = l.length → (∀ (i : Nat) (v : V) (v' : Value), l[i]? = some v → l'[i]? = some v' → VRel μ v v') → VRels μ l l'
  | [], [], _, _ => .nil
  | [], _ :: _, h, _ => by simp at h
  | _ :: _, [], h, _ => by simp at h
  | v :: l, v' :: l', h, k => .cons v v' l l' (k 0 v v' rfl rfl) (VRels.of_get (by simpa using h) fun i x x' e e' => k (i + 1) x x' (by simpa using e) (by simpa using e'))

theorem VRels.take {μ : Map} : ∀ {l : List V} {l' : List Value} (n : Nat), VRels μ l l' → VRels μ (l.take n) (l'.take n)
  | _, _, 0, _ => by simpa using VRels.nil
  | _, _, n + 1, .nil => by simpa using VRels.nil
  | _, _, n + 1, .cons v v' l l' h t => by simpa using VRels.cons v v' _ _ h (t.take n)
theorem VRels.drop {μ : Map} : ∀ {l : List V} {l' : List Value} (n : Nat), VRels μ l l' → VRels μ (l.drop n) (l'.drop n)
  | _, _, 0, h => by simpa using h
  | _, _, n + 1, .nil => by simpa using VRels.nil
  | _, _, n + 1, .cons v v' l l' h t => by simpa using t.drop n

/-! ### Values without addresses -/
def ofScal : Value → V
  | .bool b => .bool b
  | .int k n => .int k n
  | .string s => .str s.data.toList
  | .pointer Option.none => .nilp
  | .slice Option.none 0 0 => .nils
  | .nilFunc => .nilf
  | .nilIface => .nili
  | _ => .none
def toScal : V → Option Value
  | .bool b => some (.bool b)
  | .int k n => some (.int k n)
  | .str s => some (.string ⟨s.toArray⟩)
  | .nilp => some (.pointer Option.none)
  | .nils => some (.slice Option.none 0 0)
  | .nilf => some .nilFunc
  | .nili => some .nilIface
  | _ => Option.none
def toScals : List V → Option (List Value)
  | [] => some []
  | v :: l => match toScal v, toScals l with
    | some x, some r => some (x :: r)
    | _, _ => Option.none
def ofVal : Value → V
  | .agg cs => .agg (cs.toList.map ofScal)
  | .iface t v => .iface t (ofScal v)
  | v => ofScal v
def toVal : V → Option Value
  | .agg vs => (toScals vs).map fun l => .agg l.toArray
  | .iface t v => (toScal v).map (.iface t)
  | v => toScal v
theorem ofScal_rel (μ : Map) (v : Value) : VRel μ (ofScal v) v := by
  cases v with
  | bool b => exact .bool b
  | int k n => exact .int k n
  | string s => exact (by simpa [ofScal] using VRel.str (μ := μ) s.data.toList)
  | pointer a => cases a with
    | none => exact .nilp
    | some a => exact .any _
  | slice a l c =>
    match a, l, c with
    | Option.none, 0, 0 => exact .nils
    | Option.none, 0, c + 1 => exact .any _
    | Option.none, l + 1, c => exact .any _
    | some a, l, c => exact .any _
  | nilFunc => exact .nilf
  | nilIface => exact .nili
  | _ => exact .any _

theorem toScal_rel {μ : Map} {v : V} {x : Value} (h : toScal v = some x) : VRel μ v x := by
  cases v <;> simp [toScal] at h <;> subst h
  case bool b => exact .bool b
  case int k n => exact .int k n
  case str s => exact .str s
  case nilp => exact .nilp
  case nils => exact .nils
  case nilf => exact .nilf
  case nili => exact .nili
theorem toScal_uniq {μ : Map} {v : V} {x y : Value} (h : toScal v = some x) (k : VRel μ v y) : y = x := by
  cases v <;> simp [toScal] at h <;> subst h <;> cases k <;> rfl
theorem toScals_uniq {μ : Map} : ∀ {l : List V} {x : List Value} {y : List Value}, toScals l = some x → VRels μ l y → y = x
  | [], x, _, h, .nil => by simp [toScals] at h; exact h.symm
  | v :: l, x, _, h, .cons _ v' _ l' k t => by
    simp only [toScals] at h
    cases hx : toScal v <;> cases hr : toScals l <;> simp [hx, hr] at h
    subst h
    rw [toScal_uniq hx k, toScals_uniq hr t]
theorem toScals_rel {μ : Map} : ∀ {l : List V} {x : List Value}, toScals l = some x → VRels μ l x
  | [], x, h => by simp [toScals] at h; subst h; exact .nil
  | v :: l, x, h => by
    simp only [toScals] at h
    cases hx : toScal v <;> cases hr : toScals l <;> simp [hx, hr] at h
    subst h
    exact .cons _ _ _ _ (toScal_rel hx) (toScals_rel hr)
theorem toVal_rel {μ : Map} {v : V} {x : Value} (h : toVal v = some x) : VRel μ v x := by
  cases v
  case agg l =>
    simp only [toVal, Option.map_eq_some_iff] at h
    obtain ⟨r, hr, rfl⟩ := h
    exact .agg _ _ (toScals_rel hr)
  case iface t v =>
    simp only [toVal, Option.map_eq_some_iff] at h
    obtain ⟨r, hr, rfl⟩ := h
    exact .iface _ _ _ (toScal_rel hr)
  all_goals exact toScal_rel (by simpa only [toVal] using h)
theorem toVal_uniq {μ : Map} {v : V} {x y : Value} (h : toVal v = some x) (k : VRel μ v y) : y = x := by
  cases v
  case agg l =>
    simp only [toVal, Option.map_eq_some_iff] at h
    obtain ⟨r, hr, rfl⟩ := h
    cases k with
    | agg _ l' hl => rw [toScals_uniq hr hl]
  case iface t v =>
    simp only [toVal, Option.map_eq_some_iff] at h
    obtain ⟨r, hr, rfl⟩ := h
    cases k with
    | iface _ _ v' hv => rw [toScal_uniq hr hv]
  all_goals exact toScal_uniq (by simpa only [toVal] using h) k

theorem ofScals_rel (μ : Map) : ∀ (l : List Value), VRels μ (l.map ofScal) l
  | [] => .nil
  | v :: l => .cons _ _ _ _ (ofScal_rel μ v) (ofScals_rel μ l)
theorem ofVal_rel (μ : Map) (v : Value) : VRel μ (ofVal v) v := by
  cases v
  case agg cs =>
    have := ofScals_rel μ cs.toList
    simpa [ofVal] using VRel.agg _ _ this
  case iface t v => exact .iface _ _ _ (ofScal_rel μ v)
  all_goals (simp only [ofVal]; exact ofScal_rel μ _)

/-! ### Pure programs of the model -/
def pureRun (P : Program) {α : Type} : Sem α → Option α
  | .pure a => some a
  | .program k => pureRun P (k P)
  | _ => Option.none
theorem run_of_pure {P : Program} {α : Type} : ∀ {s : Sem α} {a : α}, pureRun P s = some a → ∀ w, s.run P w = .ok a w
  | .pure a, b, h, w => by simp [pureRun] at h; subst h; rfl
  | .program k, b, h, w => by
    simp only [pureRun] at h
    simpa [Sem.run] using run_of_pure h w

end Go.Sx

/- The evaluator, as a specification: plain functions, nothing made for speed. -/
namespace Go.Sx

structure Blk where
  cells : List V
  root : Nat
/-- What calls hand on: blocks that are known, the next number, and the roots of blocks that were written. -/
structure G where
  hp : Nat → Option Blk
  nx : Nat
  log : List Nat
/-- A frame's memory: its own blocks beside. -/
structure Mem where
  ob : Nat → Option (List V)
  g : G
structure St where
  regs : Nat → V
  nt : Nat
  m : Mem

def upd {α : Type} (f : Nat → α) (i : Nat) (v : α) : Nat → α := fun j => if j = i then v else f j

section
variable (P : Program)
def sizeD (t : TypeId) : Option Nat := (P.info? t).map (·.size)
def bytesD (t : TypeId) : Option Nat := (P.info? t).map (·.bytes)
def aggD (t : TypeId) : Option Bool := (P.underlying t).map fun | .struct _ | .array _ _ => true | _ => false
def zeroD (t : TypeId) : Option (List V) := ((P.info? t).bind (·.zero)).map fun v => v.cells.toList.map ofScal
def elemD (t : TypeId) : Option TypeId := match P.underlying t with | some (.slice e) => some e | _ => Option.none
end

/-- Package variables whose blocks the evaluator knows, by their own numbers. -/
def globIs (g : Nat) : Bool := false
def evalD (regs : Nat → V) : Operand → V
  | .tmp t => regs t
  | .const v => ofVal v
  | .global g => if globIs g = true then .ptr g 0 else .none
  | .func f => .func f [] []

def cellsD : V → Option (List V)
  | .none => Option.none
  | .agg l => some l
  | v => some [v]

/-! ### Memory -/
/-- A new block of the frame's own; 'at': the number that it is to have. -/
def newD (m : Mem) (slot : Option Nat) (cells : List V) : Nat × Mem :=
  match slot with
  | some i => (i, { m with ob := upd m.ob i (some cells) })
  | Option.none => (m.g.nx, { ob := upd m.ob m.g.nx (some cells), g := { m.g with nx := m.g.nx + 1 } })

def blockD (m : Mem) (b : Nat) : Option (List V) :=
  match m.ob b with
  | some cs => some cs
  | Option.none => (m.g.hp b).map (·.cells)

def readD (m : Mem) (b o n : Nat) : Option (List V) :=
  match blockD m b with
  | some cs => if o + n ≤ cs.length then some ((cs.drop o).take n) else Option.none
  | Option.none => Option.none

def splice (cs : List V) (o : Nat) (vs : List V) : List V := cs.take o ++ vs ++ cs.drop (o + vs.length)

/-- What is behind a write to a block of some root: all others of that root are not known any more. -/
def wipe (hp : Nat → Option Blk) (r b : Nat) (blk : Blk) : Nat → Option Blk := fun x =>
  if x = b then some blk else match hp x with
    | some y => if y.root = r then Option.none else some y
    | Option.none => Option.none

/-- Surely the value of one cell. -/
def oneD : V → Bool
  | .none | .agg _ | .tuple _ => false
  | _ => true

def writeD (m : Mem) (b o : Nat) (vs : List V) : Option Mem :=
  if vs.all oneD = false then Option.none else
  match m.ob b with
  | some cs => if o + vs.length ≤ cs.length then some { m with ob := upd m.ob b (some (splice cs o vs)) } else Option.none
  | Option.none => match m.g.hp b with
    | some blk => if o + vs.length ≤ blk.cells.length then
        some { m with g := { m.g with hp := wipe m.g.hp blk.root b { blk with cells := splice blk.cells o vs }, log := blk.root :: m.g.log } }
      else Option.none
    | Option.none => Option.none

/-- A block of the frame's own is given away. -/
def spill1 (m : Mem) (b : Nat) (cs : List V) : Mem :=
  { ob := upd m.ob b Option.none, g := { m.g with hp := upd m.g.hp b (some ⟨cs, b⟩), log := b :: m.g.log } }

mutual
def spillV : Nat → V → Mem → Mem
  | 0, _, m => m
  | n + 1, v, m => match v with
    | .ptr b _ | .slice b _ _ _ => match m.ob b with
      | some cs => spillL n cs (spill1 m b cs)
      | Option.none => m
    | .func _ a c => spillL n c (spillL n a m)
    | .iface _ v => spillV n v m
    | .agg l | .tuple l => spillL n l m
    | _ => m
def spillL : Nat → List V → Mem → Mem
  | 0, _, m => m
  | _ + 1, [], m => m
  | n + 1, v :: l, m => spillL n l (spillV n v m)
end
def spillFuel : Nat := 1000

/-! ### Operations -/
inductive R where
  | val (v : V)
  | skip
  | panic (v : V)

inductive En where
  | ret (v : V)
  | panic (v : V)

def fillD (place : Nat → Option (Nat × Nat)) : List V → List (Nat × V) → Option (List V)
  | cells, [] => some cells
  | cells, (i, v) :: rest =>
    match place i, cellsD v with
    | some (off, size), some vs => if vs.length = size ∧ off + vs.length ≤ cells.length then fillD place (splice cells off vs) rest else Option.none
    | _, _ => Option.none

def placesD (P : Program) : List Field → Option (List (Nat × Nat))
  | [] => some []
  | f :: l => match sizeD P f.type, placesD P l with
    | some z, some r => some ((f.offset, z) :: r)
    | _, _ => Option.none

def partsD (regs : Nat → V) (parts : Array (Nat × Operand)) : List (Nat × V) := parts.toList.map fun x => (x.1, evalD regs x.2)

def repeatD (zero : List V) (n : Nat) : List V := (List.replicate n zero).flatten

def asNat : V → Option Nat
  | .int _ n => if 0 ≤ n then some n.toNat else Option.none
  | _ => Option.none

def isNilV : V → Bool
  | .nilp | .nils | .nilf | .nili => true
  | _ => false

/-- '==' with a nil of the same kind. -/
def neNil : TypeDesc → V → V → Bool
  | .pointer _, .ptr _ _, .nilp | .pointer _, .nilp, .ptr _ _ => true
  | .interface _, .iface _ _, .nili | .interface _, .nili, .iface _ _ => true
  | .func _ _ _, .func _ _ _, .nilf | .func _ _ _, .nilf, .func _ _ _ => true
  | .slice _, .slice _ _ _ _, .nils => true
  | _, _, _ => false

def partD (t : TypeId) (P : Program) (cs : List V) (off : Nat) : Option V :=
  match aggD P t, sizeD P t with
  | some true, some n => if off + n ≤ cs.length then some (.agg ((cs.drop off).take n)) else Option.none
  | some false, _ => cs[off]?
  | _, _ => Option.none

def bytesOf : List V → Option (List UInt8)
  | [] => some []
  | .int .u8 n :: l => (bytesOf l).map (UInt8.ofNat n.toNat :: ·)
  | _ => Option.none

def nonZero (P : Program) (t : TypeId) : Bool := match sizeD P t with | some (_ + 1) => true | _ => false

/-- Bounds of a slice expression: low, high, and the greatest that was said. -/
def maxD (len : Nat) (cap : Option Nat) : Option V → Option (Option Nat)
  | Option.none => some cap
  | some v => (asNat v).bind fun n => if n ≤ cap.getD len then some (some n) else Option.none
def highD (len : Nat) (mo : Option Nat) (mx : Bool) : Option V → Option Nat
  | Option.none => if mx then Option.none else some len
  | some v => (asNat v).bind fun n => if n ≤ mo.getD len then some n else Option.none
def lowD (h : Nat) : Option V → Option Nat
  | Option.none => some 0
  | some v => (asNat v).bind fun n => if n ≤ h then some n else Option.none
def boundsD (len : Nat) (cap : Option Nat) (lo hi mx : Option V) : Option (Nat × Nat × Option Nat) :=
  (maxD len cap mx).bind fun mo => (highD len mo mx.isSome hi).bind fun h => (lowD h lo).bind fun l => some (l, h, mo)

/-- append's cells. -/
def appendD (m : Mem) (z bytes : Nat) (s : V) (n : Nat) (xs : List V) : Option (V × Mem) :=
  let fresh (old : List V) (len : Nat) : Option (V × Mem) :=
    if (2 * (len + n) + 1024) * bytes ≤ 2 ^ 48 ∧ bytes ≠ 0 then
      some (.slice m.g.nx 0 (len + n) (.unk z), { m with g := { m.g with hp := upd m.g.hp m.g.nx (some ⟨old ++ xs, m.g.nx⟩), nx := m.g.nx + 1 } })
    else Option.none
  match s with
  | .nils => if n = 0 then some (.nils, m) else fresh [] 0
  | .slice b o len (.is cap) =>
    if len + n ≤ cap then
      match writeD m b (o + len * z) xs with
      | some m' => some (.slice b o (len + n) (.is cap), m')
      | Option.none => Option.none
    else match readD m b o (len * z) with
      | some old => fresh old len
      | Option.none => Option.none
  | .slice b o len (.unk z') =>
    if n = 0 then some (.slice b o len (.unk z'), m) else
    match m.ob b, m.g.hp b with
    | Option.none, some blk =>
      if o = 0 ∧ z' = z ∧ len * z ≤ blk.cells.length ∧ (2 * (len + n) + 1024) * bytes ≤ 2 ^ 48 ∧ bytes ≠ 0 ∧ xs.all oneD = true then
        let hp' : Nat → Option Blk := fun x => if x = m.g.nx then some ⟨blk.cells.take (len * z) ++ xs, blk.root⟩ else
          match m.g.hp x with
          | some y => if y.root = blk.root then some { y with cells := y.cells.take (len * z) } else some y
          | Option.none => Option.none
        some (.slice m.g.nx 0 (len + n) (.unk z), { m with g := { hp := hp', nx := m.g.nx + 1, log := blk.root :: m.g.log } })
      else Option.none
    | _, _ => Option.none
  | _ => Option.none

def lenD : V → Option Nat
  | .nils => some 0
  | .slice _ _ len _ => some len
  | .str s => some s.length
  | _ => Option.none

def contentD (m : Mem) (z n : Nat) : V → Option (List V)
  | .nils => if n = 0 then some [] else Option.none
  | .slice b o len _ => if n ≤ len then readD m b o (n * z) else Option.none
  | .str s => if z = 1 then some ((s.take n).map fun x => .int .u8 x.toNat) else Option.none
  | _ => Option.none

section
variable (P : Program)
/-- An operation without addresses: the model's own word. -/
def plainD (regs : Nat → V) (o : Oper) : Option R :=
  if o.op.operands.toList.all (fun x => (toVal (evalD regs x)).isSome) then
    match o.op with
    | .select _ _ => Option.none
    | _ => match pureRun P (execOp (fun x => (toVal (evalD regs x)).getD undef) o) with
      | some (.value v) => some (.val (ofVal v))
      | some .skip => some .skip
      | _ => Option.none
  else Option.none

variable (cl : FuncId → List V → G → Option (En × G))

def callD (f : FuncId) (args : List V) (m : Mem) : Option (R × Mem) :=
  match P.funcs[f]? with
  | some fn =>
    if fn.name == "runtime.NumGoroutine" || fn.body.isNone then Option.none else
    let m := spillL spillFuel args m
    match cl f args m.g with
    | some (.ret v, g) => some (.val v, { m with g := g })
    | some (.panic v, g) => some (.panic v, { m with g := g })
    | Option.none => Option.none
  | Option.none => Option.none

def builtinD (regs : Nat → V) (m : Mem) (b : Builtin) (args : Array Operand) (argTypes : Array TypeId) : Option (R × Mem) :=
  let vs := args.toList.map (evalD regs)
  match b, vs with
  | .len, [v] => match v, (argTypes[0]?).bind (elemD P) with
    | .slice _ _ len _, some _ => some (.val (.int .i64 len), m)
    | _, _ => Option.none
  | .append, [s, x] => match argTypes[0]?, argTypes[1]? with
    | some st, some xt => match elemD P st, P.underlying xt with
      | some e, some d => match d with
        | .int _ => Option.none
        | _ => match sizeD P e, bytesD P e, zeroD P e, lenD x with
          | some z, some by_, some zero, some n => if zero.length = z then match contentD m z n x with
            | some xs => (appendD (spillL spillFuel xs m) z by_ s n xs).map fun x => (.val x.1, x.2)
            | Option.none => Option.none
            else Option.none
          | _, _, _, _ => Option.none
      | _, _ => Option.none
    | _, _ => Option.none
  | .copy, [d, s] => match (argTypes[0]?).bind (elemD P), lenD s, lenD d with
    | some e, some n, some k => match sizeD P e, d with
      | some z, .slice b o _ _ => match contentD m z (Nat.min n k) s with
        | some xs => match writeD m b o xs with
          | some m' => some (.val (.int .i64 (Nat.min n k)), m')
          | Option.none => Option.none
        | Option.none => Option.none
      | _, _ => Option.none
    | _, _, _ => Option.none
  | _, _ => Option.none

def opD (st : St) (slot : Option Nat) (o : Oper) : Option (R × Mem) :=
  let ρ := evalD st.regs
  let m := st.m
  match o.op with
  | .move x | .assign x => some (.val (ρ x), m)
  | .pick c a b => match ρ c with
    | .bool t => some (.val (if t then ρ a else ρ b), m)
    | _ => Option.none
  | .alloc e => match zeroD P e with
    | some cs => let (b, m) := newD m slot cs; some (.val (.ptr b 0), m)
    | Option.none => Option.none
  | .box e x => match cellsD (ρ x) with
    | some cs => let (b, m) := newD m slot cs; some (.val (.ptr b 0), m)
    | Option.none => Option.none
  | .build t parts => match zeroD P t, P.underlying t with
    | some zero, some (.struct fields) => match placesD P fields.toList with
      | some pl => (fillD (fun i => pl[i]?) zero (partsD st.regs parts)).map fun cs => (.val (.agg cs), m)
      | Option.none => Option.none
    | some zero, some (.array _ e) => match sizeD P e with
      | some z => (fillD (fun i => some (i * z, z)) zero (partsD st.regs parts)).map fun cs => (.val (.agg cs), m)
      | Option.none => Option.none
    | _, _ => Option.none
  | .buildSlice t n parts => match elemD P t with
    | some e => match sizeD P e, zeroD P e with
      | some z, some zero =>
        if n * z ≤ 2 ^ 24 ∧ zero.length = z then
          match fillD (fun i => some (i * z, z)) (repeatD zero n) (partsD st.regs parts) with
          | some cs => let (b, m) := newD m slot cs; some (.val (.slice b 0 n (.is n)), m)
          | Option.none => Option.none
        else Option.none
      | _, _ => Option.none
    | Option.none => Option.none
  | .load t a => match ρ a, aggD P t, sizeD P t with
    | .ptr b o, some true, some n => (readD m b o n).map fun cs => (.val (.agg cs), m)
    | .ptr b o, some false, _ => match readD m b o 1 with
      | some [v] => some (.val v, m)
      | _ => Option.none
    | _, _, _ => Option.none
  | .store t a x => match ρ a, cellsD (ρ x), sizeD P t with
    | .ptr b o, some vs, some n => if vs.length = n then
        let m := if (m.ob b).isSome then m else spillL spillFuel vs m
        (writeD m b o vs).map fun m => (.skip, m)
      else Option.none
    | _, _, _ => Option.none
  | .nilCheck x => match ρ x with
    | .ptr b o => some (.val (.ptr b o), m)
    | .func f a c => some (.val (.func f a c), m)
    | .iface t v => some (.val (.iface t v), m)
    | .slice b o l c => some (.val (.slice b o l c), m)
    | _ => Option.none
  | .binOp op t x y _ => match plainD P st.regs o with
    | some r => some (r, m)
    | Option.none =>
      match P.underlying t with
      | some d => if neNil d (ρ x) (ρ y) then match op with
        | .eql => some (.val (.bool false), m)
        | .neq => some (.val (.bool true), m)
        | _ => Option.none
        else Option.none
      | Option.none => Option.none
  | .convert src dst x => match plainD P st.regs o with
    | some r => some (r, m)
    | Option.none => match P.underlying src, P.underlying dst, ρ x with
      | some (.slice e), some .string, .slice b o len _ => match P.underlying e with
        | some (.int .u8) => match readD m b o len with
          | some cs => (bytesOf cs).map fun s => (.val (.str s), m)
          | Option.none => Option.none
        | _ => Option.none
      | some (.slice e), some .string, .nils => match P.underlying e with
        | some (.int .u8) => some (.val (.str []), m)
        | _ => Option.none
      | _, _, _ => Option.none
  | .makeInterface t x => match P.underlying t, ρ x with
    | some (.interface _), _ => Option.none
    | some _, v => some (.val (.iface t v), m)
    | _, _ => Option.none
  | .typeAssert x _ t ok => match P.underlying t, ρ x with
    | some (.interface _), _ => Option.none
    | some _, .iface u v => if ok = true ∧ u = t then some (.val (.tuple [v, .bool true]), m) else Option.none
    | _, _ => Option.none
  | .makeFunc fn first captured => match fn with
    | .func f => some (.val (.func f (first.toList.map ρ) (captured.toList.map ρ)), m)
    | _ => Option.none
  | .makeSlice t l c => match elemD P t, asNat (ρ l), asNat (ρ c) with
    | some e, some l, some c => match sizeD P e, bytesD P e, zeroD P e with
      | some z, some by_, some zero =>
        if l ≤ c ∧ by_ * c ≤ 2 ^ 47 ∧ c < 2 ^ 63 ∧ zero.length = z then
          let (b, m) := newD m slot (repeatD zero c); some (.val (.slice b 0 l (.is c)), m)
        else Option.none
      | _, _, _ => Option.none
    | _, _, _ => Option.none
  | .slice t x lo hi mx => match P.underlying t, ρ x with
    | some .string, .str s => if mx.isSome then Option.none else match boundsD s.length (some s.length) (lo.map ρ) (hi.map ρ) Option.none with
      | some (l, h, _) => some (.val (.str ((s.take h).drop l)), m)
      | Option.none => Option.none
    | some (.slice e), .slice b o len cap => match sizeD P e, boundsD len (match cap with | .is c => some c | .unk _ => Option.none) (lo.map ρ) (hi.map ρ) (mx.map ρ) with
      | some z, some (l, h, some m') => if l < m' then some (.val (.slice b (o + l * z) (h - l) (.is (m' - l))), m) else if l = m' then some (.val (.slice b o (h - l) (.is 0)), m) else Option.none
      | some z, some (l, h, Option.none) => match cap with
        | .unk z' => if l = 0 ∧ z' = z then some (.val (.slice b o h (.unk z)), m) else if l < len ∧ z' = z then some (.val (.slice b (o + l * z) (h - l) (.unk z)), m) else Option.none
        | .is _ => Option.none
      | _, _ => Option.none
    | some (.slice e), .nils => match sizeD P e, boundsD 0 (some 0) (lo.map ρ) (hi.map ρ) (mx.map ρ) with
      | some _, some _ => some (.val .nils, m)
      | _, _ => Option.none
    | _, _ => Option.none
  | .fieldAddr s x f => match P.underlying s, ρ x with
    | some (.struct fields), .ptr b o => match fields[f]? with
      | some fd => if nonZero P fd.type then some (.val (.ptr b (o + fd.offset)), m) else Option.none
      | Option.none => Option.none
    | _, _ => Option.none
  | .field t x f => match P.underlying t, ρ x with
    | some (.struct fields), .agg cs => match fields[f]? with
      | some fd => (partD fd.type P cs fd.offset).map fun v => (.val v, m)
      | Option.none => Option.none
    | _, _ => Option.none
  | .indexAddr t x ix => match P.underlying t, ρ x, asNat (ρ ix) with
    | some (.slice e), .slice b o len _, some i => match sizeD P e with
      | some z => if i < len then some (.val (.ptr b (o + i * z)), m) else Option.none
      | Option.none => Option.none
    | some (.array len e), .ptr b o, some i => match sizeD P e with
      | some z => if i < len then some (.val (.ptr b (o + i * z)), m) else Option.none
      | Option.none => Option.none
    | _, _, _ => Option.none
  | .index t x ix => match P.underlying t, ρ x, asNat (ρ ix) with
    | some (.array len e), .agg cs, some i => match sizeD P e with
      | some z => if i < len then (partD e P cs (i * z)).map fun v => (.val v, m) else Option.none
      | Option.none => Option.none
    | some .string, .str s, some i => match s[i]? with
      | some c => some (.val (.int .u8 c.toNat), m)
      | Option.none => Option.none
    | _, _, _ => Option.none
  | .extract t ix => match ρ t with
    | .tuple vs => (vs[ix]?).map fun v => (.val v, m)
    | _ => Option.none
  | .panic x => match ρ x with
    | .iface t v => some (.panic (.iface t v), m)
    | _ => Option.none
  | .call c => match c.callee with
    | .value f => match ρ f with
      | .func f a cp => callD P cl f (a ++ c.args.toList.map ρ ++ cp) m
      | _ => Option.none
    | .builtin b => match plainD P st.regs o with
      | some r => some (r, m)
      | Option.none => builtinD P st.regs m b c.args c.argTypes
    | _ => Option.none
  | _ => match plainD P st.regs o with
    | some r => some (r, m)
    | Option.none => Option.none
end
end Go.Sx

/- What a frame's memory says of a world; a step; the laws of making, reading, writing, giving away. -/
namespace Go.Sx
open Go.RowKit

def GlobOK (μ : Map) : Prop := ∀ g, globIs g = true → ∃ n, μ g = some (g, 0, n)
theorem GlobOK.mono {μ μ' : Map} (h : GlobOK μ) (hs : ∀ b x, μ b = some x → μ' b = some x) : GlobOK μ' := fun g hg => by
  obtain ⟨n, e⟩ := h g hg
  exact ⟨n, hs _ _ e⟩
structure HRel (B : Nat) (μ : Map) (m : Mem) (w : World) : Prop where
  dom : ∀ b c p n, μ b = some (c, p, n) → b < m.g.nx ∧ B ≤ c ∧ c < w.heap.size
  hp : ∀ b blk, m.g.hp b = some blk → ∃ c p n arr e, μ b = some (c, p, n) ∧ w.heap[c]? = some (.cells arr e (0, 0)) ∧ p + n ≤ arr.size ∧ blk.cells.length ≤ n ∧
    ∀ i v, blk.cells[i]? = some v → ∃ v', arr[p + i]? = some v' ∧ VRel μ v v'
  ob : ∀ b cs, m.ob b = some cs → ∃ c arr e, μ b = some (c, 0, arr.size) ∧ w.heap[c]? = some (.cells arr e (0, 0)) ∧ VRels μ cs arr.toList
  dj : ∀ b blk b' blk' c p n p' n', m.g.hp b = some blk → m.g.hp b' = some blk' → μ b = some (c, p, n) → μ b' = some (c, p', n') → blk.root = blk'.root ∧ p = p'
  oo : ∀ b cs b' cs' c p n p' n', m.ob b = some cs → m.ob b' = some cs' → μ b = some (c, p, n) → μ b' = some (c, p', n') → b = b'
  oh : ∀ b cs b' blk c p n p' n', m.ob b = some cs → m.g.hp b' = some blk → μ b = some (c, p, n) → μ b' = some (c, p', n') → False
  gl : GlobOK μ

/-- Where it is set, what is frozen in new blocks is not told. -/
def looseFz : Bool := false
structure Step (slot : Option Nat) (μ : Map) (m : Mem) (w : World) (μ' : Map) (m' : Mem) (w' : World) : Prop where
  sub : Sub μ μ'
  nx : m.g.nx ≤ m'.g.nx
  os : w'.os = w.os
  tape : w'.tape = w.tape
  output : w'.output = w.output
  size : w.heap.size ≤ w'.heap.size
  fz : ∀ a, (looseFz = true → a.block < w.heap.size) → w'.frozen? a = w.frozen? a
  ids : ∀ b x, μ' b = some x → μ b = some x ∨ m.g.nx ≤ b ∨ slot = some b
  upd : ∃ l, m'.g.log = l ++ m.g.log ∧ ∀ c, c < w.heap.size → (∀ b blk p n, m.g.hp b = some blk → μ b = some (c, p, n) → blk.root ∉ l) →
    (∀ b cs p n, m.ob b = some cs → μ b = some (c, p, n) → False) → w'.heap[c]? = w.heap[c]?
  newh : ∀ b blk c p n, m'.g.hp b = some blk → μ' b = some (c, p, n) → w.heap.size ≤ c ∨
    (∃ b0 blk0 p0 n0, m.g.hp b0 = some blk0 ∧ μ b0 = some (c, p0, n0) ∧ blk0.root = blk.root) ∨ (∃ b0 cs p0 n0, m.ob b0 = some cs ∧ μ b0 = some (c, p0, n0))
  newo : ∀ b cs c p n, m'.ob b = some cs → μ' b = some (c, p, n) → w.heap.size ≤ c ∨ (∃ b0 cs0 p0 n0, m.ob b0 = some cs0 ∧ μ b0 = some (c, p0, n0))

theorem Step.refl (slot : Option Nat) (μ : Map) (m : Mem) (w : World) : Step slot μ m w μ m w :=
  { sub := Sub.refl μ, nx := Nat.le_refl _, os := rfl, tape := rfl, output := rfl, size := Nat.le_refl _, fz := fun _ _ => rfl
    ids := fun _ _ h => .inl h
    upd := ⟨[], rfl, fun _ _ _ _ => rfl⟩
    newh := fun b blk c p n h k => .inr (.inl ⟨b, blk, p, n, h, k, rfl⟩)
    newo := fun b cs c p n h k => .inr ⟨b, cs, p, n, h, k⟩ }

theorem Step.trans {slot : Option Nat} {μ μ1 μ2 : Map} {m m1 m2 : Mem} {w w1 w2 : World} (h : Step slot μ m w μ1 m1 w1) (k : Step slot μ1 m1 w1 μ2 m2 w2) :
    Step slot μ m w μ2 m2 w2 := by
  refine { sub := h.sub.trans k.sub, nx := Nat.le_trans h.nx k.nx, os := k.os.trans h.os, tape := k.tape.trans h.tape, output := k.output.trans h.output, size := Nat.le_trans h.size k.size, fz := fun a ha => (k.fz a (fun q => Nat.lt_of_lt_of_le (ha q) h.size)).trans (h.fz a ha), ids := ?_, upd := ?_, newh := ?_, newo := ?_ }
  · intro b x e
    rcases k.ids b x e with e1 | e1 | e1
    · rcases h.ids b x e1 with e2 | e2 | e2
      · exact .inl e2
      · exact .inr (.inl e2)
      · exact .inr (.inr e2)
    · exact .inr (.inl (Nat.le_trans h.nx e1))
    · exact .inr (.inr e1)
  · obtain ⟨l1, e1, f1⟩ := h.upd
    obtain ⟨l2, e2, f2⟩ := k.upd
    refine ⟨l2 ++ l1, by rw [e2, e1, List.append_assoc], fun c hc h1 h2 => ?_⟩
    have a1 := f1 c hc (fun b blk p n hb hm hr => h1 b blk p n hb hm (List.mem_append_right _ hr)) h2
    refine (f2 c (Nat.lt_of_lt_of_le hc h.size) (fun b blk p n hb hm hr => ?_) (fun b cs p n hb hm => ?_)).trans a1
    · rcases h.newh b blk c p n hb hm with e | ⟨b0, blk0, p0, n0, hb0, hm0, hr0⟩ | ⟨b0, cs, p0, n0, hb0, hm0⟩
      · omega
      · exact h1 b0 blk0 p0 n0 hb0 hm0 (List.mem_append_left _ (hr0 ▸ hr))
      · exact h2 b0 cs p0 n0 hb0 hm0
    · rcases h.newo b cs c p n hb hm with e | ⟨b0, cs0, p0, n0, hb0, hm0⟩
      · omega
      · exact h2 b0 cs0 p0 n0 hb0 hm0
  · intro b blk c p n hb hm
    rcases k.newh b blk c p n hb hm with e | ⟨b0, blk0, p0, n0, hb0, hm0, hr0⟩ | ⟨b0, cs, p0, n0, hb0, hm0⟩
    · exact .inl (Nat.le_trans h.size e)
    · rcases h.newh b0 blk0 c p0 n0 hb0 hm0 with e | ⟨b1, blk1, p1, n1, hb1, hm1, hr1⟩ | e
      · exact .inl e
      · exact .inr (.inl ⟨b1, blk1, p1, n1, hb1, hm1, hr1.trans hr0⟩)
      · exact .inr (.inr e)
    · rcases h.newo b0 cs c p0 n0 hb0 hm0 with e | e
      · exact .inl e
      · exact .inr (.inr e)
  · intro b cs c p n hb hm
    rcases k.newo b cs c p n hb hm with e | ⟨b0, cs0, p0, n0, hb0, hm0⟩
    · exact .inl (Nat.le_trans h.size e)
    · exact h.newo b0 cs0 c p0 n0 hb0 hm0

/-- A call's step, with the caller's own blocks beside it. -/
theorem Step.beside {μ μ' : Map} {ob : Nat → Option (List V)} {g g' : G} {w w' : World} {B : Nat}
    (h : Step Option.none μ ⟨fun _ => Option.none, g⟩ w μ' ⟨fun _ => Option.none, g'⟩ w') (r : HRel B μ ⟨ob, g⟩ w) : Step Option.none μ ⟨ob, g⟩ w μ' ⟨ob, g'⟩ w' := by
  refine { sub := h.sub, nx := h.nx, os := h.os, tape := h.tape, output := h.output, size := h.size, fz := h.fz, ids := h.ids, upd := ?_, newh := ?_, newo := ?_ }
  · obtain ⟨l, e, f⟩ := h.upd
    exact ⟨l, e, fun c hc h1 _ => f c hc h1 (fun b cs p n hb _ => by cases hb)⟩
  · intro b blk c p n hb hm
    rcases h.newh b blk c p n hb hm with e | e | ⟨b0, cs, p0, n0, hb0, _⟩
    · exact .inl e
    · exact .inr (.inl e)
    · cases hb0
  · intro b cs c p n hb hm
    obtain ⟨c', arr, e, hm', _⟩ := r.ob b cs hb
    have := h.sub b _ hm'
    rw [this] at hm
    obtain ⟨rfl, rfl, rfl⟩ := by simpa using hm
    exact .inr ⟨b, cs, _, _, hb, hm'⟩

theorem HRel.beside {B : Nat} {μ μ' : Map} {ob : Nat → Option (List V)} {g g' : G} {w w' : World}
    (h : Step Option.none μ ⟨fun _ => Option.none, g⟩ w μ' ⟨fun _ => Option.none, g'⟩ w') (r : HRel B μ ⟨ob, g⟩ w) (r' : HRel B μ' ⟨fun _ => Option.none, g'⟩ w') : HRel B μ' ⟨ob, g'⟩ w' := by
  refine { dom := r'.dom, hp := r'.hp, ob := ?_, dj := r'.dj, oo := ?_, oh := ?_, gl := r'.gl }
  · intro b cs hb
    obtain ⟨c, arr, e, hm, hw, hv⟩ := r.ob b cs hb
    refine ⟨c, arr, e, h.sub b _ hm, ?_, hv.mono h.sub⟩
    obtain ⟨l, _, f⟩ := h.upd
    rw [f c (r.dom b _ _ _ hm).2.2 (fun b' blk p n hb' hm' _ => r.oh b cs b' blk c _ _ _ _ hb hb' hm hm') (fun b cs p n hb _ => by cases hb)]
    exact hw
  · intro b cs b' cs' c p n p' n' hb hb' hm hm'
    obtain ⟨c1, arr1, e1, hm1, _⟩ := r.ob b cs hb
    obtain ⟨c2, arr2, e2, hm2, _⟩ := r.ob b' cs' hb'
    have q1 := h.sub b _ hm1
    have q2 := h.sub b' _ hm2
    rw [hm] at q1; rw [hm'] at q2
    obtain ⟨rfl, rfl, rfl⟩ := by simpa using q1
    obtain ⟨rfl, rfl, rfl⟩ := by simpa using q2
    exact r.oo b cs b' cs' c _ _ _ _ hb hb' hm1 hm2
  · intro b cs b' blk c p n p' n' hb hb' hm hm'
    obtain ⟨c1, arr1, e1, hm1, _⟩ := r.ob b cs hb
    have q1 := h.sub b _ hm1
    rw [hm] at q1
    obtain ⟨rfl, rfl, rfl⟩ := by simpa using q1
    rcases h.newh b' blk c p' n' hb' hm' with e | ⟨b0, blk0, p0, n0, hb0, hm0, _⟩ | ⟨b0, cs0, p0, n0, hb0, _⟩
    · have := (r.dom b _ _ _ hm1).2.2
      omega
    · exact r.oh b cs b0 blk0 c _ _ _ _ hb hb0 hm1 hm0
    · cases hb0

/-! ### The world -/
theorem heap_alloc_old (w : World) (o : Obj) (k : Nat) (h : k < w.heap.size) : (w.alloc o).heap[k]? = w.heap[k]? := by
  show (w.heap.push o)[k]? = _
  rw [Array.getElem?_push, if_neg (by omega)]
theorem heap_alloc_new (w : World) (o : Obj) : (w.alloc o).heap[w.heap.size]? = some o := by
  show (w.heap.push o)[w.heap.size]? = _
  simp
theorem size_alloc (w : World) (o : Obj) : (w.alloc o).heap.size = w.heap.size + 1 := by
  show (w.heap.push o).size = _
  simp

theorem cell_of_heap {w : World} {c i : Nat} {arr : Array Value} {e : TypeId} {f : Nat × Nat} (h : w.heap[c]? = some (.cells arr e f)) : w.cell? ⟨c, i, Option.none⟩ = arr[i]? := by
  simp [World.cell?, h]
theorem frozen_of_heap {w : World} {c i : Nat} {arr : Array Value} {e : TypeId} (h : w.heap[c]? = some (.cells arr e (0, 0))) : w.frozen? ⟨c, i, Option.none⟩ = false := by
  simp [World.frozen?, h]
theorem heap_setCell_ne (w : World) (a : Addr) (v : Value) (k : Nat) (h : k ≠ a.block) : (w.setCell a v).heap[k]? = w.heap[k]? := by
  simp only [World.setCell, Array.getElem?_modify]
  rw [if_neg (by omega)]
theorem heap_setCell_eq {w : World} {c i : Nat} {arr : Array Value} {e : TypeId} {f : Nat × Nat} (h : w.heap[c]? = some (.cells arr e f)) (v : Value) :
    (w.setCell ⟨c, i, Option.none⟩ v).heap[c]? = some (.cells (arr.setIfInBounds i v) e f) := by
  simp [World.setCell, Array.getElem?_modify, h]
theorem size_setCell (w : World) (a : Addr) (v : Value) : (w.setCell a v).heap.size = w.heap.size := by simp [World.setCell]

end Go.Sx

/- The laws of memory: a new block, reading, writing, giving away. -/
namespace Go.Sx
open Go.RowKit

theorem add_none (c q i : Nat) : (⟨c, q, Option.none⟩ : Addr).add i = ⟨c, q + i, Option.none⟩ := by
  unfold Addr.add
  split
  · rename_i h; subst h; rfl
  · rfl

/-! ### A new block -/
def addMap (μ : Map) (b : Nat) (x : Loc) : Map := fun i => if i = b then some x else μ i
theorem addMap_sub {μ : Map} {b : Nat} (x : Loc) (h : μ b = Option.none) : Sub μ (addMap μ b x) := by
  intro i y e
  unfold addMap
  split
  · rename_i hi; subst hi; rw [h] at e; cases e
  · exact e
theorem addMap_eq (μ : Map) (b : Nat) (x : Loc) : addMap μ b x b = some x := by simp [addMap]

theorem HRel.mono_alloc {B : Nat} {μ μ' : Map} {m : Mem} {w : World} (r : HRel B μ m w) (hs : Sub μ μ') (o : Obj) (b : Nat) (blk : Blk) (hb : m.g.hp b = some blk) :
    ∃ c p n arr e, μ' b = some (c, p, n) ∧ (w.alloc o).heap[c]? = some (.cells arr e (0, 0)) ∧ p + n ≤ arr.size ∧ blk.cells.length ≤ n ∧
    ∀ i v, blk.cells[i]? = some v → ∃ v', arr[p + i]? = some v' ∧ VRel μ' v v' := by
  obtain ⟨c, p, n, arr, e, hm, hw, h1, h2, h3⟩ := r.hp b blk hb
  refine ⟨c, p, n, arr, e, hs _ _ hm, by rw [heap_alloc_old _ _ _ (r.dom _ _ _ _ hm).2.2]; exact hw, h1, h2, fun i v hi => ?_⟩
  obtain ⟨v', h4, h5⟩ := h3 i v hi
  exact ⟨v', h4, h5.mono hs⟩

theorem back_map {B : Nat} {μ μ' : Map} {m : Mem} {w : World} (r : HRel B μ m w) (hs : Sub μ μ') {b : Nat} {blk : Blk} {x : Loc} (hb : m.g.hp b = some blk) (hm : μ' b = some x) : μ b = some x := by
  obtain ⟨c, p, n, arr, e, h, _⟩ := r.hp b blk hb
  have := hs _ _ h
  rw [this] at hm
  exact hm ▸ h
theorem back_mapo {B : Nat} {μ μ' : Map} {m : Mem} {w : World} (r : HRel B μ m w) (hs : Sub μ μ') {b : Nat} {cs : List V} {x : Loc} (hb : m.ob b = some cs) (hm : μ' b = some x) : μ b = some x := by
  obtain ⟨c, arr, e, h, _⟩ := r.ob b cs hb
  have := hs _ _ h
  rw [this] at hm
  exact hm ▸ h

theorem new_sound {B : Nat} {μ : Map} {m : Mem} {w : World} (r : HRel B μ m w) (hB : B ≤ w.heap.size) (slot : Option Nat) (hslot : ∀ i, slot = some i → μ i = Option.none ∧ i < m.g.nx)
    (cells : List V) (arr : Array Value) (e : TypeId) (hc : VRels μ cells arr.toList) :
    ∃ μ', Step slot μ m w μ' (newD m slot cells).2 (w.alloc (.cells arr e)) ∧ HRel B μ' (newD m slot cells).2 (w.alloc (.cells arr e)) ∧
      μ' (newD m slot cells).1 = some (w.heap.size, 0, arr.size) := by
  -- the number, and that it is new
  have key : ∀ (b : Nat) (m' : Mem), μ b = Option.none → m'.ob = upd m.ob b (some cells) → m'.g.hp = m.g.hp → m'.g.log = m.g.log → m.g.nx ≤ m'.g.nx → b < m'.g.nx → (m.g.nx ≤ b ∨ slot = some b) →
      ∃ μ', Step slot μ m w μ' m' (w.alloc (.cells arr e)) ∧ HRel B μ' m' (w.alloc (.cells arr e)) ∧ μ' b = some (w.heap.size, 0, arr.size) := by
    intro b m' hb ho hh hl hn hbn hid
    have hs := addMap_sub (μ := μ) (b := b) (w.heap.size, 0, arr.size) hb
    refine ⟨addMap μ b (w.heap.size, 0, arr.size), ?_, ?_, addMap_eq _ _ _⟩
    · refine { sub := hs, nx := hn, os := rfl, tape := rfl, output := rfl, size := by rw [size_alloc]; omega, fz := fun a _ => frozen?_alloc_cells _ _ _ _, ids := ?_, upd := ⟨[], by rw [hl]; rfl, fun c hc _ _ => heap_alloc_old _ _ _ hc⟩, newh := ?_, newo := ?_ }
      · intro i x h
        unfold addMap at h
        split at h
        · rename_i hi; subst hi; exact .inr hid
        · exact .inl h
      · intro i blk c p n hi hm
        rw [hh] at hi
        exact .inr (.inl ⟨i, blk, p, n, hi, back_map r hs hi hm, rfl⟩)
      · intro i cs c p n hi hm
        rw [ho] at hi
        unfold upd at hi
        split at hi
        · rename_i hib; subst hib; rw [addMap_eq] at hm; obtain ⟨rfl, rfl, rfl⟩ := by simpa using hm
          exact .inl (Nat.le_refl _)
        · exact .inr ⟨i, cs, p, n, hi, back_mapo r hs hi hm⟩
    · refine { dom := ?_, hp := ?_, ob := ?_, dj := ?_, oo := ?_, oh := ?_, gl := r.gl.mono hs }
      · intro i c p n h
        rw [size_alloc]
        unfold addMap at h
        split at h
        · rename_i hi; subst hi; obtain ⟨rfl, rfl, rfl⟩ := by simpa using h
          exact ⟨hbn, hB, by omega⟩
        · have := r.dom i c p n h
          exact ⟨by omega, this.2.1, by omega⟩
      · intro i blk hi
        rw [hh] at hi
        exact r.mono_alloc hs _ i blk hi
      · intro i cs hi
        rw [ho] at hi
        unfold upd at hi
        split at hi
        · rename_i hib; subst hib; cases hi
          exact ⟨w.heap.size, arr, e, addMap_eq _ _ _, heap_alloc_new _ _, hc.mono hs⟩
        · obtain ⟨c, a, e', h1, h2, h3⟩ := r.ob i cs hi
          exact ⟨c, a, e', hs _ _ h1, by rw [heap_alloc_old _ _ _ (r.dom _ _ _ _ h1).2.2]; exact h2, h3.mono hs⟩
      · intro i blk i' blk' c p n p' n' hi hi' hm hm'
        rw [hh] at hi hi'
        exact r.dj i blk i' blk' c p n p' n' hi hi' (back_map r hs hi hm) (back_map r hs hi' hm')
      · intro i cs i' cs' c p n p' n' hi hi' hm hm'
        rw [ho] at hi hi'
        unfold upd at hi hi'
        split at hi <;> split at hi'
        · omega
        · rename_i h1 h2; subst h1; rw [addMap_eq] at hm; obtain ⟨rfl, rfl, rfl⟩ := by simpa using hm
          have := (r.dom _ _ _ _ (back_mapo r hs hi' hm')).2.2
          omega
        · rename_i h1 h2; subst h2; rw [addMap_eq] at hm'; obtain ⟨rfl, rfl, rfl⟩ := by simpa using hm'
          have := (r.dom _ _ _ _ (back_mapo r hs hi hm)).2.2
          omega
        · exact r.oo i cs i' cs' c p n p' n' hi hi' (back_mapo r hs hi hm) (back_mapo r hs hi' hm')
      · intro i cs i' blk c p n p' n' hi hi' hm hm'
        rw [hh] at hi'
        rw [ho] at hi
        unfold upd at hi
        have hm2 := back_map r hs hi' hm'
        split at hi
        · rename_i h1; subst h1; rw [addMap_eq] at hm; obtain ⟨rfl, rfl, rfl⟩ := by simpa using hm
          have := (r.dom _ _ _ _ hm2).2.2
          omega
        · exact r.oh i cs i' blk c p n p' n' hi hi' (back_mapo r hs hi hm) hm2
  cases slot with
  | some i =>
    obtain ⟨h1, h2⟩ := hslot i rfl
    exact key i _ h1 rfl rfl rfl (Nat.le_refl _) h2 (.inr rfl)
  | none =>
    refine key m.g.nx _ ?_ rfl rfl rfl (by simp [newD]) (by simp [newD]) (.inl (Nat.le_refl _))
    cases h : μ m.g.nx with
    | none => rfl
    | some x =>
      have := (r.dom _ x.1 x.2.1 x.2.2 h).1
      omega

/-! ### Reading -/
theorem loadFrom_run {P : Program} {w : World} {c : Nat} {arr : Array Value} {e : TypeId} {f : Nat × Nat} (h : w.heap[c]? = some (.cells arr e f)) (q : Nat) :
    ∀ (n i : Nat) (acc : Array Value), q + i + n ≤ arr.size → (loadCellsFrom ⟨c, q, Option.none⟩ i n acc).run P w = .ok (acc ++ ((arr.toList.drop (q + i)).take n).toArray) w
  | 0, i, acc, _ => by simp [loadCellsFrom, Sem.run, pure]
  | n + 1, i, acc, hle => by
    have hc : w.cell? ⟨c, q + i, Option.none⟩ = some (arr[q + i]'(by omega)) := by rw [cell_of_heap h]; exact Array.getElem?_eq_getElem (by omega)
    have ih := loadFrom_run (P := P) h q n (i + 1) (acc.push (arr[q + i]'(by omega))) (by omega)
    simp only [loadCellsFrom, Go.load, add_none, bind, Sem.bind, Sem.run, hc]
    rw [ih]
    congr 1
    apply Array.ext'
    simp only [Array.toList_append, Array.toList_push]
    rw [List.drop_eq_getElem_cons (i := q + i) (l := arr.toList) (by simp; omega)]
    simp [Nat.add_assoc]

theorem loadCells_run {P : Program} {w : World} {c : Nat} {arr : Array Value} {e : TypeId} {f : Nat × Nat} (h : w.heap[c]? = some (.cells arr e f)) (q n : Nat) (hle : q + n ≤ arr.size) :
    (loadCells ⟨c, q, Option.none⟩ n).run P w = .ok ((arr.toList.drop q).take n).toArray w := by
  have := loadFrom_run (P := P) h q n 0 #[] (by omega)
  simpa [loadCells] using this

theorem block_sound {B : Nat} {μ : Map} {m : Mem} {w : World} (r : HRel B μ m w) {b : Nat} {cs : List V} (h : blockD m b = some cs) {c p n : Nat} (hm : μ b = some (c, p, n)) :
    ∃ arr e, w.heap[c]? = some (.cells arr e (0, 0)) ∧ p + n ≤ arr.size ∧ cs.length ≤ n ∧ ∀ i v, cs[i]? = some v → ∃ v', arr[p + i]? = some v' ∧ VRel μ v v' := by
  unfold blockD at h
  cases ho : m.ob b with
  | some l =>
    rw [ho] at h; cases h
    obtain ⟨c', arr, e, h1, h2, h3⟩ := r.ob b cs ho
    rw [hm] at h1
    obtain ⟨rfl, rfl, rfl⟩ := by simpa using h1
    refine ⟨arr, e, h2, by omega, by have := h3.length; simp at this; omega, fun i v hi => ?_⟩
    obtain ⟨v', h4, h5⟩ := h3.get i v hi
    exact ⟨v', by simpa using h4, h5⟩
  | none =>
    rw [ho] at h
    simp only [Option.map_eq_some_iff] at h
    obtain ⟨blk, hb, rfl⟩ := h
    obtain ⟨c', p', n', arr, e, h1, h2, h3, h4, h5⟩ := r.hp b blk hb
    rw [hm] at h1
    obtain ⟨rfl, rfl, rfl⟩ := by simpa using h1
    exact ⟨arr, e, h2, h3, h4, h5⟩

/-- What is read: the cells are there, and hold it. -/
theorem read_sound {B : Nat} {μ : Map} {m : Mem} {w : World} (r : HRel B μ m w) {b o k : Nat} {vs : List V} (h : readD m b o k = some vs) {c p n : Nat} (hm : μ b = some (c, p, n)) :
    ∃ arr e, w.heap[c]? = some (.cells arr e (0, 0)) ∧ p + o + k ≤ arr.size ∧ vs.length = k ∧ VRels μ vs ((arr.toList.drop (p + o)).take k) := by
  unfold readD at h
  cases hb : blockD m b with
  | none => rw [hb] at h; cases h
  | some cs =>
    rw [hb] at h
    simp only at h
    split at h
    · rename_i hle
      cases h
      obtain ⟨arr, e, h2, h3, h4, h5⟩ := block_sound r hb hm
      refine ⟨arr, e, h2, by omega, by simp; omega, ?_⟩
      refine VRels.of_get (by simp; omega) fun i v v' hi hi' => ?_
      simp only [List.getElem?_take, List.getElem?_drop] at hi hi'
      split at hi
      · rename_i hik
        rw [if_pos hik] at hi'
        obtain ⟨v2, h6, h7⟩ := h5 (o + i) v hi
        have : v2 = v' := by
          have e1 : arr[p + (o + i)]? = some v' := by rw [← Array.getElem?_toList]; rw [← hi']; congr 1; omega
          rw [h6] at e1; exact Option.some.inj e1
        exact this ▸ h7
      · cases hi
    · cases h

end Go.Sx

/- Writing, and giving away. -/
namespace Go.Sx
open Go.RowKit

/-- Nothing but the block c has turned. -/
structure SameBut (c : Nat) (w w' : World) : Prop where
  heap : ∀ k, k ≠ c → w'.heap[k]? = w.heap[k]?
  size : w'.heap.size = w.heap.size
  os : w'.os = w.os
  tape : w'.tape = w.tape
  output : w'.output = w.output
  fz : ∀ a, w'.frozen? a = w.frozen? a
theorem SameBut.refl (c : Nat) (w : World) : SameBut c w w := ⟨fun _ _ => rfl, rfl, rfl, rfl, rfl, fun _ => rfl⟩
theorem SameBut.trans {c : Nat} {w w1 w2 : World} (h : SameBut c w w1) (k : SameBut c w1 w2) : SameBut c w w2 :=
  ⟨fun i hi => (k.heap i hi).trans (h.heap i hi), k.size.trans h.size, k.os.trans h.os, k.tape.trans h.tape, k.output.trans h.output, fun a => (k.fz a).trans (h.fz a)⟩
theorem sameBut_setCell (w : World) (c q : Nat) (v : Value) : SameBut c w (w.setCell ⟨c, q, Option.none⟩ v) :=
  ⟨fun k hk => heap_setCell_ne _ _ _ _ hk, size_setCell _ _ _, rfl, rfl, rfl, fun a => World.frozen?_setCell _ _ _ _⟩

def oneV : Value → Bool
  | .agg _ | .tuple _ => false
  | _ => true
theorem one_rel {μ : Map} {v : V} {v' : Value} (h : oneD v = true) (k : VRel μ v v') : oneV v' = true := by
  cases k <;> first | rfl | (simp [oneD] at h)
theorem ones_rel0 {μ : Map} : ∀ {l : List V} {l' : List Value}, VRels μ l l' → l.all oneD = true → ∀ v ∈ l', oneV v = true
  | _, _, .nil, _, v, hv => by cases hv
  | _, _, .cons x x' l l' hx t, h, v, hv => by
    simp only [List.all_cons, Bool.and_eq_true] at h
    cases hv with
    | head => exact one_rel h.1 hx
    | tail _ hv => exact ones_rel0 t h.2 v hv
theorem ones_rel {μ : Map} {l : List V} {l' : List Value} (h : l.all oneD = true) (k : VRels μ l l') : ∀ v ∈ l', oneV v = true := ones_rel0 k h

theorem store_run {P : Program} {w : World} {c q : Nat} {arr : Array Value} {e : TypeId} (h : w.heap[c]? = some (.cells arr e (0, 0))) (hq : q < arr.size) (v : Value) (hv : oneV v = true) :
    (Go.store ⟨c, q, Option.none⟩ v).run P w = .ok () (w.setCell ⟨c, q, Option.none⟩ v) := by
  have hc : w.cell? ⟨c, q, Option.none⟩ = some (arr[q]'hq) := by rw [cell_of_heap h]; exact Array.getElem?_eq_getElem hq
  have hf : w.frozen? ⟨c, q, Option.none⟩ = false := frozen_of_heap h
  cases v <;> simp [oneV] at hv <;> simp [Go.store, Sem.run, hc, hf]

theorem storeCells_run {P : Program} {c q : Nat} {e : TypeId} : ∀ (vs : List Value) (i : Nat) (w : World) (arr : Array Value), w.heap[c]? = some (.cells arr e (0, 0)) → (∀ v ∈ vs, oneV v = true) →
    q + i + vs.length ≤ arr.size → ∃ w' arr', (storeCells ⟨c, q, Option.none⟩ vs i).run P w = .ok () w' ∧ w'.heap[c]? = some (.cells arr' e (0, 0)) ∧
      arr'.toList = arr.toList.take (q + i) ++ vs ++ arr.toList.drop (q + i + vs.length) ∧ SameBut c w w'
  | [], i, w, arr, h, _, hle => ⟨w, arr, by simp [storeCells, Sem.run, pure], h, by simp, SameBut.refl _ _⟩
  | v :: vs, i, w, arr, h, hone, hle => by
    simp only [List.length_cons] at hle
    have hs := store_run (P := P) h (q := q + i) (by omega) v (hone v (List.mem_cons_self ..))
    have h' := heap_setCell_eq (i := q + i) h v
    obtain ⟨w', arr', h1, h2, h3, h4⟩ := storeCells_run (P := P) (c := c) (q := q) (e := e) vs (i + 1) (w.setCell ⟨c, q + i, Option.none⟩ v) _ h' (fun x hx => hone x (List.mem_cons_of_mem _ hx)) (by simp; omega)
    refine ⟨w', arr', ?_, h2, ?_, (sameBut_setCell _ _ _ _).trans h4⟩
    · have e1 : (storeCells ⟨c, q, Option.none⟩ (v :: vs) i) = (Go.store ⟨c, q + i, Option.none⟩ v) >>= fun _ => storeCells ⟨c, q, Option.none⟩ vs (i + 1) := by
        simp [storeCells, add_none]
      rw [e1, Sem.run_bind, hs]
      exact h1
    · rw [h3]
      simp only [Array.toList_setIfInBounds, List.length_cons]
      have a1 : (arr.toList.set (q + i) v).take (q + (i + 1)) = arr.toList.take (q + i) ++ [v] := by
        rw [List.take_set, show q + (i + 1) = (q + i) + 1 from by omega, List.take_succ_eq_append_getElem (by simp; omega)]
        rw [List.set_append_right _ _ (by simp; omega)]
        simp [Nat.min_eq_left (show q + i ≤ arr.size from by omega)]
      have a2 : (arr.toList.set (q + i) v).drop (q + (i + 1) + vs.length) = arr.toList.drop (q + i + (vs.length + 1)) := by
        rw [List.drop_set_of_lt (by omega)]
        congr 1
        omega
      rw [a1, a2]
      simp

theorem splice_rel {μ : Map} {cs vs : List V} {o p : Nat} {arr arr' : Array Value} {vs' : List Value} (hcs : ∀ (i : Nat) v, cs[i]? = some v → ∃ v', arr[p + i]? = some v' ∧ VRel μ v v')
    (hvs : VRels μ vs vs') (hle : o + vs.length ≤ cs.length) (hsz : p + cs.length ≤ arr.size) (ha : arr'.toList = arr.toList.take (p + o) ++ vs' ++ arr.toList.drop (p + o + vs'.length)) (i : Nat) (v : V) (hi : (splice cs o vs)[i]? = some v) :
    ∃ v', arr'[p + i]? = some v' ∧ VRel μ v v' := by
  have hl := hvs.length
  have hget : arr'[p + i]? = (arr.toList.take (p + o) ++ vs' ++ arr.toList.drop (p + o + vs'.length))[p + i]? := by rw [← ha]; simp
  rw [hget]
  unfold splice at hi
  by_cases h1 : i < o
  · rw [List.append_assoc, List.getElem?_append_left (by simp; omega), List.getElem?_take_of_lt h1] at hi
    rw [List.append_assoc, List.getElem?_append_left (by simp; omega), List.getElem?_take_of_lt (by omega)]
    simpa using hcs i v hi
  · by_cases h2 : i < o + vs.length
    · rw [List.append_assoc, List.getElem?_append_right (by simp; omega), List.getElem?_append_left (by simp; omega)] at hi
      rw [List.append_assoc, List.getElem?_append_right (by simp; omega), List.getElem?_append_left (by simp; omega)]
      obtain ⟨v', a, b⟩ := hvs.get _ v hi
      refine ⟨v', ?_, b⟩
      rw [← a]; congr 1; simp; omega
    · rw [List.getElem?_append_right (by simp; omega), List.getElem?_drop] at hi
      rw [List.getElem?_append_right (by simp; omega), List.getElem?_drop]
      have e1 : o + vs.length + (i - (List.take o cs ++ vs).length) = i := by simp; omega
      rw [e1] at hi
      obtain ⟨v', a, b⟩ := hcs i v hi
      refine ⟨v', ?_, b⟩
      rw [← a, ← Array.getElem?_toList]; congr 1; simp; omega

theorem splice_length {cs vs : List V} {o : Nat} (hle : o + vs.length ≤ cs.length) : (splice cs o vs).length = cs.length := by
  unfold splice
  simp
  omega

/-- A write: the cells were there; what is behind it. -/
theorem write_sound {B : Nat} {μ : Map} {m m' : Mem} {w : World} (slot : Option Nat) (r : HRel B μ m w) {b o : Nat} {vs : List V} (h : writeD m b o vs = some m') {c p n : Nat} (hm : μ b = some (c, p, n))
    {vs' : List Value} (hv : VRels μ vs vs') (P : Program) :
    ∃ w', (storeCells ⟨c, p + o, Option.none⟩ vs').run P w = .ok () w' ∧ Step slot μ m w μ m' w' ∧ HRel B μ m' w' := by
  unfold writeD at h
  split at h
  · cases h
  rename_i hone
  have hone : vs.all oneD = true := by simpa using hone
  have hl := hv.length
  cases ho : m.ob b with
  | some cs =>
    rw [ho] at h
    simp only at h
    split at h
    · rename_i hle
      cases h
      obtain ⟨c', arr, e, h1, h2, h3⟩ := r.ob b cs ho
      rw [hm] at h1
      obtain ⟨rfl, rfl, rfl⟩ := by simpa using h1
      have hlen := h3.length
      obtain ⟨w', arr', q1, q2, q3, q4⟩ := storeCells_run (P := P) (c := c) (q := 0 + o) (e := e) vs' 0 w arr h2 (ones_rel hone hv) (by simp at hlen; omega)
      refine ⟨w', q1, ?_, ?_⟩
      · refine { sub := Sub.refl _, nx := Nat.le_refl _, os := q4.os, tape := q4.tape, output := q4.output, size := by rw [q4.size]; omega, fz := fun a _ => q4.fz a, ids := fun _ _ h => .inl h, upd := ⟨[], rfl, fun k hk _ h0 => ?_⟩, newh := fun i blk c p n hi hmi => .inr (.inl ⟨i, blk, p, n, hi, hmi, rfl⟩), newo := ?_ }
        · exact q4.heap k (fun e => h0 b cs 0 arr.size ho (e ▸ hm))
        · intro i cs' c' p' n' hi hmi
          simp only [upd] at hi
          split at hi
          · rename_i hib; subst hib; exact .inr ⟨i, cs, p', n', ho, hmi⟩
          · exact .inr ⟨i, cs', p', n', hi, hmi⟩
      · refine { dom := fun i c p n hi => ?_, hp := ?_, ob := ?_, dj := r.dj, oo := ?_, oh := ?_, gl := r.gl }
        · have := r.dom i c p n hi
          rw [q4.size]; exact this
        · intro i blk hi
          obtain ⟨c2, p2, n2, arr2, e2, a1, a2, a3, a4, a5⟩ := r.hp i blk hi
          refine ⟨c2, p2, n2, arr2, e2, a1, ?_, a3, a4, a5⟩
          rw [q4.heap c2 (fun ee => r.oh b cs i blk c 0 arr.size p2 n2 ho hi hm (ee ▸ a1))]
          exact a2
        · intro i cs' hi
          simp only [upd] at hi
          split at hi
          · rename_i hib; subst hib; cases hi
            have hsz : arr'.size = arr.size := by
              have := congrArg List.length q3
              simp at this; simp at hlen; omega
            refine ⟨c, arr', e, by rw [hsz]; exact hm, q2, ?_⟩
            refine VRels.of_get (by rw [splice_length hle]; simp at hlen ⊢; omega) fun j v v' hj hj' => ?_
            obtain ⟨v2, b1, b2⟩ := splice_rel (μ := μ) (p := 0) (arr := arr) (arr' := arr') (fun i v hi => by
              obtain ⟨x, y, z⟩ := h3.get i v hi
              exact ⟨x, by simpa using y, z⟩) hv hle (by simp at hlen; omega) (by simpa using q3) j v hj
            have : v2 = v' := by
              have e1 : arr'[0 + j]? = some v' := by rw [← Array.getElem?_toList]; simpa using hj'
              rw [b1] at e1; exact Option.some.inj e1
            exact this ▸ b2
          · rename_i hib
            obtain ⟨c2, arr2, e2, a1, a2, a3⟩ := r.ob i cs' hi
            refine ⟨c2, arr2, e2, a1, ?_, a3⟩
            rw [q4.heap c2 (fun ee => hib (r.oo i cs' b cs c 0 _ 0 _ hi ho (ee ▸ a1) hm))]
            exact a2
        · intro i cs1 i' cs2 c1 p1 n1 p2 n2 hi hi' a1 a2
          simp only [upd] at hi hi'
          split at hi <;> split at hi'
          · omega
          · rename_i e1 e2; subst e1; exact r.oo i cs i' cs2 c1 p1 n1 p2 n2 ho hi' a1 a2
          · rename_i e1 e2; subst e2; exact r.oo i cs1 i' cs c1 p1 n1 p2 n2 hi ho a1 a2
          · exact r.oo i cs1 i' cs2 c1 p1 n1 p2 n2 hi hi' a1 a2
        · intro i cs1 i' blk c1 p1 n1 p2 n2 hi hi' a1 a2
          simp only [upd] at hi
          split at hi
          · rename_i e1; subst e1; exact r.oh i cs i' blk c1 p1 n1 p2 n2 ho hi' a1 a2
          · exact r.oh i cs1 i' blk c1 p1 n1 p2 n2 hi hi' a1 a2
    · cases h
  | none =>
    rw [ho] at h
    cases hb : m.g.hp b with
    | none => rw [hb] at h; cases h
    | some blk =>
      rw [hb] at h
      simp only at h
      split at h
      · rename_i hle
        cases h
        obtain ⟨c', p', n', arr, e, h1, h2, h3, h4, h5⟩ := r.hp b blk hb
        rw [hm] at h1
        obtain ⟨rfl, rfl, rfl⟩ := by simpa using h1
        obtain ⟨w', arr', q1, q2, q3, q4⟩ := storeCells_run (P := P) (c := c) (q := p + o) (e := e) vs' 0 w arr h2 (ones_rel hone hv) (by omega)
        have hsz : arr'.size = arr.size := by
          have := congrArg List.length q3
          simp at this; omega
        refine ⟨w', q1, ?_, ?_⟩
        · refine { sub := Sub.refl _, nx := Nat.le_refl _, os := q4.os, tape := q4.tape, output := q4.output, size := by rw [q4.size]; omega, fz := fun a _ => q4.fz a, ids := fun _ _ h => .inl h, upd := ⟨[blk.root], rfl, fun k hk h0 _ => ?_⟩, newh := ?_, newo := fun i cs c p n hi hmi => .inr ⟨i, cs, p, n, hi, hmi⟩ }
          · exact q4.heap k (fun e => h0 b blk p n hb (e ▸ hm) (by simp))
          · intro i blk2 c2 p2 n2 hi hmi
            simp only [wipe] at hi
            split at hi
            · rename_i hib; subst hib; cases hi; exact .inr (.inl ⟨i, blk, p2, n2, hb, hmi, rfl⟩)
            · split at hi
              · rename_i y hy
                split at hi
                · cases hi
                · cases hi; exact .inr (.inl ⟨i, _, p2, n2, hy, hmi, rfl⟩)
              · cases hi
        · have hold : ∀ i blk2, wipe m.g.hp blk.root b { blk with cells := splice blk.cells o vs } i = some blk2 → i ≠ b → m.g.hp i = some blk2 ∧ blk2.root ≠ blk.root := by
            intro i blk2 hi hib
            simp only [wipe, if_neg hib] at hi
            split at hi
            · rename_i y hy
              split at hi
              · cases hi
              · rename_i hr; cases hi; exact ⟨hy, hr⟩
            · cases hi
          have hnew : ∀ blk2, wipe m.g.hp blk.root b { blk with cells := splice blk.cells o vs } b = some blk2 → blk2 = { blk with cells := splice blk.cells o vs } := by
            intro blk2 hi
            simp only [wipe, if_true] at hi
            exact (Option.some.inj hi).symm
          refine { dom := fun i c p n hi => ?_, hp := ?_, ob := ?_, dj := ?_, oo := r.oo, oh := ?_, gl := r.gl }
          · have := r.dom i c p n hi
            rw [q4.size]; exact this
          · intro i blk2 hi
            by_cases hib : i = b
            · subst hib
              rw [hnew blk2 hi]
              refine ⟨c, p, n, arr', e, hm, q2, by omega, by simp only [splice_length hle]; omega, fun j v hj => ?_⟩
              exact splice_rel (μ := μ) (p := p) (arr := arr) (arr' := arr') h5 hv hle (by omega) (by simpa using q3) j v hj
            · obtain ⟨hi2, hr⟩ := hold i blk2 hi hib
              obtain ⟨c2, p2, n2, arr2, e2, a1, a2, a3, a4, a5⟩ := r.hp i blk2 hi2
              refine ⟨c2, p2, n2, arr2, e2, a1, ?_, a3, a4, a5⟩
              rw [q4.heap c2 (fun ee => hr (r.dj i blk2 b blk c p2 n2 p n hi2 hb (ee ▸ a1) hm).1)]
              exact a2
          · intro i cs hi
            obtain ⟨c2, arr2, e2, a1, a2, a3⟩ := r.ob i cs hi
            refine ⟨c2, arr2, e2, a1, ?_, a3⟩
            rw [q4.heap c2 (fun ee => r.oh i cs b blk c 0 _ p n hi hb (ee ▸ a1) hm)]
            exact a2
          · intro i blk1 i' blk2 c1 p1 n1 p2 n2 hi hi' a1 a2
            have g1 : ∃ y, m.g.hp i = some y ∧ y.root = blk1.root := by
              by_cases hib : i = b
              · subst hib; exact ⟨blk, hb, by rw [hnew _ hi]⟩
              · exact ⟨blk1, (hold i blk1 hi hib).1, rfl⟩
            have g2 : ∃ y, m.g.hp i' = some y ∧ y.root = blk2.root := by
              by_cases hib : i' = b
              · subst hib; exact ⟨blk, hb, by rw [hnew _ hi']⟩
              · exact ⟨blk2, (hold i' blk2 hi' hib).1, rfl⟩
            obtain ⟨y1, y2, y3⟩ := g1
            obtain ⟨z1, z2, z3⟩ := g2
            have := r.dj i y1 i' z1 c1 p1 n1 p2 n2 y2 z2 a1 a2
            exact ⟨y3 ▸ z3 ▸ this.1, this.2⟩
          · intro i cs i' blk2 c1 p1 n1 p2 n2 hi hi' a1 a2
            by_cases hib : i' = b
            · subst hib; exact r.oh i cs i' blk c1 p1 n1 p2 n2 hi hb a1 a2
            · exact r.oh i cs i' blk2 c1 p1 n1 p2 n2 hi (hold i' blk2 hi' hib).1 a1 a2
      · cases h

/-! ### Giving away -/
theorem spill1_sound {B : Nat} {μ : Map} {m : Mem} {w : World} (slot : Option Nat) (r : HRel B μ m w) {b : Nat} {cs : List V} (ho : m.ob b = some cs) :
    Step slot μ m w μ (spill1 m b cs) w ∧ HRel B μ (spill1 m b cs) w := by
  obtain ⟨c0, arr0, e0, h1, h2, h3⟩ := r.ob b cs ho
  have hlen := h3.length
  constructor
  · refine { sub := Sub.refl _, nx := Nat.le_refl _, os := rfl, tape := rfl, output := rfl, size := Nat.le_refl _, fz := fun _ _ => rfl, ids := fun _ _ h => .inl h, upd := ⟨[b], rfl, fun _ _ _ _ => rfl⟩, newh := ?_, newo := ?_ }
    · intro i blk c p n hi hmi
      simp only [spill1, upd] at hi
      split at hi
      · rename_i hib; subst hib; exact .inr (.inr ⟨i, cs, p, n, ho, hmi⟩)
      · exact .inr (.inl ⟨i, blk, p, n, hi, hmi, rfl⟩)
    · intro i cs' c p n hi hmi
      simp only [spill1, upd] at hi
      split at hi
      · cases hi
      · exact .inr ⟨i, cs', p, n, hi, hmi⟩
  · refine { dom := r.dom, hp := ?_, ob := ?_, dj := ?_, oo := ?_, oh := ?_, gl := r.gl }
    · intro i blk hi
      simp only [spill1, upd] at hi
      split at hi
      · rename_i hib; subst hib; cases hi
        refine ⟨c0, 0, arr0.size, arr0, e0, h1, h2, by omega, by simp at hlen ⊢; omega, fun j v hj => ?_⟩
        obtain ⟨v', a, b⟩ := h3.get j v hj
        exact ⟨v', by simpa using a, b⟩
      · exact r.hp i blk hi
    · intro i cs' hi
      simp only [spill1, upd] at hi
      split at hi
      · cases hi
      · exact r.ob i cs' hi
    · intro i blk1 i' blk2 c1 p1 n1 p2 n2 hi hi' a1 a2
      simp only [spill1, upd] at hi hi'
      split at hi <;> split at hi'
      · rename_i e1 e2; cases hi; cases hi'; subst e1; subst e2
        rw [a1] at a2
        simp only [Option.some.injEq, Prod.mk.injEq, true_and] at a2
        exact ⟨rfl, a2.1⟩
      · rename_i e1 e2; subst e1; exact (r.oh i cs i' blk2 c1 p1 n1 p2 n2 ho hi' a1 a2).elim
      · rename_i e1 e2; subst e2; exact (r.oh i' cs i blk1 c1 p2 n2 p1 n1 ho hi a2 a1).elim
      · exact r.dj i blk1 i' blk2 c1 p1 n1 p2 n2 hi hi' a1 a2
    · intro i cs1 i' cs2 c1 p1 n1 p2 n2 hi hi' a1 a2
      simp only [spill1, upd] at hi hi'
      split at hi
      · cases hi
      · split at hi'
        · cases hi'
        · exact r.oo i cs1 i' cs2 c1 p1 n1 p2 n2 hi hi' a1 a2
    · intro i cs1 i' blk c1 p1 n1 p2 n2 hi hi' a1 a2
      simp only [spill1, upd] at hi hi'
      split at hi
      · cases hi
      · rename_i hne
        split at hi'
        · rename_i e1; subst e1; exact hne (r.oo i cs1 i' cs c1 p1 n1 p2 n2 hi ho a1 a2)
        · exact r.oh i cs1 i' blk c1 p1 n1 p2 n2 hi hi' a1 a2

mutual
theorem spillV_sound {B : Nat} {μ : Map} {w : World} (slot : Option Nat) : ∀ (n : Nat) (v : V) (m : Mem), HRel B μ m w → Step slot μ m w μ (spillV n v m) w ∧ HRel B μ (spillV n v m) w
  | 0, v, m, r => by simp only [spillV]; exact ⟨Step.refl _ _ _ _, r⟩
  | n + 1, v, m, r => by
    have box : ∀ b, Step slot μ m w μ (match m.ob b with | some cs => spillL n cs (spill1 m b cs) | Option.none => m) w ∧ HRel B μ (match m.ob b with | some cs => spillL n cs (spill1 m b cs) | Option.none => m) w := by
      intro b
      split
      · rename_i cs ho
        obtain ⟨a1, a2⟩ := spill1_sound slot r ho
        obtain ⟨b1, b2⟩ := spillL_sound slot n cs _ a2
        exact ⟨a1.trans b1, b2⟩
      · exact ⟨Step.refl _ _ _ _, r⟩
    cases v <;> simp only [spillV] <;> first
      | exact box _
      | exact ⟨Step.refl _ _ _ _, r⟩
      | exact spillV_sound slot n _ m r
      | exact spillL_sound slot n _ m r
      | skip
    rename_i f a c
    obtain ⟨a1, a2⟩ := spillL_sound slot n a m r
    obtain ⟨b1, b2⟩ := spillL_sound slot n c _ a2
    exact ⟨a1.trans b1, b2⟩
theorem spillL_sound {B : Nat} {μ : Map} {w : World} (slot : Option Nat) : ∀ (n : Nat) (l : List V) (m : Mem), HRel B μ m w → Step slot μ m w μ (spillL n l m) w ∧ HRel B μ (spillL n l m) w
  | 0, l, m, r => by simp only [spillL]; exact ⟨Step.refl _ _ _ _, r⟩
  | n + 1, [], m, r => by simp only [spillL]; exact ⟨Step.refl _ _ _ _, r⟩
  | n + 1, v :: l, m, r => by
    simp only [spillL]
    obtain ⟨a1, a2⟩ := spillV_sound slot n v m r
    obtain ⟨b1, b2⟩ := spillL_sound slot n l _ a2
    exact ⟨a1.trans b1, b2⟩
end

end Go.Sx

/- Operations, one by one: what the model does at each is what the evaluator says (calls and append apart). -/
namespace Go.Sx
open Go.RowKit

/-! ### Small programs of the model -/
section
variable {P : Program} {w : World} {t : TypeId}
theorem program_run : (Go.program).run P w = .ok P w := rfl
theorem typeInfo_run {i : TypeInfo} (h : P.info? t = some i) : (Go.typeInfo t).run P w = .ok i w := by
  simp only [Go.typeInfo, Sem.run_bind, program_run, Result.andThen, h, Sem.run_pure]
theorem underlying_run {d : TypeDesc} (h : P.underlying t = some d) : (Go.underlying t).run P w = .ok d w := by
  simp only [Go.underlying, Sem.run_bind, program_run, Result.andThen, h, Sem.run_pure]
theorem sizeOf_run {n : Nat} (h : sizeD P t = some n) : (Go.sizeOf t).run P w = .ok n w := by
  simp only [sizeD, Option.map_eq_some_iff] at h
  obtain ⟨i, hi, rfl⟩ := h
  simp only [Go.sizeOf, Sem.run_bind, typeInfo_run hi, Result.andThen, Sem.run_pure]
theorem isAgg_run {b : Bool} (h : aggD P t = some b) : (Go.isAgg t).run P w = .ok b w := by
  simp only [aggD, Option.map_eq_some_iff] at h
  obtain ⟨d, hd, rfl⟩ := h
  simp only [Go.isAgg, Sem.run_bind, underlying_run hd, Result.andThen]
  cases d <;> rfl
theorem zero_run {cs : List V} (h : zeroD P t = some cs) : ∃ v, (Go.zeroValue t).run P w = .ok v w ∧ cs = v.cells.toList.map ofScal := by
  simp only [zeroD, Option.map_eq_some_iff] at h
  obtain ⟨v, hv, rfl⟩ := h
  cases hi : P.info? t with
  | none => simp [hi] at hv
  | some i =>
    rw [hi] at hv
    simp only [Option.bind_some] at hv
    exact ⟨v, by simp only [Go.zeroValue, Sem.run_bind, typeInfo_run hi, Result.andThen, hv, Sem.run_pure], rfl⟩
theorem newObj_run (o : Obj) : (Go.newObj o).run P w = .ok w.heap.size (w.alloc o) := rfl
theorem newRow_run (e : TypeId) (cs : Array Value) : (Go.newRow e cs).run P w = .ok ⟨w.heap.size, 0, Option.none⟩ (w.alloc (.cells cs e)) := by
  simp only [Go.newRow, Sem.run_bind, newObj_run, Result.andThen, Sem.run_pure]
end

def OpRes (P : Program) (s : Sem Next) (w : World) (B : Nat) (slot : Option Nat) (μ : Map) (m : Mem) : R → Mem → Prop
  | .val v, m' => ∃ μ' w' v', s.run P w = .ok (.value v') w' ∧ Step slot μ m w μ' m' w' ∧ HRel B μ' m' w' ∧ VRel μ' v v'
  | .skip, m' => ∃ μ' w', s.run P w = .ok .skip w' ∧ Step slot μ m w μ' m' w' ∧ HRel B μ' m' w'
  | .panic v, m' => ∃ μ' w' v', s.run P w = .halt (.panic v') w' ∧ Step slot μ m w μ' m' w' ∧ HRel B μ' m' w' ∧ VRel μ' v v'

theorem cells_rel {μ : Map} {v : V} {v' : Value} {cs : List V} (h : cellsD v = some cs) (k : VRel μ v v') : VRels μ cs v'.cells.toList := by
  cases k <;> simp only [cellsD] at h <;> cases h <;> first
    | (simp only [Value.cells]; assumption)
    | skip
  all_goals (simp only [Value.cells]; first | exact .cons _ _ _ _ (by constructor <;> assumption) .nil | skip)

theorem eval_rel {μ : Map} {regs : Nat → V} {a : Act} (hg : GlobOK μ) (h : ∀ t, VRel μ (regs t) (a.tmps.getD t undef)) (x : Operand) : VRel μ (evalD regs x) (a.eval x) := by
  cases x with
  | tmp t => exact h t
  | const v => exact ofVal_rel μ v
  | global g =>
    simp only [evalD]
    by_cases hlt : globIs g = true
    · rw [if_pos hlt]
      obtain ⟨n, e⟩ := hg g hlt
      exact .ptr g 0 g 0 n e
    · rw [if_neg hlt]; exact .any _
  | func f => exact .func f [] [] [] [] .nil .nil

section
variable {P : Program} {B : Nat} {μ : Map} {m : Mem} {w : World} {slot : Option Nat}

theorem still {s : Sem Next} {v : V} {v' : Value} (r : HRel B μ m w) (h : s.run P w = .ok (.value v') w) (k : VRel μ v v') : OpRes P s w B slot μ m (.val v) m :=
  ⟨μ, w, v', h, Step.refl _ _ _ _, r, k⟩

theorem plain_sound {regs : Nat → V} {ρ : Operand → Value} (r : HRel B μ m w) (hρ : ∀ x, VRel μ (evalD regs x) (ρ x)) {o : Oper} {x : R} (h : plainD P regs o = some x) : OpRes P (execOp ρ o) w B slot μ m x m := by
  unfold plainD at h
  split at h
  · rename_i hall
    have hsel : ∀ cs b, o.op ≠ .select cs b := by
      intro cs b e
      rw [e] at h
      cases h
    have hcongr : execOp ρ o = execOp (fun x => (toVal (evalD regs x)).getD undef) o := by
      refine execOp_congr o hsel fun y hy => ?_
      have h1 := List.all_eq_true.1 hall y (Array.mem_toList_iff.2 hy)
      cases hv : toVal (evalD regs y) with
      | none => rw [hv] at h1; cases h1
      | some z =>
        simp only [Option.getD_some]
        exact toVal_uniq hv (hρ y)
    have h2 : (match pureRun P (execOp (fun x => (toVal (evalD regs x)).getD undef) o) with
      | some (.value v) => some (R.val (ofVal v))
      | some .skip => some R.skip
      | _ => Option.none) = some x := by
      split at h
      · rename_i cs b e; exact absurd e (hsel cs b)
      · exact h
    rw [hcongr]
    split at h2
    · rename_i v hv
      cases h2
      exact still r (run_of_pure hv w) (ofVal_rel μ v)
    · rename_i hv
      cases h2
      exact ⟨μ, w, run_of_pure hv w, Step.refl _ _ _ _, r⟩
    · cases h2
  · cases h

theorem new_res (r : HRel B μ m w) (hB : B ≤ w.heap.size) (hslot : ∀ i, slot = some i → μ i = Option.none ∧ i < m.g.nx) {s : Sem Next} {cells : List V} {arr : Array Value} {e : TypeId} (hc : VRels μ cells arr.toList)
    {v : Nat → V} {v' : Value} (hs : s.run P w = .ok (.value v') (w.alloc (.cells arr e))) (hv : ∀ μ' b, μ' b = some (w.heap.size, 0, arr.size) → VRel μ' (v b) v') :
    OpRes P s w B slot μ m (.val (v (newD m slot cells).1)) (newD m slot cells).2 := by
  obtain ⟨μ', h1, h2, h3⟩ := new_sound r hB slot hslot cells arr e hc
  exact ⟨μ', _, v', hs, h1, h2, hv _ _ h3⟩

/-! ### Filling -/
theorem foldl_splice (off : Nat) : ∀ (xs : List Value) (k : Nat) (cells : Array Value), off + k + xs.length ≤ cells.size →
    ((xs.zipIdx k).foldl (fun (cs : Array Value) (p : Value × Nat) => cs.setIfInBounds (off + p.2) p.1) cells).toList = cells.toList.take (off + k) ++ xs ++ cells.toList.drop (off + k + xs.length)
  | [], k, cells, h => by simp
  | x :: xs, k, cells, h => by
    simp only [List.length_cons] at h
    rw [List.zipIdx_cons, List.foldl_cons, foldl_splice off xs (k + 1) _ (by simp; omega)]
    simp only [Array.toList_setIfInBounds, List.length_cons]
    have a1 : (cells.toList.set (off + k) x).take (off + (k + 1)) = cells.toList.take (off + k) ++ [x] := by
      rw [List.take_set, show off + (k + 1) = (off + k) + 1 from by omega, List.take_succ_eq_append_getElem (by simp; omega)]
      rw [List.set_append_right _ _ (by simp; omega)]
      simp [Nat.min_eq_left (show off + k ≤ cells.size from by omega)]
    have a2 : (cells.toList.set (off + k) x).drop (off + (k + 1) + xs.length) = cells.toList.drop (off + k + (xs.length + 1)) := by
      rw [List.drop_set_of_lt (by omega)]
      congr 1
      omega
    rw [a1, a2]
    simp

theorem fill_sound {place place' : Nat → Option (Nat × Nat)} (hp : ∀ i x, place' i = some x → place i = some x) : ∀ (parts : List (Nat × V)) (parts' : List (Nat × Value)) (cells out : List V) (cells' : Array Value),
    VRels μ cells cells'.toList → parts'.map (·.1) = parts.map (·.1) → VRels μ (parts.map (·.2)) (parts'.map (·.2)) → fillD place' cells parts = some out →
    ∃ out', Instr.fill place cells' parts' = some out' ∧ VRels μ out out'.toList ∧ out.length = cells.length
  | [], [], cells, out, cells', hc, _, _, h => by simp only [fillD] at h; cases h; exact ⟨cells', rfl, hc, rfl⟩
  | [], _ :: _, _, _, _, _, h, _, _ => by simp at h
  | _ :: _, [], _, _, _, _, h, _, _ => by simp at h
  | (i, v) :: parts, (i', v') :: parts', cells, out, cells', hc, h1, h2, h => by
    simp only [List.map_cons, List.cons.injEq] at h1
    obtain ⟨rfl, h1⟩ := h1
    simp only [List.map_cons] at h2
    cases h2 with
    | cons _ _ _ _ hv ht =>
    simp only [fillD] at h
    cases hpl : place' i' with
    | none => rw [hpl] at h; simp at h
    | some x =>
      obtain ⟨off, size⟩ := x
      rw [hpl] at h
      cases hcs : cellsD v with
      | none => rw [hcs] at h; simp at h
      | some vs =>
        rw [hcs] at h
        simp only at h
        split at h
        · rename_i hle
          have hcv := cells_rel hcs hv
          have hl := hcv.length
          have hcl := hc.length
          simp only [Array.length_toList] at hl hcl
          have e1 : Instr.fill place cells' ((i', v') :: parts') = Instr.fill place (v'.cells.zipIdx.foldl (fun cs (c, j) => cs.setIfInBounds (off + j) c) cells') parts' := by
            simp only [Instr.fill, hp _ _ hpl]
            rw [if_neg (by simp; omega)]
          have e2 : (v'.cells.zipIdx.foldl (fun cs (c, j) => cs.setIfInBounds (off + j) c) cells').toList = cells'.toList.take off ++ v'.cells.toList ++ cells'.toList.drop (off + v'.cells.toList.length) := by
            rw [← Array.foldl_toList, Array.toList_zipIdx]
            have := foldl_splice off v'.cells.toList 0 cells' (by simp; omega)
            simpa using this
          have hrel : VRels μ (splice cells off vs) (v'.cells.zipIdx.foldl (fun cs (c, j) => cs.setIfInBounds (off + j) c) cells').toList := by
            rw [e2]
            unfold splice
            have : v'.cells.toList.length = vs.length := by simpa using hl
            rw [this]
            exact ((hc.take off).append hcv).append (hc.drop _)
          obtain ⟨out', a, b, c⟩ := fill_sound hp parts parts' _ out _ hrel h1 ht h
          exact ⟨out', by rw [e1]; exact a, b, by rw [c, splice_length (by omega)]⟩
        · cases h

theorem parts_rel {regs : Nat → V} {ρ : Operand → Value} (hρ : ∀ x, VRel μ (evalD regs x) (ρ x)) (parts : Array (Nat × Operand)) :
    ((parts.map fun x => (x.1, ρ x.2)).toList.map (·.1)) = (partsD regs parts).map (·.1) ∧ VRels μ ((partsD regs parts).map (·.2)) ((parts.map fun x => (x.1, ρ x.2)).toList.map (·.2)) := by
  unfold partsD
  constructor
  · simp
  · simp only [Array.toList_map, List.map_map]
    generalize parts.toList = l
    induction l with
    | nil => exact .nil
    | cons x l ih => exact .cons _ _ _ _ (hρ x.2) ih

theorem repeat_get (zero : List V) : ∀ (n i : Nat), i < n * zero.length → (repeatD zero n)[i]? = zero[i % zero.length]?
  | 0, i, h => by simp at h
  | n + 1, i, h => by
    unfold repeatD
    rw [List.replicate_succ, List.flatten_cons]
    by_cases hi : i < zero.length
    · rw [List.getElem?_append_left hi, Nat.mod_eq_of_lt hi]
    · rw [List.getElem?_append_right (by omega)]
      have h2 : i - zero.length < n * zero.length := by
        have : (n + 1) * zero.length = n * zero.length + zero.length := Nat.succ_mul _ _
        omega
      have := repeat_get zero n (i - zero.length) h2
      unfold repeatD at this
      rw [this, ← Nat.mod_eq_sub_mod (by omega)]
theorem repeat_length (zero : List V) (n : Nat) : (repeatD zero n).length = n * zero.length := by
  unfold repeatD
  simp

theorem repeat_rel (z : Array Value) (n : Nat) : VRels μ (repeatD (z.toList.map ofScal) n) ((Array.range (n * z.size)).map (fun i => z[i % z.size]!)).toList := by
  refine VRels.of_get (by rw [repeat_length]; simp) fun i v v' hi hi' => ?_
  have hlt : i < n * z.size := by
    have := (List.getElem?_eq_some_iff.1 hi').1
    simpa using this
  have hpos : 0 < z.size := by
    rcases Nat.eq_zero_or_pos z.size with h | h
    · rw [h] at hlt; simp at hlt
    · exact h
  have hm : i % z.size < z.size := Nat.mod_lt _ hpos
  rw [repeat_get _ _ _ (by simpa using hlt)] at hi
  simp only [List.length_map, Array.length_toList, List.getElem?_map] at hi
  simp only [Array.toList_map, Array.toList_range, List.getElem?_map, List.getElem?_range hlt, Option.map_some, Option.some.injEq] at hi'
  subst hi'
  rw [Array.getElem?_toList, Array.getElem?_eq_getElem hm] at hi
  simp only [Option.map_some, Option.some.injEq] at hi
  subst hi
  rw [getElem!_pos z (i % z.size) hm]
  exact ofScal_rel μ _

end
end Go.Sx

/- Operations but calls and append. -/
namespace Go.Sx
open Go.RowKit

section
variable {P : Program} {B : Nat} {μ : Map} {m : Mem} {w : World} {slot : Option Nat}

theorem next_run {s : Sem Value} {v : Value} {w' : World} (h : s.run P w = .ok v w') : (do pure (Next.value (← s)) : Sem Next).run P w = .ok (.value v) w' := by
  simp only [Sem.run_bind, h, Result.andThen, Sem.run_pure]

theorem load_agg {t : TypeId} {b o n : Nat} {cs : List V} {v' : Value} (r : HRel B μ m w) (hr : readD m b o n = some cs) (ha : aggD P t = some true) (hz : sizeD P t = some n) (hv : VRel μ (.ptr b o) v') :
    ∃ l, (Instr.loadAt t v').run P w = .ok (.agg l) w ∧ VRels μ cs l.toList := by
  cases hv with
  | ptr _ _ c p k hm =>
    obtain ⟨arr, e, h1, h2, h3, h4⟩ := read_sound r hr hm
    refine ⟨((arr.toList.drop (p + o)).take n).toArray, ?_, by simpa using h4⟩
    simp only [Instr.loadAt, Instr.sureAddr, Sem.run_bind, Sem.run_pure, Result.andThen, loadVar, isAgg_run ha, sizeOf_run hz, if_true, loadCells_run h1 (p + o) n h2]

theorem load_one {t : TypeId} {b o : Nat} {v : V} {v' : Value} (r : HRel B μ m w) (hr : readD m b o 1 = some [v]) (ha : aggD P t = some false) (hv : VRel μ (.ptr b o) v') :
    ∃ x, (Instr.loadAt t v').run P w = .ok x w ∧ VRel μ v x := by
  cases hv with
  | ptr _ _ c p k hm =>
    obtain ⟨arr, e, h1, h2, h3, h4⟩ := read_sound r hr hm
    have hlt : p + o < arr.size := by omega
    have h5 : (arr.toList.drop (p + o)).take 1 = [arr[p + o]] := by
      rw [List.drop_eq_getElem_cons (by simpa using hlt)]
      simp
    rw [h5] at h4
    cases h4 with
    | cons _ _ _ _ hx _ =>
    refine ⟨_, ?_, hx⟩
    have hc : w.cell? ⟨c, p + o, Option.none⟩ = some (arr[p + o]'hlt) := by rw [cell_of_heap h1]; exact Array.getElem?_eq_getElem hlt
    simp only [Instr.loadAt, Instr.sureAddr, Sem.run_bind, Sem.run_pure, Result.andThen, loadVar, isAgg_run ha, Bool.false_eq_true, if_false, Go.load, Sem.run, hc]

theorem store_sound {t : TypeId} {b o n : Nat} {vs : List V} {m' : Mem} {a' x' : Value} {x : V} (r : HRel B μ m w) (hv : VRel μ (.ptr b o) a') (hx : VRel μ x x') (hc : cellsD x = some vs) (hz : sizeD P t = some n) (hn : vs.length = n)
    (h : writeD m b o vs = some m') : ∃ w', (Instr.storeAt t a' x').run P w = .ok () w' ∧ Step slot μ m w μ m' w' ∧ HRel B μ m' w' := by
  cases hv with
  | ptr _ _ c p k hm =>
    have hcv := cells_rel hc hx
    have hl := hcv.length
    obtain ⟨w', h1, h2, h3⟩ := write_sound slot r h hm hcv P
    refine ⟨w', ?_, h2, h3⟩
    simp only [Instr.storeAt, Instr.sureAddr, Sem.run_bind, Sem.run_pure, Result.andThen, storeVar, sizeOf_run hz]
    rw [if_neg (by simp at hl; omega)]
    exact h1

theorem part_sound {t : TypeId} {cs : List V} {off : Nat} {v : V} {cs' : Array Value} (h : partD t P cs off = some v) (hc : VRels μ cs cs'.toList) : ∃ x, (Go.part t cs' off).run P w = .ok x w ∧ VRel μ v x := by
  unfold partD at h
  have hl := hc.length
  split at h
  · rename_i n ha hz
    split at h
    · rename_i hle
      cases h
      refine ⟨.agg (cs'.extract off (off + n)), ?_, ?_⟩
      · simp only [Go.part, Sem.run_bind, isAgg_run ha, Result.andThen, if_true, sizeOf_run hz, Sem.run_pure]
      · have h1 := (hc.drop off).take n
        have h2 : (cs'.extract off (off + n)) = ((cs'.toList.drop off).take n).toArray := by
          apply Array.ext'
          simp [List.extract_eq_drop_take']
          try simp [List.take_drop, List.drop_take]
        rw [h2]
        exact .agg _ _ h1
    · cases h
  · rename_i ha
    obtain ⟨x, hx, hv⟩ := hc.get off v h
    refine ⟨x, ?_, hv⟩
    have hx' : cs'[off]? = some x := by simpa using hx
    simp only [Go.part, Sem.run_bind, isAgg_run ha, Result.andThen, Bool.false_eq_true, if_false, hx', Sem.run_pure]
  · cases h

theorem asNat_rel {v : V} {n : Nat} {v' : Value} (h : asNat v = some n) (k : VRel μ v v') : ∃ kk, v' = .int kk (n : Int) := by
  cases k <;> simp only [asNat] at h <;> try (cases h; done)
  rename_i kk i
  split at h
  · rename_i h0
    cases h
    exact ⟨kk, by rw [Int.toNat_of_nonneg h0]⟩
  · cases h

theorem bytesOf_rel {f : Value → ByteArray → Sem (ForInStep ByteArray)} (hf : ∀ n s, f (.int .u8 n) s = pure (ForInStep.yield (s.push (UInt8.ofNat n.toNat)))) : ∀ {l : List V} {l' : List Value} {s : List UInt8}, VRels μ l l' → bytesOf l = some s →
    ∀ (acc : ByteArray), (forIn l' acc f : Sem ByteArray).run P w = .ok ⟨(acc.data.toList ++ s).toArray⟩ w
  | _, _, s, .nil, h, acc => by
    simp only [bytesOf] at h
    cases h
    simp [Sem.run_pure]
  | _, _, s, .cons v v' l l' hv t, h, acc => by
    cases hv <;> try (simp only [bytesOf] at h; cases h; done)
    rename_i k n
    cases k <;> try (simp only [bytesOf] at h; cases h; done)
    simp only [bytesOf, Option.map_eq_some_iff] at h
    obtain ⟨r, hr, rfl⟩ := h
    have ih := bytesOf_rel hf t hr (acc.push (UInt8.ofNat n.toNat))
    simp only [List.forIn_cons, hf, Sem.run_bind, Sem.run_pure, Result.andThen]
    rw [ih]
    simp [ByteArray.push]
end
end Go.Sx

/- Operations but calls and append, all of them. -/
namespace Go.Sx
open Go.RowKit

section
variable {P : Program} {B : Nat} {μ : Map} {w : World} {slot : Option Nat} {cl : FuncId → List V → G → Option (En × G)}

theorem equal_nil {t : TypeId} {d : TypeDesc} {a b : Value} {va vb : V} (ha : VRel μ va a) (hb : VRel μ vb b) (hd : P.underlying t = some d) (hn : neNil d va vb = true) :
    (Op.equal t a b).run P w = .ok false w := by
  unfold Op.equal
  rw [show Op.maxDepth = 9999 + 1 from rfl, Op.equalIn]
  simp only [Sem.run_bind, underlying_run hd, Result.andThen]
  cases ha <;> first | (simp [neNil] at hn; done) | skip
  all_goals (cases hb <;> first | (simp [neNil] at hn; done) | skip)
  all_goals (cases d <;> first | (simp [neNil] at hn; done) | rfl | (simp [Sem.run_pure]; done))

theorem guard_nil {op : BinOp} {t : TypeId} {d : TypeDesc} {x y : Operand} {a b : Value} {va vb : V} (ha : VRel μ va a) (hb : VRel μ vb b) (hn : neNil d va vb = true) :
    (eqGuard op t x y a b).run P w = .ok () w := by
  unfold eqGuard
  cases ha <;> first | (simp [neNil] at hn; done) | skip
  all_goals (cases hb <;> first | (simp [neNil] at hn; done) | skip)
  all_goals (cases op <;> first | rfl | simp [Sem.run_bind, Sem.run_pure, Result.andThen])

theorem eql_nil {t : TypeId} {d : TypeDesc} {x y : Operand} {a b : Value} {va vb : V} (ha : VRel μ va a) (hb : VRel μ vb b) (hd : P.underlying t = some d) (hn : neNil d va vb = true) :
    (do eqGuard .eql t x y a b; Go.binOp .eql t a b : Sem Value).run P w = .ok (.bool false) w := by
  simp only [Sem.run_bind, guard_nil (P := P) (w := w) (op := .eql) (x := x) (y := y) ha hb hn, Result.andThen]
  have h := equal_nil (P := P) (w := w) (t := t) ha hb hd hn
  have h2 : (do pure (Value.bool (← Op.equal t a b)) : Sem Value).run P w = .ok (.bool false) w := by simp only [Sem.run_bind, h, Result.andThen, Sem.run_pure]
  cases ha <;> first | (simp [neNil] at hn; done) | skip
  all_goals (cases hb <;> first | (simp [neNil] at hn; done) | exact h2)
theorem neq_nil {t : TypeId} {d : TypeDesc} {x y : Operand} {a b : Value} {va vb : V} (ha : VRel μ va a) (hb : VRel μ vb b) (hd : P.underlying t = some d) (hn : neNil d va vb = true) :
    (do eqGuard .neq t x y a b; Go.binOp .neq t a b : Sem Value).run P w = .ok (.bool true) w := by
  simp only [Sem.run_bind, guard_nil (P := P) (w := w) (op := .neq) (x := x) (y := y) ha hb hn, Result.andThen]
  have h := equal_nil (P := P) (w := w) (t := t) ha hb hd hn
  have h2 : (do pure (Value.bool (!(← Op.equal t a b))) : Sem Value).run P w = .ok (.bool true) w := by simp only [Sem.run_bind, h, Result.andThen, Sem.run_pure, Bool.not_false]
  cases ha <;> first | (simp [neNil] at hn; done) | skip
  all_goals (cases hb <;> first | (simp [neNil] at hn; done) | exact h2)

/-- Bounds of a slice expression, as the model works them out. -/
theorem bound_run {v : V} {v' : Value} {n y : Nat} {code : BoundsCode} (h : asNat v = some n) (hv : VRel μ v v') (hle : n ≤ y) : (Instr.sliceBound v' y code).run P w = .ok n w := by
  obtain ⟨k, rfl⟩ := asNat_rel h hv
  simp only [Instr.sliceBound, asIntOf, Sem.run_bind, Sem.run_pure, Result.andThen]
  rw [if_pos (by omega)]
  simp [Sem.run_pure]

def optRel (μ : Map) : Option V → Option Value → Prop
  | Option.none, Option.none => True
  | some v, some v' => VRel μ v v'
  | _, _ => False

theorem max_run {isS : Bool} {len cap' : Nat} {cap mo : Option Nat} {mx : Option V} {mx' : Option Value} (hmx : optRel μ mx mx') (hlen : len ≤ cap') (hcap : ∀ c, cap = some c → cap' = c) (h : maxD len cap mx = some mo) :
    ∃ m, (match mx' with
    | some v => Instr.sliceBound v cap' (if isS then .slice3Acap else .slice3Alen)
    | none => pure cap' : Sem Nat).run P w = .ok m w ∧ (∀ c, mo = some c → m = c) ∧ (mo = Option.none → m = cap' ∧ cap = Option.none) ∧ mo.getD len ≤ m := by
  cases mx with
  | none =>
    cases mx' with
    | some x => exact hmx.elim
    | none =>
      simp only [maxD, Option.some.injEq] at h
      subst h
      refine ⟨cap', by simp [Sem.run_pure], hcap, fun e => ⟨rfl, e⟩, ?_⟩
      cases cap with
      | none => simpa using hlen
      | some c => simp [hcap c rfl]
  | some v =>
    cases mx' with
    | none => exact hmx.elim
    | some v' =>
      simp only [maxD, Option.bind_eq_some_iff] at h
      obtain ⟨n, hn, h⟩ := h
      split at h
      · rename_i hle
        cases h
        have hle' : n ≤ cap' := by
          cases hc : cap with
          | none => rw [hc] at hle; simp at hle; omega
          | some c => rw [hc] at hle; simp at hle; have := hcap c hc; omega
        exact ⟨n, bound_run hn hmx hle', fun c e => by cases e; rfl, (fun e => by cases e), by simp⟩
      · cases h

theorem high_run {isS : Bool} {len m ho : Nat} {mo : Option Nat} {hi mx : Option V} {hi' mx' : Option Value} (hhi : optRel μ hi hi') (hmx : optRel μ mx mx') (hm : mo.getD len ≤ m) (hl : mx = Option.none → len ≤ m) (h : highD len mo mx.isSome hi = some ho) :
    (match hi', mx' with
    | some v, some _ => Instr.sliceBound v m .slice3B
    | some v, none => Instr.sliceBound v m (if isS then .sliceAcap else .sliceAlen)
    | none, none => pure len
    | none, some _ => stuck "Slice: max without high" : Sem Nat).run P w = .ok ho w ∧ ho ≤ m ∧ (mo = Option.none → ho ≤ len) := by
  cases hi with
  | none =>
    cases hi' with
    | some x => exact hhi.elim
    | none =>
      cases mx with
      | some v => simp [highD] at h
      | none =>
        cases mx' with
        | some x => exact hmx.elim
        | none =>
          simp [highD] at h
          subst h
          exact ⟨by simp [Sem.run_pure], hl rfl, fun _ => Nat.le_refl _⟩
  | some v =>
    cases hi' with
    | none => exact hhi.elim
    | some v' =>
      simp only [highD, Option.bind_eq_some_iff] at h
      obtain ⟨n, hn, h⟩ := h
      split at h
      · rename_i hle
        cases h
        refine ⟨?_, by omega, fun e => by rw [e] at hle; simpa using hle⟩
        cases mx' <;> exact bound_run hn hhi (by omega)
      · cases h

theorem low_run {c3 : Bool} {ho l : Nat} {lo : Option V} {lo' : Option Value} (hlo : optRel μ lo lo') (h : lowD ho lo = some l) :
    (match lo' with
    | some v => Instr.sliceBound v ho (if c3 then .slice3C else .sliceB)
    | none => pure 0 : Sem Nat).run P w = .ok l w ∧ l ≤ ho := by
  cases lo with
  | none =>
    cases lo' with
    | some x => exact hlo.elim
    | none =>
      simp [lowD] at h
      subst h
      exact ⟨by simp [Sem.run_pure], Nat.zero_le _⟩
  | some v =>
    cases lo' with
    | none => exact hlo.elim
    | some v' =>
      simp only [lowD, Option.bind_eq_some_iff] at h
      obtain ⟨n, hn, h⟩ := h
      split at h
      · rename_i hle
        cases h
        exact ⟨bound_run hn hlo hle, hle⟩
      · cases h

theorem bounds_run {isS : Bool} {len cap' : Nat} {cap : Option Nat} {lo hi mx : Option V} {lo' hi' mx' : Option Value} {l hh : Nat} {mm : Option Nat} (hlo : optRel μ lo lo') (hhi : optRel μ hi hi')
    (hmx : optRel μ mx mx') (hlen : len ≤ cap') (hcap : ∀ c, cap = some c → cap' = c) (h : boundsD len cap lo hi mx = some (l, hh, mm)) :
    ∃ m, (Instr.sliceBounds isS len cap' lo' hi' mx').run P w = .ok (l, hh, m) w ∧ l ≤ hh ∧ hh ≤ m ∧ (∀ c, mm = some c → m = c) ∧ (mm = Option.none → m = cap' ∧ cap = Option.none ∧ hh ≤ len) := by
  simp only [boundsD, Option.bind_eq_some_iff, Option.some.injEq, Prod.mk.injEq] at h
  obtain ⟨mo, h1, ho, h2, lo0, h3, rfl, rfl, rfl⟩ := h
  obtain ⟨m, e1, e2, e3, e4⟩ := max_run (P := P) (w := w) (isS := isS) hmx hlen hcap h1
  have hl : mx = Option.none → len ≤ m := by
    intro e
    subst e
    simp only [maxD, Option.some.injEq] at h1
    cases hc : cap with
    | none => rw [hc] at h1; have := (e3 h1.symm).1; omega
    | some c => rw [hc] at h1; have := e2 c h1.symm; have := hcap c hc; omega
  obtain ⟨f1, f2, f3⟩ := high_run (P := P) (w := w) (isS := isS) hhi hmx e4 hl h2
  obtain ⟨g1, g2⟩ := low_run (P := P) (w := w) (c3 := mx'.isSome) hlo h3
  refine ⟨m, ?_, g2, f2, e2, fun e => ⟨(e3 e).1, (e3 e).2, f3 e⟩⟩
  unfold Instr.sliceBounds
  cases mx' <;> cases hi' <;> cases lo' <;> simp only [Sem.run_bind, Sem.run_pure, Result.andThen] at e1 f1 g1 ⊢ <;>
    first
      | (simp [stuck, Sem.run] at f1; done)
      | (simp only [e1, f1, g1, Result.ok.injEq, and_true] at *; subst_vars; simp only [e1, f1, g1, Result.andThen, Sem.run_bind, Sem.run_pure]; done)
      | (simp_all [Result.andThen, Sem.run_bind, Sem.run_pure]; done)
end
end Go.Sx

/- Operations but calls: what the evaluator says of each is so: slice expressions. -/
namespace Go.Sx
open Go.RowKit

section
variable {P : Program} {B : Nat} {μ : Map} {m m' : Mem} {w : World} {slot : Option Nat} {cl : FuncId → List V → G → Option (En × G)} {regs : Nat → V} {nt : Nat} {a : Act} {x : R}
variable {dst : Option Tmp} {guard : Option (Nat × Bool)} {type : TypeId} {pos : String} {after : Array Edge}

theorem opt_rel {o : Option Operand} (hρ : ∀ x, VRel μ (evalD regs x) (a.eval x)) : optRel μ (o.map (evalD regs)) (o.map a.eval) := by
  cases o <;> simp [optRel, hρ]

theorem list_rel (hρ : ∀ x, VRel μ (evalD regs x) (a.eval x)) : ∀ (l : List Operand), VRels μ (l.map (evalD regs)) (l.map a.eval)
  | [] => .nil
  | x :: l => .cons _ _ _ _ (hρ x) (list_rel hρ l)

theorem slice_string {t : TypeId} {s : List UInt8} {lo hi : Option V} {lo' hi' : Option Value} {l hh : Nat} {mm : Option Nat} (hu : P.underlying t = some .string) (hlo : optRel μ lo lo') (hhi : optRel μ hi hi')
    (hb : boundsD s.length (some s.length) lo hi Option.none = some (l, hh, mm)) :
    (Instr.sliceAt t (.string ⟨s.toArray⟩) lo' hi' Option.none).run P w = .ok (.string ⟨((s.take hh).drop l).toArray⟩) w := by
  obtain ⟨m0, e1, e2, e3, e4, _⟩ := bounds_run (P := P) (w := w) (isS := false) (len := s.length) (cap' := s.length) hlo hhi (mx := Option.none) (mx' := Option.none) trivial (Nat.le_refl _) (fun c e => by cases e; rfl) hb
  have hsz : (⟨s.toArray⟩ : ByteArray).size = s.length := by simp [ByteArray.size]
  have he : (⟨s.toArray⟩ : ByteArray).extract l hh = ⟨((s.take hh).drop l).toArray⟩ := by
    apply ByteArray.ext
    simp [ByteArray.data_extract, List.drop_take]
  simp only [Instr.sliceAt, Sem.run_bind, underlying_run hu, Result.andThen, Instr.slice, Option.isSome_none, Bool.false_eq_true, if_false, hsz, e1, Sem.run_pure, he]

theorem slice_cells {t e : TypeId} {z len cap' : Nat} {cap : Option Nat} {base : Option Addr} {lo hi mx : Option V} {lo' hi' mx' : Option Value} {l hh : Nat} {mm : Option Nat} (hu : P.underlying t = some (.slice e)) (hz : sizeD P e = some z) (hlo : optRel μ lo lo') (hhi : optRel μ hi hi') (hmx : optRel μ mx mx')
    (hlen : len ≤ cap') (hcap : ∀ c, cap = some c → cap' = c) (hb : boundsD len cap lo hi mx = some (l, hh, mm)) :
    ∃ m0, (Instr.sliceAt t (.slice base len cap') lo' hi' mx').run P w = .ok (.slice (if m0 = l then base else base.map (·.add (l * z))) (hh - l) (m0 - l)) w ∧ l ≤ hh ∧ hh ≤ m0 ∧
      (∀ c, mm = some c → m0 = c) ∧ (mm = Option.none → m0 = cap' ∧ cap = Option.none ∧ hh ≤ len) := by
  obtain ⟨m0, e1, e2, e3, e4, e5⟩ := bounds_run (P := P) (w := w) (isS := true) hlo hhi hmx hlen hcap hb
  refine ⟨m0, ?_, e2, e3, e4, e5⟩
  simp only [Instr.sliceAt, Sem.run_bind, underlying_run hu, Result.andThen, Instr.slice, e1, sizeOf_run hz, Sem.run_pure]

theorem slice_sound {t : TypeId} {o : Operand} {lo hi mx : Option Operand} (hρ : ∀ x, VRel μ (evalD regs x) (a.eval x)) (r : HRel B μ m w)
    (h : opD P cl ⟨regs, nt, m⟩ slot ⟨dst, .slice t o lo hi mx, type, pos, after, guard⟩ = some (x, m')) : OpRes P (execOp a.eval ⟨dst, .slice t o lo hi mx, type, pos, after, guard⟩) w B slot μ m x m' := by
  simp only [opD] at h
  simp only [execOp]
  have ho := hρ o
  have hlo := opt_rel (o := lo) hρ
  have hhi := opt_rel (o := hi) hρ
  have hmx := opt_rel (o := mx) hρ
  generalize evalD regs o = vo at h ho
  generalize a.eval o = co at ho ⊢
  generalize lo.map (evalD regs) = lo1 at h hlo
  generalize lo.map a.eval = lo2 at hlo ⊢
  generalize hi.map (evalD regs) = hi1 at h hhi
  generalize hi.map a.eval = hi2 at hhi ⊢
  cases hu : P.underlying t with
  | none => rw [hu] at h; cases h
  | some d =>
    rw [hu] at h
    cases d <;> (try simp only at h) <;> try (cases h; done)
    case string =>
      cases ho <;> simp only at h <;> try (cases h; done)
      rename_i s
      split at h
      · cases h
      · rename_i hmxn
        have hmx0 : mx = Option.none := by
          cases mx with
          | none => rfl
          | some v => simp at hmxn
        subst hmx0
        split at h
        · rename_i l hh mm hb
          cases h
          exact still r (next_run (slice_string hu hlo hhi hb)) (.str _)
        · cases h
    case slice e =>
      generalize mx.map (evalD regs) = mx1 at h hmx
      generalize mx.map a.eval = mx2 at hmx ⊢
      cases ho <;> simp only at h <;> try (cases h; done)
      case slice b o0 len cap c p n hm hlen =>
        cases hz : sizeD P e with
        | none => rw [hz] at h; cases h
        | some z =>
          rw [hz] at h
          cases hb : boundsD len (some cap) lo1 hi1 mx1 with
          | none => rw [hb] at h; cases h
          | some y =>
            obtain ⟨l, hh, mm⟩ := y
            rw [hb] at h
            obtain ⟨m0, e1, e2, e3, e4, e5⟩ := slice_cells (P := P) (w := w) (base := some ⟨c, p + o0, Option.none⟩) hu hz hlo hhi hmx hlen (fun c e => by cases e; rfl) hb
            cases mm with
            | none => simp at h
            | some m1 =>
              obtain rfl := e4 m1 rfl
              simp only at h
              split at h
              · rename_i hlt
                cases h
                refine still r (next_run e1) ?_
                rw [if_neg (by omega)]
                simp only [Option.map_some, add_none, Nat.add_assoc]
                exact .slice b (o0 + l * z) (hh - l) (m0 - l) c p n hm (by omega)
              · split at h
                · rename_i heq
                  cases h
                  refine still r (next_run e1) ?_
                  rw [if_pos heq.symm]
                  have : m0 - l = 0 := by omega
                  rw [this]
                  exact .slice b o0 (hh - l) 0 c p n hm (by omega)
                · cases h
      case sliceU b o0 len z' cap c p n hm h1 h2 =>
        cases hz : sizeD P e with
        | none => rw [hz] at h; cases h
        | some z =>
          rw [hz] at h
          cases hb : boundsD len Option.none lo1 hi1 mx1 with
          | none => rw [hb] at h; cases h
          | some y =>
            obtain ⟨l, hh, mm⟩ := y
            rw [hb] at h
            obtain ⟨m0, e1, e2, e3, e4, e5⟩ := slice_cells (P := P) (w := w) (base := some ⟨c, p + o0, Option.none⟩) hu hz hlo hhi hmx h1 (fun c e => by cases e) hb
            cases mm with
            | some m1 =>
              obtain rfl := e4 m1 rfl
              simp only at h
              split at h
              · rename_i hlt
                cases h
                refine still r (next_run e1) ?_
                rw [if_neg (by omega)]
                simp only [Option.map_some, add_none, Nat.add_assoc]
                exact .slice b (o0 + l * z) (hh - l) (m0 - l) c p n hm (by omega)
              · split at h
                · rename_i heq
                  cases h
                  refine still r (next_run e1) ?_
                  rw [if_pos heq.symm]
                  have : m0 - l = 0 := by omega
                  rw [this]
                  exact .slice b o0 (hh - l) 0 c p n hm (by omega)
                · cases h
            | none =>
              obtain ⟨rfl, _, e6⟩ := e5 rfl
              simp only at h
              split at h
              · rename_i hc
                obtain ⟨rfl, rfl⟩ := hc
                cases h
                refine still r (next_run e1) ?_
                have : (if m0 = 0 then (some ⟨c, p + o0, Option.none⟩ : Option Addr) else (some ⟨c, p + o0, Option.none⟩ : Option Addr).map (·.add (0 * z'))) = some ⟨c, p + o0, Option.none⟩ := by
                  split <;> simp [add_none]
                rw [this]
                exact .sliceU b o0 hh z' m0 c p n hm e3 h2
              · split at h
                · rename_i hc
                  obtain ⟨hlt, rfl⟩ := hc
                  cases h
                  refine still r (next_run e1) ?_
                  rw [if_neg (by omega)]
                  simp only [Option.map_some, add_none, Nat.add_assoc]
                  refine .sliceU b (o0 + l * z') (hh - l) z' (m0 - l) c p n hm (by omega) ?_
                  have : m0 = l + (m0 - l) := by omega
                  rw [this, Nat.add_mul] at h2
                  omega
                · cases h
      case nils =>
        cases hz : sizeD P e with
        | none => rw [hz] at h; cases h
        | some z =>
          rw [hz] at h
          cases hb : boundsD 0 (some 0) lo1 hi1 mx1 with
          | none => rw [hb] at h; cases h
          | some y =>
            obtain ⟨l, hh, mm⟩ := y
            rw [hb] at h
            cases h
            obtain ⟨m0, e1, e2, e3, e4, e5⟩ := slice_cells (P := P) (w := w) (base := Option.none) hu hz hlo hhi hmx (Nat.le_refl 0) (fun c e => by cases e; rfl) hb
            have h0 : m0 = 0 := by
              simp only [boundsD, Option.bind_eq_some_iff, Option.some.injEq, Prod.mk.injEq] at hb
              obtain ⟨mo, q1, ho, q2, lo0, q3, rfl, rfl, rfl⟩ := hb
              cases mx1 with
              | none => simp only [maxD, Option.some.injEq] at q1; exact e4 0 q1.symm
              | some v =>
                simp only [maxD, Option.bind_eq_some_iff] at q1
                obtain ⟨k, hk, q1⟩ := q1
                split at q1
                · rename_i hle; cases q1; have := e4 k rfl; simp at hle; omega
                · cases q1
            refine still r (next_run e1) ?_
            subst h0
            have : hh - l = 0 := by omega
            rw [this]
            simpa using VRel.nils
end
end Go.Sx

/- Operations but calls: what the evaluator says of each is so. -/
namespace Go.Sx
open Go.RowKit

section
variable {P : Program} {B : Nat} {μ : Map} {m m' : Mem} {w : World} {slot : Option Nat} {cl : FuncId → List V → G → Option (En × G)} {regs : Nat → V} {nt : Nat} {a : Act} {x : R}
variable {dst : Option Tmp} {guard : Option (Nat × Bool)} {type : TypeId} {pos : String} {after : Array Edge}

theorem unit_run {s : Sem Unit} {w' : World} (h : s.run P w = .ok () w') : (do s; pure Next.skip : Sem Next).run P w = .ok .skip w' := by
  simp only [Sem.run_bind, h, Result.andThen, Sem.run_pure]

theorem places_run : ∀ {l : List Field} {pl : List (Nat × Nat)}, placesD P l = some pl → (l.mapM fun f => (do pure (f.offset, ← Go.sizeOf f.type) : Sem _)).run P w = .ok pl w
  | [], pl, h => by simp only [placesD] at h; cases h; simp [Sem.run_pure]
  | f :: l, pl, h => by
    simp only [placesD] at h
    cases hz : sizeD P f.type with
    | none => rw [hz] at h; simp at h
    | some z =>
      cases hr : placesD P l with
      | none => rw [hz, hr] at h; simp at h
      | some q =>
        rw [hz, hr] at h
        cases h
        have ih := places_run hr
        simp only [List.mapM_cons, Sem.run_bind, sizeOf_run hz, Result.andThen, Sem.run_pure, ih]

theorem build_sound {t : TypeId} {parts : Array (Nat × Operand)} (hρ : ∀ x, VRel μ (evalD regs x) (a.eval x)) (r : HRel B μ m w)
    (h : opD P cl ⟨regs, nt, m⟩ slot ⟨dst, .build t parts, type, pos, after, guard⟩ = some (x, m')) : OpRes P (execOp a.eval ⟨dst, .build t parts, type, pos, after, guard⟩) w B slot μ m x m' := by
  simp only [opD] at h
  simp only [execOp]
  obtain ⟨hp1, hp2⟩ := parts_rel hρ parts
  cases hz : zeroD P t with
  | none => rw [hz] at h; cases h
  | some zero =>
    rw [hz] at h
    obtain ⟨z, hz1, hz2⟩ := zero_run (w := w) hz
    cases hu : P.underlying t with
    | none => rw [hu] at h; cases h
    | some d =>
      rw [hu] at h
      cases d <;> (try simp only at h) <;> try (cases h; done)
      case struct fields =>
        cases hpl : placesD P fields.toList with
        | none => rw [hpl] at h; cases h
        | some pl =>
          rw [hpl] at h
          simp only [Option.map_eq_some_iff] at h
          obtain ⟨cs, hf, h⟩ := h
          cases h
          have hfs : (fields.mapM fun f => (do pure (f.offset, ← Go.sizeOf f.type) : Sem _)).run P w = .ok pl.toArray w := by
            rw [Array.mapM_eq_mapM_toList, map_eq_pure_bind, Sem.run_bind, places_run hpl]
            rfl
          obtain ⟨out', e1, e2, _⟩ := fill_sound (μ := μ) (place := fun i => pl.toArray[i]?) (fun i x hx => by simpa using hx) _ _ zero cs z.cells (by rw [hz2]; exact ofScals_rel μ _) hp1 hp2 hf
          refine still r (next_run (v := .agg out') ?_) (by simpa using VRel.agg _ _ e2)
          simp only [Instr.build, Sem.run_bind, hz1, Result.andThen, underlying_run hu, hfs, e1, Sem.run_pure]
      case array n e =>
        cases hs : sizeD P e with
        | none => rw [hs] at h; cases h
        | some k =>
          rw [hs] at h
          simp only [Option.map_eq_some_iff] at h
          obtain ⟨cs, hf, h⟩ := h
          cases h
          obtain ⟨out', e1, e2, _⟩ := fill_sound (μ := μ) (place := fun i => some (i * k, k)) (fun _ _ h => h) _ _ zero cs z.cells (by rw [hz2]; exact ofScals_rel μ _) hp1 hp2 hf
          refine still r (next_run (v := .agg out') ?_) (by simpa using VRel.agg _ _ e2)
          simp only [Instr.build, Sem.run_bind, hz1, Result.andThen, underlying_run hu, sizeOf_run hs, e1, Sem.run_pure]
end
end Go.Sx

/- All operations but calls. -/
namespace Go.Sx
open Go.RowKit

section
variable {P : Program} {B : Nat} {μ : Map} {m m' : Mem} {w : World} {slot : Option Nat} {cl : FuncId → List V → G → Option (En × G)} {regs : Nat → V} {nt : Nat} {a : Act} {x : R}
variable {dst : Option Tmp} {guard : Option (Nat × Bool)} {type : TypeId} {pos : String} {after : Array Edge}

theorem buildSlice_sound {t : TypeId} {n : Nat} {parts : Array (Nat × Operand)} (hρ : ∀ x, VRel μ (evalD regs x) (a.eval x)) (r : HRel B μ m w) (hB : B ≤ w.heap.size) (hslot : ∀ i, slot = some i → μ i = Option.none ∧ i < m.g.nx)
    (h : opD P cl ⟨regs, nt, m⟩ slot ⟨dst, .buildSlice t n parts, type, pos, after, guard⟩ = some (x, m')) : OpRes P (execOp a.eval ⟨dst, .buildSlice t n parts, type, pos, after, guard⟩) w B slot μ m x m' := by
  simp only [opD] at h
  simp only [execOp]
  obtain ⟨hp1, hp2⟩ := parts_rel hρ parts
  cases he : elemD P t with
  | none => rw [he] at h; cases h
  | some e =>
    rw [he] at h
    simp only at h
    have hu : P.underlying t = some (.slice e) := by
      unfold elemD at he
      split at he
      · rename_i e' hu; cases he; exact hu
      · cases he
    cases hz : sizeD P e with
    | none => rw [hz] at h; cases h
    | some z =>
      cases hze : zeroD P e with
      | none => rw [hz, hze] at h; cases h
      | some zero =>
        rw [hz, hze] at h
        simp only at h
        split at h
        · rename_i hc
          obtain ⟨hc1, hc2⟩ := hc
          obtain ⟨zv, hz1, hz2⟩ := zero_run (w := w) hze
          cases hf : fillD (fun i => some (i * z, z)) (repeatD zero n) (partsD regs parts) with
          | none => rw [hf] at h; cases h
          | some cs =>
            rw [hf] at h
            have hzs : zv.cells.size = z := by rw [hz2] at hc2; simpa using hc2
            have hrep : VRels μ (repeatD zero n) ((Array.range (n * z)).map (fun i => zv.cells[i % zv.cells.size]!)).toList := by
              rw [hz2, ← hzs]; exact repeat_rel _ _
            obtain ⟨out', e1, e2, e3⟩ := fill_sound (μ := μ) (place := fun i => some (i * z, z)) (fun _ _ h => h) _ _ _ cs _ hrep hp1 hp2 hf
            have hlen : out'.size = n * z := by
              have := e2.length
              rw [e3, repeat_length] at this
              simp at this
              rw [this, hc2]
            cases h
            refine new_res r hB hslot (arr := out') (e := e) e2 (v := fun b => .slice b 0 n (.is n)) (v' := .slice (some ⟨w.heap.size, 0, Option.none⟩) n n) ?_ (fun μ' b hb => by simpa using VRel.slice b 0 n n _ _ _ hb (Nat.le_refl n))
            refine next_run ?_
            by_cases h0 : n * z = 0
            · have hz0 : (Array.range (n * z)).map (fun i => zv.cells[i % zv.cells.size]!) = (Array.range (n * z)).map (fun i => (#[] : Array Value)[i % (#[] : Array Value).size]!) := by
                rw [h0]; simp
              rw [hz0] at e1
              simp only [Instr.buildSlice, Sem.run_bind, underlying_run hu, Result.andThen, sizeOf_run hz]
              rw [if_neg (by omega)]
              simp only [Sem.run_pure, Result.andThen, if_pos h0, e1, newRow_run, Sem.run_bind]
            · simp only [Instr.buildSlice, Sem.run_bind, underlying_run hu, Result.andThen, sizeOf_run hz]
              rw [if_neg (by omega)]
              simp only [Sem.run_pure, Result.andThen, if_neg h0, hz1, e1, newRow_run, Sem.run_bind]
        · cases h

theorem makeSlice_sound {t : TypeId} {l c : Operand} (hρ : ∀ x, VRel μ (evalD regs x) (a.eval x)) (r : HRel B μ m w) (hB : B ≤ w.heap.size) (hslot : ∀ i, slot = some i → μ i = Option.none ∧ i < m.g.nx)
    (h : opD P cl ⟨regs, nt, m⟩ slot ⟨dst, .makeSlice t l c, type, pos, after, guard⟩ = some (x, m')) : OpRes P (execOp a.eval ⟨dst, .makeSlice t l c, type, pos, after, guard⟩) w B slot μ m x m' := by
  simp only [opD] at h
  simp only [execOp]
  have hl := hρ l
  have hc := hρ c
  cases he : elemD P t with
  | none => rw [he] at h; cases h
  | some e =>
    rw [he] at h
    have hu : P.underlying t = some (.slice e) := by
      unfold elemD at he
      split at he
      · rename_i e' hu; cases he; exact hu
      · cases he
    cases hnl : asNat (evalD regs l) with
    | none => rw [hnl] at h; cases h
    | some nl =>
      cases hnc : asNat (evalD regs c) with
      | none => rw [hnl, hnc] at h; cases h
      | some nc =>
        rw [hnl, hnc] at h
        simp only at h
        cases hz : sizeD P e with
        | none => rw [hz] at h; cases h
        | some z =>
          cases hb : bytesD P e with
          | none => rw [hz, hb] at h; cases h
          | some by_ =>
            cases hze : zeroD P e with
            | none => rw [hz, hb, hze] at h; cases h
            | some zero =>
              rw [hz, hb, hze] at h
              simp only at h
              split at h
              · rename_i hcd
                obtain ⟨c1, c2, c3, c4⟩ := hcd
                cases h
                obtain ⟨kl, el⟩ := asNat_rel hnl hl
                obtain ⟨kc, ec⟩ := asNat_rel hnc hc
                obtain ⟨zv, hz1, hz2⟩ := zero_run (w := w) hze
                have hzs : zv.cells.size = z := by rw [hz2] at c4; simpa using c4
                have hrep : VRels μ (repeatD zero nc) ((Array.range (nc * z)).map (fun i => zv.cells[i % zv.cells.size]!)).toList := by
                  rw [hz2, ← hzs]; exact repeat_rel _ _
                simp only [bytesD, Option.map_eq_some_iff] at hb
                obtain ⟨i, hi, rfl⟩ := hb
                refine new_res r hB hslot (arr := (Array.range (nc * z)).map (fun i => zv.cells[i % zv.cells.size]!)) (e := e) hrep (v := fun b => .slice b 0 nl (.is nc)) (v' := .slice (some ⟨w.heap.size, 0, Option.none⟩) nl nc) ?_ (fun μ' b hb => by simpa using VRel.slice b 0 nl nc _ _ _ hb c1)
                refine next_run ?_
                have w1 : IntKind.i64.wrap (nl : Int) = nl := by
                  unfold IntKind.wrap
                  simp [IntKind.bits, IntKind.signed]
                  omega
                have w2 : IntKind.i64.wrap (nc : Int) = nc := by
                  unfold IntKind.wrap
                  simp [IntKind.bits, IntKind.signed]
                  omega
                have hbig : ((i.bytes : Int) * (nc : Int)) ≤ 2 ^ 47 := by exact_mod_cast c2
                simp only [Instr.makeSlice, Sem.run_bind, underlying_run hu, Result.andThen, el, ec, asInt, asIntOf, Sem.run_pure, typeInfo_run hi, w1, w2]
                rw [if_neg (by
                  simp only [Bool.or_eq_true, decide_eq_true_eq, not_or]
                  refine ⟨⟨⟨by omega, by omega⟩, by omega⟩, by omega⟩)]
                have hroom : (askRoom (nc * i.bytes)).run P w = .ok () w := by
                  unfold askRoom
                  rw [if_neg (by
                    unfold roomBytes
                    rw [Nat.mul_comm]
                    omega)]
                  exact Sem.run_pure _ _ _
                simp only [Sem.run_bind, Int.toNat_natCast, hroom, Result.andThen, sizeOf_run hz]
                by_cases h0 : nc * z = 0
                · have hz0 : (Array.range (nc * z)).map (fun i => zv.cells[i % zv.cells.size]!) = (Array.range (nc * z)).map (fun i => (#[] : Array Value)[i % (#[] : Array Value).size]!) := by
                    rw [h0]; simp
                  simp only [if_pos h0, Sem.run_bind, Sem.run_pure, Result.andThen, newRow_run, hz0]
                · simp only [if_neg h0, Sem.run_bind, hz1, Sem.run_pure, Result.andThen, newRow_run]
              · cases h
end
end Go.Sx

/- All operations but calls, together. -/
namespace Go.Sx
open Go.RowKit

section
variable {P : Program} {B : Nat} {μ : Map} {m m' : Mem} {w : World} {slot : Option Nat} {cl : FuncId → List V → G → Option (En × G)} {regs : Nat → V} {nt : Nat} {a : Act} {x : R}
variable {dst : Option Tmp} {guard : Option (Nat × Bool)} {type : TypeId} {pos : String} {after : Array Edge}

def nearOp : Op → Bool
  | .call _ => false
  | _ => true

theorem convert_sound {src d : TypeId} {o : Operand} (hρ : ∀ x, VRel μ (evalD regs x) (a.eval x)) (r : HRel B μ m w)
    (h : opD P cl ⟨regs, nt, m⟩ slot ⟨dst, .convert src d o, type, pos, after, guard⟩ = some (x, m')) : OpRes P (execOp a.eval ⟨dst, .convert src d o, type, pos, after, guard⟩) w B slot μ m x m' := by
  simp only [opD] at h
  split at h
  · rename_i y hy
    cases h
    exact plain_sound r hρ hy
  · simp only [execOp]
    have ho := hρ o
    generalize evalD regs o = vo at h ho
    generalize a.eval o = co at ho ⊢
    split at h
    · rename_i e b o0 len cap hu hd
      split at h
      · rename_i hue
        split at h
        · rename_i cs hr
          simp only [Option.map_eq_some_iff] at h
          obtain ⟨s, hs, h⟩ := h
          cases h
          have key : ∀ (c p n cap' : Nat), μ b = some (c, p, n) → (Go.convert src d (.slice (some ⟨c, p + o0, Option.none⟩) len cap')).run P w = .ok (.string ⟨s.toArray⟩) w := by
            intro c p n cap' hm
            obtain ⟨arr, e', h1, h2, h3, h4⟩ := read_sound r hr hm
            simp only [Go.convert, Sem.run_bind, underlying_run hu, underlying_run hd, Result.andThen, underlying_run hue, Conv.bytesToString, loadCells_run h1 (p + o0) len h2, ← Array.forIn_toList]
            rw [bytesOf_rel (fun n s => rfl) h4 hs ByteArray.empty]
            show Result.ok (Value.string ⟨(([] : List UInt8) ++ s).toArray⟩) w = _
            rw [List.nil_append]
          cases ho with
          | slice _ _ _ cap' c p n hm _ => exact still r (next_run (key c p n cap' hm)) (.str s)
          | sliceU _ _ _ z cap' c p n hm _ _ => exact still r (next_run (key c p n cap' hm)) (.str s)
        · cases h
      · cases h
    · rename_i e hu hd
      split at h
      · rename_i hue
        cases h
        cases ho
        refine still r (next_run (v := .string .empty) ?_) (show VRel μ (.str []) (.string ⟨([] : List UInt8).toArray⟩) from VRel.str [])
        simp only [Go.convert, Sem.run_bind, underlying_run hu, underlying_run hd, Result.andThen, underlying_run hue, Conv.bytesToString, Sem.run_pure]
      · cases h
    · cases h

theorem store_op {t : TypeId} {p v : Operand} (hρ : ∀ x, VRel μ (evalD regs x) (a.eval x)) (r : HRel B μ m w)
    (h : opD P cl ⟨regs, nt, m⟩ slot ⟨dst, .store t p v, type, pos, after, guard⟩ = some (x, m')) : OpRes P (execOp a.eval ⟨dst, .store t p v, type, pos, after, guard⟩) w B slot μ m x m' := by
  simp only [opD] at h
  simp only [execOp]
  have hp := hρ p
  have hv := hρ v
  generalize evalD regs p = vp at h hp
  generalize a.eval p = cp at hp ⊢
  generalize evalD regs v = vv at h hv
  generalize a.eval v = cv at hv ⊢
  split at h
  · rename_i b o vs n hc hz
    split at h
    · rename_i hn
      simp only [Option.map_eq_some_iff] at h
      obtain ⟨m1, h1, h⟩ := h
      cases h
      have hsp : Step slot μ m w μ (if (m.ob b).isSome = true then m else spillL spillFuel vs m) w ∧ HRel B μ (if (m.ob b).isSome = true then m else spillL spillFuel vs m) w := by
        split
        · exact ⟨Step.refl _ _ _ _, r⟩
        · exact spillL_sound slot _ _ _ r
      obtain ⟨w', e1, e2, e3⟩ := store_sound (slot := slot) hsp.2 hp hv hc hz hn h1
      exact ⟨μ, w', unit_run e1, hsp.1.trans e2, e3⟩
    · cases h
  · cases h

theorem index_op {t : TypeId} {o ix : Operand} (hρ : ∀ x, VRel μ (evalD regs x) (a.eval x)) (r : HRel B μ m w)
    (h : opD P cl ⟨regs, nt, m⟩ slot ⟨dst, .index t o ix, type, pos, after, guard⟩ = some (x, m')) : OpRes P (execOp a.eval ⟨dst, .index t o ix, type, pos, after, guard⟩) w B slot μ m x m' := by
  simp only [opD] at h
  simp only [execOp]
  have ho := hρ o
  have hi := hρ ix
  generalize evalD regs o = vo at h ho
  generalize a.eval o = co at ho ⊢
  split at h
  · rename_i len e cs i hu hn
    split at h
    · rename_i z hz
      split at h
      · rename_i hlt
        simp only [Option.map_eq_some_iff] at h
        obtain ⟨v, hv, h⟩ := h
        cases h
        obtain ⟨k, ek⟩ := asNat_rel hn hi
        cases ho with
        | agg _ l hl =>
        obtain ⟨y, hy, hvy⟩ := part_sound (P := P) (w := w) (cs' := l.toArray) hv (by simpa using hl)
        refine still r (next_run (v := y) ?_) hvy
        simp only [Instr.index, ek, asIntOf, Sem.run_bind, Sem.run_pure, Result.andThen, underlying_run hu]
        rw [if_pos (by omega)]
        simp only [Sem.run_bind, sizeOf_run hz, Result.andThen, Int.toNat_natCast]
        exact hy
      · cases h
    · cases h
  · rename_i s i hu hn
    split at h
    · rename_i c hc
      cases h
      obtain ⟨k, ek⟩ := asNat_rel hn hi
      cases ho
      refine still r (next_run (v := .int .u8 c.toNat) ?_) (.int _ _)
      have hlt : i < s.length := (List.getElem?_eq_some_iff.1 hc).1
      have hg : (⟨s.toArray⟩ : ByteArray)[i]? = some c := by
        have : (⟨s.toArray⟩ : ByteArray)[i]? = s.toArray[i]? := by
          by_cases hl : i < s.length
          · rw [getElem?_pos _ _ (by simpa [ByteArray.size] using hl), getElem?_pos _ _ (by simpa using hl)]; rfl
          · omega
        rw [this]
        simpa using hc
      simp only [Instr.index, ek, asIntOf, Sem.run_bind, Sem.run_pure, Result.andThen, underlying_run hu]
      rw [if_pos (by omega)]
      simp only [Int.toNat_natCast, hg, Sem.run_pure]
    · cases h
  · cases h

theorem typeAssert_op {z : Operand} {xt t : TypeId} {ok : Bool} (hρ : ∀ x, VRel μ (evalD regs x) (a.eval x)) (r : HRel B μ m w)
    (h : opD P cl ⟨regs, nt, m⟩ slot ⟨dst, .typeAssert z xt t ok, type, pos, after, guard⟩ = some (x, m')) : OpRes P (execOp a.eval ⟨dst, .typeAssert z xt t ok, type, pos, after, guard⟩) w B slot μ m x m' := by
  simp only [opD] at h
  have ho := hρ z
  split at h
  · cases h
  · rename_i d u v hni hd hz
    split at h
    · rename_i hc
      obtain ⟨rfl, rfl⟩ := hc
      cases h
      rw [hz] at ho
      generalize hy : a.eval z = y at ho
      cases ho with
      | iface _ _ v' hv =>
      simp only [execOp, hy]
      refine still r (next_run (v := .tuple #[v', .bool true]) ?_) (.tuple [v, .bool true] [v', .bool true] (.cons _ _ _ _ hv (.cons _ _ _ _ (.bool true) .nil)))
      simp only [Instr.typeAssert, Sem.run_bind, underlying_run hd, Result.andThen]
      cases d <;> first
        | (exact absurd rfl (hni _))
        | (simp only [if_true, Sem.run_pure])
    · cases h
  · cases h
theorem op_near {o : Oper} (hρ : ∀ x, VRel μ (evalD regs x) (a.eval x)) (r : HRel B μ m w) (hB : B ≤ w.heap.size) (hslot : ∀ i, slot = some i → μ i = Option.none ∧ i < m.g.nx)
    (hn : nearOp o.op = true) (h : opD P cl ⟨regs, nt, m⟩ slot o = some (x, m')) : OpRes P (execOp a.eval o) w B slot μ m x m' := by
  obtain ⟨dst, op, type, pos, after, guard⟩ := o
  cases op
  case call c => simp [nearOp] at hn
  case slice t o lo hi mx => exact slice_sound hρ r h
  case build t parts => exact build_sound hρ r h
  case buildSlice t n parts => exact buildSlice_sound hρ r hB hslot h
  case makeSlice t l c => exact makeSlice_sound hρ r hB hslot h
  case convert s d o => exact convert_sound hρ r h
  case store t p v => exact store_op hρ r h
  case index t o ix => exact index_op hρ r h
  case move o =>
    simp only [opD] at h
    cases h
    exact still r (by simp [execOp, Sem.run_pure]) (hρ o)
  case assign o =>
    simp only [opD] at h
    cases h
    exact still r (by simp [execOp, Sem.run_pure]) (hρ o)
  case pick c p q =>
    simp only [opD] at h
    have hc := hρ c
    split at h
    · rename_i t ht
      cases h
      rw [ht] at hc
      generalize hcc : a.eval c = cc at hc
      cases hc
      refine still r (v' := if t then a.eval p else a.eval q) ?_ (by cases t; exact hρ q; exact hρ p)
      simp only [execOp, hcc, asBool, Sem.run_bind, Sem.run_pure, Result.andThen]
    · cases h
  case alloc e =>
    simp only [opD] at h
    cases hz : zeroD P e with
    | none => rw [hz] at h; cases h
    | some cs =>
      rw [hz] at h
      cases h
      obtain ⟨z, hz1, hz2⟩ := zero_run (w := w) hz
      refine new_res r hB hslot (arr := z.cells) (e := e) (by rw [hz2]; exact ofScals_rel μ _) (v := fun b => .ptr b 0) (v' := .pointer (some ⟨w.heap.size, 0, Option.none⟩)) ?_ (fun μ' b hb => by simpa using VRel.ptr b 0 _ _ _ hb)
      simp only [execOp]
      refine next_run ?_
      simp only [Instr.alloc, Sem.run_bind, hz1, Result.andThen, newVar, newRow_run, Sem.run_pure]
  case box e o =>
    simp only [opD] at h
    have ho := hρ o
    cases hz : cellsD (evalD regs o) with
    | none => rw [hz] at h; cases h
    | some cs =>
      rw [hz] at h
      cases h
      refine new_res r hB hslot (arr := (a.eval o).cells) (e := e) (cells_rel hz ho) (v := fun b => .ptr b 0) (v' := .pointer (some ⟨w.heap.size, 0, Option.none⟩)) ?_ (fun μ' b hb => by simpa using VRel.ptr b 0 _ _ _ hb)
      simp only [execOp]
      refine next_run ?_
      simp only [Instr.box, newVar, Sem.run_bind, newRow_run, Result.andThen, Sem.run_pure]
  case load t p =>
    simp only [opD] at h
    have hp := hρ p
    split at h
    · rename_i b o n hv ha hz
      simp only [Option.map_eq_some_iff] at h
      obtain ⟨cs, hr, h⟩ := h
      cases h
      rw [hv] at hp
      obtain ⟨l, e1, e2⟩ := load_agg r hr ha hz hp
      simp only [execOp]
      exact still r (next_run e1) (by simpa using VRel.agg _ _ e2)
    · rename_i b o hv ha
      rw [hv] at hp
      split at h
      · rename_i v hr
        cases h
        obtain ⟨y, e1, e2⟩ := load_one r hr ha hp
        simp only [execOp]
        exact still r (next_run e1) e2
      · cases h
    · cases h
  case nilCheck o =>
    simp only [opD] at h
    simp only [execOp]
    have ho := hρ o
    generalize evalD regs o = vo at h ho
    generalize a.eval o = co at ho ⊢
    have ho2 := ho
    cases ho <;> simp only at h <;> cases h <;> exact still r (by simp [Sem.run_pure]) ho2
  case binOp op t p q yt =>
    simp only [opD] at h
    split at h
    · rename_i y hy
      cases h
      exact plain_sound r hρ hy
    · split at h
      · rename_i d hd
        split at h
        · rename_i hnn
          simp only [execOp]
          split at h <;> cases h
          · exact still r (next_run (eql_nil (hρ p) (hρ q) hd hnn)) (.bool _)
          · exact still r (next_run (neq_nil (hρ p) (hρ q) hd hnn)) (.bool _)
        · cases h
      · cases h
  case makeInterface t o =>
    simp only [opD] at h
    have ho := hρ o
    cases hd : P.underlying t with
    | none => rw [hd] at h; cases h
    | some d =>
      rw [hd] at h
      simp only [execOp]
      cases d <;> (try simp only at h) <;> cases h <;>
        exact still r (next_run (v := .iface t (a.eval o)) (by simp only [Instr.makeInterface, Sem.run_bind, underlying_run hd, Result.andThen, Sem.run_pure])) (.iface _ _ _ ho)
  case typeAssert z xt t ok => exact typeAssert_op hρ r h
  case makeFunc fn first cap =>
    simp only [opD] at h
    split at h
    · rename_i f
      cases h
      simp only [execOp]
      refine still r (next_run (v := .func (.func f) (first.map a.eval) (cap.map a.eval)) (by simp [Instr.makeFunc, Sem.run_pure])) ?_
      have h1 := list_rel hρ first.toList
      have h2 := list_rel hρ cap.toList
      have e1 : first.map a.eval = (first.toList.map a.eval).toArray := Array.ext' (by simp)
      have e2 : cap.map a.eval = (cap.toList.map a.eval).toArray := Array.ext' (by simp)
      rw [e1, e2]
      exact .func _ _ _ _ _ h1 h2
    · cases h
  case fieldAddr s o f =>
    simp only [opD] at h
    simp only [execOp]
    have ho := hρ o
    generalize evalD regs o = vo at h ho
    generalize a.eval o = co at ho ⊢
    split at h
    · rename_i fields b o0 hu
      split at h
      · rename_i fd hf
        split at h
        · rename_i hnz
          cases h
          cases ho with
          | ptr _ _ c p n hm =>
          refine still r (next_run (v := .pointer (some ⟨c, p + (o0 + fd.offset), Option.none⟩)) ?_) (.ptr b (o0 + fd.offset) c p n hm)
          unfold nonZero at hnz
          split at hnz
          · rename_i k hk
            simp only [Instr.fieldAt, Sem.run_bind, underlying_run hu, Result.andThen, hf, Instr.sureAddr, Sem.run_pure, fieldPlace, sizeOf_run hk]
            rw [if_neg (by omega)]
            simp only [Sem.run_pure, add_none, Result.andThen, Nat.add_assoc]
          · cases hnz
        · cases h
      · cases h
    · cases h
  case field t o f =>
    simp only [opD] at h
    simp only [execOp]
    have ho := hρ o
    generalize evalD regs o = vo at h ho
    generalize a.eval o = co at ho ⊢
    split at h
    · rename_i fields cs hu
      split at h
      · rename_i fd hf
        simp only [Option.map_eq_some_iff] at h
        obtain ⟨v, hv, h⟩ := h
        cases h
        cases ho with
        | agg _ l hl =>
        obtain ⟨y, hy, hvy⟩ := part_sound (P := P) (w := w) (cs' := l.toArray) hv (by simpa using hl)
        refine still r (next_run (v := y) ?_) hvy
        simp only [Instr.field, Sem.run_bind, underlying_run hu, Result.andThen, hf, asAgg, Sem.run_pure, hy]
      · cases h
    · cases h
  case indexAddr t o ix =>
    simp only [opD] at h
    simp only [execOp]
    have ho := hρ o
    have hi := hρ ix
    generalize evalD regs o = vo at h ho
    generalize a.eval o = co at ho ⊢
    split at h
    · rename_i e b o0 len cap i hu hn
      split at h
      · rename_i z hz
        split at h
        · rename_i hlt
          cases h
          obtain ⟨k, ek⟩ := asNat_rel hn hi
          have key : ∀ c p n cap', μ b = some (c, p, n) → (Instr.indexAt t (.slice (some ⟨c, p + o0, Option.none⟩) len cap') (a.eval ix)).run P w = .ok (.pointer (some ⟨c, p + (o0 + i * z), Option.none⟩)) w := by
            intro c p n cap' hm
            simp only [Instr.indexAt, ek, asIntOf, Sem.run_bind, Sem.run_pure, Result.andThen, underlying_run hu]
            rw [if_pos (by omega)]
            simp only [Sem.run_bind, sizeOf_run hz, Result.andThen, Int.toNat_natCast, Sem.run_pure, add_none, Nat.add_assoc]
          cases ho with
          | slice _ _ _ cap' c p n hm _ => exact still r (next_run (key c p n cap' hm)) (.ptr b (o0 + i * z) c p n hm)
          | sliceU _ _ _ z' cap' c p n hm _ _ => exact still r (next_run (key c p n cap' hm)) (.ptr b (o0 + i * z) c p n hm)
        · cases h
      · cases h
    · rename_i len e b o0 i hu hn
      split at h
      · rename_i z hz
        split at h
        · rename_i hlt
          cases h
          obtain ⟨k, ek⟩ := asNat_rel hn hi
          cases ho with
          | ptr _ _ c p n hm =>
          refine still r (next_run (v := .pointer (some ⟨c, p + (o0 + i * z), Option.none⟩)) ?_) (.ptr b (o0 + i * z) c p n hm)
          simp only [Instr.indexAt, ek, asIntOf, Sem.run_bind, Sem.run_pure, Result.andThen, underlying_run hu, Instr.sureAddr]
          rw [if_pos (by omega)]
          simp only [Sem.run_bind, sizeOf_run hz, Result.andThen, Int.toNat_natCast, Sem.run_pure, add_none, Nat.add_assoc]
        · cases h
      · cases h
    · cases h
  case extract t ix =>
    simp only [opD] at h
    simp only [execOp]
    have ho := hρ t
    generalize evalD regs t = vo at h ho
    generalize a.eval t = co at ho ⊢
    split at h
    · rename_i vs
      simp only [Option.map_eq_some_iff] at h
      obtain ⟨v, hv, h⟩ := h
      cases h
      cases ho with
      | tuple _ l hl =>
      obtain ⟨y, hy, hvy⟩ := hl.get ix v hv
      refine still r (next_run (v := y) ?_) hvy
      have : l.toArray[ix]? = some y := by simpa using hy
      simp only [Instr.extract, this, Sem.run_pure]
    · cases h
  case panic o =>
    simp only [opD] at h
    simp only [execOp]
    have ho := hρ o
    generalize evalD regs o = vo at h ho
    generalize a.eval o = co at ho ⊢
    split at h
    · rename_i t v
      cases h
      cases ho with
      | iface _ _ v' hv =>
      refine ⟨μ, w, .iface t v', ?_, Step.refl _ _ _ _, r, .iface _ _ _ hv⟩
      simp [Sem.run_bind, Instr.panic, goPanic, Sem.run, Result.andThen]
    · cases h
  all_goals
    simp only [opD] at h
    split at h
    · rename_i y hy
      cases h
      exact plain_sound r hρ hy
    · cases h
end
end Go.Sx

/- append, copy, len. -/
namespace Go.Sx
open Go.RowKit

section
variable {P : Program} {B : Nat} {μ : Map} {m m' : Mem} {w : World} {slot : Option Nat}

theorem growBy_le (n : Nat) : ∀ (r c : Nat), c < n + (n + 768) / 4 + 1 → Builtin.growBy n r c < n + (n + 768) / 4 + 1
  | 0, c, h => by simpa [Builtin.growBy] using h
  | r + 1, c, h => by
    unfold Builtin.growBy
    split
    · exact h
    · exact growBy_le n r _ (by omega)
theorem nextcap_le (n c : Nat) (h : c < n) : Builtin.nextslicecap n c ≤ 2 * n + 1024 := by
  unfold Builtin.nextslicecap
  split
  · omega
  · split
    · omega
    · have := growBy_le n 4 c (by omega)
      omega

theorem first_run {z n : Nat} {x : V} {x' : Value} {xs : List V} (r : HRel B μ m w) (h : contentD m z n x = some xs) (hx : VRel μ x x') :
    ∃ l, (Builtin.firstCells z n x').run P w = .ok l w ∧ VRels μ xs l.toList := by
  cases hx <;> simp only [contentD] at h <;> try (cases h; done)
  case str s =>
    split at h
    · rename_i hz
      cases h
      refine ⟨((⟨s.toArray⟩ : ByteArray).extract 0 n).data.map fun b => Value.int .u8 b.toNat, by simp only [Builtin.firstCells, Sem.run_pure], ?_⟩
      have e1 : (((⟨s.toArray⟩ : ByteArray).extract 0 n).data.map fun b => Value.int .u8 b.toNat).toList = (s.take n).map fun b => Value.int .u8 b.toNat := by
        simp [ByteArray.data_extract]
      rw [e1]
      generalize s.take n = l
      induction l with
      | nil => exact .nil
      | cons c l ih => exact .cons _ _ _ _ (.int _ _) ih
    · cases h
  case nils =>
    split at h
    · cases h
      exact ⟨#[], by simp only [Builtin.firstCells, Sem.run_pure], .nil⟩
    · cases h
  case slice b o len cap c p k hm hle =>
    split at h
    · obtain ⟨arr, e, h1, h2, h3, h4⟩ := read_sound r h hm
      exact ⟨((arr.toList.drop (p + o)).take (n * z)).toArray, by simp only [Builtin.firstCells, loadCells_run h1 (p + o) (n * z) h2], by simpa using h4⟩
    · cases h
  case sliceU b o len z' cap c p k hm hle hc =>
    split at h
    · obtain ⟨arr, e, h1, h2, h3, h4⟩ := read_sound r h hm
      exact ⟨((arr.toList.drop (p + o)).take (n * z)).toArray, by simp only [Builtin.firstCells, loadCells_run h1 (p + o) (n * z) h2], by simpa using h4⟩
    · cases h

theorem len_run {x : V} {x' : Value} {n : Nat} (h : lenD x = some n) (hx : VRel μ x x') : (Builtin.lenOf x').run P w = .ok n w := by
  cases hx <;> simp only [lenD] at h <;> cases h <;> simp [Builtin.lenOf, Sem.run_pure, ByteArray.size]

theorem room_run (k : Nat) : (askRoom k).run P w = .ok () w := by
  unfold askRoom
  split
  · rfl
  · exact Sem.run_pure _ _ _

/-- A draw. -/
def drew1 (w : World) : World := { w with drawn := w.drawn + 1 }
theorem HRel.drew (r : HRel B μ m w) : HRel B μ m (drew1 w) := ⟨r.dom, r.hp, r.ob, r.dj, r.oo, r.oh, r.gl⟩
theorem Step.drew (slot : Option Nat) (μ : Map) (m : Mem) (w : World) : Step slot μ m w μ m (drew1 w) :=
  { sub := Sub.refl μ, nx := Nat.le_refl _, os := rfl, tape := rfl, output := rfl, size := Nat.le_refl _, fz := fun _ _ => rfl
    ids := fun _ _ h => .inl h
    upd := ⟨[], rfl, fun _ _ _ _ => rfl⟩
    newh := fun b blk c p n h k => .inr (.inl ⟨b, blk, p, n, h, k, rfl⟩)
    newo := fun b cs c p n h k => .inr ⟨b, cs, p, n, h, k⟩ }

theorem zeroCells_length (z : Array Value) (n : Nat) : (Builtin.zeroCells z n).size = n * z.size := by
  simp [Builtin.zeroCells]

/-- The part of append that asks for a new array. -/
theorem grow_run {sT xT elem : TypeId} {d : TypeDesc} {z by_ n len cap' : Nat} {zero : List V} {base : Option Addr} {x' : Value} {ty : TypeId} {l0 l1 : Array Value} (hu : P.underlying sT = some (.slice elem)) (hx : P.underlying xT = some d) (hd : ∀ k, d ≠ .int k) (hz : sizeD P elem = some z)
    (hb : bytesD P elem = some by_) (hze : zeroD P elem = some zero) (hzl : zero.length = z) (hn : (Builtin.lenOf x').run P w = .ok n w) (hgt : cap' < len + n) (hsz : (2 * (len + n) + 1024) * by_ ≤ 2 ^ 48) (hb0 : by_ ≠ 0)
    (h0 : (Builtin.firstCells z len (.slice base len cap')).run P (drew1 w) = .ok l0 (drew1 w)) (h1 : (Builtin.firstCells z n x').run P (drew1 w) = .ok l1 (drew1 w)) :
    ∃ (nc : Nat) (rest : Array Value), len + n ≤ nc ∧ rest.size = (nc - (len + n)) * z ∧
      (Builtin.append_ #[sT, xT] ty #[.slice base len cap', x']).run P w = .ok (.slice (some ⟨w.heap.size, 0, Option.none⟩) (len + n) nc) ((drew1 w).alloc (.cells (l0 ++ l1 ++ rest) elem)) := by
  obtain ⟨zv, hz1, hz2⟩ := zero_run (w := drew1 w) hze
  have hzs : zv.cells.size = z := by rw [hz2] at hzl; simpa using hzl
  simp only [bytesD, Option.map_eq_some_iff] at hb
  obtain ⟨i, hi, rfl⟩ := hb
  have hnc := nextcap_le (len + n) cap' hgt
  have hmul : Builtin.nextslicecap (len + n) cap' * i.bytes ≤ 2 ^ 48 := Nat.le_trans (Nat.mul_le_mul_right _ hnc) hsz
  have hsmall : len + n < 2 ^ 48 := by
    have h1 : 1 ≤ i.bytes := by omega
    have h2 : (2 * (len + n) + 1024) * 1 ≤ (2 * (len + n) + 1024) * i.bytes := Nat.mul_le_mul_left _ h1
    omega
  refine ⟨(Question.appendCap (len + n) cap' elem).cut (w.tape w.drawn (.appendCap (len + n) cap' elem)), Builtin.zeroCells zv.cells ((Question.appendCap (len + n) cap' elem).cut (w.tape w.drawn (.appendCap (len + n) cap' elem)) - (len + n)), ?_, ?_, ?_⟩
  · simp only [Question.cut]; omega
  · rw [zeroCells_length, hzs]
  have hzeros : (match d with | .int _ => true | _ => false) = false := by
    cases d <;> first | rfl | exact absurd rfl (hd _)
  have hch : (choose (.appendCap (len + n) cap' elem)).run P w = .ok ((Question.appendCap (len + n) cap' elem).cut (w.tape w.drawn (.appendCap (len + n) cap' elem))) (drew1 w) := by
    simp [choose, Sem.run, Question.forced, drew1]
  generalize (Question.appendCap (len + n) cap' elem).cut (w.tape w.drawn (.appendCap (len + n) cap' elem)) = nc at hch ⊢
  have e0 : (#[sT, xT] : Array TypeId)[0]? = some sT := rfl
  have e1 : (#[sT, xT] : Array TypeId)[1]? = some xT := rfl
  have e2 : (#[Value.slice base len cap', x'] : Array Value)[0]? = some (.slice base len cap') := rfl
  have e3 : (#[Value.slice base len cap', x'] : Array Value)[1]? = some x' := rfl
  unfold Builtin.append_
  simp only [e0, e1, e2, e3, Sem.run_bind, underlying_run hu, sizeOf_run hz, underlying_run hx, Result.andThen, Sem.run_pure, hzeros, Bool.false_eq_true, if_false, hn]
  rw [if_neg (by omega)]
  simp only [Sem.run_bind, typeInfo_run hi, Result.andThen, Bool.false_eq_true, false_or]
  rw [if_neg (by intro hh; exact hb0 hh.2)]
  simp only [Sem.run_bind, Sem.run_pure, typeInfo_run hi, Result.andThen]
  rw [if_neg (by omega)]
  have hi2 : (Go.typeInfo elem).run P (drew1 w) = .ok i (drew1 w) := typeInfo_run hi
  simp only [Sem.run_bind, Sem.run_pure, Result.andThen, hch, hi2, room_run, h0, h1, Bool.not_false, if_true, hz1, newRow_run]
  rfl

/-- A new block that others may see, of a capacity that is not known. -/
theorem fresh_sound (r : HRel B μ m w) (hB : B ≤ w.heap.size) {cells : List V} {arr : Array Value} {e : TypeId} (hc : ∀ (i : Nat) (v : V), cells[i]? = some v → ∃ v', arr[i]? = some v' ∧ VRel μ v v') (hl : cells.length ≤ arr.size)
    (hp' : Nat → Option Blk) (lg : List Nat) (rt : Nat) (hn : hp' m.g.nx = some ⟨cells, rt⟩) (ho : ∀ i, i ≠ m.g.nx → ∀ blk, hp' i = some blk → ∃ y, m.g.hp i = some y ∧ y.root = blk.root ∧ ∃ k, blk.cells = y.cells.take k) :
    ∃ μ', Step slot μ m w μ' { m with g := { hp := hp', nx := m.g.nx + 1, log := lg ++ m.g.log } } (w.alloc (.cells arr e)) ∧
      HRel B μ' { m with g := { hp := hp', nx := m.g.nx + 1, log := lg ++ m.g.log } } (w.alloc (.cells arr e)) ∧ μ' m.g.nx = some (w.heap.size, 0, arr.size) := by
  have hb : μ m.g.nx = Option.none := by
    cases h : μ m.g.nx with
    | none => rfl
    | some x => have := (r.dom _ x.1 x.2.1 x.2.2 h).1; omega
  have hs := addMap_sub (μ := μ) (b := m.g.nx) (w.heap.size, 0, arr.size) hb
  have hne : ∀ {i x}, μ i = some x → i ≠ m.g.nx := fun {i x} h e => by rw [e, hb] at h; cases h
  refine ⟨addMap μ m.g.nx (w.heap.size, 0, arr.size), ?_, ?_, addMap_eq _ _ _⟩
  · refine { sub := hs, nx := by simp, os := rfl, tape := rfl, output := rfl, size := by rw [size_alloc]; omega, fz := fun a _ => frozen?_alloc_cells _ _ _ _, ids := ?_, upd := ⟨lg, rfl, fun c hc _ _ => heap_alloc_old _ _ _ hc⟩, newh := ?_, newo := ?_ }
    · intro i x h
      unfold addMap at h
      split at h
      · rename_i hi; subst hi; exact .inr (.inl (Nat.le_refl _))
      · exact .inl h
    · intro i blk c p n hi hm
      by_cases hin : i = m.g.nx
      · subst hin; rw [addMap_eq] at hm; obtain ⟨rfl, rfl, rfl⟩ := by simpa using hm
        exact .inl (Nat.le_refl _)
      · obtain ⟨y, hy, hr, _⟩ := ho i hin blk hi
        exact .inr (.inl ⟨i, y, p, n, hy, back_map r hs hy hm, hr⟩)
    · intro i cs c p n hi hm
      exact .inr ⟨i, cs, p, n, hi, back_mapo r hs hi hm⟩
  · refine { dom := ?_, hp := ?_, ob := ?_, dj := ?_, oo := ?_, oh := ?_, gl := r.gl.mono hs }
    · intro i c p n h
      rw [size_alloc]
      unfold addMap at h
      split at h
      · rename_i hi; subst hi; obtain ⟨rfl, rfl, rfl⟩ := by simpa using h
        exact ⟨by simp, hB, by omega⟩
      · have := r.dom i c p n h
        exact ⟨by simp; omega, this.2.1, by omega⟩
    · intro i blk hi
      by_cases hin : i = m.g.nx
      · subst hin
        have : blk = ⟨cells, rt⟩ := by
          have hi' : hp' m.g.nx = some blk := hi
          rw [hn] at hi'; exact (Option.some.inj hi').symm
        subst this
        refine ⟨w.heap.size, 0, arr.size, arr, e, addMap_eq _ _ _, heap_alloc_new _ _, by omega, hl, fun j v hj => ?_⟩
        obtain ⟨v', a, b⟩ := hc j v hj
        exact ⟨v', by simpa using a, b.mono hs⟩
      · obtain ⟨y, hy, hr, k, hk⟩ := ho i hin blk hi
        obtain ⟨c, p, n, a2, e2, h1, h2, h3, h4, h5⟩ := r.mono_alloc hs (.cells arr e) i y hy
        refine ⟨c, p, n, a2, e2, h1, h2, h3, by rw [hk]; simp; omega, fun j v hj => ?_⟩
        rw [hk, List.getElem?_take] at hj
        split at hj
        · exact h5 j v hj
        · cases hj
    · intro i cs hi
      obtain ⟨c, a, e', h1, h2, h3⟩ := r.ob i cs hi
      exact ⟨c, a, e', hs _ _ h1, by rw [heap_alloc_old _ _ _ (r.dom _ _ _ _ h1).2.2]; exact h2, h3.mono hs⟩
    · intro i blk i' blk' c p n p' n' hi hi' hm hm'
      by_cases hin : i = m.g.nx <;> by_cases hin' : i' = m.g.nx
      · subst hin; subst hin'
        have e1 : blk = blk' := by
          have h1 : hp' m.g.nx = some blk := hi
          have h2 : hp' m.g.nx = some blk' := hi'
          rw [h1] at h2; exact Option.some.inj h2
        rw [hm] at hm'
        simp only [Option.some.injEq, Prod.mk.injEq, true_and] at hm'
        exact ⟨by rw [e1], hm'.1⟩
      · subst hin; rw [addMap_eq] at hm; obtain ⟨rfl, rfl, rfl⟩ := by simpa using hm
        obtain ⟨y, hy, _⟩ := ho i' hin' blk' hi'
        have := (r.dom _ _ _ _ (back_map r hs hy hm')).2.2
        omega
      · subst hin'; rw [addMap_eq] at hm'; obtain ⟨rfl, rfl, rfl⟩ := by simpa using hm'
        obtain ⟨y, hy, _⟩ := ho i hin blk hi
        have := (r.dom _ _ _ _ (back_map r hs hy hm)).2.2
        omega
      · obtain ⟨y, hy, hr, _⟩ := ho i hin blk hi
        obtain ⟨y', hy', hr', _⟩ := ho i' hin' blk' hi'
        have := r.dj i y i' y' c p n p' n' hy hy' (back_map r hs hy hm) (back_map r hs hy' hm')
        exact ⟨hr ▸ hr' ▸ this.1, this.2⟩
    · intro i cs i' cs' c p n p' n' hi hi' hm hm'
      exact r.oo i cs i' cs' c p n p' n' hi hi' (back_mapo r hs hi hm) (back_mapo r hs hi' hm')
    · intro i cs i' blk c p n p' n' hi hi' hm hm'
      have hmi := back_mapo r hs hi hm
      by_cases hin' : i' = m.g.nx
      · subst hin'; rw [addMap_eq] at hm'; obtain ⟨rfl, rfl, rfl⟩ := by simpa using hm'
        have := (r.dom _ _ _ _ hmi).2.2
        omega
      · obtain ⟨y, hy, _⟩ := ho i' hin' blk hi'
        exact r.oh i cs i' y c p n p' n' hi hy hmi (back_map r hs hy hm')

/-- An append in place, behind a slice whose capacity is not known. -/
theorem inplace_sound (r : HRel B μ m w) {b : Nat} {blk : Blk} (ho : m.ob b = Option.none) (hb : m.g.hp b = some blk) {c p n q : Nat} (hm : μ b = some (c, p, n)) {xs : List V} {xs' : List Value} (hx : VRels μ xs xs') (hone : xs.all oneD = true) (hq : q ≤ blk.cells.length) (hle : q + xs.length ≤ n)
    (hp' : Nat → Option Blk) (hn : hp' m.g.nx = some ⟨blk.cells.take q ++ xs, blk.root⟩) (hoo : ∀ i, i ≠ m.g.nx → ∀ bl, hp' i = some bl → ∃ y, m.g.hp i = some y ∧ y.root = bl.root ∧ (if y.root = blk.root then bl.cells = y.cells.take q else bl = y)) (P : Program) :
    ∃ μ' w', (storeCells ⟨c, p + q, Option.none⟩ xs').run P w = .ok () w' ∧ Step slot μ m w μ' { m with g := { hp := hp', nx := m.g.nx + 1, log := blk.root :: m.g.log } } w' ∧
      HRel B μ' { m with g := { hp := hp', nx := m.g.nx + 1, log := blk.root :: m.g.log } } w' ∧ μ' m.g.nx = some (c, p, n) := by
  have hb0 : μ m.g.nx = Option.none := by
    cases h : μ m.g.nx with
    | none => rfl
    | some x => have := (r.dom _ x.1 x.2.1 x.2.2 h).1; omega
  have hs := addMap_sub (μ := μ) (b := m.g.nx) (c, p, n) hb0
  obtain ⟨c', p', n', arr, e, h1, h2, h3, h4, h5⟩ := r.hp b blk hb
  rw [hm] at h1
  obtain ⟨rfl, rfl, rfl⟩ := by simpa using h1
  have hl := hx.length
  obtain ⟨w', arr', q1, q2, q3, q4⟩ := storeCells_run (P := P) (c := c) (q := p + q) (e := e) xs' 0 w arr h2 (ones_rel hone hx) (by omega)
  have hsz : arr'.size = arr.size := by
    have := congrArg List.length q3
    simp at this; omega
  -- what lies in front of the place is as it was; what is written lies there
  have hpre : ∀ j, j < p + q → arr'[j]? = arr[j]? := by
    intro j hj
    rw [← Array.getElem?_toList, q3, List.append_assoc, List.getElem?_append_left (by simp; omega), List.getElem?_take_of_lt (by omega), Array.getElem?_toList]
  have hmid : ∀ j, j < xs'.length → arr'[p + q + j]? = xs'[j]? := by
    intro j hj
    rw [← Array.getElem?_toList, q3, List.append_assoc, List.getElem?_append_right (by simp; omega), List.getElem?_append_left (by simp; omega)]
    congr 1
    simp
    omega
  refine ⟨addMap μ m.g.nx (c, p, n), w', q1, ?_, ?_, addMap_eq _ _ _⟩
  · refine { sub := hs, nx := by simp, os := q4.os, tape := q4.tape, output := q4.output, size := by rw [q4.size]; omega, fz := fun a _ => q4.fz a, ids := ?_, upd := ⟨[blk.root], rfl, fun k hk h0 _ => ?_⟩, newh := ?_, newo := ?_ }
    · intro i x h
      unfold addMap at h
      split at h
      · rename_i hi; subst hi; exact .inr (.inl (Nat.le_refl _))
      · exact .inl h
    · exact q4.heap k (fun e => h0 b blk p n hb (e ▸ hm) (by simp))
    · intro i bl c2 p2 n2 hi hmi
      by_cases hin : i = m.g.nx
      · subst hin
        rw [addMap_eq] at hmi
        obtain ⟨rfl, rfl, rfl⟩ := by simpa using hmi
        have : bl = ⟨blk.cells.take q ++ xs, blk.root⟩ := by
          have hi' : hp' m.g.nx = some bl := hi
          rw [hn] at hi'; exact (Option.some.inj hi').symm
        exact .inr (.inl ⟨b, blk, _, _, hb, hm, by rw [this]⟩)
      · obtain ⟨y, hy, hr, _⟩ := hoo i hin bl hi
        exact .inr (.inl ⟨i, y, p2, n2, hy, back_map r hs hy hmi, hr⟩)
    · intro i cs c2 p2 n2 hi hmi
      exact .inr ⟨i, cs, p2, n2, hi, back_mapo r hs hi hmi⟩
  · refine { dom := ?_, hp := ?_, ob := ?_, dj := ?_, oo := ?_, oh := ?_, gl := r.gl.mono hs }
    · intro i c2 p2 n2 h
      rw [q4.size]
      unfold addMap at h
      split at h
      · rename_i hi; subst hi; obtain ⟨rfl, rfl, rfl⟩ := by simpa using h
        have := r.dom b _ _ _ hm
        exact ⟨by simp, this.2.1, this.2.2⟩
      · have := r.dom i c2 p2 n2 h
        exact ⟨by simp; omega, this.2.1, this.2.2⟩
    · intro i bl hi
      by_cases hin : i = m.g.nx
      · subst hin
        have : bl = ⟨blk.cells.take q ++ xs, blk.root⟩ := by
          have hi' : hp' m.g.nx = some bl := hi
          rw [hn] at hi'; exact (Option.some.inj hi').symm
        subst this
        refine ⟨c, p, n, arr', e, addMap_eq _ _ _, q2, by omega, by simp; omega, fun j v hj => ?_⟩
        simp only at hj
        by_cases hjq : j < q
        · rw [List.getElem?_append_left (by simp; omega), List.getElem?_take_of_lt hjq] at hj
          obtain ⟨v', a, b2⟩ := h5 j v hj
          exact ⟨v', by rw [hpre _ (by omega)]; exact a, b2.mono hs⟩
        · rw [List.getElem?_append_right (by simp; omega)] at hj
          have hlen : (List.take q blk.cells).length = q := by simp; omega
          rw [hlen] at hj
          obtain ⟨v', a, b2⟩ := hx.get _ v hj
          refine ⟨v', ?_, b2.mono hs⟩
          have hlt : j - q < xs'.length := (List.getElem?_eq_some_iff.1 a).1
          have := hmid (j - q) hlt
          rw [show p + q + (j - q) = p + j from by omega] at this
          rw [this]; exact a
      · obtain ⟨y, hy, hr, hif⟩ := hoo i hin bl hi
        obtain ⟨c2, p2, n2, a2, e2, k1, k2, k3, k4, k5⟩ := r.hp i y hy
        by_cases hroot : y.root = blk.root
        · rw [if_pos hroot] at hif
          by_cases hcc : c2 = c
          · subst hcc
            have hpp := (r.dj i y b blk c2 p2 n2 p n hy hb k1 hm).2
            subst hpp
            rw [h2] at k2
            simp only [Option.some.injEq, Obj.cells.injEq] at k2
            obtain ⟨rfl, rfl, _⟩ := k2
            refine ⟨c2, p2, n2, arr', e, hs _ _ k1, q2, by omega, by rw [hif]; simp; omega, fun j v hj => ?_⟩
            rw [hif, List.getElem?_take] at hj
            split at hj
            · rename_i hjq
              obtain ⟨v', a, b2⟩ := k5 j v hj
              exact ⟨v', by rw [hpre _ (by omega)]; exact a, b2.mono hs⟩
            · cases hj
          · refine ⟨c2, p2, n2, a2, e2, hs _ _ k1, by rw [q4.heap c2 hcc]; exact k2, k3, by rw [hif]; simp; omega, fun j v hj => ?_⟩
            rw [hif, List.getElem?_take] at hj
            split at hj
            · obtain ⟨v', a, b2⟩ := k5 j v hj
              exact ⟨v', a, b2.mono hs⟩
            · cases hj
        · rw [if_neg hroot] at hif
          subst hif
          have hcc : c2 ≠ c := fun ee => hroot (r.dj i bl b blk c p2 n2 p n hy hb (ee ▸ k1) hm).1
          refine ⟨c2, p2, n2, a2, e2, hs _ _ k1, by rw [q4.heap c2 hcc]; exact k2, k3, k4, fun j v hj => ?_⟩
          obtain ⟨v', a, b2⟩ := k5 j v hj
          exact ⟨v', a, b2.mono hs⟩
    · intro i cs hi
      obtain ⟨c2, a2, e2, k1, k2, k3⟩ := r.ob i cs hi
      refine ⟨c2, a2, e2, hs _ _ k1, ?_, k3.mono hs⟩
      rw [q4.heap c2 (fun ee => r.oh i cs b blk c 0 _ p n hi hb (ee ▸ k1) hm)]
      exact k2
    · intro i bl i' bl' c2 p2 n2 p3 n3 hi hi' hmi hmi'
      -- each lies over an elder one
      have old : ∀ i bl p2 n2, hp' i = some bl → addMap μ m.g.nx (c, p, n) i = some (c2, p2, n2) → ∃ j y n4, m.g.hp j = some y ∧ μ j = some (c2, p2, n4) ∧ y.root = bl.root := by
        intro i bl p2 n2 hi hmi
        by_cases hin : i = m.g.nx
        · subst hin
          rw [addMap_eq] at hmi
          obtain ⟨rfl, rfl, rfl⟩ := by simpa using hmi
          rw [hn] at hi; cases hi
          exact ⟨b, blk, _, hb, hm, rfl⟩
        · obtain ⟨y, hy, hr, _⟩ := hoo i hin bl hi
          exact ⟨i, y, n2, hy, back_map r hs hy hmi, hr⟩
      obtain ⟨j, y, n4, g1, g2, g3⟩ := old i bl p2 n2 hi hmi
      obtain ⟨j', y', n4', g1', g2', g3'⟩ := old i' bl' p3 n3 hi' hmi'
      have := r.dj j y j' y' c2 p2 n4 p3 n4' g1 g1' g2 g2'
      exact ⟨g3 ▸ g3' ▸ this.1, this.2⟩
    · intro i cs i' cs' c2 p2 n2 p3 n3 hi hi' hmi hmi'
      exact r.oo i cs i' cs' c2 p2 n2 p3 n3 hi hi' (back_mapo r hs hi hmi) (back_mapo r hs hi' hmi')
    · intro i cs i' bl c2 p2 n2 p3 n3 hi hi' hmi hmi'
      have hmi2 := back_mapo r hs hi hmi
      by_cases hin : i' = m.g.nx
      · subst hin
        rw [addMap_eq] at hmi'
        obtain ⟨rfl, rfl, rfl⟩ := by simpa using hmi'
        exact r.oh i cs b blk _ _ _ _ _ hi hb hmi2 hm
      · obtain ⟨y, hy, hr, _⟩ := hoo i' hin bl hi'
        exact r.oh i cs i' y c2 p2 n2 p3 n3 hi hy hmi2 (back_map r hs hy hmi')
end
end Go.Sx

/- append, copy, len: joined. -/
namespace Go.Sx
open Go.RowKit

section
variable {P : Program} {B : Nat} {μ : Map} {m m' : Mem} {w : World} {slot : Option Nat}

theorem stay_run {sT xT elem : TypeId} {d : TypeDesc} {z n len cap' : Nat} {base : Option Addr} {x' : Value} {ty : TypeId} {l1 : Array Value} {w' : World} (hu : P.underlying sT = some (.slice elem)) (hx : P.underlying xT = some d) (hd : ∀ k, d ≠ .int k) (hz : sizeD P elem = some z)
    (hn : (Builtin.lenOf x').run P w = .ok n w) (hle : len + n ≤ cap') (h1 : (Builtin.firstCells z n x').run P w = .ok l1 w)
    (hst : match base with | some a => (storeCells (a.add (len * z)) l1.toList).run P w = .ok () w' | Option.none => w' = w) :
    (Builtin.append_ #[sT, xT] ty #[.slice base len cap', x']).run P w = .ok (.slice base (len + n) cap') w' := by
  have hzeros : (match d with | .int _ => true | _ => false) = false := by
    cases d <;> first | rfl | exact absurd rfl (hd _)
  have e0 : (#[sT, xT] : Array TypeId)[0]? = some sT := rfl
  have e1 : (#[sT, xT] : Array TypeId)[1]? = some xT := rfl
  have e2 : (#[Value.slice base len cap', x'] : Array Value)[0]? = some (.slice base len cap') := rfl
  have e3 : (#[Value.slice base len cap', x'] : Array Value)[1]? = some x' := rfl
  unfold Builtin.append_
  simp only [e0, e1, e2, e3, Sem.run_bind, underlying_run hu, sizeOf_run hz, underlying_run hx, Result.andThen, Sem.run_pure, hzeros, Bool.false_eq_true, if_false, hn]
  rw [if_pos hle]
  cases base with
  | none =>
    subst hst
    simp only [Sem.run_bind, Bool.not_false, if_true, h1, Result.andThen, Sem.run_pure]
  | some a =>
    simp only at hst
    simp only [Sem.run_bind, Bool.not_false, if_true, h1, Result.andThen, hst, Sem.run_pure]

theorem append_sound {sT xT elem : TypeId} {d : TypeDesc} {z by_ n : Nat} {zero xs : List V} {s x v : V} {s' x' : Value} {ty : TypeId} (r : HRel B μ m w) (hB : B ≤ w.heap.size) (hu : P.underlying sT = some (.slice elem)) (hxd : P.underlying xT = some d) (hd : ∀ k, d ≠ .int k) (hz : sizeD P elem = some z)
    (hb : bytesD P elem = some by_) (hze : zeroD P elem = some zero) (hzl : zero.length = z) (hs : VRel μ s s') (hx : VRel μ x x') (hln : lenD x = some n) (hc : contentD m z n x = some xs) (h : appendD (spillL spillFuel xs m) z by_ s n xs = some (v, m')) :
    ∃ μ' w' v', (Builtin.append_ #[sT, xT] ty #[s', x']).run P w = .ok v' w' ∧ Step slot μ m w μ' m' w' ∧ HRel B μ' m' w' ∧ VRel μ' v v' := by
  have hn := len_run (P := P) (w := w) hln hx
  obtain ⟨l1, f1, f2⟩ := first_run (P := P) r hc hx
  obtain ⟨l1', f1', f2'⟩ := first_run (P := P) r.drew hc hx
  obtain ⟨sp1, sp2⟩ := spillL_sound slot spillFuel xs m r
  have hl1 := f2.length
  have hl1' := f2'.length
  generalize spillL spillFuel xs m = m1 at h sp1 sp2
  -- a new array, nothing else known
  have fresh : ∀ (base : Option Addr) (len cap' : Nat) (old : List V) (l0 : Array Value), cap' < len + n → (Builtin.firstCells z len (.slice base len cap')).run P (drew1 w) = .ok l0 (drew1 w) → VRels μ old l0.toList → old.length = len * z → xs.length = n * z →
      (2 * (len + n) + 1024) * by_ ≤ 2 ^ 48 → by_ ≠ 0 → ∀ (hp' : Nat → Option Blk) (lg : List Nat) (rt : Nat), hp' m1.g.nx = some ⟨old ++ xs, rt⟩ → (∀ i, i ≠ m1.g.nx → ∀ blk, hp' i = some blk → ∃ y, m1.g.hp i = some y ∧ y.root = blk.root ∧ ∃ k, blk.cells = y.cells.take k) →
      ∃ μ' w' v', (Builtin.append_ #[sT, xT] ty #[.slice base len cap', x']).run P w = .ok v' w' ∧ Step slot μ m w μ' { m1 with g := { hp := hp', nx := m1.g.nx + 1, log := lg ++ m1.g.log } } w' ∧
        HRel B μ' { m1 with g := { hp := hp', nx := m1.g.nx + 1, log := lg ++ m1.g.log } } w' ∧ VRel μ' (.slice m1.g.nx 0 (len + n) (.unk z)) v' := by
    intro base len cap' old l0 hgt h0 hold holdl hxl hsz hb0 hp' lg rt hn' ho'
    obtain ⟨nc, rest, g1, g2, g3⟩ := grow_run (ty := ty) hu hxd hd hz hb hze hzl hn hgt hsz hb0 h0 f1'
    have hsize : (l0 ++ l1' ++ rest).size = nc * z := by
      have a1 := hold.length
      simp at a1 hl1'
      simp only [Array.size_append, g2, a1, hl1', holdl, hxl]
      rw [← Nat.add_mul, ← Nat.add_mul]
      congr 1
      omega
    have hmul : (len + n) * z ≤ nc * z := Nat.mul_le_mul_right _ g1
    rw [Nat.add_mul] at hmul
    have hcells : ∀ (i : Nat) (v : V), (old ++ xs)[i]? = some v → ∃ v', (l0 ++ l1' ++ rest)[i]? = some v' ∧ VRel μ v v' := by
      intro i v hi
      obtain ⟨v', a, b⟩ := (hold.append f2').get i v hi
      refine ⟨v', ?_, b⟩
      have hlt : i < (l0.toList ++ l1'.toList).length := (List.getElem?_eq_some_iff.1 a).1
      rw [Array.getElem?_append_left (by simpa using hlt), ← Array.getElem?_toList]
      simpa using a
    obtain ⟨μ', k1, k2, k3⟩ := fresh_sound (slot := slot) sp2.drew (by exact hB) (e := elem) hcells (by rw [hsize]; simp [holdl, hxl]; omega) hp' lg rt hn' ho'
    refine ⟨μ', _, _, g3, (sp1.trans (Step.drew slot μ m1 w)).trans k1, k2, ?_⟩
    refine .sliceU m1.g.nx 0 (len + n) z nc w.heap.size 0 _ k3 g1 ?_
    rw [hsize]; omega
  have hxl : xs.length = n * z := by
    cases hx <;> simp only [contentD] at hc <;> try (cases hc; done)
    case str s0 =>
      split at hc
      · rename_i hz1
        simp only [lenD, Option.some.injEq] at hln
        cases hc
        subst hz1
        simp
        omega
      · cases hc
    case nils =>
      split at hc
      · rename_i h0; cases hc; simp [h0]
      · cases hc
    case slice b o len cap c p k hm hle =>
      split at hc
      · obtain ⟨_, _, _, _, hh, _⟩ := read_sound r hc hm; exact hh
      · cases hc
    case sliceU b o len z' cap c p k hm hle hcc =>
      split at hc
      · obtain ⟨_, _, _, _, hh, _⟩ := read_sound r hc hm; exact hh
      · cases hc
  cases hs <;> simp only [appendD] at h <;> try (cases h; done)
  case nils =>
    by_cases h0 : n = 0
    · rw [if_pos h0] at h
      cases h
      subst h0
      exact ⟨μ, w, _, stay_run (ty := ty) (base := Option.none) hu hxd hd hz hn (Nat.le_refl _) f1 rfl, sp1, sp2, .nils⟩
    · rw [if_neg h0] at h
      split at h
      · rename_i hc2
        cases h
        exact fresh Option.none 0 0 [] #[] (by omega) (by simp [Builtin.firstCells, Sem.run_pure]) .nil (by simp) hxl hc2.1 hc2.2 _ [] m1.g.nx (by simp [upd]) (fun i hi blk hb => by
          simp only [upd, if_neg hi] at hb
          exact ⟨blk, hb, rfl, blk.cells.length, by simp⟩)
      · cases h
  case slice b o len cap c p k hm hle =>
    by_cases hcap : len + n ≤ cap
    · rw [if_pos hcap] at h
      split at h
      · rename_i m2 hw
        cases h
        obtain ⟨w', k1, k2, k3⟩ := write_sound slot sp2 hw hm f2 P
        refine ⟨μ, w', _, stay_run (ty := ty) hu hxd hd hz hn hcap f1 (by simpa [add_none, Nat.add_assoc] using k1), sp1.trans k2, k3, .slice b o (len + n) cap c p k hm hcap⟩
      · cases h
    · rw [if_neg hcap] at h
      split at h
      · rename_i old hr
        split at h
        · rename_i hc2
          cases h
          obtain ⟨arr, e, h1, h2, h3, h4⟩ := read_sound sp2.drew hr hm
          refine fresh (some ⟨c, p + o, Option.none⟩) len cap old (((arr.toList.drop (p + o)).take (len * z)).toArray) (by omega) ?_ (by simpa using h4) h3 hxl hc2.1 hc2.2 _ [] m1.g.nx (by simp [upd]) (fun i hi blk hb => by
            simp only [upd, if_neg hi] at hb
            exact ⟨blk, hb, rfl, blk.cells.length, by simp⟩)
          simp only [Builtin.firstCells, loadCells_run h1 (p + o) (len * z) h2]
        · cases h
      · cases h
  case sliceU b o len z' cap c p k hm hle hcz =>
    by_cases h0 : n = 0
    · rw [if_pos h0] at h
      cases h
      subst h0
      have hnil : l1.toList = [] := by
        apply List.eq_nil_of_length_eq_zero
        rw [hl1, hxl]; simp
      refine ⟨μ, w, _, stay_run (ty := ty) (base := some ⟨c, p + o, Option.none⟩) (w' := w) hu hxd hd hz hn (by omega) f1 (by simp only [hnil, storeCells, Sem.run_pure]), sp1, sp2, .sliceU b o len z' cap c p k hm hle hcz⟩
    · rw [if_neg h0] at h
      split at h
      · rename_i blk hob hhb
        split at h
        · rename_i hc2
          obtain ⟨rfl, rfl, hlz, hsz, hb0, hone⟩ := hc2
          cases h
          by_cases hfit : len + n ≤ cap
          · obtain ⟨μ', w', k1, k2, k3, k4⟩ := inplace_sound (slot := slot) sp2 (q := len * z') hob hhb hm f2 hone hlz (by
                have : (len + n) * z' ≤ cap * z' := Nat.mul_le_mul_right _ hfit
                rw [Nat.add_mul] at this
                omega) (fun x => if x = m1.g.nx then some ⟨blk.cells.take (len * z') ++ xs, blk.root⟩ else
                  match m1.g.hp x with
                  | some y => if y.root = blk.root then some { y with cells := y.cells.take (len * z') } else some y
                  | Option.none => Option.none) (by simp) (fun i hi bl hbl => by
                simp only [if_neg hi] at hbl
                split at hbl
                · rename_i y hy
                  split at hbl
                  · rename_i hr; cases hbl; exact ⟨y, hy, rfl, by rw [if_pos hr]⟩
                  · rename_i hr; cases hbl; exact ⟨bl, hy, rfl, by rw [if_neg hr]⟩
                · cases hbl) P
            refine ⟨μ', w', _, stay_run (ty := ty) hu hxd hd hz hn hfit f1 (by simpa [add_none] using k1), sp1.trans k2, k3, ?_⟩
            have := VRel.sliceU m1.g.nx 0 (len + n) z' cap c p k k4 hfit hcz
            simpa using this
          · obtain ⟨arr, e, h1, h2, h3, h4⟩ := block_sound sp2.drew (b := b) (cs := blk.cells) (by simp [blockD, hob, hhb]) hm
            have hrd : readD m1 b 0 (len * z') = some (blk.cells.take (len * z')) := by
              simp only [readD, blockD, hob, hhb, Option.map_some]
              rw [if_pos (by omega)]
              simp
            obtain ⟨arr2, e2, g1, g2, g3, g4⟩ := read_sound sp2.drew hrd hm
            refine fresh (some ⟨c, p + 0, Option.none⟩) len cap (blk.cells.take (len * z')) (((arr2.toList.drop (p + 0)).take (len * z')).toArray) (by omega) ?_ (by simpa using g4) (by simp; omega) hxl hsz hb0 _ [blk.root] blk.root (by simp) (fun i hi bl hbl => by
              simp only [if_neg hi] at hbl
              split at hbl
              · rename_i y hy
                split at hbl
                · cases hbl; exact ⟨y, hy, rfl, len * z', rfl⟩
                · cases hbl; exact ⟨bl, hy, rfl, bl.cells.length, by simp⟩
              · cases hbl)
            simp only [Builtin.firstCells, loadCells_run g1 (p + 0) (len * z') g2]
        · cases h
      · cases h
end
end Go.Sx

/- Calls of builtins. -/
namespace Go.Sx
open Go.RowKit

section
variable {P : Program} {B : Nat} {μ : Map} {m m' : Mem} {w : World} {slot : Option Nat} {cl : FuncId → List V → G → Option (En × G)} {regs : Nat → V} {nt : Nat} {a : Act} {x : R}
variable {dst : Option Tmp} {guard : Option (Nat × Bool)} {type : TypeId} {pos : String} {after : Array Edge}

theorem elemD_under {t e : TypeId} (h : elemD P t = some e) : P.underlying t = some (.slice e) := by
  unfold elemD at h
  split at h
  · rename_i e' hu; cases h; exact hu
  · cases h

theorem args2 {args : Array Operand} {v1 v2 : V} (h : args.toList.map (evalD regs) = [v1, v2]) (hρ : ∀ x, VRel μ (evalD regs x) (a.eval x)) :
    ∃ x1 x2, args.map a.eval = #[x1, x2] ∧ VRel μ v1 x1 ∧ VRel μ v2 x2 := by
  have h1 := list_rel hρ args.toList
  rw [h] at h1
  generalize hl : args.toList.map a.eval = l at h1
  cases h1 with
  | cons _ x1 _ l1 r1 t1 =>
    cases t1 with
    | cons _ x2 _ l2 r2 t2 =>
      cases t2
      refine ⟨x1, x2, ?_, r1, r2⟩
      apply Array.ext'
      simpa using hl
theorem args1 {args : Array Operand} {v1 : V} (h : args.toList.map (evalD regs) = [v1]) (hρ : ∀ x, VRel μ (evalD regs x) (a.eval x)) :
    ∃ x1, args.map a.eval = #[x1] ∧ VRel μ v1 x1 := by
  have h1 := list_rel hρ args.toList
  rw [h] at h1
  generalize hl : args.toList.map a.eval = l at h1
  cases h1 with
  | cons _ x1 _ l1 r1 t1 =>
    cases t1
    refine ⟨x1, ?_, r1⟩
    apply Array.ext'
    simpa using hl

theorem builtin_sound {b : Builtin} {args : Array Operand} {tys : Array TypeId} (hρ : ∀ x, VRel μ (evalD regs x) (a.eval x)) (r : HRel B μ m w) (hB : B ≤ w.heap.size) (h : builtinD P regs m b args tys = some (x, m')) :
    OpRes P (execOp a.eval ⟨dst, .call ⟨.builtin b, args, tys⟩, type, pos, after, guard⟩) w B slot μ m x m' := by
  have hexec : ∀ n w', (Go.builtin b tys type (args.map fun | .const _ => true | _ => false) (args.map a.eval)).run P w = .ok n w' → (execOp a.eval ⟨dst, .call ⟨.builtin b, args, tys⟩, type, pos, after, guard⟩).run P w = .ok n w' := by
    intro n w' hh
    simp only [execOp, resolve, Sem.run_bind, Sem.run_pure, Result.andThen, invoke]
    exact hh
  unfold builtinD at h
  simp only at h
  split at h
  · -- len
    rename_i v hv
    obtain ⟨x1, e1, r1⟩ := args1 hv hρ
    split at h
    · rename_i b0 o len cap e he
      cases h
      simp only [Option.bind_eq_some_iff] at he
      obtain ⟨t, ht, he⟩ := he
      have hu := elemD_under he
      have hk : ∀ bb cc, x1 = .slice bb len cc → (Go.builtin .len tys type (args.map fun | .const _ => true | _ => false) (args.map a.eval)).run P w = .ok (.value (.int .i64 len)) w := by
        intro bb cc hx
        have e2 : (#[x1] : Array Value)[0]? = some x1 := rfl
        simp only [Go.builtin, e1]
        refine next_run ?_
        subst hx
        simp only [Builtin.len_, ht, e2, Sem.run_bind, underlying_run hu, Result.andThen, Sem.run_pure, goInt]
      cases r1 with
      | slice _ _ _ cap' c p n hm _ => exact still r (hexec _ _ (hk _ _ rfl)) (.int _ _)
      | sliceU _ _ _ z cap' c p n hm _ _ => exact still r (hexec _ _ (hk _ _ rfl)) (.int _ _)
    · cases h
  · -- append
    rename_i s xx hv
    obtain ⟨x1, x2, e1, r1, r2⟩ := args2 hv hρ
    split at h
    · rename_i st xt hst hxt
      split at h
      · rename_i e d he hd
        split at h
        · cases h
        · rename_i hni
          split at h
          · rename_i z by_ zero n hz hb hze hln
            split at h
            · rename_i hzl
              split at h
              · rename_i xs hc
                simp only [Option.map_eq_some_iff] at h
                obtain ⟨y, hy, h⟩ := h
                cases h
                obtain ⟨μ', w', v', k1, k2, k3, k4⟩ := append_sound (slot := slot) (ty := type) r hB (elemD_under he) hd (fun k hk => hni k hk) hz hb hze hzl r1 r2 hln hc hy
                refine ⟨μ', w', v', hexec _ _ ?_, k2, k3, k4⟩
                have ha : ∀ (s x : Value), (Builtin.append_ tys type #[s, x]) = (Builtin.append_ #[st, xt] type #[s, x]) := by
                  intro s x
                  unfold Builtin.append_
                  rw [hst, hxt]
                  rfl
                simp only [Go.builtin, e1, ha]
                exact next_run k1
              · cases h
            · cases h
          · cases h
      · cases h
    · cases h
  · -- copy
    rename_i dd ss hv
    obtain ⟨x1, x2, e1, r1, r2⟩ := args2 hv hρ
    split at h
    · rename_i e n k he hn hk
      simp only [Option.bind_eq_some_iff] at he
      obtain ⟨t, ht, he⟩ := he
      have hu := elemD_under he
      have hlen := len_run (P := P) (w := w) hn r2
      have e2 : (#[x1, x2] : Array Value)[0]? = some x1 := rfl
      have e3 : (#[x1, x2] : Array Value)[1]? = some x2 := rfl
      split at h
      · rename_i z b0 o l0 c0 hz
        split at h
        · rename_i xs hc
          split at h
          · rename_i m1 hw
            cases h
            obtain ⟨l1, f1, f2⟩ := first_run (P := P) r hc r2
            have key : ∀ c p nn cc, μ b0 = some (c, p, nn) → x1 = .slice (some ⟨c, p + o, Option.none⟩) l0 cc → ∃ w', (Go.builtin .copy tys type (args.map fun | .const _ => true | _ => false) (args.map a.eval)).run P w = .ok (.value (.int .i64 (Nat.min n k))) w' ∧ Step slot μ m w μ m' w' ∧ HRel B μ m' w' := by
              intro c p nn cc hm hx
              have hk0 : k = l0 := by simpa [lenD] using hk.symm
              subst hk0
              obtain ⟨w', q1, q2, q3⟩ := write_sound slot r hw hm f2 P
              refine ⟨w', ?_, q2, q3⟩
              simp only [Go.builtin, e1]
              refine next_run ?_
              subst hx
              unfold Builtin.copy_
              simp only [ht, e2, e3, Sem.run_bind, underlying_run hu, Result.andThen, hlen, sizeOf_run hz, f1, q1, Sem.run_pure, goInt]
            cases r1 with
            | slice _ _ _ cap' c p nn hm _ =>
              obtain ⟨w', q1, q2, q3⟩ := key c p nn _ hm rfl
              exact ⟨μ, w', _, hexec _ _ q1, q2, q3, .int _ _⟩
            | sliceU _ _ _ z' cap' c p nn hm _ _ =>
              obtain ⟨w', q1, q2, q3⟩ := key c p nn _ hm rfl
              exact ⟨μ, w', _, hexec _ _ q1, q2, q3, .int _ _⟩
          · cases h
        · cases h
      · cases h
    · cases h
  · cases h
end
end Go.Sx

/- Code, as the evaluator carries it out. -/
namespace Go.Sx
open Go.RowKit

inductive X where
  | normal
  | exit (id : Nat)
  | ret
  | panic (v : V)

def undefV : V := .tuple []

def putD (st : St) (dst : Option Nat) (v : V) : Option St :=
  match dst with
  | Option.none => some st
  | some d => if d < st.nt then some { st with regs := upd st.regs d v } else Option.none

def wantedD (regs : Nat → V) (ops : Array Oper) (o : Oper) : Option Bool :=
  match o.guard with
  | Option.none => some true
  | some (j, want) => match (ops[j]?).bind (·.dst) with
    | some t => match regs t with
      | .bool b => some (b == want)
      | .tuple [] => some false
      | _ => Option.none
    | Option.none => some false

/-- The functions that hand a slice's elements over from its end on, and the type of these elements. -/
def backTab (gf : FuncId) : Option TypeId := Option.none
def backOf (P : Program) (gf : FuncId) : Option TypeId := backTab gf
section
variable (P : Program) (cl : FuncId → List V → G → Option (En × G))

def opsD (ops : Array Oper) : List Oper → St → Option (X × St)
  | [], st => some (.normal, st)
  | o :: rest, st => match wantedD st.regs ops o with
    | some true => match opD P cl st Option.none o with
      | some (.val v, m) => match putD { st with m := m } o.dst v with
        | some st => opsD ops rest st
        | Option.none => Option.none
      | some (.skip, m) => match putD { st with m := m } o.dst undefV with
        | some st => opsD ops rest st
        | Option.none => Option.none
      | some (.panic v, m) => some (.panic v, { st with m := m })
      | Option.none => Option.none
    | some false => match putD st o.dst undefV with
      | some st => opsD ops rest st
      | Option.none => Option.none
    | Option.none => Option.none

/-! ### Regions that draw their order -/
inductive Kd where
  | free | load | eff | bad
  deriving DecidableEq

def kindD (o : Oper) : Kd :=
  match o.op with
  | .load _ _ => .load
  | .store _ _ _ => .eff
  | .call c => match c.callee with
    | .value _ => .eff
    | .builtin b => match b with
      | .len | .min | .max => .free
      | .append | .copy => .eff
      | _ => .bad
    | _ => .bad
  | .convert s _ _ => match P.underlying s with
    | some (.slice _) => .bad
    | _ => .free
  | .move _ | .assign _ | .pick _ _ _ | .alloc _ | .box _ _ | .build _ _ | .buildSlice _ _ _ | .nilCheck _ | .binOp _ _ _ _ _ | .unOp _ _ _ | .makeInterface _ _ | .makeFunc _ _ _ | .makeSlice _ _ _
  | .slice _ _ _ _ _ | .fieldAddr _ _ _ | .field _ _ _ | .indexAddr _ _ _ | .index _ _ _ | .extract _ _ => .free
  | _ => .bad

def pairOk : Kd → Kd → Bool
  | .bad, _ | _, .bad => false
  | .eff, .eff => false
  | _, _ => true

/-- Which operations surely come ahead of each, as bits. -/
def maskOf (acc : List Nat) (o : Oper) : Nat :=
  o.after.toList.foldl (fun s e => if Region.binds .any e then s ||| 2 ^ e.on ||| acc.getD e.on 0 else s) 0
def masks (ops : List Oper) : List Nat := ops.foldl (fun acc o => acc ++ [maskOf acc o]) []
def ordered (ms : List Nat) (i j : Nat) : Bool := (ms.getD j 0).testBit i

def drawOk (ops : Array Oper) : Bool :=
  let ms := masks ops.toList
  Region.noSelect ops && (List.range ops.size).all fun j => match ops[j]? with
    | some oj => oj.after.toList.all (fun e => !Region.binds .any e || decide (e.on < j)) && (List.range j).all fun i => ordered ms i j || match ops[i]? with
      | some oi => oi.apart ops oj && oj.apart ops oi && pairOk (kindD P oi) (kindD P oj)
      | Option.none => false
    | Option.none => false

inductive Rec where
  | no
  | load (b root : Nat)
  | call (log : List Nat)

def rootD (m : Mem) (b : Nat) : Nat := match m.ob b with
  | some _ => b
  | Option.none => match m.g.hp b with
    | some blk => blk.root
    | Option.none => b

def tgtV : V → List Nat
  | .slice b _ _ _ => [b]
  | .ptr b _ => [b]
  | _ => []
/-- The block that a store, an append, a copy is aimed at. -/
def tgtD (regs : Nat → V) (o : Oper) : List Nat :=
  match o.op with
  | .store _ a _ => tgtV (evalD regs a)
  | .call c => match c.callee with
    | .builtin _ => match c.args.toList with
      | s :: _ => tgtV (evalD regs s)
      | [] => []
    | _ => []
  | _ => []

def recD (st : St) (o : Oper) (log : List Nat) : Rec :=
  match kindD P o with
  | .eff => .call (tgtD st.regs o ++ log)
  | .load => match o.op with
    | .load _ a => match evalD st.regs a with
      | .ptr b _ => .load b (rootD st.m b)
      | _ => .no
    | _ => .no
  | _ => .no

abbrev DS := St × (Nat → Rec)

/-- What a log has got beyond an elder one. -/
def newLog (l old : List Nat) : List Nat := l.take (l.length - old.length)

def stepI (ops : Array Oper) (base : Nat) (i : Nat) (s : DS) : Option DS :=
  match ops[i]? with
  | Option.none => Option.none
  | some o => match wantedD s.1.regs ops o with
    | some false => (putD s.1 o.dst undefV).map fun st => (st, s.2)
    | some true => match opD P cl s.1 (some (base + i)) o with
      | some (.val v, m) => (putD { s.1 with m := m } o.dst v).map fun st => (st, upd s.2 i (recD P s.1 o (newLog m.g.log s.1.m.g.log)))
      | some (.skip, m) => (putD { s.1 with m := m } o.dst undefV).map fun st => (st, upd s.2 i (recD P s.1 o (newLog m.g.log s.1.m.g.log)))
      | _ => Option.none
    | Option.none => Option.none

def runI (ops : Array Oper) (base : Nat) : List Nat → DS → Option DS
  | [], s => some s
  | i :: l, s => match stepI P cl ops base i s with
    | some s => runI ops base l s
    | Option.none => Option.none

/-- What is asked of two that nothing orders: a call leaves what is read beside it. -/
def recOk : Rec → Rec → Bool
  | .call l, .load b root => !l.contains b && !l.contains root
  | .load b root, .call l => !l.contains b && !l.contains root
  | _, _ => true
def recsOk (ms : List Nat) (n : Nat) (tr : Nat → Rec) : Bool :=
  (List.range n).all fun j => (List.range j).all fun i => ordered ms i j || recOk (tr i) (tr j)

/-! What goes wrong in a region that draws: what nothing orders behind it is calm: it leaves memory alone. -/
def pureOp (o : Oper) : Bool := match o.op with
  | .move _ | .assign _ | .pick _ _ _ | .load _ _ | .fieldAddr _ _ _ | .nilCheck _ | .binOp _ _ _ _ _ | .unOp _ _ _ => true
  | _ => false
def others (ops : Array Oper) (i j : Nat) : Bool := decide (j ≠ i) && !ordered (masks ops.toList) i j
def calmAt (ops : Array Oper) (i : Nat) : Bool := (List.range ops.size).all fun j => match ops[j]? with
  | some oj => !(decide (j = i) || others ops i j) || ((decide (j = i) || pureOp oj) && oj.after.toList.all fun e => !Region.binds .any e || others ops i e.on)
  | Option.none => false
def forgetD (ops : Array Oper) (regs : Nat → V) : Nat → V := fun t => if ops.toList.any (fun o => o.dst == some t) then .none else regs t
def restI (ops : Array Oper) (i : Nat) : List Nat := (List.range ops.size).filter fun j => decide (i < j) && others ops i j
def panicAt (ops : Array Oper) (base i : Nat) (s : DS) : Option (X × St) :=
  match ops[i]? with
  | some o => if calmAt ops i then match wantedD s.1.regs ops o with
      | some true => match opD P cl s.1 (some (base + i)) o with
        | some (.panic v, m) => match runI P cl ops base (restI ops i) s with
          | some _ => some (.panic v, { regs := forgetD ops s.1.regs, nt := s.1.nt, m := m })
          | Option.none => Option.none
        | _ => Option.none
      | _ => Option.none
    else Option.none
  | Option.none => Option.none
def panicR (ops : Array Oper) (base : Nat) : List Nat → DS → Option (X × St)
  | [], _ => Option.none
  | i :: l, s => match stepI P cl ops base i s with
    | some s => panicR ops base l s
    | Option.none => panicAt P cl ops base i s

def drawD (ops : Array Oper) (st : St) : Option (X × St) :=
  if drawOk P ops then
    let base := st.m.g.nx
    let st0 : St := { st with m := { st.m with g := { st.m.g with nx := base + ops.size } } }
    match runI P cl ops base (List.range ops.size) (st0, fun _ => .no) with
    | some (st1, tr) => if recsOk (masks ops.toList) ops.size tr then some (.normal, st1) else Option.none
    | Option.none => panicR P cl ops base (List.range ops.size) (st0, fun _ => .no)
  else Option.none

/-! ### Functions, and code -/
def resD (st : St) : ResultVar → Option V
  | .tmp t => some (st.regs t)
  | .cell x t => match st.regs x, aggD P t, sizeD P t with
    | .ptr b o, some true, some n => (readD st.m b o n).map .agg
    | .ptr b o, some false, _ => match readD st.m b o 1 with
      | some [v] => some v
      | _ => Option.none
    | _, _, _ => Option.none
def ressD (st : St) : List ResultVar → Option (List V)
  | [] => some []
  | r :: l => match resD P st r, ressD st l with
    | some v, some vs => some (v :: vs)
    | _, _ => Option.none
def resultD (st : St) (fn : Func) : Option V :=
  match ressD P st fn.results.toList with
  | some [v] => some v
  | some vs => some (.tuple vs)
  | Option.none => Option.none

/-- Code without a range over a function in it. -/
def flatC : Code → Bool
  | .seq a b => flatC a && flatC b
  | .cond _ a b => flatC a && flatC b
  | .block _ a => flatC a
  | .loop a => flatC a
  | .scope a => flatC a
  | .rangeFunc _ _ _ _ => false
  | _ => true
def flatQ (q : List Code × Nat × Code) : Bool := q.1.all flatC && flatC q.2.2
/-- A body that hands one closure to its end: what runs before that, and makes the closure · where it lies · what runs after. -/
def deferReg (ops : List Oper) : Option (Oper × Nat) := match ops with
  | [o1, o2] => match o1.guard, o2.guard, o1.dst, o2.dst, o2.op with
    | Option.none, Option.none, some t, Option.none, .defer c => match c.callee, c.args.toList with
      | .value (.tmp t'), [] => if t' = t then some (o1, t) else Option.none
      | _, _ => Option.none
    | _, _, _, _, _ => Option.none
  | _ => Option.none
def headOf : Code → Option (Oper × Nat)
  | .region _ ops false => deferReg ops.toList
  | _ => Option.none
def deferOf : Code → Option (List Code × Nat × Code)
  | .seq a b => match headOf a with
    | some (o, t) => some ([.region 0 #[o] false], t, b)
    | Option.none => match deferOf b with
      | some (pre, t, post) => some (a :: pre, t, post)
      | Option.none => Option.none
  | _ => Option.none
def exL (ex : Code → St → Option (X × St)) : List Code → St → Option St
  | [], st => some st
  | c :: l, st => match ex c st with
    | some (.normal, st') => exL ex l st'
    | _ => Option.none
/-- A body that asks first what went wrong. -/
def recReg (ops : List Oper) : Option Nat := match ops with
  | [o] => match o.guard, o.dst, o.op with
    | Option.none, some t, .call c => match c.callee with
      | .builtin .recover => some t
      | _ => Option.none
    | _, _, _ => Option.none
  | _ => Option.none
def recOf : Code → Option (Nat × Code)
  | .seq a b => match a with
    | .region _ ops false => (recReg ops.toList).map fun t => (t, b)
    | _ => Option.none
  | _ => Option.none
def enterD (fn : Func) (args : List V) (g : G) : St := { regs := fun t => (args[t]?).getD undefV, nt := fn.ntmps, m := ⟨fun _ => Option.none, g⟩ }
/-- A closure that runs at the end: what went wrong, if anything did, is forgotten with it. -/
def runR (ex : Code → St → Option (X × St)) (u : Option V) (f : FuncId) (args : List V) (g : G) : Option (En × G) :=
  match P.funcs[f]? with
  | some fn => match fn.body with
    | some body => match recOf body with
      | some (t, rest) => if flatC rest = false then Option.none else match putD (enterD fn args g) (some t) (u.getD .nili) with
        | some st1 => match ex rest st1 with
          | some (.normal, st) => (resultD P st fn).map fun v => (.ret v, (spillV spillFuel v st.m).g)
          | some (.ret, st) => (resultD P st fn).map fun v => (.ret v, (spillV spillFuel v st.m).g)
          | _ => Option.none
        | Option.none => Option.none
      | Option.none => Option.none
    | Option.none => Option.none
  | Option.none => Option.none
def closeD (ex : Code → St → Option (X × St)) (d : V) (u : Option V) (st : St) : Option St := match d with
  | .func cf ca cc => match callD P (runR P ex u) cf (ca ++ cc) st.m with
    | some (.val _, m) => some { st with m := m }
    | _ => Option.none
  | _ => Option.none
def runD (ex : Code → St → Option (X × St)) (fn : Func) (q : List Code × Nat × Code) (st0 : St) : Option (En × G) :=
  match exL ex q.1 st0 with
  | some st2 =>
    match (match ex q.2.2 st2 with
      | some (.normal, st3) => closeD P ex (st2.regs q.2.1) Option.none st3
      | some (.ret, st3) => closeD P ex (st2.regs q.2.1) Option.none st3
      | some (.panic v, st3) => closeD P ex (st2.regs q.2.1) (some v) st3
      | _ => Option.none) with
    | some st4 => (resultD P st4 fn).map fun v => (.ret v, (spillV spillFuel v st4.m).g)
    | Option.none => Option.none
  | Option.none => Option.none

/-! ### A range over the backward iterator of a slice -/
def lenS : V → Option Nat
  | .slice _ _ len _ => if len ≤ 65536 then some len else Option.none
  | .nils => some 0
  | _ => Option.none
def loadE (e : TypeId) (m : Mem) (b o : Nat) : Option V := match aggD P e, sizeD P e with
  | some true, some n => (readD m b o n).map .agg
  | some false, some _ => match readD m b o 1 with
    | some [v] => some v
    | _ => Option.none
  | _, _ => Option.none
def roundsB (ex : Code → St → Option (X × St)) (e : TypeId) (z cb co p0 p1 : Nat) (assign body : Code) (st0 : St) : Nat → Mem → Option (X × Mem)
  | 0, m => some (.normal, m)
  | i + 1, m => match readD m cb co 1 with
    | some [.slice b o len _] => if i < len then match loadE P e m b (o + i * z) with
        | some v => match putD { st0 with m := m } (some p0) (.int .i64 (i : Int)) with
          | some st1 => match putD st1 (some p1) v with
            | some st2 => match ex assign st2 with
              | some (.normal, st3) => match ex body st3 with
                | some (.normal, st4) => roundsB ex e z cb co p0 p1 assign body st0 i st4.m
                | some (.ret, st4) => some (.ret, st4.m)
                | some (.exit id, st4) => some (.exit id, st4.m)
                | _ => Option.none
              | _ => Option.none
            | Option.none => Option.none
          | Option.none => Option.none
        | Option.none => Option.none
      else Option.none
    | _ => Option.none
def rangeD (ex : Code → St → Option (X × St)) (g : Operand) (ps : Array Tmp) (assign body : Code) (st : St) : Option (X × St) :=
  if flatC assign && flatC body then
    match evalD st.regs g with
    | .func gf [] [.ptr cb co] => match backOf P gf, ps.toList with
      | some e, [p0, p1] => match sizeD P e, readD st.m cb co 1 with
        | some z, some [sv] => match lenS sv with
          | some len => (roundsB P ex e z cb co p0 p1 assign body st len st.m).map fun y => (y.1, { st with m := y.2 })
          | Option.none => Option.none
        | _, _ => Option.none
      | _, _ => Option.none
    | _ => Option.none
  else Option.none

/-! ### errors.As at a chain of two: what it answers, and what it sets -/
/-- The types of the outer error, of the inner one, of the target; where the inner one lies in the outer. -/
structure Eff where
  tw : TypeId
  tf : TypeId
  tpp : TypeId
  off : Nat
  /-- strings.Join in its place. -/
  join : Bool
def joinT (sep : List UInt8) : List V → Option (List UInt8)
  | [] => some []
  | .str s :: r => (joinT sep r).map fun t => sep ++ (s ++ t)
  | _ => Option.none
def joinS (sep : List UInt8) : List V → Option (List UInt8)
  | [] => some []
  | .str s :: r => (joinT sep r).map fun t => s ++ t
  | _ => Option.none
def joinD (args : List V) (g : G) : Option (En × G) := match args with
  | [.slice b o len _, .str sep] => if len ≤ 65536 then match readD ⟨fun _ => Option.none, g⟩ b o len with
      | some l => match joinS sep l with
        | some t => if t.length ≤ 1048576 then some (.ret (.str t), g) else Option.none
        | Option.none => Option.none
      | Option.none => Option.none
    else Option.none
  | [.nils, .str _] => some (.ret (.str []), g)
  | _ => Option.none
def effTab (f : FuncId) : Option Eff := Option.none
def asD (s : Eff) (args : List V) (g : G) : Option (En × G) := match args with
  | [.nili, _] => some (.ret (.bool false), g)
  | [.iface t (.ptr b o), .iface t2 (.ptr b2 o2)] => if t = s.tw ∧ t2 = s.tpp then match readD ⟨fun _ => Option.none, g⟩ b (o + s.off) 1 with
      | some [.iface t3 (.ptr b3 o3)] => if t3 = s.tf then (writeD ⟨fun _ => Option.none, g⟩ b2 o2 [.ptr b3 o3]).map fun m => (.ret (.bool true), m.g) else Option.none
      | _ => Option.none
    else Option.none
  | _ => Option.none

def effD (s : Eff) (args : List V) (g : G) : Option (En × G) := if s.join = true then joinD args g else asD s args g
def runF (S : FuncId → List V → Option V) (ex : Code → St → Option (X × St)) (f : FuncId) (args : List V) (g : G) : Option (En × G) :=
  match S f args with
  | some v => some (.ret v, g)
  | Option.none => match effTab f with
  | some s => effD s args g
  | Option.none => match P.funcs[f]? with
  | some fn => match fn.body with
    | some body =>
      match deferOf body with
      | some q => if flatQ q = false then Option.none else runD P ex fn q (enterD fn args g)
      | Option.none =>
        match ex body { regs := fun t => (args[t]?).getD undefV, nt := fn.ntmps, m := ⟨fun _ => Option.none, g⟩ } with
        | some (.normal, st) => (resultD P st fn).map fun v => (.ret v, (spillV spillFuel v st.m).g)
        | some (.ret, st) => (resultD P st fn).map fun v => (.ret v, (spillV spillFuel v st.m).g)
        | some (.panic v, st) => some (.panic v, (spillV spillFuel v st.m).g)
        | _ => Option.none
    | Option.none => Option.none
  | Option.none => Option.none

def execD (S : FuncId → List V → Option V) : Nat → Code → St → Option (X × St)
  | 0, _, _ => Option.none
  | n + 1, c, st => match c with
    | .skip => some (.normal, st)
    | .label _ => some (.normal, st)
    | .region _ ops draw => if draw then drawD P (runF P S (execD S n)) ops st else opsD P (runF P S (execD S n)) ops ops.toList st
    | .seq a b => match execD S n a st with
      | some (.normal, st') => execD S n b st'
      | r => r
    | .cond c t e => match evalD st.regs c with
      | .bool b => execD S n (if b then t else e) st
      | _ => Option.none
    | .block id body => match execD S n body st with
      | some (.exit i, st') => some (if i = id then .normal else .exit i, st')
      | r => r
    | .loop body => match execD S n body st with
      | some (.normal, st') => execD S n (.loop body) st'
      | r => r
    | .exit id => some (.exit id, st)
    | .ret => some (.ret, st)
    | .scope body => execD S n body st
    | .rangeFunc g ps assign body => rangeD P (execD S n) g ps assign body st
    | _ => Option.none
end
theorem panicAt_inv {P : Program} {cl : FuncId → List V → G → Option (En × G)} {ops : Array Oper} {base i : Nat} {s : DS} {r : X × St} (h : panicAt P cl ops base i s = some r) :
    ∃ o v m s', ops[i]? = some o ∧ calmAt ops i = true ∧ wantedD s.1.regs ops o = some true ∧ opD P cl s.1 (some (base + i)) o = some (.panic v, m) ∧ runI P cl ops base (restI ops i) s = some s' ∧ r = (.panic v, { regs := forgetD ops s.1.regs, nt := s.1.nt, m := m }) := by
  unfold panicAt at h
  split at h
  · rename_i o ho
    split at h
    · rename_i hc
      split at h
      · rename_i hw
        split at h
        · rename_i v m hop
          split at h
          · rename_i s' hr
            cases h
            exact ⟨o, v, m, s', ho, hc, hw, hop, hr, rfl⟩
          · cases h
        · cases h
      · cases h
    · cases h
  · cases h
theorem panicAt_go {P : Program} {cl : FuncId → List V → G → Option (En × G)} {ops : Array Oper} {base i : Nat} {s s' : DS} {o : Oper} {v : V} {m : Mem} (ho : ops[i]? = some o) (hc : calmAt ops i = true) (hw : wantedD s.1.regs ops o = some true)
    (hop : opD P cl s.1 (some (base + i)) o = some (.panic v, m)) (hr : runI P cl ops base (restI ops i) s = some s') : panicAt P cl ops base i s = some (.panic v, { regs := forgetD ops s.1.regs, nt := s.1.nt, m := m }) ∧ stepI P cl ops base i s = Option.none := by
  constructor
  · simp only [panicAt, ho, hc, if_true, hw, hop, hr]
  · simp only [stepI, ho, hw, hop]
theorem roundsB_inv {P : Program} {ex : Code → St → Option (X × St)} {e : TypeId} {z cb co p0 p1 : Nat} {assign body : Code} {st0 : St} {i : Nat} {m : Mem} {r : X × Mem} (h : roundsB P ex e z cb co p0 p1 assign body st0 (i + 1) m = some r) :
    ∃ b o len cap v st1 st2 st3 xb st4, readD m cb co 1 = some [.slice b o len cap] ∧ i < len ∧ loadE P e m b (o + i * z) = some v ∧ putD { st0 with m := m } (some p0) (.int .i64 (i : Int)) = some st1 ∧ putD st1 (some p1) v = some st2 ∧
      ex assign st2 = some (.normal, st3) ∧ ex body st3 = some (xb, st4) ∧ ((xb = .normal ∧ roundsB P ex e z cb co p0 p1 assign body st0 i st4.m = some r) ∨ (xb = .ret ∧ r = (.ret, st4.m)) ∨ (∃ id, xb = .exit id ∧ r = (.exit id, st4.m))) := by
  simp only [roundsB] at h
  split at h
  · rename_i b o len cap h1
    split at h
    · rename_i h2
      split at h
      · rename_i v h3
        split at h
        · rename_i st1 h4
          split at h
          · rename_i st2 h5
            split at h
            · rename_i st3 h6
              split at h
              · rename_i st4 h7; exact ⟨b, o, len, cap, v, st1, st2, st3, _, st4, h1, h2, h3, h4, h5, h6, h7, .inl ⟨rfl, h⟩⟩
              · rename_i st4 h7; cases h; exact ⟨b, o, len, cap, v, st1, st2, st3, _, st4, h1, h2, h3, h4, h5, h6, h7, .inr (.inl ⟨rfl, rfl⟩)⟩
              · rename_i id st4 h7; cases h; exact ⟨b, o, len, cap, v, st1, st2, st3, _, st4, h1, h2, h3, h4, h5, h6, h7, .inr (.inr ⟨id, rfl, rfl⟩)⟩
              · cases h
            · cases h
          · cases h
        · cases h
      · cases h
    · cases h
  · cases h
theorem roundsB_go {P : Program} {ex : Code → St → Option (X × St)} {e : TypeId} {z cb co p0 p1 : Nat} {assign body : Code} {st0 : St} {i : Nat} {m : Mem} {r : X × Mem} {b o len : Nat} {cap : Cap} {v : V} {st1 st2 st3 : St} {xb : X} {st4 : St}
    (h1 : readD m cb co 1 = some [.slice b o len cap]) (h2 : i < len) (h3 : loadE P e m b (o + i * z) = some v) (h4 : putD { st0 with m := m } (some p0) (.int .i64 (i : Int)) = some st1) (h5 : putD st1 (some p1) v = some st2)
    (h6 : ex assign st2 = some (.normal, st3)) (h7 : ex body st3 = some (xb, st4)) (h8 : (xb = .normal ∧ roundsB P ex e z cb co p0 p1 assign body st0 i st4.m = some r) ∨ (xb = .ret ∧ r = (.ret, st4.m)) ∨ (∃ id, xb = .exit id ∧ r = (.exit id, st4.m))) :
    roundsB P ex e z cb co p0 p1 assign body st0 (i + 1) m = some r := by
  simp only [roundsB, h1, if_pos h2, h3, h4, h5, h6, h7]
  rcases h8 with ⟨rfl, h⟩ | ⟨rfl, rfl⟩ | ⟨id, rfl, rfl⟩
  · exact h
  · rfl
  · rfl
theorem rangeD_inv {P : Program} {ex : Code → St → Option (X × St)} {g : Operand} {ps : Array Tmp} {assign body : Code} {st : St} {r : X × St} (h : rangeD P ex g ps assign body st = some r) :
    flatC assign = true ∧ flatC body = true ∧ ∃ gf cb co e p0 p1 z sv len x m', evalD st.regs g = .func gf [] [.ptr cb co] ∧ backOf P gf = some e ∧ ps.toList = [p0, p1] ∧ sizeD P e = some z ∧ readD st.m cb co 1 = some [sv] ∧ lenS sv = some len ∧
      roundsB P ex e z cb co p0 p1 assign body st len st.m = some (x, m') ∧ r = (x, { st with m := m' }) := by
  unfold rangeD at h
  split at h
  · rename_i hf
    rw [Bool.and_eq_true] at hf
    refine ⟨hf.1, hf.2, ?_⟩
    split at h
    · rename_i gf cb co h1
      split at h
      · rename_i e p0 p1 h2 h3
        split at h
        · rename_i z sv h4 h5
          split at h
          · rename_i len h6
            simp only [Option.map_eq_some_iff] at h
            obtain ⟨⟨x, m'⟩, h7, rfl⟩ := h
            exact ⟨gf, cb, co, e, p0, p1, z, sv, len, x, m', h1, h2, h3, h4, h5, h6, h7, rfl⟩
          · cases h
        · cases h
      · cases h
    · cases h
  · cases h
theorem rangeD_go {P : Program} {ex : Code → St → Option (X × St)} {g : Operand} {ps : Array Tmp} {assign body : Code} {st : St} (ha : flatC assign = true) (hb : flatC body = true) {gf cb co e p0 p1 z : Nat} {sv : V} {len : Nat} {x : X} {m' : Mem} (h1 : evalD st.regs g = .func gf [] [.ptr cb co]) (h2 : backOf P gf = some e) (h3 : ps.toList = [p0, p1])
    (h4 : sizeD P e = some z) (h5 : readD st.m cb co 1 = some [sv]) (h6 : lenS sv = some len) (h7 : roundsB P ex e z cb co p0 p1 assign body st len st.m = some (x, m')) : rangeD P ex g ps assign body st = some (x, { st with m := m' }) := by
  simp only [rangeD, ha, hb, Bool.and_self, if_true, h1, h2, h3, h4, h5, h6, h7, Option.map_some]
theorem joinD_inv {args : List V} {g : G} {r : En × G} (h : joinD args g = some r) :
    (∃ x, args = [.nils, .str x] ∧ r = (.ret (.str []), g)) ∨ ∃ b o len cap sep l t, args = [.slice b o len cap, .str sep] ∧ len ≤ 65536 ∧ readD ⟨fun _ => Option.none, g⟩ b o len = some l ∧ joinS sep l = some t ∧ t.length ≤ 1048576 ∧ r = (.ret (.str t), g) := by
  unfold joinD at h
  split at h
  · split at h
    · rename_i h0
      split at h
      · rename_i h1
        split at h
        · rename_i h2
          split at h
          · rename_i h3
            cases h; exact .inr ⟨_, _, _, _, _, _, _, rfl, h0, h1, h2, h3, rfl⟩
          · cases h
        · cases h
      · cases h
    · cases h
  · cases h; exact .inl ⟨_, rfl, rfl⟩
  · cases h
theorem asD_inv {s : Eff} {args : List V} {g : G} {r : En × G} (h : asD s args g = some r) :
    (∃ x, args = [.nili, x] ∧ r = (.ret (.bool false), g)) ∨ ∃ b o b2 o2 b3 o3 m, args = [.iface s.tw (.ptr b o), .iface s.tpp (.ptr b2 o2)] ∧ readD ⟨fun _ => Option.none, g⟩ b (o + s.off) 1 = some [.iface s.tf (.ptr b3 o3)] ∧
      writeD ⟨fun _ => Option.none, g⟩ b2 o2 [.ptr b3 o3] = some m ∧ r = (.ret (.bool true), m.g) := by
  unfold asD at h
  split at h
  · cases h; exact .inl ⟨_, rfl, rfl⟩
  · split at h
    · rename_i hc
      obtain ⟨rfl, rfl⟩ := hc
      split at h
      · rename_i h1
        split at h
        · rename_i hc
          subst hc
          simp only [Option.map_eq_some_iff] at h
          obtain ⟨m, h2, rfl⟩ := h
          exact .inr ⟨_, _, _, _, _, _, m, rfl, h1, h2, rfl⟩
        · cases h
      · cases h
    · cases h
  · cases h
end Go.Sx

/- An operation's wp, out of what the evaluator says; regions in their own order. -/
namespace Go.Sx
open Go.RowKit

def EnRel (μ : Map) : En → Ending → Prop
  | .ret v, e => ∃ v', e = .returned v' ∧ VRel μ v v'
  | .panic v, e => ∃ v', e = .panicked [{ v := v', recovered := false }] ∧ VRel μ v v'

def bare (g : G) : Mem := ⟨fun _ => Option.none, g⟩

/-- Cells that lie as they lay from the beginning on, below all that the evaluator speaks of. -/
def lowCells : List (Addr × Value) := []
def LowOK (B : Nat) (w : World) : Prop := ∀ x ∈ lowCells, x.1.block < B ∧ w.cell? x.1 = some x.2
theorem Step.low {slot : Option Nat} {μ μ' : Map} {m m' : Mem} {w w' : World} {B : Nat} (hs : Step slot μ m w μ' m' w') (r : HRel B μ m w) (h : LowOK B w) : LowOK B w' := by
  intro x hx
  obtain ⟨h1, h2⟩ := h x hx
  refine ⟨h1, ?_⟩
  obtain ⟨l, _, f⟩ := hs.upd
  have hlt : x.1.block < w.heap.size := by
    rcases Nat.lt_or_ge x.1.block w.heap.size with h | h
    · exact h
    · simp [World.cell?, Array.getElem?_eq_none h] at h2
  have := f x.1.block hlt (fun b blk p n hb hm => by have := (r.dom b _ _ _ hm).2.1; omega) (fun b cs p n hb hm => by have := (r.dom b _ _ _ hm).2.1; omega)
  unfold World.cell? at h2 ⊢
  rw [this]; exact h2
def FnOK (P : Program) (cl : FuncId → List V → G → Option (En × G)) : Prop :=
  ∀ f args g en g', cl f args g = some (en, g') → ∀ (B : Nat) (μ : Map) (w : World) (args' : List Value), HRel B μ (bare g) w → B ≤ w.heap.size → LowOK B w → VRels μ args args' →
    Calls P f args'.toArray w fun e w' => ∃ μ', HRel B μ' (bare g') w' ∧ Step Option.none μ (bare g) w μ' (bare g') w' ∧ EnRel μ' en e

theorem HRel.bare {B : Nat} {μ : Map} {m : Mem} {w : World} (r : HRel B μ m w) : HRel B μ (bare m.g) w :=
  { dom := r.dom, hp := r.hp, ob := (fun _ _ h => by cases h), dj := r.dj, oo := (fun _ _ _ _ _ _ _ _ _ h => by cases h), oh := (fun _ _ _ _ _ _ _ _ _ h => by cases h), gl := r.gl }

theorem Step.slot {slot : Option Nat} {μ μ' : Map} {m m' : Mem} {w w' : World} (h : Step Option.none μ m w μ' m' w') : Step slot μ m w μ' m' w' :=
  { h with ids := fun b x e => (h.ids b x e).imp id fun k => k.imp id fun k => by cases k }

section
variable {D : List V} {P : Program} {B : Nat} {μ : Map} {w : World} {slot : Option Nat} {cl : FuncId → List V → G → Option (En × G)} {a : Act}

def Next1 (μ' : Map) (o : Oper) (a : Act) (w' : World) (K : Act → World → Prop) (Q : Exit → Act → World → Prop) : R → Prop
  | .val v => ∀ v', VRel μ' v v' → K (a.put o.dst v') w'
  | .skip => K (a.put o.dst undef) w'
  | .panic v => ∀ v', VRel μ' v v' → Q (.panic [{ v := v', recovered := false }]) a w'

theorem wp_of_res {o : Oper} {m m' : Mem} {x : R} {K : Act → World → Prop} {Q : Exit → Act → World → Prop} (h : OpRes P (execOp a.eval o) w B slot μ m x m')
    (k : ∀ μ' w', Step slot μ m w μ' m' w' → HRel B μ' m' w' → Next1 μ' o a w' K Q x) : o.wp P a w K Q := by
  unfold Oper.wp
  cases x with
  | val v =>
    obtain ⟨μ', w', v', h1, h2, h3, h4⟩ := h
    rw [h1]
    exact k μ' w' h2 h3 v' h4
  | skip =>
    obtain ⟨μ', w', h1, h2, h3⟩ := h
    rw [h1]
    exact k μ' w' h2 h3
  | panic v =>
    obtain ⟨μ', w', v', h1, h2, h3, h4⟩ := h
    rw [h1]
    exact k μ' w' h2 h3 v' h4

theorem enter_run {o : Oper} {c : Call} {f : Operand} {fid : FuncId} {fn : Func} {a' c' : List Value} (ho : o.op = .call c) (hc : c.callee = .value f) (hf : a.eval f = .func (.func fid) a'.toArray c'.toArray) (hfn : P.funcs[fid]? = some fn) (hnm : (fn.name == "runtime.NumGoroutine") = false) (hb : fn.body.isNone = false) :
    (execOp a.eval o).run P w = .ok (.enter fid (a' ++ c.args.toList.map a.eval ++ c').toArray) w := by
  unfold execOp
  rw [ho]
  simp only [resolve, hc, hf, Deferred.ofValue, Sem.run_bind, Sem.run_pure, Result.andThen, invoke, callFunc, program_run, hfn, hnm, hb, Bool.false_eq_true, if_false]
  congr 2
  apply Array.ext'
  simp

theorem op_wp (hcl : FnOK P cl) {o : Oper} {st : St} {m' : Mem} {x : R} {K : Act → World → Prop} {Q : Exit → Act → World → Prop} (hρ : ∀ x, VRel μ (evalD st.regs x) (a.eval x)) (r : HRel B μ st.m w) (hB : B ≤ w.heap.size) (hlow : LowOK B w)
    (hslot : ∀ i, slot = some i → μ i = Option.none ∧ i < st.m.g.nx) (h : opD P cl st slot o = some (x, m'))
    (k : ∀ μ' w', Step slot μ st.m w μ' m' w' → HRel B μ' m' w' → Next1 μ' o a w' K Q x) : o.wp P a w K Q := by
  obtain ⟨regs, nt, m⟩ := st
  by_cases hn : nearOp o.op = true
  · exact wp_of_res (op_near hρ r hB hslot hn h) k
  · obtain ⟨dst, op, type, pos, after, guard⟩ := o
    cases op <;> first | (simp [nearOp] at hn; done) | skip
    rename_i c
    obtain ⟨callee, args, tys⟩ := c
    simp only [opD] at h
    cases callee with
    | invoke recv nm => simp at h
    | builtin b =>
      simp only at h
      split at h
      · rename_i y hy
        cases h
        exact wp_of_res (plain_sound r hρ hy) k
      · exact wp_of_res (builtin_sound hρ r hB h) k
    | value f =>
      simp only at h
      have hf := hρ f
      split at h
      · rename_i fid av cv hv
        rw [hv] at hf
        generalize hcf : a.eval f = cf at hf
        cases hf with
        | func _ _ _ a' c' r1 r2 =>
        unfold callD at h
        split at h
        · rename_i fn hfn
          split at h
          · cases h
          · rename_i hok
            simp only [Bool.or_eq_true, not_or, Bool.not_eq_true] at hok
            have hargs : VRels μ (av ++ args.toList.map (evalD regs) ++ cv) (a' ++ args.toList.map a.eval ++ c') := (r1.append (list_rel hρ args.toList)).append r2
            have hrun := enter_run (P := P) (w := w) (a := a) (o := ⟨dst, .call ⟨.value f, args, tys⟩, type, pos, after, guard⟩) rfl rfl hcf hfn hok.1 hok.2
            generalize av ++ args.toList.map (evalD regs) ++ cv = vargs at h hargs
            obtain ⟨sp1, sp2⟩ := spillL_sound slot spillFuel vargs m r
            generalize spillL spillFuel vargs m = m1 at h sp1 sp2
            unfold Oper.wp
            rw [hrun, Oper.upon_enter]
            simp only at h
            cases hc : cl fid vargs m1.g with
            | none => rw [hc] at h; cases h
            | some y =>
              obtain ⟨en, g'⟩ := y
              rw [hc] at h
              have hcall := hcl fid vargs m1.g en g' hc B μ w _ sp2.bare hB hlow hargs
              refine hcall.mono fun e w' he => ?_
              obtain ⟨μ', e1, e2, e3⟩ := he
              have b1 : Step slot μ m1 w μ' { m1 with g := g' } w' := (Step.beside (ob := m1.ob) e2 sp2).slot
              have b2 : HRel B μ' { m1 with g := g' } w' := HRel.beside (ob := m1.ob) e2 sp2 e1
              cases en with
              | ret v =>
                simp only [Option.some.injEq, Prod.mk.injEq] at h
                obtain ⟨rfl, rfl⟩ := h
                obtain ⟨v', rfl, hv'⟩ := e3
                exact k μ' w' (sp1.trans b1) b2 v' hv'
              | panic v =>
                simp only [Option.some.injEq, Prod.mk.injEq] at h
                obtain ⟨rfl, rfl⟩ := h
                obtain ⟨v', rfl, hv'⟩ := e3
                exact k μ' w' (sp1.trans b1) b2 v' hv'
        · cases h
      · cases h

/-! ### Within a round -/
def fw (ro : Option Nat) : Fence := { Fence.wide with round := ro }
theorem fw_none : fw Option.none = Fence.wide := rfl
theorem fw_inRound (l : Nat) : Fence.wide.inRound l = fw (some l) := rfl
theorem fw_room (ro : Option Nat) (n : Nat) : (fw ro).room n := fun _ h => by simp [fw, Fence.wide] at h
theorem fw_depth (ro : Option Nat) (n : Nat) : (fw ro).depth.isSome = true → 1 ≤ n := fun h => by simp [fw, Fence.wide] at h
theorem callsIn_fw {ro : Option Nat} {n : Nat} {f : FuncId} {args : Array Value} {R : Ending → World → Prop} : CallsIn (fw ro) n P f args w R ↔ Calls P f args w R :=
  ⟨fun h => (callsIn_wide (n := n)).1 ⟨trivial, fun cs _ => h.2 cs (fw_room ro _)⟩, fun h => ⟨trivial, fun cs _ => ((callsIn_wide (n := n)).2 h).2 cs (room_wide _)⟩⟩
theorem rowsIn_fw {ro : Option Nat} {n : Nat} {row : String} {args : Array Value} {R : Value → World → Prop} (h : Rows P row args w R) : RowsIn (fw ro) n P row args w R :=
  fun c cs _ => let ⟨v, w', r, s⟩ := h c cs; ⟨v, w', r, stepsIn_wide.2 s⟩
theorem wpIn_of_wp {ro : Option Nat} {n : Nat} {o : Oper} {K : Act → World → Prop} {Q : Exit → Act → World → Prop} (hd : ∀ c, o.op ≠ .defer c) (h : o.wp P a w K Q) : o.wpIn (fw ro) n P a w K Q := by
  refine ⟨fun _ _ => trivial, ?_⟩
  rw [show (fw ro).round = ro from rfl, Oper.semAt_eq ro _ _ hd]
  unfold Oper.wp at h
  generalize (execOp a.eval o).run P w = r at h ⊢
  cases r with
  | ok x w' =>
    cases x <;> simp only [Oper.upon, Oper.uponIn] at h ⊢ <;> first | exact h | exact ⟨fw_depth ro n, callsIn_fw.2 h⟩ | exact ⟨fw_depth ro n, rowsIn_fw h⟩
  | halt x w' => cases x <;> simp only [Oper.upon, Oper.uponIn] at h ⊢ <;> exact h
theorem plainD_nodefer {regs : Nat → V} {o : Oper} {c : Call} (ho : o.op = .defer c) : plainD P regs o = Option.none := by
  unfold plainD
  split
  · rw [ho]
    simp only
    have key : ∀ ρ (x : Next), pureRun P (execOp ρ o) = some x → ∃ d, x = .defer d := by
      intro ρ x h
      have h1 := run_of_pure h default
      unfold execOp at h1
      rw [ho] at h1
      simp only [Sem.run_bind] at h1
      generalize (resolve ρ c o.type).run P default = r at h1
      cases r with
      | ok d w => simp only [Result.andThen, Sem.run_pure] at h1; cases h1; exact ⟨d, rfl⟩
      | halt y w => simp only [Result.andThen] at h1; cases h1
    split
    · rename_i v hv; obtain ⟨d, e⟩ := key _ _ hv; cases e
    · rename_i hv; obtain ⟨d, e⟩ := key _ _ hv; cases e
    · rfl
  · rfl
theorem opD_nodefer {st : St} {o : Oper} {r : R × Mem} (h : opD P cl st slot o = some r) : ∀ c, o.op ≠ .defer c := by
  intro c ho
  have hp : plainD P st.regs o = Option.none := plainD_nodefer ho
  unfold opD at h
  simp only [ho] at h
  rw [hp] at h
  cases h
theorem op_wpIn {ro : Option Nat} {n : Nat} (hcl : FnOK P cl) {o : Oper} {st : St} {m' : Mem} {x : R} {K : Act → World → Prop} {Q : Exit → Act → World → Prop} (hρ : ∀ x, VRel μ (evalD st.regs x) (a.eval x)) (r : HRel B μ st.m w) (hB : B ≤ w.heap.size) (hlow : LowOK B w)
    (hslot : ∀ i, slot = some i → μ i = Option.none ∧ i < st.m.g.nx) (h : opD P cl st slot o = some (x, m'))
    (k : ∀ μ' w', Step slot μ st.m w μ' m' w' → HRel B μ' m' w' → Next1 μ' o a w' K Q x) : o.wpIn (fw ro) n P a w K Q :=
  wpIn_of_wp (opD_nodefer h) (op_wp hcl hρ r hB hlow hslot h k)

/-! ### What is no cells lies as it lay -/
def notCells (o : Obj) : Prop := ∀ arr e f, o ≠ .cells arr e f
theorem Step.keeps {slot : Option Nat} {μ μ' : Map} {m m' : Mem} {w w' : World} {B : Nat} (hs : Step slot μ m w μ' m' w') (r : HRel B μ m w) {c : Nat} {o : Obj} (h : w.heap[c]? = some o) (hn : notCells o) : w'.heap[c]? = some o := by
  obtain ⟨l, _, f⟩ := hs.upd
  have hc : c < w.heap.size := (Array.getElem?_eq_some_iff.1 h).1
  rw [f c hc (fun b blk p n hb hm => ?_) (fun b cs p n hb hm => ?_)]; exact h
  · obtain ⟨c', p', n', arr, e, h1, h2, _⟩ := r.hp b blk hb
    rw [hm] at h1; cases h1
    rw [h] at h2
    exact absurd (Option.some.inj h2) (hn _ _ _)
  · obtain ⟨c', arr, e, h1, h2, _⟩ := r.ob b cs hb
    rw [hm] at h1; cases h1
    rw [h] at h2
    exact absurd (Option.some.inj h2) (hn _ _ _)
theorem not_deferred (x : Option (List Deferred)) : notCells (.deferred x) := fun _ _ _ h => by cases h
theorem not_loop (x : Loop) : notCells (.loop x) := fun _ _ _ h => by cases h

/-! ### Frames -/
/-- What waits for a frame's end. -/
inductive DRel (μ : Map) : V → Deferred → Prop
  | mk (f : FuncId) (ca cc : List V) (ca' cc' : List Value) : VRels μ ca ca' → VRels μ cc cc' → DRel μ (.func f ca cc) ⟨.fn (.func f) cc'.toArray, ca'.toArray⟩
def DsRel (μ : Map) : List V → List Deferred → Prop
  | [], [] => True
  | v :: D, d :: ds => DRel μ v d ∧ DsRel μ D ds
  | _, _ => False
theorem DRel.mono {μ μ' : Map} (hs : Sub μ μ') {v : V} {d : Deferred} : DRel μ v d → DRel μ' v d
  | .mk f ca cc ca' cc' h1 h2 => .mk f ca cc ca' cc' (h1.mono hs) (h2.mono hs)
theorem DsRel.mono {μ μ' : Map} (hs : Sub μ μ') : ∀ {D : List V} {ds : List Deferred}, DsRel μ D ds → DsRel μ' D ds
  | [], [], _ => trivial
  | [], _ :: _, h => h
  | _ :: _, [], h => h
  | _ :: _, _ :: _, h => ⟨h.1.mono hs, DsRel.mono hs h.2⟩
theorem DsRel.nil {μ : Map} : ∀ {ds : List Deferred}, DsRel μ [] ds → ds = []
  | [], _ => rfl
  | _ :: _, h => h.elim
/-- The mark of a range over a function, among what waits for the frame's end. -/
def markD (r : Nat) : Deferred := { target := .collected r, args := #[] }
structure Marks (w0 w : World) (rs : List Nat) : Prop where
  nodup : rs.Nodup
  lies : ∀ r ∈ rs, w0.heap.size ≤ r ∧ w.heap[r]? = some (.deferred (some []))
def DefOK (mk : Bool) (μ : Map) (w0 w : World) (D : List V) (ds : List Deferred) : Prop := ∃ rs ds', ds = rs.map markD ++ ds' ∧ Marks w0 w rs ∧ DsRel μ D ds' ∧ (mk = false → rs = [])
/-- Since when; whether a range over a function may be met. -/
structure Base where
  μ1 : Map
  w1 : World
  mks : Bool
structure Inv (D : List V) (B : Nat) (μ0 : Map) (g0 : G) (w0 : World) (bs : Base) (st : St) (a : Act) (w : World) (μ : Map) : Prop where
  regs : ∀ t, VRel μ (st.regs t) (a.tmps.getD t undef)
  size : st.nt ≤ a.tmps.size
  defers : DefOK bs.mks μ w0 w D a.defers
  sub1 : Sub bs.μ1 μ
  oth : ∀ (c : Nat) (o : Obj), bs.w1.heap[c]? = some o → notCells o → w.heap[c]? = some o
  h : HRel B μ st.m w
  s : Step Option.none μ0 (bare g0) w0 μ st.m w
  hB : B ≤ w0.heap.size
  low : LowOK B w

def XRel (μ : Map) : X → Exit → Prop
  | .normal, e => e = .normal
  | .exit id, e => e = .exit id
  | .ret, e => e = .ret
  | .panic v, e => ∃ v', e = .panic [{ v := v', recovered := false }] ∧ VRel μ v v'

theorem DefOK.mono {mk : Bool} {μ μ' : Map} {w0 w w' : World} {D : List V} {ds : List Deferred} (h : DefOK mk μ w0 w D ds) (hs : Sub μ μ') (hw : ∀ (c : Nat) (o : Obj), w.heap[c]? = some o → notCells o → w'.heap[c]? = some o) : DefOK mk μ' w0 w' D ds := by
  obtain ⟨rs, ds', e, hm, hd, hn⟩ := h
  exact ⟨rs, ds', e, ⟨hm.nodup, fun r hr => ⟨(hm.lies r hr).1, hw _ _ (hm.lies r hr).2 (not_deferred _)⟩⟩, hd.mono hs, hn⟩
theorem Marks.nil {w0 w : World} : Marks w0 w [] := ⟨List.nodup_nil, fun _ h => by cases h⟩
theorem DefOK.nil {mk : Bool} {μ : Map} {w0 w : World} : DefOK mk μ w0 w [] [] := ⟨[], [], rfl, Marks.nil, trivial, fun _ => rfl⟩
theorem DefOK.of {mk : Bool} {μ : Map} {w0 w : World} {D : List V} {ds : List Deferred} (h : DsRel μ D ds) : DefOK mk μ w0 w D ds := ⟨[], ds, rfl, Marks.nil, h, fun _ => rfl⟩
theorem DefOK.rel {μ : Map} {w0 w : World} {D : List V} {ds : List Deferred} (h : DefOK false μ w0 w D ds) : DsRel μ D ds := by
  obtain ⟨rs, ds', e, _, hd, hn⟩ := h
  rw [hn rfl] at e
  rw [e]; exact hd

def Post (D : List V) (B : Nat) (μ0 : Map) (g0 : G) (w0 : World) (bs : Base) (x : X) (st : St) (e : Exit) (a : Act) (w : World) : Prop :=
  ∃ μ, Inv D B μ0 g0 w0 bs st a w μ ∧ XRel μ x e

theorem undef_rel (μ : Map) : VRel μ undefV undef := by
  have := VRel.tuple (μ := μ) [] [] .nil
  simpa [undefV, undef] using this

theorem put_regs {regs : Nat → V} {nt d : Nat} {a : Act} {v : V} {v' : Value} (h : ∀ t, VRel μ (regs t) (a.tmps.getD t undef)) (hs : nt ≤ a.tmps.size) (hd : d < nt) (hv : VRel μ v v') (t : Nat) :
    VRel μ (upd regs d v t) ((a.put (some d) v').tmps.getD t undef) := by
  unfold upd
  split
  · rename_i e
    subst e
    have : (a.put (some t) v').tmps.getD t undef = v' := by
      have hlt : t < a.tmps.size := by omega
      simp [Act.put, hlt]
    rw [this]; exact hv
  · rename_i e
    have : (a.put (some d) v').tmps.getD t undef = a.tmps.getD t undef := by
      simp only [Act.put]
      rw [Array.getD_eq_getD_getElem?, Array.getD_eq_getD_getElem?, Array.getElem?_setIfInBounds_ne (fun h => e h.symm)]
    rw [this]; exact h t

theorem Inv.put {μ0 : Map} {g0 : G} {w0 : World} {bs : Base} {st st' : St} {dst : Option Nat} {v : V} {v' : Value} (h : Inv D B μ0 g0 w0 bs st a w μ) (hp : putD st dst v = some st') (hv : VRel μ v v') : Inv D B μ0 g0 w0 bs st' (a.put dst v') w μ := by
  unfold putD at hp
  cases dst with
  | none => cases hp; exact h
  | some d =>
    simp only at hp
    split at hp
    · rename_i hd
      cases hp
      exact { regs := put_regs h.regs h.size hd hv, size := by simpa [Act.put] using h.size, defers := h.defers, sub1 := h.sub1, oth := h.oth, h := h.h, s := h.s, hB := h.hB, low := h.low }
    · cases hp

theorem wanted_rel {regs : Nat → V} {ops : Array Oper} {o : Oper} {b : Bool} (h : ∀ t, VRel μ (regs t) (a.tmps.getD t undef)) (hw : wantedD regs ops o = some b) : Region.wanted o (yielded ops a.tmps) = b := by
  unfold wantedD at hw
  unfold Region.wanted
  cases hg : o.guard with
  | none => rw [hg] at hw; simpa using hw
  | some gw =>
    obtain ⟨j, want⟩ := gw
    rw [hg] at hw
    simp only at hw ⊢
    unfold yielded
    cases ht : (ops[j]?).bind (·.dst) with
    | none =>
      rw [ht] at hw
      cases hw
      simp
    | some t =>
      rw [ht] at hw
      simp only [Option.bind_some] at hw ⊢
      have hr := h t
      cases hv : a.tmps[t]? with
      | none =>
        have : a.tmps.getD t undef = undef := by rw [Array.getD_eq_getD_getElem?, hv]; rfl
        rw [this] at hr
        split at hw
        · rename_i b0 e; rw [e] at hr; cases hr
        · cases hw; rfl
        · cases hw
      | some y =>
        have : a.tmps.getD t undef = y := by rw [Array.getD_eq_getD_getElem?, hv]; rfl
        rw [this] at hr
        split at hw
        · rename_i b0 e
          rw [e] at hr
          cases hr
          cases hw
          cases b0 <;> cases want <;> rfl
        · rename_i e
          rw [e] at hr
          cases hr
          cases hw
          rfl
        · cases hw

theorem evals {regs : Nat → V} (hg : GlobOK μ) (h : ∀ t, VRel μ (regs t) (a.tmps.getD t undef)) : ∀ x, VRel μ (evalD regs x) (a.eval x) := eval_rel hg h

theorem Inv.step {μ0 μ' : Map} {g0 : G} {w0 w' : World} {bs : Base} {st : St} {m' : Mem} (h : Inv D B μ0 g0 w0 bs st a w μ) (hs : Step Option.none μ st.m w μ' m' w') (hr : HRel B μ' m' w') : Inv D B μ0 g0 w0 bs { st with m := m' } a w' μ' :=
  { regs := fun t => (h.regs t).mono hs.sub, size := h.size, defers := h.defers.mono hs.sub (fun c o e hn => hs.keeps h.h e hn), sub1 := h.sub1.trans hs.sub, oth := fun c o e hn => hs.keeps h.h (h.oth c o e hn) hn, h := hr, s := h.s.trans hs, hB := h.hB, low := hs.low h.h h.low }

theorem Inv.B_le {μ0 : Map} {g0 : G} {w0 : World} {bs : Base} {st : St} (h : Inv D B μ0 g0 w0 bs st a w μ) : B ≤ w.heap.size := Nat.le_trans h.hB h.s.size

theorem opsD_sound {ro : Option Nat} (hcl : FnOK P cl) {μ0 : Map} {g0 : G} {w0 : World} {bs : Base} {ops : Array Oper} : ∀ (l : List Oper) (st : St) (x : X) (st' : St), opsD P cl ops l st = some (x, st') → ∀ (a : Act) (w : World) (μ : Map), Inv D B μ0 g0 w0 bs st a w μ →
    wpListIn (fw ro) 0 P ops (Post D B μ0 g0 w0 bs x st') l a w
  | [], st, x, st', h, a, w, μ, hi => by
    simp only [opsD] at h
    cases h
    exact ⟨μ, hi, rfl⟩
  | o :: rest, st, x, st', h, a, w, μ, hi => by
    simp only [opsD] at h
    unfold wpListIn
    cases hw : wantedD st.regs ops o with
    | none => rw [hw] at h; cases h
    | some b =>
      rw [hw] at h
      have hwr := wanted_rel hi.regs hw
      rw [hwr]
      cases b with
      | false =>
        simp only [Bool.false_eq_true, if_false]
        simp only at h
        cases hp : putD st o.dst undefV with
        | none => rw [hp] at h; cases h
        | some st1 =>
          rw [hp] at h
          exact ⟨fun _ _ => trivial, opsD_sound hcl rest st1 x st' h _ w μ (hi.put hp (undef_rel μ))⟩
      | true =>
        simp only [if_true]
        simp only at h
        cases ho : opD P cl st Option.none o with
        | none => rw [ho] at h; cases h
        | some y =>
          obtain ⟨r, m1⟩ := y
          rw [ho] at h
          refine op_wpIn hcl (evals hi.h.gl hi.regs) hi.h hi.B_le hi.low (fun i hh => by cases hh) ho (fun μ' w' hs hr => ?_)
          have hi' := hi.step hs hr
          cases r with
          | val v =>
            simp only at h
            cases hp : putD { st with m := m1 } o.dst v with
            | none => rw [hp] at h; cases h
            | some st1 =>
              rw [hp] at h
              intro v' hv
              exact opsD_sound hcl rest st1 x st' h _ w' μ' (hi'.put hp hv)
          | skip =>
            simp only at h
            cases hp : putD { st with m := m1 } o.dst undefV with
            | none => rw [hp] at h; cases h
            | some st1 =>
              rw [hp] at h
              exact opsD_sound hcl rest st1 x st' h _ w' μ' (hi'.put hp (undef_rel μ'))
          | panic v =>
            simp only at h
            cases h
            intro v' hv
            exact ⟨μ', hi', v', rfl, hv⟩
end
end Go.Sx
