/- The evaluator that the proofs of this claim run, part 4 of 5: a plain evaluator of loaded code, proved sound against the model, and one that runs in the kernel, proved against the plain one. No condition. -/
import Derived.Test.YtckdbhlcedbffaaGreatKitE3
import Derived.WalkKit
import Derived.Orders
import Derived.RowKit3
import Derived.Laws.Sem
import Derived.RangeFuncRecord
import Derived.TacticsIn
import Derived.OrdersIn
import Derived.LoopNIn
import Derived.Scope
import Derived.LoopN
import Derived.RangeFuncSeq
set_option linter.unusedVariables false
set_option linter.unusedSimpArgs false
/- The evaluator that the kernel runs: operations. -/
namespace Go.Sx
noncomputable section

abbrev KK := Cx → KV → KM → Bool
abbrev Regs (rd : Nat) := Tr KV rd
/-- A value, to be handed on · a value, to be looked at. -/
abbrev SrcF (rd : Nat) := Regs rd → (KV → Bool) → Bool
abbrev LazF (rd : Nat) := Regs rd → KV

def cellsK : KV → Option (List KV)
  | .none => Option.none
  | .agg l => some l
  | v => some [v]
/-! ### Tables, looked up eight by eight: the kernel keeps what it has made of a closed list -/
def drop8 {α : Type} (s : List α) : List α := List.rec [] (fun _ s _ => List.rec [] (fun _ s _ => List.rec [] (fun _ s _ => List.rec [] (fun _ s _ => List.rec [] (fun _ s _ => List.rec [] (fun _ s _ => List.rec [] (fun _ s _ => List.rec [] (fun _ s _ => s) s) s) s) s) s) s) s) s
def dropC {α : Type} (s : List α) (j : Nat) : List α := Nat.rec s (fun _ ih => drop8 ih) j
def nthK {α : Type} (l : List α) : Nat → (α → Bool) → Bool := List.rec (fun _ _ => false) (fun x _ ih n k => Nat.rec (k x) (fun n _ => ih n k) n) l
def nthC {α : Type} (s : List α) (i : Nat) (k : α → Bool) : Bool := forceN (Nat.div i 8) fun j => nthK (dropC s j) (Nat.mod i 8) k
def nthP {α : Type} (l : List α) : Nat → Option α := List.rec (fun _ => none) (fun x _ ih n => Nat.rec (some x) (fun n _ => ih n) n) l
def nthO {α : Type} (l : List α) (i : Nat) : Option α := nthP (dropC l (Nat.div i 8)) (Nat.mod i 8)
theorem drop8_eq {α : Type} (s : List α) : drop8 s = s.drop 8 := by
  match s with
  | [] => rfl
  | [_] => rfl
  | [_, _] => rfl
  | [_, _, _] => rfl
  | [_, _, _, _] => rfl
  | [_, _, _, _, _] => rfl
  | [_, _, _, _, _, _] => rfl
  | [_, _, _, _, _, _, _] => rfl
  | _ :: _ :: _ :: _ :: _ :: _ :: _ :: _ :: s => rfl
theorem dropC_eq {α : Type} (s : List α) : ∀ j, dropC s j = s.drop (8 * j)
  | 0 => rfl
  | j + 1 => by
    show drop8 (dropC s j) = _
    rw [drop8_eq, dropC_eq s j, List.drop_drop]; congr 1
theorem nthP_eq {α : Type} (l : List α) : ∀ n, nthP l n = l[n]? := by
  induction l with
  | nil => intro n; rfl
  | cons x l ih => intro n; cases n with
    | zero => rfl
    | succ n => exact (ih n).trans (by simp)
theorem nthO_eq {α : Type} (l : List α) (i : Nat) : nthO l i = l[i]? := by
  unfold nthO
  rw [nthP_eq, dropC_eq, List.getElem?_drop]
  congr 1
  exact Nat.div_add_mod i 8
theorem nthK_true {α : Type} {l : List α} : ∀ {n : Nat} {k : α → Bool}, nthK l n k = true → ∃ x, l[n]? = some x ∧ k x = true := by
  induction l with
  | nil => intro n k h; cases h
  | cons x l ih => intro n k h; cases n with
    | zero => exact ⟨x, rfl, h⟩
    | succ n => simpa using ih (n := n) h
theorem nthC_true {α : Type} {l : List α} {n : Nat} {k : α → Bool} (h : nthC l n k = true) : ∃ x, l[n]? = some x ∧ k x = true := by
  unfold nthC at h
  rw [forceN_eq] at h
  obtain ⟨x, h1, h2⟩ := nthK_true h
  refine ⟨x, ?_, h2⟩
  rw [dropC_eq, List.getElem?_drop] at h1
  rw [← h1]; congr 1
  exact (Nat.div_add_mod n 8).symm
def infoK (P : Program) (t : TypeId) : Option TypeInfo := Option.rec (P.info? t) (fun i => some i) (nthO P.types.toList t)
theorem infoK_eq (P : Program) (t : TypeId) : infoK P t = P.info? t := by
  unfold infoK
  rw [nthO_eq]
  cases h : P.types.toList[t]? with
  | none => rfl
  | some i =>
    unfold Tables.info?
    obtain ⟨h1, h2⟩ := List.getElem?_eq_some_iff.1 h
    have h1' : t < P.types.size := by simpa using h1
    rw [if_pos h1', Array.getElem?_eq_getElem h1', ← h2]; rfl
def undK (P : Program) (t : TypeId) : Option TypeDesc := match infoK P t with
  | some i => match i.desc with
    | .named _ u => (infoK P u).map (·.desc)
    | d => some d
  | none => none
theorem undK_eq (P : Program) (t : TypeId) : undK P t = P.underlying t := by
  unfold undK Program.underlying
  simp only [infoK_eq]
  cases P.info? t with
  | none => rfl
  | some i => obtain ⟨d⟩ := i; cases d <;> rfl
def sizeK (P : Program) (t : TypeId) : Option Nat := (infoK P t).map (·.size)
def bytesT (P : Program) (t : TypeId) : Option Nat := (infoK P t).map (·.bytes)
def aggK (P : Program) (t : TypeId) : Option Bool := (undK P t).map fun | .struct _ | .array _ _ => true | _ => false
def elemK (P : Program) (t : TypeId) : Option TypeId := match undK P t with | some (.slice e) => some e | _ => Option.none
def zeroK (P : Program) (t : TypeId) : Option (List KV) := ((infoK P t).bind (·.zero)).map fun v => v.cells.toList.map ofScalK
def nonZeroK (P : Program) (t : TypeId) : Bool := match sizeK P t with | some (_ + 1) => true | _ => false
def placesK (P : Program) : List Field → Option (List (Nat × Nat))
  | [] => some []
  | f :: l => match sizeK P f.type, placesK P l with
    | some z, some r => some ((f.offset, z) :: r)
    | _, _ => none
theorem sizeK_eq (P : Program) (t : TypeId) : sizeK P t = sizeD P t := by unfold sizeK sizeD; rw [infoK_eq]
theorem bytesT_eq (P : Program) (t : TypeId) : bytesT P t = bytesD P t := by unfold bytesT bytesD; rw [infoK_eq]
theorem aggK_eq (P : Program) (t : TypeId) : aggK P t = aggD P t := by unfold aggK aggD; rw [undK_eq]; rfl
theorem elemK_eq (P : Program) (t : TypeId) : elemK P t = elemD P t := by unfold elemK elemD; rw [undK_eq]; rfl
theorem nonZeroK_eq (P : Program) (t : TypeId) : nonZeroK P t = nonZero P t := by unfold nonZeroK nonZero; rw [sizeK_eq]; rfl
theorem placesK_eq (P : Program) : ∀ l, placesK P l = placesD P l
  | [] => rfl
  | f :: l => by simp only [placesK, placesD, sizeK_eq, placesK_eq P l]; rfl
theorem zeroK_eq (ρ : Nat → Int) (P : Program) (t : TypeId) : (zeroK P t).map (absL ρ) = zeroD P t := by
  unfold zeroK zeroD
  rw [infoK_eq]
  cases (P.info? t).bind (·.zero) with
  | none => rfl
  | some v =>
    simp only [Option.map_some, absL_map, List.map_map]
    congr 1
    exact List.map_congr_left fun x _ => ofScalK_abs ρ x

/-! ### Values, by their sort -/
def onBool (v : KV) (t e : Bool) : Bool := KV.rec (motive_1 := fun _ => Bool) (motive_2 := fun _ => Unit) false (fun b => Bool.rec e t b) (fun _ _ => false) (fun _ => false) (fun _ _ => false) false (fun _ _ _ _ => false) false (fun _ _ _ _ _ => false) false (fun _ _ _ => false) false (fun _ _ => false) (fun _ _ => false) (fun _ => false) () (fun _ _ _ _ => ()) v
def onInt (v : KV) (k : IntKind → KI → Bool) (r : Bool) : Bool := KV.rec (motive_1 := fun _ => Bool) (motive_2 := fun _ => Unit) r (fun _ => r) k (fun _ => r) (fun _ _ => r) r (fun _ _ _ _ => r) r (fun _ _ _ _ _ => r) r (fun _ _ _ => r) r (fun _ _ => r) (fun _ _ => r) (fun _ => r) () (fun _ _ _ _ => ()) v
def onPtr (v : KV) (k : Nat → Nat → Bool) : Bool := KV.rec (motive_1 := fun _ => Bool) (motive_2 := fun _ => Unit) false (fun _ => false) (fun _ _ => false) (fun _ => false) k false (fun _ _ _ _ => false) false (fun _ _ _ _ _ => false) false (fun _ _ _ => false) false (fun _ _ => false) (fun _ _ => false) (fun _ => false) () (fun _ _ _ _ => ()) v
def onStr (v : KV) (k : List KI → Bool) : Bool := KV.rec (motive_1 := fun _ => Bool) (motive_2 := fun _ => Unit) false (fun _ => false) (fun _ _ => false) k (fun _ _ => false) false (fun _ _ _ _ => false) false (fun _ _ _ _ _ => false) false (fun _ _ _ => false) false (fun _ _ => false) (fun _ _ => false) (fun _ => false) () (fun _ _ _ _ => ()) v
def onSlice (v : KV) (k : Nat → Nat → Nat → Cap → Bool) (nil : Bool) : Bool := KV.rec (motive_1 := fun _ => Bool) (motive_2 := fun _ => Unit) false (fun _ => false) (fun _ _ => false) (fun _ => false) (fun _ _ => false) false k nil (fun _ _ _ _ _ => false) false (fun _ _ _ => false) false (fun _ _ => false) (fun _ _ => false) (fun _ => false) () (fun _ _ _ _ => ()) v
def onAgg (v : KV) (k : List KV → Bool) : Bool := KV.rec (motive_1 := fun _ => Bool) (motive_2 := fun _ => Unit) false (fun _ => false) (fun _ _ => false) (fun _ => false) (fun _ _ => false) false (fun _ _ _ _ => false) false (fun _ _ _ _ _ => false) false (fun _ _ _ => false) false (fun l _ => k l) (fun _ _ => false) (fun _ => false) () (fun _ _ _ _ => ()) v
def onTuple (v : KV) (k : List KV → Bool) : Bool := KV.rec (motive_1 := fun _ => Bool) (motive_2 := fun _ => Unit) false (fun _ => false) (fun _ _ => false) (fun _ => false) (fun _ _ => false) false (fun _ _ _ _ => false) false (fun _ _ _ _ _ => false) false (fun _ _ _ => false) false (fun _ _ => false) (fun l _ => k l) (fun _ => false) () (fun _ _ _ _ => ()) v

/-! ### Closed values, for what is left to the model's own word -/
mutual
def KV.toV : KV → Option V
  | .none => some .none
  | .bool b => some (.bool b)
  | .int k n => n.cst.map fun i => .int k i
  | .str s => (bytesK s).map .str
  | .ptr b o => some (.ptr b o)
  | .nilp => some .nilp
  | .slice b o l c => some (.slice b o l c)
  | .nils => some .nils
  | .func f a c => match KV.toVs a, KV.toVs c with
    | some a, some c => some (.func f a c)
    | _, _ => Option.none
  | .nilf => some .nilf
  | .iface t v => (KV.toV v).map (.iface t)
  | .nili => some .nili
  | .agg l => (KV.toVs l).map .agg
  | .tuple l => (KV.toVs l).map .tuple
  | .sv _ => Option.none
def KV.toVs : List KV → Option (List V)
  | [] => some []
  | v :: l => match KV.toV v, KV.toVs l with
    | some x, some r => some (x :: r)
    | _, _ => Option.none
def bytesK : List KI → Option (List UInt8)
  | [] => some []
  | .p n :: l => if n < 256 then (bytesK l).map (UInt8.ofNat n :: ·) else Option.none
  | _ :: _ => Option.none
end
def scalK : V → Option KV
  | .bool b => some (.bool b)
  | .int k n => some (.int k (KI.ofInt n))
  | .str s => some (.str (s.map fun c => .p c.toNat))
  | .nilp => some .nilp
  | .nils => some .nils
  | .nilf => some .nilf
  | .nili => some .nili
  | _ => Option.none
def scalR : R → Option KV
  | .val v => scalK v
  | _ => Option.none
section
variable {β : Type}
def deepS (l : List KI) : (List KI → β) → β := List.rec (fun k => k []) (fun x _ ih k => forceI x fun x => ih (fun l => k (x :: l))) l
def deepV (v : KV) (k : KV → β) (e : β) : β := match v with
  | .bool b => bcond b (k (.bool true)) (k (.bool false))
  | .int t n => forceI n fun n => k (.int t n)
  | .str s => deepS s fun s => k (.str s)
  | .nilp => k .nilp
  | .nils => k .nils
  | .nilf => k .nilf
  | .nili => k .nili
  | _ => e
def deepL (l : List KV) : (List KV → β) → β := List.rec (fun k => k []) (fun v _ ih k => deepV v (fun v => ih fun l => k (v :: l)) (ih fun l => k (v :: l))) l
/-- A constant, made ready. -/
def deepC (v : KV) (k : KV → β) : β := match v with
  | .agg l => deepL l fun l => k (.agg l)
  | .iface t w => deepV w (fun w => k (.iface t w)) (k (.iface t w))
  | v => deepV v k (k v)
end
def evalK (rd : Nat) (rg : Regs rd) (x : Operand) : KV := match x with
  | .tmp t => if t < 8 ^ rd then getT rd t rg else undefK
  | .const v => ofValK v
  | .global g => bcond (globIs g) (.ptr g 0) .none
  | .func f => .func f [] []
def plainK (P : Program) (rd : Nat) (rg : Regs rd) (o : Oper) (k : KV → Bool) : Bool :=
  bcond (o.op.operands.toList.all fun x => (evalK rd rg x).toV.isSome) (match plainD P (fun t => ((evalK rd rg (.tmp t)).toV).getD .none) o with
    | some r => match scalR r with
      | some v => deepV v k false
      | Option.none => false
    | Option.none => false) false

/-! ### Operands -/
inductive Src (rd : Nat) where
  | mk (g : SrcF rd) (h : LazF rd)
def cSrc (rd : Nat) : Operand → Src rd
  | .tmp t => bcond (Nat.blt t (Nat.pow 8 rd)) (GB.rec (fun g h => .mk g h) (gtB rd t)) (.mk (fun _ k => k undefK) fun _ => undefK)
  | .const v => deepC (ofValK v) fun v => .mk (fun _ k => k v) fun _ => v
  | .global g => bcond (globIs g) (.mk (fun _ k => k (.ptr g 0)) fun _ => .ptr g 0) (.mk (fun _ k => k .none) fun _ => .none)
  | .func f => .mk (fun _ k => k (.func f [] [])) fun _ => .func f [] []
abbrev Srcs (rd : Nat) := List (Src rd)
def argsK {rd : Nat} (rg : Regs rd) (l : Srcs rd) : List KV → (List KV → Bool) → Bool :=
  List.rec (fun r k => k r) (fun x _ ih r k => Src.rec (fun g _ => g rg fun v => ih r fun l => k (v :: l)) x) l

/-! ### Strings -/
def eqS (s : List KI) : List KI → Cx → (Cx → Bool → Bool) → Bool :=
  List.rec (fun t cx f => List.rec (f cx true) (fun _ _ _ => f cx false) t) (fun x _ ih t cx f => List.rec (f cx false) (fun y t _ => cmpK .eql cx x y fun cx b => Bool.rec (f cx false) (ih t cx f) b) t) s
/-- less, surely other than equal: as 'bytesLess'. -/
def ltS (s : List KI) : List KI → Cx → (Cx → Bool → Bool) → Bool :=
  List.rec (fun t cx f => List.rec (f cx false) (fun _ _ _ => f cx true) t) (fun x _ ih t cx f => List.rec (f cx false) (fun y t _ =>
    cmpK .lss cx x y fun cx b => Bool.rec (cmpK .eql cx x y fun cx b => Bool.rec (f cx false) (ih t cx f) b) (f cx true) b) t) s
def notF (f : Cx → KV → Bool) (cx : Cx) (b : Bool) : Bool := Bool.rec (f cx (.bool true)) (f cx (.bool false)) b
def strBinK (op : BinOp) (s t : List KI) (cx : Cx) (f : Cx → KV → Bool) : Bool := match op with
  | .add => lenC s fun n => lenC t fun m => bcond (Nat.ble (Nat.add n m) 1000000) (appL s t fun l => f cx (.str l)) false
  | .eql => bcond (strOk cx s) (bcond (strOk cx t) (eqS s t cx (boolF f)) false) false
  | .neq => bcond (strOk cx s) (bcond (strOk cx t) (eqS s t cx (notF f)) false) false
  | .lss => bcond (strOk cx s) (bcond (strOk cx t) (ltS s t cx (boolF f)) false) false
  | .geq => bcond (strOk cx s) (bcond (strOk cx t) (ltS s t cx (notF f)) false) false
  | .gtr => bcond (strOk cx s) (bcond (strOk cx t) (ltS s t cx fun cx b => Bool.rec (eqS s t cx (notF f)) (f cx (.bool false)) b) false) false
  | .leq => bcond (strOk cx s) (bcond (strOk cx t) (ltS s t cx fun cx b => Bool.rec (eqS s t cx (boolF f)) (f cx (.bool true)) b) false) false
  | _ => false
/-! Texts that are not known: by their ranks. -/
def svIs (cx : Cx) (v : Nat) : Bool := match nthB cx.box v with
  | some b => decide (b.1 = svLo)
  | none => false
def svK (v : Nat) : KI := .a 0 [(v, 1)]
def svBinK (op : BinOp) (v w : Nat) (cx : Cx) (f : Cx → KV → Bool) : Bool := bcond (svIs cx v) (bcond (svIs cx w) (match op with
  | .eql => cmpK .eql cx (svK v) (svK w) (boolF f)
  | .neq => cmpK .eql cx (svK v) (svK w) (notF f)
  | .lss => cmpK .lss cx (svK v) (svK w) (boolF f)
  | .geq => cmpK .lss cx (svK v) (svK w) (notF f)
  | .gtr => cmpK .lss cx (svK w) (svK v) (boolF f)
  | .leq => cmpK .lss cx (svK w) (svK v) (notF f)
  | _ => false) false) false
/-! ### Bounds -/
def asNatK (cx : Cx) (v : KV) (f : Cx → Nat → Bool) : Bool := onInt v (fun _ n => KI.rec (fun n => f cx n) (fun _ => false) (fun c ts => concr cx (.a c ts) fun cx i => match i with
      | .ofNat n => forceN n fun n => f cx n
      | .negSucc _ => false) n) false
def optNatK {rd : Nat} (cx : Cx) (rg : Regs rd) (v : Option (Src rd)) (f : Cx → Option Nat → Bool) : Bool := Option.rec (f cx none) (fun s => Src.rec (fun _ h => asNatK cx (h rg) fun cx n => f cx (some n)) s) v

/-! ### Operations -/
inductive KE where
  | ret (v : KV)
  | panic (v : KV)
abbrev KCall := FuncId → List KV → Cx → KM → (Cx → KE → KM → Bool) → Bool
/-- An operation, made ready: of registers alone · of what is known, too · of memory that it reads · that it makes or writes · a call, or a panic. -/
inductive Act (rd : Nat) where
  | p (f : Regs rd → (KV → Bool) → Bool)
  | c (f : Cx → Regs rd → (Cx → KV → Bool) → Bool)
  | m (f : Regs rd → KM → (KV → Bool) → Bool)
  | w (f : Option Nat → Cx → Regs rd → KM → KK → Bool)
  | k (f : KCall → Cx → Regs rd → KM → KK → KK → Bool)
  | bad
def Act.run {rd : Nat} (A : Act rd) (kc : KCall) (slot : Option Nat) (cx : Cx) (rg : Regs rd) (M : KM) (k kp : KK) : Bool := match A with
  | .p f => f rg fun v => k cx v M
  | .c f => f cx rg fun cx v => k cx v M
  | .m f => f rg M fun v => k cx v M
  | .w f => f slot cx rg M k
  | .k f => f kc cx rg M k kp
  | .bad => false

section
variable (P : Program) (rd : Nat)
def s1 (x : Operand) (k : SrcF rd → Act rd) : Act rd := Src.rec (fun g _ => k g) (cSrc rd x)
def z1 (x : Operand) (k : LazF rd → Act rd) : Act rd := Src.rec (fun _ h => k h) (cSrc rd x)

def aPick (h : LazF rd) (ga gb : SrcF rd) : Act rd := .p fun rg k => onBool (h rg) (ga rg k) (gb rg k)
def aNew (len dep : Nat) (t : Tr KV dep) : Act rd := .w fun slot cx rg M k => newK M slot len dep t fun b M => k cx (.ptr b 0) M
def aBox (g : SrcF rd) : Act rd := .w fun slot cx rg M k => g rg fun v => match cellsK v with
  | some cs => mkC cs fun n d t => newK M slot n d t fun b M => k cx (.ptr b 0) M
  | none => false
/-- Parts with their places: (offset, size, where). -/
def fillT {rd : Nat} (rg : Regs rd) (len dep : Nat) (ps : List (Nat × Nat × Src rd)) : Tr KV dep → (Tr KV dep → Bool) → Bool :=
  List.rec (fun t k => k t) (fun p _ ih t k => Src.rec (fun g _ => g rg fun v => match cellsK v with
      | some vs => lenC vs fun n => bcond (Nat.beq n p.2.1) (bcond (Nat.ble (Nat.add p.1 n) len) (setCs dep vs p.1 t fun t => ih t k) false) false
      | none => false) p.2.2) ps
def aBuild (n dep : Nat) (t : Tr KV dep) (ps : List (Nat × Nat × Src rd)) : Act rd := .p fun rg k => fillT rg n dep ps t fun t => getCs dep t n 0 fun cs => k (.agg cs)
def aBuildSlice (n len dep : Nat) (t : Tr KV dep) (ps : List (Nat × Nat × Src rd)) : Act rd := .w fun slot cx rg M k => fillT rg len dep ps t fun t => newK M slot len dep t fun b M => k cx (.slice b 0 n (.is n)) M
def aLoadN (h : LazF rd) (n : Nat) : Act rd := .m fun rg M k => onPtr (h rg) fun b o => readK M b o n fun l => k (.agg l)
def aLoad1 (h : LazF rd) : Act rd := .m fun rg M k => onPtr (h rg) fun b o => read1K M b o k
def storeK (M : KM) (b o : Nat) (vs : List KV) (k : KM → Bool) : Bool := KM.rec (fun ob ht nx log ln => ownK ob b (fun _ _ _ => writeK (.mk ob ht nx log ln) b o vs k)
      (spillK spillFuel true vs (.mk ob ht nx log ln) fun M => writeK M b o vs k)) M
def aStore (ha : LazF rd) (gx : SrcF rd) (n : Nat) : Act rd := .w fun _ cx rg M k => onPtr (ha rg) fun b o => gx rg fun w => match cellsK w with
    | some vs => lenC vs fun m => bcond (Nat.beq m n) (storeK M b o vs fun M => k cx undefK M) false
    | none => false
def aNilCheck (h : LazF rd) : Act rd := .p fun rg k => match h rg with
  | .ptr b o => k (.ptr b o)
  | .func f a c => k (.func f a c)
  | .iface t v => k (.iface t v)
  | .slice b o l c => k (.slice b o l c)
  | _ => false
/-- An assertion that holds; where it does not the run ends. -/
def aAssert {rd : Nat} (t : TypeId) (h : LazF rd) : Act rd := .p fun rg k => match h rg with
  | .iface u v => bcond (Nat.beq u t) (k (.tuple [v, .bool true])) false
  | _ => false
def aPlain (o : Oper) : Act rd := .p fun rg k => plainK P rd rg o k
/-- Comparing with a nil: the type's own sort. -/
inductive Ns where
  | ptr | iface | func | slice | bool | no
  | agg (l : List (Nat × Nat))
def nsOf : Option TypeDesc → Ns
  | some (.pointer _) => .ptr
  | some (.interface _) => .iface
  | some (.func _ _ _) => .func
  | some (.slice _) => .slice
  | some .bool => .bool
  | _ => .no
/-- A struct's fields, each a whole number (0), a text (1) or a truth (2): where they lie. -/
def flatK (P : Program) : List Field → Option (List (Nat × Nat))
  | [] => some []
  | f :: l => bcond (f.name == "_") none (match undK P f.type, flatK P l with
    | some (.int _), some r => some ((f.offset, 0) :: r)
    | some .string, some r => some ((f.offset, 1) :: r)
    | some .bool, some r => some ((f.offset, 2) :: r)
    | _, _ => none)
def nsK (P : Program) (t : TypeId) : Ns := match undK P t with
  | some (.struct fields) => bcond (P.stoodInHeld t) .no (bcond (P.eqGuardType P.depth t) .no (match flatK P fields.toList with
    | some l => .agg l
    | none => .no))
  | d => nsOf d
def scalOk (v : KV) : Bool := match v with
  | .bool _ => true
  | .int _ _ => true
  | .str _ => true
  | .sv _ => true
  | _ => false
def scalsOk (l : List KV) : Bool := List.rec true (fun v _ ih => Bool.rec false ih (scalOk v)) l
def eqScal (c : Nat) (v w : KV) (cx : Cx) (f : Cx → Bool → Bool) : Bool := match v, w with
  | .int i a, .int j b => bcond (Nat.beq c 0) (bcond (Nat.beq (kIx i) (kIx j)) (cmpK .eql cx a b f) false) false
  | .str a, .str b => bcond (Nat.beq c 1) (bcond (strOk cx a) (bcond (strOk cx b) (eqS a b cx f) false) false) false
  | .sv a, .sv b => bcond (Nat.beq c 1) (bcond (svIs cx a) (bcond (svIs cx b) (cmpK .eql cx (svK a) (svK b) f) false) false) false
  | .bool a, .bool b => bcond (Nat.beq c 2) (bcond a (bcond b (f cx true) (f cx false)) (bcond b (f cx false) (f cx true))) false
  | _, _ => false
def eqAgg (xs ys : List KV) (l : List (Nat × Nat)) : Cx → (Cx → Bool → Bool) → Bool := List.rec (fun cx f => f cx true) (fun p _ ih cx f => nthK xs p.1 fun v => nthK ys p.1 fun w => eqScal p.2 v w cx fun cx b => Bool.rec (f cx false) (ih cx f) b) l
def neNilK : Ns → KV → KV → Bool
  | .ptr, .ptr _ _, .nilp | .ptr, .nilp, .ptr _ _ => true
  | .iface, .iface _ _, .nili | .iface, .nili, .iface _ _ => true
  | .func, .func _ _ _, .nilf | .func, .nilf, .func _ _ _ => true
  | .slice, .slice _ _ _ _, .nils => true
  | _, _, _ => false
def nilK (op : BinOp) (e n : Bool) : Bool := match op with
  | .eql => e
  | .neq => n
  | _ => false
def binRest (o : Oper) (op : BinOp) (ns : Ns) (v w : KV) (rg : Regs rd) (cx : Cx) (k : Cx → KV → Bool) : Bool := match v with
  | .str a => match w with
    | .str b => strBinK op a b cx k
    | _ => false
  | .sv a => match w with
    | .sv b => svBinK op a b cx k
    | _ => false
  | .bool a => match w with
    | .bool b => match ns with
      | .bool => match op with
        | .eql => bcond a (bcond b (k cx (.bool true)) (k cx (.bool false))) (bcond b (k cx (.bool false)) (k cx (.bool true)))
        | .neq => bcond a (bcond b (k cx (.bool false)) (k cx (.bool true))) (bcond b (k cx (.bool true)) (k cx (.bool false)))
        | _ => false
      | _ => false
    | _ => false
  | .agg xs => match w with
    | .agg ys => match ns with
      | .agg l => bcond (scalsOk xs) (bcond (scalsOk ys) (nilK op (eqAgg xs ys l cx (boolF k)) (eqAgg xs ys l cx (notF k))) false) (plainK P rd rg o fun v => k cx v)
      | _ => plainK P rd rg o fun v => k cx v
    | _ => false
  | v => bcond (neNilK ns v w) (nilK op (k cx (.bool false)) (k cx (.bool true))) (plainK P rd rg o fun v => k cx v)
def aBin (o : Oper) (op : BinOp) (ns : Ns) (gx gy : LazF rd) : Act rd := IB.rec
  (fun h => .c fun cx rg k => onInt (gx rg) (fun i a => onInt (gy rg) (fun j b => Bool.rec false (h i cx a b k fun _ => plainK P rd rg o fun v => k cx v) (Nat.beq (kIx i) (kIx j))) false) (binRest P rd o op ns (gx rg) (gy rg) rg cx k))
  (fun h => .c fun cx rg k => onInt (gx rg) (fun i a => onInt (gy rg) (fun j b => h i cx a b k fun _ => plainK P rd rg o fun v => k cx v) false) false)
  (.c fun cx rg k => plainK P rd rg o fun v => k cx v) (intB op)
def aNot (h : LazF rd) : Act rd := .p fun rg k => onBool (h rg) (k (.bool false)) (k (.bool true))
def aNeg (h : LazF rd) : Act rd := .c fun cx rg k => onInt (h rg) (fun i n => wrapK i cx (KI.neg n) fun cx n => k cx (.int i n)) false
def strOf (l : List KV) (k : List KI → Bool) : Bool := List.rec (fun k => k []) (fun v _ ih k => onInt v (fun i n => Bool.rec false (ih fun l => k (n :: l)) (Nat.beq (kIx i) 4)) false) l k
def aConvI (d : IntKind) (h : LazF rd) : Act rd := .c fun cx rg k => onInt (h rg) (fun _ n => byName 7 d cx n (.p 0) k fun _ => wrapK d cx n fun cx n => k cx (.int d n)) false
def aCom (o : Oper) (h : LazF rd) : Act rd := .c fun cx rg k => onInt (h rg) (fun i n => bcond (Nat.blt (kIx i) 4) (wrapK i cx (KI.neg (KI.add n (.p 1))) fun cx n => k cx (.int i n)) (plainK P rd rg o fun v => k cx v)) (plainK P rd rg o fun v => k cx v)
def aConvB (h : LazF rd) : Act rd := .w fun _ cx rg M k => onSlice (h rg) (fun b o len _ => readK M b o len fun l => strOf l fun s => bcond (strOk cx s) (k cx (.str s) M) false) (k cx (.str []) M)
def aConvS (h : LazF rd) : Act rd := .p fun rg k => onStr (h rg) fun s => k (.str s)
def aIface (t : TypeId) (g : SrcF rd) : Act rd := .p fun rg k => g rg fun v => k (.iface t v)
def aFunc (f : FuncId) (first captured : Srcs rd) : Act rd := .p fun rg k => argsK rg first [] fun a => argsK rg captured [] fun c => k (.func f a c)
def aMakeSlice (z by_ : Nat) (zero : List KV) (hl hc : LazF rd) : Act rd := .w fun slot cx rg M k => asNatK cx (hl rg) fun cx l => asNatK cx (hc rg) fun cx c =>
  bcond (Nat.ble l c) (bcond (Nat.ble c 4096) (bcond (Nat.ble (Nat.mul by_ c) (2 ^ 47)) (mkC ((List.replicate c zero).flatten) fun n d t => newK M slot n d t fun b M => k cx (.slice b 0 l (.is c)) M) false) false) false
/-- The greatest, the high and the low bound. -/
def boundsK {rd : Nat} (cx : Cx) (rg : Regs rd) (len : Nat) (cap : Option Nat) (lo hi mx : Option (Src rd)) (f : Cx → Nat → Nat → Option Nat → Bool) : Bool :=
  optNatK cx rg mx fun cx mx =>
    let go (mo : Option Nat) (isM : Bool) : Bool := optNatK cx rg hi fun cx hi =>
      let lows (h : Nat) : Bool := optNatK cx rg lo fun cx lo => match lo with
        | none => f cx 0 h mo
        | some l => bcond (Nat.ble l h) (f cx l h mo) false
      match hi with
      | none => bcond isM false (lows len)
      | some h => match mo with
        | some m => bcond (Nat.ble h m) (lows h) false
        | none => bcond (Nat.ble h len) (lows h) false
    match mx with
    | none => go cap false
    | some m => match cap with
      | some c => bcond (Nat.ble m c) (go (some m) true) false
      | none => bcond (Nat.ble m len) (go (some m) true) false
def aSliceS (h : LazF rd) (lo hi : Option (Src rd)) : Act rd := .c fun cx rg k => onStr (h rg) fun s => lenC s fun n => boundsK cx rg n (some n) lo hi none fun cx l h _ => dropX s l fun s => takeX s (Nat.sub h l) fun s => k cx (.str s)
def cutK (b o z l h m : Nat) (cx : Cx) (k : Cx → KV → Bool) : Bool :=
  forceN (Nat.sub h l) fun n => bcond (Nat.blt l m) (forceN (Nat.add o (Nat.mul l z)) fun o => forceN (Nat.sub m l) fun c => k cx (.slice b o n (.is c))) (bcond (Nat.beq l m) (k cx (.slice b o n (.is 0))) false)
def aSlice (z : Nat) (h : LazF rd) (lo hi mx : Option (Src rd)) : Act rd := .c fun cx rg k => onSlice (h rg) (fun b o len cap => match cap with
    | .is c => boundsK cx rg len (some c) lo hi mx fun cx l h m => match m with
      | some m => cutK b o z l h m cx k
      | none => false
    | .unk z' => boundsK cx rg len none lo hi mx fun cx l h m => match m with
      | some m => cutK b o z l h m cx k
      | none => bcond (Nat.beq z' z) (bcond (Nat.beq l 0) (k cx (.slice b o h (.unk z))) (bcond (Nat.blt l len) (forceN (Nat.add o (Nat.mul l z)) fun o => forceN (Nat.sub h l) fun n => k cx (.slice b o n (.unk z))) false)) false)
  (boundsK cx rg 0 (some 0) lo hi mx fun cx _ _ _ => k cx .nils)
def aFieldAddr (h : LazF rd) (off : Nat) : Act rd := .p fun rg k => onPtr (h rg) fun b o => forceN (Nat.add o off) fun o => k (.ptr b o)
def aPartN (h : LazF rd) (off n : Nat) : Act rd := .p fun rg k => onAgg (h rg) fun cs => dropX cs off fun cs => takeX cs n fun l => k (.agg l)
def aPart1 (h : LazF rd) (off : Nat) : Act rd := .p fun rg k => onAgg (h rg) fun cs => nthK cs off k
def aIxSlice (z : Nat) (hx hi : LazF rd) : Act rd := .c fun cx rg k => onSlice (hx rg) (fun b o len _ => asNatK cx (hi rg) fun cx i => Bool.rec false (forceN (Nat.add o (Nat.mul i z)) fun o => k cx (.ptr b o)) (Nat.blt i len)) false
def aIxArr (len z : Nat) (hx hi : LazF rd) : Act rd := .c fun cx rg k => onPtr (hx rg) fun b o => asNatK cx (hi rg) fun cx i => Bool.rec false (forceN (Nat.add o (Nat.mul i z)) fun o => k cx (.ptr b o)) (Nat.blt i len)
def aIndexN (len z n : Nat) (hx hi : LazF rd) : Act rd := .c fun cx rg k => onAgg (hx rg) fun cs => asNatK cx (hi rg) fun cx i => Bool.rec false (forceN (Nat.mul i z) fun o => dropX cs o fun cs => takeX cs n fun l => k cx (.agg l)) (Nat.blt i len)
def aIndex1 (len z : Nat) (hx hi : LazF rd) : Act rd := .c fun cx rg k => onAgg (hx rg) fun cs => asNatK cx (hi rg) fun cx i => Bool.rec false (nthK cs (Nat.mul i z) fun v => k cx v) (Nat.blt i len)
def aIndexS (hx hi : LazF rd) : Act rd := .c fun cx rg k => onStr (hx rg) fun s => asNatK cx (hi rg) fun cx i => nthC s i fun c => Bool.rec false (k cx (.int .u8 c)) (byteOk cx c)
def aExtract (h : LazF rd) (ix : Nat) : Act rd := .p fun rg k => onTuple (h rg) fun vs => nthK vs ix k
def aPanic (h : LazF rd) : Act rd := .k fun _ cx rg M _ kp => match h rg with
  | .iface t v => kp cx (.iface t v) M
  | _ => false

/-! Calls. -/
def backK (ob : OB) (k kp : KK) : Cx → KE → KM → Bool := fun cx e M => KM.rec (fun _ ht nx log ln => KE.rec (fun v => k cx v (.mk ob ht nx log ln)) (fun v => kp cx v (.mk ob ht nx log ln)) e) M
def callK (kc : KCall) (f : FuncId) (args : List KV) (cx : Cx) (M : KM) (k kp : KK) : Bool :=
  spillK spillFuel true args M fun M => KM.rec (fun ob ht nx log ln => kc f args cx (.mk .nil ht nx log ln) (backK ob k kp)) M
def aCall (h : LazF rd) (args : Srcs rd) : Act rd := .k fun kc cx rg M k kp => match h rg with
  | .func f a cp => argsK rg args cp fun l => appL a l fun l => callK kc f l cx M k kp
  | _ => false
/-- The function is known beforehand. -/
def aCallF (f : FuncId) (args : Srcs rd) : Act rd := .k fun kc cx rg M k kp => argsK rg args [] fun l => callK kc f l cx M k kp
/-- Is a number surely at most 0? By its bounds, or by what is known word for word. -/
def sureLe (cx : Cx) (x : KI) : Bool := KI.rec (fun n => Nat.beq n 0) (fun _ => true) (fun c ts => oRec (ubT cx.box ts) false fun u => bcond (ile0 (iadd c u)) true (forceZ c fun c => forceT ts fun ts => knownLe cx.cs c ts)) x
def mmK {rd : Nat} (mx : Bool) (rg : Regs rd) (l : Srcs rd) : KI → Cx → (Cx → KI → Bool) → Bool :=
  List.rec (fun x cx f => f cx x) (fun o _ ih x cx f => Src.rec (fun _ h => onInt (h rg) (fun _ y => bcond (sureLe cx (bcond mx (KI.sub x y) (KI.sub y x))) (ih y cx f) (decLe cx (bcond mx (KI.sub y x) (KI.sub x y)) fun cx b => Bool.rec (ih y cx f) (ih x cx f) b)) false) o) l
def aMm (mx : Bool) (h : LazF rd) (l : Srcs rd) : Act rd := .c fun cx rg k => onInt (h rg) (fun i n => mmK mx rg l n cx fun cx n => k cx (.int i n)) false
def aLenS (h : LazF rd) : Act rd := .p fun rg k => onSlice (h rg) (fun _ _ len _ => k (.int .i64 (.p len))) (k (.int .i64 (.p 0)))
def aLenT (h : LazF rd) : Act rd := .p fun rg k => onStr (h rg) fun s => lenC s fun n => k (.int .i64 (.p n))
def aAppend (z by_ : Nat) (hs hx : LazF rd) : Act rd := .w fun _ cx rg M k => lenK (hx rg) fun n => contentK M cx z n (hx rg) fun xs => spillK spillFuel true xs M fun M => appendK M z by_ (hs rg) n xs fun v M => k cx v M
def aCopy (z : Nat) (hd hs : LazF rd) : Act rd := .w fun _ cx rg M k => onSlice (hd rg) (fun b o len _ => lenK (hs rg) fun n => forceN (Nat.min n len) fun n => contentK M cx z n (hs rg) fun xs => writeK M b o xs fun M => k cx (.int .i64 (.p n)) M) false

def cBuiltin (o : Oper) (b : Builtin) (args : List Operand) (tys : Array TypeId) : Act rd :=
  match b, args with
  | .len, [v] => match (tys[0]?).bind (undK P) with
    | some (.slice _) => z1 rd v fun g => aLenS rd g
    | some .string => z1 rd v fun g => aLenT rd g
    | _ => .bad
  | .append, [s, x] => match tys[0]?, tys[1]? with
    | some st, some xt => match elemK P st, undK P xt with
      | some e, some d => match d with
        | .int _ => .bad
        | _ => match sizeK P e, bytesT P e, zeroK P e with
          | some z, some by_, some zero => bcond (Nat.beq zero.length z) (z1 rd s fun gs => z1 rd x fun gx => aAppend rd z by_ gs gx) .bad
          | _, _, _ => .bad
      | _, _ => .bad
    | _, _ => .bad
  | .copy, [d, s] => match (tys[0]?).bind (elemK P) with
    | some e => match sizeK P e with
      | some z => z1 rd d fun gd => z1 rd s fun gs => aCopy rd z gd gs
      | none => .bad
    | none => .bad
  | .min, x :: l => z1 rd x fun g => aMm rd false g (l.map (cSrc rd))
  | .max, x :: l => z1 rd x fun g => aMm rd true g (l.map (cSrc rd))
  | _, _ => aPlain P rd o
def cParts (place : Nat → Option (Nat × Nat)) : List (Nat × Operand) → Option (List (Nat × Nat × Src rd))
  | [] => some []
  | (i, x) :: l => match place i, cParts place l with
    | some (off, z), some r => some ((off, z, cSrc rd x) :: r)
    | _, _ => none
def mkA {rd : Nat} (l : List KV) (k : (n dep : Nat) → Tr KV dep → Act rd) : Act rd := lenC l fun n => forceN (dep8 n) fun d => k n d (setC d l 0 (emp KV.none d))
def cBuild (t : TypeId) (ps : List (Nat × Operand)) : Act rd := match zeroK P t, undK P t with
  | some zero, some (.struct fields) => match placesK P fields.toList with
    | some pl => match cParts rd (fun i => pl[i]?) ps with
      | some ps => mkA zero fun n d t => aBuild rd n d t ps
      | none => .bad
    | none => .bad
  | some zero, some (.array _ e) => match sizeK P e with
    | some z => match cParts rd (fun i => some (i * z, z)) ps with
      | some ps => mkA zero fun n d t => aBuild rd n d t ps
      | none => .bad
    | none => .bad
  | _, _ => .bad
def cBuildSlice (t : TypeId) (n : Nat) (ps : List (Nat × Operand)) : Act rd := match elemK P t with
  | some e => match sizeK P e, zeroK P e with
    | some z, some zero => bcond (Nat.ble (Nat.mul n z) 4096) (bcond (Nat.beq zero.length z) (match cParts rd (fun i => some (i * z, z)) ps with
      | some ps => mkA ((List.replicate n zero).flatten) fun len dep t => aBuildSlice rd n len dep t ps
      | none => .bad) .bad) .bad
    | _, _ => .bad
  | none => .bad
def cPart (t : TypeId) (one : Act rd) (many : Nat → Act rd) : Act rd := match aggK P t, sizeK P t with
  | some true, some n => many n
  | some false, _ => one
  | _, _ => .bad
def cOp (o : Oper) : Act rd := match o.op with
  | .move x | .assign x => s1 rd x fun g => .p g
  | .pick c a b => z1 rd c fun gc => s1 rd a fun ga => s1 rd b fun gb => aPick rd gc ga gb
  | .alloc e => match zeroK P e with
    | some cs => mkA cs fun n d t => aNew rd n d t
    | none => .bad
  | .box _ x => s1 rd x fun g => aBox rd g
  | .build t ps => cBuild P rd t ps.toList
  | .buildSlice t n ps => cBuildSlice P rd t n ps.toList
  | .load t a => z1 rd a fun g => cPart P rd t (aLoad1 rd g) fun n => aLoadN rd g n
  | .store t a x => match sizeK P t with
    | some n => z1 rd a fun ga => s1 rd x fun gx => aStore rd ga gx n
    | none => .bad
  | .nilCheck x => z1 rd x fun g => aNilCheck rd g
  | .binOp op t x y _ => z1 rd x fun gx => z1 rd y fun gy => aBin P rd o op (nsK P t) gx gy
  | .unOp op _ x => match op with
    | .not => z1 rd x fun g => aNot rd g
    | .neg => z1 rd x fun g => aNeg rd g
    | .xor => z1 rd x fun g => aCom P rd o g
    | _ => aPlain P rd o
  | .convert src dst x => match undK P dst with
    | some (.int d) => match undK P src with
      | some _ => z1 rd x fun g => aConvI rd d g
      | none => .bad
    | some .string => match undK P src with
      | some (.slice e) => match undK P e with
        | some (.int .u8) => z1 rd x fun g => aConvB rd g
        | _ => aPlain P rd o
      | some .string => z1 rd x fun g => aConvS rd g
      | _ => aPlain P rd o
    | _ => aPlain P rd o
  | .makeInterface t x => match undK P t with
    | some (.interface _) => .bad
    | some _ => s1 rd x fun g => aIface rd t g
    | none => .bad
  | .typeAssert x _ t ok => bcond ok (match undK P t with
    | some (.interface _) => .bad
    | some _ => z1 rd x fun h => aAssert t h
    | none => .bad) .bad
  | .makeFunc fn first captured => match fn with
    | .func f => aFunc rd f (first.toList.map (cSrc rd)) (captured.toList.map (cSrc rd))
    | _ => .bad
  | .makeSlice t l c => match elemK P t with
    | some e => match sizeK P e, bytesT P e, zeroK P e with
      | some z, some by_, some zero => bcond (Nat.beq zero.length z) (z1 rd l fun gl => z1 rd c fun gc => aMakeSlice rd z by_ zero gl gc) .bad
      | _, _, _ => .bad
    | none => .bad
  | .slice t x lo hi mx => match undK P t with
    | some .string => bcond mx.isSome .bad (z1 rd x fun g => aSliceS rd g (lo.map (cSrc rd)) (hi.map (cSrc rd)))
    | some (.slice e) => match sizeK P e with
      | some z => z1 rd x fun g => aSlice rd z g (lo.map (cSrc rd)) (hi.map (cSrc rd)) (mx.map (cSrc rd))
      | none => .bad
    | _ => .bad
  | .fieldAddr s x f => match undK P s with
    | some (.struct fields) => match fields[f]? with
      | some fd => bcond (nonZeroK P fd.type) (z1 rd x fun g => aFieldAddr rd g fd.offset) .bad
      | none => .bad
    | _ => .bad
  | .field t x f => match undK P t with
    | some (.struct fields) => match fields[f]? with
      | some fd => z1 rd x fun g => cPart P rd fd.type (aPart1 rd g fd.offset) fun n => aPartN rd g fd.offset n
      | none => .bad
    | _ => .bad
  | .indexAddr t x ix => match undK P t with
    | some (.slice e) => match sizeK P e with
      | some z => z1 rd x fun gx => z1 rd ix fun gi => aIxSlice rd z gx gi
      | none => .bad
    | some (.array len e) => match sizeK P e with
      | some z => z1 rd x fun gx => z1 rd ix fun gi => aIxArr rd len z gx gi
      | none => .bad
    | _ => .bad
  | .index t x ix => match undK P t with
    | some (.array len e) => match sizeK P e with
      | some z => z1 rd x fun gx => z1 rd ix fun gi => cPart P rd e (aIndex1 rd len z gx gi) fun n => aIndexN rd len z n gx gi
      | none => .bad
    | some .string => z1 rd x fun gx => z1 rd ix fun gi => aIndexS rd gx gi
    | _ => .bad
  | .extract t ix => z1 rd t fun g => aExtract rd g ix
  | .panic x => z1 rd x fun g => aPanic rd g
  | .call c => match c.callee with
    | .value f => match f with
      | .func f => (aCallF rd f (c.args.toList.map (cSrc rd)))
      | f => z1 rd f fun g => aCall rd g (c.args.toList.map (cSrc rd))
    | .builtin b => cBuiltin P rd o b c.args.toList c.argTypes
    | _ => .bad
  | _ => aPlain P rd o
end
end
end Go.Sx

/- The evaluator that the kernel runs: code and functions. -/
namespace Go.Sx
noncomputable section

inductive KX where
  | exit (id : Nat)
  | ret
  | panic (v : KV)
abbrev KN (rd : Nat) := Cx → Regs rd → KM → Bool
abbrev KO (rd : Nat) := KX → Cx → Regs rd → KM → Bool

/-- Where a result goes. -/
abbrev PutF (rd : Nat) := Regs rd → KV → (Regs rd → Bool) → Bool
inductive Dst (rd : Nat) where
  | mk (p : PutF rd)
def cDst (rd nt : Nat) : Option Nat → Dst rd
  | none => .mk fun rg _ k => k rg
  | some d => bcond (Nat.blt d nt) (SB.rec (fun s => .mk s) (stB rd d)) (.mk fun _ _ _ => false)

/-- Operations one behind the other. -/
abbrev OpsF (rd : Nat) := KCall → Cx → Regs rd → KM → KN rd → KO rd → Bool
inductive OpsA (rd : Nat) where
  | mk (f : OpsF rd)
section
variable {rd : Nat}
def chain (A : Act rd) (p : PutF rd) (next : OpsF rd) : OpsA rd := Act.rec
  (fun f => .mk fun kc cx rg M kn ko => f rg fun v => p rg v fun rg => next kc cx rg M kn ko)
  (fun f => .mk fun kc cx rg M kn ko => f cx rg fun cx v => p rg v fun rg => next kc cx rg M kn ko)
  (fun f => .mk fun kc cx rg M kn ko => f rg M fun v => p rg v fun rg => next kc cx rg M kn ko)
  (fun f => .mk fun kc cx rg M kn ko => f none cx rg M fun cx v M => p rg v fun rg => next kc cx rg M kn ko)
  (fun f => .mk fun kc cx rg M kn ko => f kc cx rg M (fun cx v M => p rg v fun rg => next kc cx rg M kn ko) fun cx v M => ko (.panic v) cx rg M)
  (.mk fun _ _ _ _ _ _ => false) A
/-- A flag: true, false, or not there. -/
def onFlag (v : KV) (t e n : Bool) : Bool := KV.rec (motive_1 := fun _ => Bool) (motive_2 := fun _ => Unit) false (fun b => Bool.rec e t b) (fun _ _ => false) (fun _ => false) (fun _ _ => false) false (fun _ _ _ _ => false) false (fun _ _ _ _ _ => false) false (fun _ _ _ => false) false (fun _ _ => false) (fun l _ => List.rec n (fun _ _ _ => false) l) (fun _ => false) () (fun _ _ _ _ => ()) v
def skipC (p : PutF rd) (next : OpsF rd) : OpsF rd := fun kc cx rg M kn ko => p rg undefK fun rg => next kc cx rg M kn ko
def guardC (want : Bool) (h : LazF rd) (on off : OpsF rd) : OpsA rd := bcond want
  (.mk fun kc cx rg M kn ko => onFlag (h rg) (on kc cx rg M kn ko) (off kc cx rg M kn ko) (off kc cx rg M kn ko))
  (.mk fun kc cx rg M kn ko => onFlag (h rg) (off kc cx rg M kn ko) (on kc cx rg M kn ko) (off kc cx rg M kn ko))
end

/-! Regions that draw: a place for each block that is made, and a record of what was read and what was written. -/
abbrev Recs := List (Nat × Rec)
/-- What is done where something goes wrong: which operation, what there was, what the call left, with what. -/
abbrev PanF (rd : Nat) := Nat → Cx → Regs rd → KM → KM → KV → Bool
abbrev DOpsF (rd : Nat) := KCall → Nat → Cx → Regs rd → KM → Recs → (Cx → Regs rd → KM → Recs → Bool) → PanF rd → Bool
inductive DOpsA (rd : Nat) where
  | mk (f : DOpsF rd)
abbrev RecF (rd : Nat) := Regs rd → KM → KM → Recs → (Recs → Bool) → Bool
section
variable {rd : Nat}
def chainD (i : Nat) (rec : RecF rd) (A : Act rd) (p : PutF rd) (next : DOpsF rd) : DOpsA rd := Act.rec
  (fun f => .mk fun kc base cx rg M rs K kp => f rg fun v => rec rg M M rs fun rs => p rg v fun rg => next kc base cx rg M rs K kp)
  (fun f => .mk fun kc base cx rg M rs K kp => f cx rg fun cx v => rec rg M M rs fun rs => p rg v fun rg => next kc base cx rg M rs K kp)
  (fun f => .mk fun kc base cx rg M rs K kp => f rg M fun v => rec rg M M rs fun rs => p rg v fun rg => next kc base cx rg M rs K kp)
  (fun f => .mk fun kc base cx rg M rs K kp => f (some (Nat.add base i)) cx rg M fun cx v M' => rec rg M M' rs fun rs => p rg v fun rg => next kc base cx rg M' rs K kp)
  (fun f => .mk fun kc base cx rg M rs K kp => f kc cx rg M (fun cx v M' => rec rg M M' rs fun rs => p rg v fun rg => next kc base cx rg M' rs K kp) fun cx v M' => kp i cx rg M M' v)
  (.mk fun _ _ _ _ _ _ _ _ => false) A
def skipD (p : PutF rd) (next : DOpsF rd) : DOpsF rd := fun kc base cx rg M rs K kp => p rg undefK fun rg => next kc base cx rg M rs K kp
def guardD (want : Bool) (h : LazF rd) (on off : DOpsF rd) : DOpsA rd := bcond want
  (.mk fun kc base cx rg M rs K kp => onFlag (h rg) (on kc base cx rg M rs K kp) (off kc base cx rg M rs K kp) (off kc base cx rg M rs K kp))
  (.mk fun kc base cx rg M rs K kp => onFlag (h rg) (off kc base cx rg M rs K kp) (on kc base cx rg M rs K kp) (off kc base cx rg M rs K kp))
end
def rootK (M : KM) (b : Nat) (k : Nat → Bool) : Bool := KM.rec (fun ob ht _ _ _ => ownK ob b (fun _ _ _ => k b) (hpK ht b (fun _ _ _ root => k root) false)) M
def tgtVK : KV → List Nat
  | .slice b _ _ _ => [b]
  | .ptr b _ => [b]
  | _ => []

section
variable (P : Program) (rd : Nat)
def cTgt (o : Oper) : Option (LazF rd) := match o.op with
  | .store _ a _ => Src.rec (fun _ h => some h) (cSrc rd a)
  | .call c => match c.callee with
    | .builtin _ => match c.args.toList with
      | s :: _ => Src.rec (fun _ h => some h) (cSrc rd s)
      | [] => none
    | _ => none
  | _ => none
/-- 1: writes, or calls; 2: reads. -/
def kindN (o : Oper) : Nat := match o.op with
  | .load _ _ => 2
  | .store _ _ _ => 1
  | .call c => match c.callee with
    | .value _ => 1
    | .builtin b => match b with
      | .append => 1
      | .copy => 1
      | _ => 0
    | _ => 0
  | _ => 0
def effRec (i : Nat) (l : List Nat) (M M' : KM) (rs : Recs) (k : Recs → Bool) : Bool := KM.rec (fun _ _ _ _ ln => KM.rec (fun _ _ _ log ln' => k ((i, .call (l ++ log.take (ln' - ln))) :: rs)) M') M
/-- What is kept of an operation. -/
def cRec (i : Nat) (o : Oper) : RecF rd := match kindN o with
  | 1 => match cTgt rd o with
    | some h => fun rg M M' rs k => effRec i (tgtVK (h rg)) M M' rs k
    | none => fun _ M M' rs k => effRec i [] M M' rs k
  | 2 => match o.op with
    | .load _ a => Src.rec (fun _ h => fun rg M _ rs k => match h rg with
      | .ptr b _ => rootK M b fun r => k ((i, .load b r) :: rs)
      | _ => k ((i, .no) :: rs)) (cSrc rd a)
    | _ => fun _ _ _ rs k => k ((i, .no) :: rs)
  | _ => fun _ _ _ rs k => k rs
def cStep (nt : Nat) (ops : Array Oper) (o : Oper) (next : OpsF rd) : OpsA rd := Dst.rec (fun p => match o.guard with
  | none => chain (cOp P rd o) p next
  | some (j, want) => match (ops[j]?).bind (·.dst) with
    | some t => Src.rec (fun _ h => OpsA.rec (fun on => guardC want h on (skipC p next)) (chain (cOp P rd o) p next)) (cSrc rd (.tmp t))
    | none => .mk (skipC p next)) (cDst rd nt o.dst)
def cOps (nt : Nat) (ops : Array Oper) (l : List Oper) : OpsA rd := List.rec (.mk fun _ cx rg M kn _ => kn cx rg M) (fun o _ ih => OpsA.rec (fun next => cStep P rd nt ops o next) ih) l
def cStepD (nt : Nat) (ops : Array Oper) (need : Bool) (i : Nat) (o : Oper) (next : DOpsF rd) : DOpsA rd := Dst.rec (fun p => match o.guard with
  | none => chainD i (bcond need (cRec rd i o) fun _ _ _ rs k => k rs) (cOp P rd o) p next
  | some (j, want) => match (ops[j]?).bind (·.dst) with
    | some t => Src.rec (fun _ h => DOpsA.rec (fun on => guardD want h on (skipD p next)) (chainD i (bcond need (cRec rd i o) fun _ _ _ rs k => k rs) (cOp P rd o) p next)) (cSrc rd (.tmp t))
    | none => .mk (skipD p next)) (cDst rd nt o.dst)
def cOpsD (nt : Nat) (ops : Array Oper) (need : Bool) (l : List Oper) : Nat → DOpsA rd :=
  List.rec (fun _ => .mk fun _ _ cx rg M rs K _ => K cx rg M rs) (fun o _ ih i => DOpsA.rec (fun next => cStepD P rd nt ops need i o next) (ih (Nat.succ i))) l
/-- Some of a region's operations, by their numbers. -/
def cOpsDL (nt : Nat) (ops : Array Oper) (l : List Nat) : DOpsA rd :=
  List.rec (.mk fun _ _ cx rg M rs K _ => K cx rg M rs) (fun i _ ih => DOpsA.rec (fun next => match ops[i]? with
    | some o => cStepD P rd nt ops false i o next
    | none => .mk fun _ _ _ _ _ _ _ _ => false) ih) l
/-- All that a region sets is forgotten. -/
def forgetK (nt : Nat) (l : List Oper) : Regs rd → (Regs rd → Bool) → Bool := List.rec (fun rg k => k rg) (fun o _ ih rg k => Dst.rec (fun p => p rg .none fun rg => ih rg k) (cDst rd nt o.dst)) l
end
def recAt (l : Recs) (i : Nat) : Rec := List.rec .no (fun x _ ih => bcond (Nat.beq x.1 i) x.2 ih) l
section
variable (P : Program)
def kindsAt (l : List Oper) : Nat → List (Nat × Nat) := List.rec (fun _ => []) (fun o _ ih i => bcond (Nat.beq (kindN o) 0) (ih (Nat.succ i)) ((i, kindN o) :: ih (Nat.succ i))) l
/-- Which pairs must be looked at behind the region. -/
def pairsL (ops : Array Oper) : List (Nat × Nat) := let en := kindsAt ops.toList 0
  bcond (en.any (fun x => Nat.beq x.2 1) && en.any (fun x => Nat.beq x.2 2)) (en.flatMap fun y => en.filterMap fun x => bcond (Nat.blt x.1 y.1 && !Nat.beq x.2 y.2) (bcond (ordered (masks ops.toList) x.1 y.1) none (some (x.1, y.1))) none) []
end
def pairsOk (l : List (Nat × Nat)) (r : Recs) : Bool := List.rec true (fun x _ ih => bcond (recOk (recAt r x.1) (recAt r x.2)) ih false) l

/-! ### Code -/
/-- How deep code may be gone into; what calls do there. -/
inductive Fuel where
  | z
  | s (kc : KCall) (f : Fuel)
abbrev CodeF (rd : Nat) := Fuel → Cx → Regs rd → KM → KN rd → KO rd → Bool
inductive CB (rd : Nat) where
  | mk (f : CodeF rd)
inductive PL where
  | mk (l : List (Nat × Nat))
section
variable {rd : Nat}
def seqC (a b : CodeF rd) : CodeF rd := fun fl cx rg M kn ko => a fl cx rg M (fun cx rg M => b fl cx rg M kn ko) ko
def condC (h : LazF rd) (t e : CodeF rd) : CodeF rd := fun fl cx rg M kn ko => onBool (h rg) (t fl cx rg M kn ko) (e fl cx rg M kn ko)
def blockO (id : Nat) (kn : KN rd) (ko : KO rd) : KO rd := fun x cx rg M => KX.rec (fun i => Bool.rec (ko (.exit i) cx rg M) (kn cx rg M) (Nat.beq i id)) (ko .ret cx rg M) (fun v => ko (.panic v) cx rg M) x
def blockC (id : Nat) (a : CodeF rd) : CodeF rd := fun fl cx rg M kn ko => a fl cx rg M kn (blockO id kn ko)
def loopC (a : CodeF rd) : CodeF rd := fun n => Fuel.rec (fun _ _ _ _ _ => false) (fun _ fl ih cx rg M kn ko => a fl cx rg M (fun cx rg M => ih cx rg M kn ko) ko) n
/-! A range over a slice's backward iterator. -/
def loadEK (P : Program) (e : TypeId) (M : KM) (b o : Nat) (k : KV → Bool) : Bool := match aggK P e, sizeK P e with
  | some true, some n => readK M b o n fun l => k (.agg l)
  | some false, some _ => read1K M b o k
  | _, _ => false
def onExit (rg : Regs rd) (ko : KO rd) : KO rd := fun x cx _ M => KX.rec (fun i => ko (.exit i) cx rg M) (ko .ret cx rg M) (fun _ => false) x
def roundsK (P : Program) (e : TypeId) (z cb co : Nat) (q0 q1 : PutF rd) (a b : CodeF rd) (fl : Fuel) (rg : Regs rd) (kn : KN rd) (ko : KO rd) (n : Nat) : Cx → KM → Bool := Nat.rec (fun cx M => kn cx rg M)
  (fun i ih cx M => read1K M cb co fun sv => onSlice sv (fun b' o len _ => bcond (Nat.blt i len) (forceN (Nat.add o (Nat.mul i z)) fun off => loadEK P e M b' off fun v => q0 rg (.int .i64 (.p i)) fun rg1 => q1 rg1 v fun rg2 =>
    a fl cx rg2 M (fun cx rg3 M => b fl cx rg3 M (fun cx _ M => ih cx M) (onExit rg ko)) (fun _ _ _ _ => false)) false) false) n
def rangeC (P : Program) (h : LazF rd) (q0 q1 : PutF rd) (a b : CodeF rd) : CodeF rd := fun fl cx rg M kn ko => match h rg with
  | .func gf [] [.ptr cb co] => match backTab gf with
    | some e => match sizeK P e with
      | some z => read1K M cb co fun sv => onSlice sv (fun _ _ len _ => bcond (Nat.ble len 65536) (roundsK P e z cb co q0 q1 a b fl rg kn ko len cx M) false) (roundsK P e z cb co q0 q1 a b fl rg kn ko 0 cx M)
      | none => false
    | none => false
  | _ => false
def panK (nt : Nat) (P : Program) (ops : Array Oper) (kc : KCall) (base : Nat) (ko : KO rd) : PanF rd := fun i cx rg M M' v => bcond (calmAt ops i)
  (DOpsA.rec (fun f => f kc base cx rg M [] (fun cx _ _ _ => forgetK rd nt ops.toList rg fun rg => ko (.panic v) cx rg M') (fun _ _ _ _ _ _ => false)) (cOpsDL P rd nt ops (restI ops i))) false
def drawK (nt : Nat) (P : Program) (ops : Array Oper) (pl : List (Nat × Nat)) (kc : KCall) : CodeF rd := fun _ cx rg M kn ko => KM.rec (fun ob ht nx log ln => forceN nx fun base => lenC ops.toList fun m => forceN (Nat.add base m) fun nx =>
    DOpsA.rec (fun f => f kc base cx rg (.mk ob ht nx log ln) [] (fun cx rg M rs => bcond (pairsOk pl rs) (kn cx rg M) false) (panK nt P ops kc base ko)) (cOpsD P rd nt ops (List.rec false (fun _ _ _ => true) pl) ops.toList 0)) M
def opsK (nt : Nat) (P : Program) (ops : Array Oper) (kc : KCall) : CodeF rd := fun _ cx rg M kn ko => OpsA.rec (fun f => f kc cx rg M kn ko) (cOps P rd nt ops ops.toList)
def isCall (o : Oper) : Bool := match o.op with
  | .call c => match c.callee with
    | .value _ => true
    | _ => false
  | _ => false
end
section
variable (P : Program) (rd nt : Nat)
def cRegion (ops : Array Oper) (draw : Bool) : CB rd := bcond (ops.toList.any isCall)
  (bcond draw (.mk (fun fl cx rg M kn ko => Fuel.rec false (fun kc fl' _ => drawK nt P ops (pairsL ops) kc fl' cx rg M kn ko) fl)) (.mk (fun fl cx rg M kn ko => Fuel.rec false (fun kc fl' _ => opsK nt P ops kc fl' cx rg M kn ko) fl)))
  (bcond draw (.mk (drawK nt P ops (pairsL ops) fun _ _ _ _ _ => false)) (.mk (opsK nt P ops fun _ _ _ _ _ => false)))
def cCode (c : Code) : CB rd := Code.rec
  (.mk fun _ cx rg M kn _ => kn cx rg M)
  (fun _ ops draw => cRegion P rd nt ops draw)
  (fun _ _ iha ihb => CB.rec (fun a => CB.rec (fun b => .mk (seqC a b)) ihb) iha)
  (fun c _ _ iht ihe => CB.rec (fun t => CB.rec (fun e => Src.rec (fun _ h => .mk (condC h t e)) (cSrc rd c)) ihe) iht)
  (fun id _ ih => CB.rec (fun a => .mk (blockC id a)) ih)
  (fun _ ih => CB.rec (fun a => .mk (loopC a)) ih)
  (fun g ps assign body iha ihb => bcond (flatC assign && flatC body) (match ps.toList with
    | [p0, p1] => CB.rec (fun a => CB.rec (fun b => Src.rec (fun _ h => Dst.rec (fun q0 => Dst.rec (fun q1 => .mk (rangeC P h q0 q1 a b)) (cDst rd nt (some p1))) (cDst rd nt (some p0))) (cSrc rd g)) ihb) iha
    | _ => .mk fun _ _ _ _ _ _ => false) (.mk fun _ _ _ _ _ _ => false))
  (fun id => .mk fun _ cx rg M _ ko => ko (.exit id) cx rg M)
  (fun _ ih => ih)
  (fun _ => .mk fun _ cx rg M kn _ => kn cx rg M)
  (fun _ => .mk fun _ _ _ _ _ _ => false)
  (.mk fun _ cx rg M _ ko => ko .ret cx rg M)
  (fun _ => .mk fun _ _ _ _ _ _ => false) c

/-! Functions. -/
abbrev ResF (rd : Nat) := Regs rd → KM → (KV → Bool) → Bool
inductive RB (rd : Nat) where
  | mk (f : ResF rd)
def cRes (r : ResultVar) : RB rd := match r with
  | .tmp t => Src.rec (fun g _ => .mk fun rg _ k => g rg k) (cSrc rd (.tmp t))
  | .cell x t => Src.rec (fun _ h => match aggK P t, sizeK P t with
    | some true, some n => .mk fun rg M k => onPtr (h rg) fun b o => readK M b o n fun l => k (.agg l)
    | some false, _ => .mk fun rg M k => onPtr (h rg) fun b o => read1K M b o k
    | _, _ => .mk fun _ _ _ => false) (cSrc rd (.tmp x))
def ressK (rg : Regs rd) (M : KM) (l : List ResultVar) : (List KV → Bool) → Bool :=
  List.rec (fun k => k []) (fun r _ ih k => RB.rec (fun f => f rg M fun v => ih fun vs => k (v :: vs)) (cRes P rd r)) l
def cRess (l : List ResultVar) : RB rd := match l with
  | [r] => cRes P rd r
  | l => .mk fun rg M k => ressK P rd rg M l fun vs => k (.tuple vs)
end
def leaveV (v : KV) (M : KM) (k : KM → Bool) : Bool := spillK spillFuel false [v] M k
inductive FB where
  | mk (rd : Nat) (body : CodeF rd) (res : ResF rd)
  | df (rd : Nat) (pre : CodeF rd) (g : SrcF rd) (post : CodeF rd) (res : ResF rd)
  | bad
  | eff (s : Eff)
/-- A closure that runs at the end. -/
inductive RF where
  | mk (rd : Nat) (p : PutF rd) (body : CodeF rd) (res : ResF rd)
  | bad
section
variable (P : Program)
def preC (rd nt : Nat) (l : List Code) : CB rd := List.rec (.mk fun _ cx rg M kn _ => kn cx rg M) (fun c _ ih => CB.rec (fun a => CB.rec (fun b => .mk (seqC a b)) ih) (cCode P rd nt c)) l
def cFnB (rd : Nat) (fn : Func) (body : Code) : FB := match deferOf body with
  | none => CB.rec (fun b => RB.rec (fun r => .mk rd b r) (cRess P rd fn.results.toList)) (cCode P rd fn.ntmps body)
  | some q => CB.rec (fun a => CB.rec (fun b => RB.rec (fun r => Src.rec (fun g _ => .df rd a g b r) (cSrc rd (.tmp q.2.1))) (cRess P rd fn.results.toList)) (cCode P rd fn.ntmps q.2.2)) (preC P rd fn.ntmps q.1)
/-- Functions that are never run: what is asked of all others is not asked of them. -/
def skipTab (f : FuncId) : Bool := false
def cFn (f : FuncId) : FB := match effTab f with
  | some s => .eff s
  | none => bcond (skipTab f) .bad (match nthO P.funcs.toList f with
  | some fn => match fn.body with
    | some body => forceN (dep8 fn.ntmps) fun rd => bcond (Nat.ble fn.ntmps (Nat.pow 8 rd)) (cFnB P rd fn body) .bad
    | none => .bad
  | none => .bad)
def cRecF (f : FuncId) : RF := bcond (skipTab f) .bad (match nthO P.funcs.toList f with
  | some fn => match fn.body with
    | some body => match recOf body with
      | some q => forceN (dep8 fn.ntmps) fun rd => bcond (Nat.ble fn.ntmps (Nat.pow 8 rd)) (Dst.rec (fun p => CB.rec (fun b => RB.rec (fun r => .mk rd p b r) (cRess P rd fn.results.toList)) (cCode P rd fn.ntmps q.2)) (cDst rd fn.ntmps (some q.1))) .bad
      | none => .bad
    | none => .bad
  | none => .bad)
def retK {rd : Nat} (res : ResF rd) (k : Cx → KE → KM → Bool) : KN rd := fun cx rg M => res rg M fun v => leaveV v M fun M => k cx (.ret v) M
def outK {rd : Nat} (res : ResF rd) (k : Cx → KE → KM → Bool) : KO rd := fun x cx rg M => KX.rec (fun _ => false) (res rg M fun v => leaveV v M fun M => k cx (.ret v) M) (fun v => leaveV v M fun M => k cx (.panic v) M) x
def outR {rd : Nat} (res : ResF rd) (k : Cx → KE → KM → Bool) : KO rd := fun x cx rg M => KX.rec (fun _ => false) (res rg M fun v => leaveV v M fun M => k cx (.ret v) M) (fun _ => false) x
def callR (fl : Fuel) (u : KV) : KCall := fun f args cx M k =>
  RF.rec (fun rd p body res => lenC args fun na => bcond (Nat.ble na (Nat.pow 8 rd)) (setCs rd args 0 (emp undefK rd) fun rg => p rg u fun rg => body fl cx rg M (retK res k) (outR res k)) false) false (cRecF P f)
def closeK (fl : Fuel) (d u : KV) (cx : Cx) (M : KM) (k : Cx → KM → Bool) : Bool := match d with
  | .func cf ca cc => appL ca cc fun l => callK (callR P fl u) cf l cx M (fun cx _ M => k cx M) (fun _ _ _ => false)
  | _ => false
def dfK {rd : Nat} (fl : Fuel) (g : SrcF rd) (post : CodeF rd) (res : ResF rd) (k : Cx → KE → KM → Bool) : KN rd := fun cx rg M => g rg fun d =>
  post fl cx rg M (fun cx rg M => closeK P fl d .nili cx M fun cx M => retK res k cx rg M)
    (fun x cx rg M => KX.rec (fun _ => false) (closeK P fl d .nili cx M fun cx M => retK res k cx rg M) (fun v => closeK P fl d v cx M fun cx M => retK res k cx rg M) x)
/-! What a function is said to answer: '.none' where nothing is said; or a request, to be worked out with what is known: two bounds added, none above the cap ('.tuple (.none :: ..)': is it cut above, the cap, both). -/
def natV (up : Bool) (cap x y : Int) : Int := if cap ≤ x then cap else if cap ≤ y then cap else let s := IntKind.wrap .i64 (x + y); if s ≤ -cap then -cap else if up = true ∧ cap ≤ s then cap else s
def natGo (up : Bool) (cap : KI) (x y : KI) (cx : Cx) (k : Cx → KI → Bool) : Bool :=
  decLe cx (KI.sub cap x) fun cx b => bcond b (k cx cap) (decLe cx (KI.sub cap y) fun cx b => bcond b (k cx cap) (wrapK .i64 cx (KI.add x y) fun cx s => decLe cx (KI.add s cap) fun cx b => bcond b (k cx (KI.neg cap)) (bcond up (decLe cx (KI.sub cap s) fun cx b => bcond b (k cx cap) (k cx s)) (k cx s))))
/-- Is a number surely one of 64 bits? -/
def in64 (cx : Cx) (x : KI) : Bool := bcond (sureLe cx (KI.sub x (.p 9223372036854775807))) (sureLe cx (KI.sub (.m 9223372036854775807) x)) false
def natK (q : List KV) (cx : Cx) (k : Cx → KV → Bool) : Bool := match q with
  | [.bool up, .int .i64 cap, .int .i64 x, .int .i64 y] => bcond (in64 cx x) (bcond (in64 cx y) (natGo up cap x y cx fun cx z => k cx (.int .i64 z)) false) false
  | _ => false
def sumK (v : KV) (cx : Cx) (k : Cx → KV → Bool) : Bool := match v with
  | .none => false
  | .tuple (.none :: q) => natK q cx k
  | v => k cx v
def asK (s : Eff) (args : List KV) (cx : Cx) (M : KM) (k : Cx → KE → KM → Bool) : Bool := match args with
  | [.nili, _] => k cx (.ret (.bool false)) M
  | [.iface t (.ptr b o), .iface t2 (.ptr b2 o2)] => bcond (Nat.beq t s.tw) (bcond (Nat.beq t2 s.tpp) (read1K M b (Nat.add o s.off) fun v => match v with
    | .iface t3 (.ptr b3 o3) => bcond (Nat.beq t3 s.tf) (writeK M b2 o2 [.ptr b3 o3] fun M => k cx (.ret (.bool true)) M) false
    | _ => false) false) false
  | _ => false
def strK (v : KV) (k : List KI → Bool) : Bool := match v with
  | .str s => k s
  | _ => false
def joinTK (sep : List KI) (l : List KV) : (List KI → Bool) → Bool := List.rec (fun k => k []) (fun v _ ih k => strK v fun s => ih fun t => appL s t fun t => appL sep t k) l
def joinSK (sep : List KI) (l : List KV) (k : List KI → Bool) : Bool := List.rec (k []) (fun v r _ => strK v fun s => joinTK sep r fun t => appL s t k) l
def joinK (args : List KV) (cx : Cx) (M : KM) (k : Cx → KE → KM → Bool) : Bool := match args with
  | [.slice b o len _, .str sep] => bcond (Nat.ble len 65536) (readK M b o len fun l => joinSK sep l fun t => lenC t fun n => bcond (Nat.ble n 1048576) (k cx (.ret (.str t)) M) false) false
  | [.nils, .str _] => k cx (.ret (.str [])) M
  | _ => false
def effK (s : Eff) (args : List KV) (cx : Cx) (M : KM) (k : Cx → KE → KM → Bool) : Bool := bcond s.join (joinK args cx M k) (asK s args cx M k)
def callF (S : FuncId → List KV → Option KV) (fl : Fuel) : KCall := fun f args cx M k => Option.rec
  (FB.rec (fun rd body res => lenC args fun na => bcond (Nat.ble na (Nat.pow 8 rd)) (setCs rd args 0 (emp undefK rd) fun rg => body fl cx rg M (retK res k) (outK res k)) false)
    (fun rd pre g post res => lenC args fun na => bcond (Nat.ble na (Nat.pow 8 rd)) (setCs rd args 0 (emp undefK rd) fun rg => pre fl cx rg M (dfK P fl g post res k) (fun _ _ _ _ => false)) false)
    false (fun s => effK s args cx M k) (cFn P f))
  (fun v => sumK v cx fun cx v => k cx (.ret v) M) (S f args)
def fuelN (S : FuncId → List KV → Option KV) (n : Nat) : Fuel := Nat.rec .z (fun _ ih => .s (callF P S ih) ih) n
def endK : Cx → KE → KM → Bool := fun _ e _ => match e with
  | .ret (.bool true) => true
  | _ => false
def runK (S : FuncId → List KV → Option KV) (n : Nat) (f : FuncId) (args : List KV) (cx : Cx) : Bool := callF P S (fuelN P S n) f args cx (.mk .nil (emp (HE.no 0 0) HD) 0 [] 0) endK

/-! All regions that draw may be drawn in any order. -/
def codeDraws (c : Code) : Bool := Code.rec true (fun _ ops draw => bcond draw (drawOk P ops) true) (fun _ _ a b => bcond a b false) (fun _ _ _ a b => bcond a b false) (fun _ _ a => a) (fun _ a => a) (fun _ _ _ _ a b => bcond a b false) (fun _ => true) (fun _ a => a) (fun _ => true) (fun _ => true) true (fun _ => true) c
/-- What runs beside a closure that waits for the end ranges over no function. -/
def flatDef (b : Code) : Bool := bcond (match deferOf b with | some q => flatQ q | none => true) (match recOf b with | some q => flatC q.2 | none => true) false
def fnDraws (f : FuncId) : Bool := match P.funcs[f]? with
  | some fn => match fn.body with
    | some b => bcond (fn.name == "runtime.NumGoroutine") false (bcond (skipTab f) true (bcond (codeDraws P b) (flatDef b) false))
    | none => true
  | none => true
def rangeDraws (n : Nat) : Nat → Bool := Nat.rec (fun _ => true) (fun _ ih i => bcond (fnDraws P i) (ih (Nat.succ i)) false) n
end
end
end Go.Sx

/- The plain evaluator: with more fuel it says no less. -/
namespace Go.Sx

abbrev Cl := FuncId → List V → G → Option (En × G)
def CLe (cl cl' : Cl) : Prop := ∀ f a g r, cl f a g = some r → cl' f a g = some r
theorem CLe.refl (cl : Cl) : CLe cl cl := fun _ _ _ _ h => h
section
variable {P : Program} {cl cl' : Cl}
theorem callD_mono (h : CLe cl cl') {f : FuncId} {a : List V} {m : Mem} {r : R × Mem} (e : callD P cl f a m = some r) : callD P cl' f a m = some r := by
  unfold callD at e ⊢
  split at e
  · split at e
    · cases e
    · rename_i hn
      rw [if_neg hn]
      simp only at e ⊢
      cases hc : cl f a (spillL spillFuel a m).g with
      | none => rw [hc] at e; cases e
      | some x => rw [hc] at e; rw [h _ _ _ _ hc]; exact e
  · cases e
theorem opD_mono (h : CLe cl cl') {st : St} {slot : Option Nat} {o : Oper} {r : R × Mem} (e : opD P cl st slot o = some r) : opD P cl' st slot o = some r := by
  unfold opD at e ⊢
  cases ho : o.op <;> rw [ho] at e <;> try exact e
  rename_i c
  simp only at e ⊢
  cases hc : c.callee <;> rw [hc] at e <;> try exact e
  rename_i f
  simp only at e ⊢
  cases hv : evalD st.regs f <;> rw [hv] at e <;> try exact e
  exact callD_mono h e
theorem opsD_mono (h : CLe cl cl') (ops : Array Oper) : ∀ (l : List Oper) (st : St) (r : X × St), opsD P cl ops l st = some r → opsD P cl' ops l st = some r
  | [], st, r, e => e
  | o :: l, st, r, e => by
    simp only [opsD] at e ⊢
    cases hw : wantedD st.regs ops o with
    | none => rw [hw] at e; cases e
    | some b =>
      rw [hw] at e
      cases b with
      | false =>
        simp only at e ⊢
        cases hp : putD st o.dst undefV with
        | none => rw [hp] at e; cases e
        | some st1 => rw [hp] at e; exact opsD_mono h ops l st1 r e
      | true =>
        simp only at e ⊢
        cases ho : opD P cl st Option.none o with
        | none => rw [ho] at e; cases e
        | some x =>
          rw [ho] at e
          rw [opD_mono h ho]
          obtain ⟨x, m⟩ := x
          cases x with
          | val v =>
            simp only at e ⊢
            cases hp : putD { st with m := m } o.dst v with
            | none => rw [hp] at e; cases e
            | some st1 => rw [hp] at e; exact opsD_mono h ops l st1 r e
          | skip =>
            simp only at e ⊢
            cases hp : putD { st with m := m } o.dst undefV with
            | none => rw [hp] at e; cases e
            | some st1 => rw [hp] at e; exact opsD_mono h ops l st1 r e
          | panic v => exact e
theorem stepI_mono (h : CLe cl cl') {ops : Array Oper} {base i : Nat} {s r : DS} (e : stepI P cl ops base i s = some r) : stepI P cl' ops base i s = some r := by
  unfold stepI at e ⊢
  cases hi : ops[i]? with
  | none => rw [hi] at e; cases e
  | some o =>
    rw [hi] at e
    simp only at e ⊢
    cases hw : wantedD s.1.regs ops o with
    | none => rw [hw] at e; cases e
    | some b =>
      rw [hw] at e
      cases b with
      | false => exact e
      | true =>
        simp only at e ⊢
        cases ho : opD P cl s.1 (some (base + i)) o with
        | none => rw [ho] at e; cases e
        | some x =>
          rw [ho] at e
          rw [opD_mono h ho]
          exact e
theorem runI_mono (h : CLe cl cl') {ops : Array Oper} {base : Nat} : ∀ (l : List Nat) (s r : DS), runI P cl ops base l s = some r → runI P cl' ops base l s = some r
  | [], s, r, e => e
  | i :: l, s, r, e => by
    simp only [runI] at e ⊢
    cases hs : stepI P cl ops base i s with
    | none => rw [hs] at e; cases e
    | some s1 => rw [hs] at e; rw [stepI_mono h hs]; exact runI_mono h l s1 r e
theorem panicR_mono (h : CLe cl cl') {ops : Array Oper} {base : Nat} : ∀ (l : List Nat) (s : DS) (r : X × St), panicR P cl ops base l s = some r → runI P cl' ops base l s = Option.none ∧ panicR P cl' ops base l s = some r
  | [], s, r, e => by simp only [panicR] at e; cases e
  | i :: l, s, r, e => by
    simp only [panicR] at e
    split at e
    · rename_i s1 h1
      have h1' := stepI_mono h h1
      simp only [runI, panicR, h1']
      exact panicR_mono h l s1 r e
    · obtain ⟨o, v, m, s', ho, hc, hw, hop, hr, rfl⟩ := panicAt_inv e
      obtain ⟨q1, q2⟩ := panicAt_go (P := P) (cl := cl') ho hc hw (opD_mono h hop) (runI_mono h _ _ _ hr)
      simp only [runI, panicR, q1, q2, and_self]
theorem drawD_mono (h : CLe cl cl') {ops : Array Oper} {st : St} {r : X × St} (e : drawD P cl ops st = some r) : drawD P cl' ops st = some r := by
  unfold drawD at e ⊢
  split at e
  · rename_i hd
    rw [if_pos hd]
    simp only at e ⊢
    split at e
    · rename_i st1 tr hr
      rw [runI_mono h _ _ _ hr]; exact e
    · obtain ⟨e1, e2⟩ := panicR_mono h _ _ _ e
      rw [e1]; exact e2
  · cases e
end
section
variable {P : Program} {S : FuncId → List V → Option V}
theorem exL_mono {ex ex' : Code → St → Option (X × St)} (h : ∀ c st r, ex c st = some r → ex' c st = some r) : ∀ (l : List Code) (st r : St), exL ex l st = some r → exL ex' l st = some r
  | [], st, r, e => e
  | c :: l, st, r, e => by
    simp only [exL] at e ⊢
    cases hx : ex c st with
    | none => rw [hx] at e; cases e
    | some x =>
      rw [hx] at e; rw [h _ _ _ hx]
      obtain ⟨x, st1⟩ := x
      cases x with
      | normal => exact exL_mono h l st1 r e
      | exit _ => cases e
      | ret => cases e
      | panic _ => cases e
theorem runR_mono {ex ex' : Code → St → Option (X × St)} (h : ∀ c st r, ex c st = some r → ex' c st = some r) (u : Option V) : CLe (runR P ex u) (runR P ex' u) := by
  intro f a g r e
  unfold runR at e ⊢
  cases hf : P.funcs[f]? with
  | none => rw [hf] at e; cases e
  | some fn =>
    rw [hf] at e
    simp only at e ⊢
    cases hb : fn.body with
    | none => rw [hb] at e; cases e
    | some body =>
      rw [hb] at e
      simp only at e ⊢
      cases hr : recOf body with
      | none => rw [hr] at e; cases e
      | some q =>
        obtain ⟨t, rest⟩ := q
        rw [hr] at e
        simp only at e ⊢
        by_cases hfl : flatC rest = false
        · rw [if_pos hfl] at e; cases e
        rw [if_neg hfl] at e ⊢
        cases hp : putD (enterD fn a g) (some t) (u.getD .nili) with
        | none => rw [hp] at e; cases e
        | some st1 =>
          rw [hp] at e
          simp only at e ⊢
          cases hx : ex rest st1 with
          | none => rw [hx] at e; cases e
          | some x => rw [hx] at e; rw [h _ _ _ hx]; exact e
theorem closeD_mono {ex ex' : Code → St → Option (X × St)} (h : ∀ c st r, ex c st = some r → ex' c st = some r) {d : V} {u : Option V} {st r : St} (e : closeD P ex d u st = some r) : closeD P ex' d u st = some r := by
  unfold closeD at e ⊢
  split at e
  · rename_i cf ca cc
    split at e
    · rename_i v m hc
      rw [callD_mono (runR_mono h u) hc]; exact e
    · cases e
  · cases e
theorem runD_mono {ex ex' : Code → St → Option (X × St)} (h : ∀ c st r, ex c st = some r → ex' c st = some r) {fn : Func} {q : List Code × Nat × Code} {st : St} {r : En × G} (e : runD P ex fn q st = some r) : runD P ex' fn q st = some r := by
  unfold runD at e ⊢
  cases hL : exL ex q.1 st with
  | none => rw [hL] at e; cases e
  | some st2 =>
    rw [hL] at e; rw [exL_mono h _ _ _ hL]
    simp only at e ⊢
    cases hx : ex q.2.2 st2 with
    | none => rw [hx] at e; cases e
    | some x =>
      rw [hx] at e; rw [h _ _ _ hx]
      obtain ⟨x, st3⟩ := x
      have fin : ∀ u, (match closeD P ex (st2.regs q.2.1) u st3 with | some st4 => (resultD P st4 fn).map fun v => (En.ret v, (spillV spillFuel v st4.m).g) | Option.none => Option.none) = some r → (match closeD P ex' (st2.regs q.2.1) u st3 with | some st4 => (resultD P st4 fn).map fun v => (En.ret v, (spillV spillFuel v st4.m).g) | Option.none => Option.none) = some r := by
        intro u e
        cases hc : closeD P ex (st2.regs q.2.1) u st3 with
        | none => rw [hc] at e; cases e
        | some st4 => rw [hc] at e; rw [closeD_mono h hc]; exact e
      cases x with
      | normal => exact fin _ e
      | ret => exact fin _ e
      | panic v => exact fin _ e
      | exit _ => cases e
theorem runF_mono {ex ex' : Code → St → Option (X × St)} (h : ∀ c st r, ex c st = some r → ex' c st = some r) : CLe (runF P S ex) (runF P S ex') := by
  intro f a g r e
  unfold runF at e ⊢
  cases hS : S f a with
  | some v => rw [hS] at e; exact e
  | none =>
    rw [hS] at e
    simp only at e ⊢
    cases hE : effTab f with
    | some s => rw [hE] at e; exact e
    | none =>
    rw [hE] at e
    simp only at e ⊢
    cases hf : P.funcs[f]? with
    | none => rw [hf] at e; cases e
    | some fn =>
      rw [hf] at e
      simp only at e ⊢
      cases hb : fn.body with
      | none => rw [hb] at e; cases e
      | some body =>
        rw [hb] at e
        simp only at e ⊢
        cases hdf : deferOf body with
        | some q =>
          rw [hdf] at e
          simp only at e ⊢
          by_cases hfl : flatQ q = false
          · rw [if_pos hfl] at e; cases e
          rw [if_neg hfl] at e ⊢; exact runD_mono h e
        | none =>
        rw [hdf] at e
        simp only at e ⊢
        cases hx : ex body { regs := fun t => (a[t]?).getD undefV, nt := fn.ntmps, m := ⟨fun _ => Option.none, g⟩ } with
        | none => rw [hx] at e; cases e
        | some x => rw [hx] at e; rw [h _ _ _ hx]; exact e
theorem roundsB_mono {ex ex' : Code → St → Option (X × St)} (h : ∀ c st r, ex c st = some r → ex' c st = some r) {e z cb co p0 p1 : Nat} {a b : Code} {st0 : St} : ∀ (i : Nat) (m : Mem) (r : X × Mem), roundsB P ex e z cb co p0 p1 a b st0 i m = some r → roundsB P ex' e z cb co p0 p1 a b st0 i m = some r
  | 0, m, r, q => by simp only [roundsB] at q ⊢; exact q
  | i + 1, m, r, q => by
    obtain ⟨b, o, len, cap, v, st1, st2, st3, xb, st4, h1, h2, h3, h4, h5, h6, h7, h8⟩ := roundsB_inv q
    exact roundsB_go h1 h2 h3 h4 h5 (h _ _ _ h6) (h _ _ _ h7) (h8.imp (fun x => ⟨x.1, roundsB_mono h i _ _ x.2⟩) id)
theorem rangeD_mono {ex ex' : Code → St → Option (X × St)} (h : ∀ c st r, ex c st = some r → ex' c st = some r) {g : Operand} {ps : Array Tmp} {a b : Code} {st : St} {r : X × St} (q : rangeD P ex g ps a b st = some r) : rangeD P ex' g ps a b st = some r := by
  obtain ⟨ha, hb, gf, cb, co, e, p0, p1, z, sv, len, x, m', h1, h2, h3, h4, h5, h6, h7, rfl⟩ := rangeD_inv q
  exact rangeD_go ha hb h1 h2 h3 h4 h5 h6 (roundsB_mono h _ _ _ h7)
theorem execD_succ : ∀ (n : Nat) (c : Code) (st : St) (r : X × St), execD P S n c st = some r → execD P S (n + 1) c st = some r
  | 0, c, st, r, e => by simp only [execD] at e; cases e
  | n + 1, c, st, r, e => by
    have ih := execD_succ n
    have hcl : CLe (runF P S (execD P S n)) (runF P S (execD P S (n + 1))) := runF_mono ih
    cases c
    case region id ops draw =>
      simp only [execD] at e ⊢
      cases draw with
      | true => simp only [if_true] at e ⊢; exact drawD_mono hcl e
      | false => simp only [Bool.false_eq_true, if_false] at e ⊢; exact opsD_mono hcl _ _ _ _ e
    case seq a b =>
      rw [execD] at e ⊢
      cases hx : execD P S n a st with
      | none => rw [hx] at e; cases e
      | some x =>
        rw [hx] at e; rw [ih _ _ _ hx]
        obtain ⟨x, st'⟩ := x
        cases x with
        | normal => exact ih _ _ _ e
        | exit _ => exact e
        | ret => exact e
        | panic _ => exact e
    case cond c t f =>
      rw [execD] at e ⊢
      cases hv : evalD st.regs c <;> rw [hv] at e <;> try (cases e; done)
      exact ih _ _ _ e
    case block id a =>
      rw [execD] at e ⊢
      cases hx : execD P S n a st with
      | none => rw [hx] at e; cases e
      | some x => rw [hx] at e; rw [ih _ _ _ hx]; exact e
    case loop a =>
      rw [execD] at e ⊢
      cases hx : execD P S n a st with
      | none => rw [hx] at e; cases e
      | some x =>
        rw [hx] at e; rw [ih _ _ _ hx]
        obtain ⟨x, st'⟩ := x
        cases x with
        | normal => exact ih _ _ _ e
        | exit _ => exact e
        | ret => exact e
        | panic _ => exact e
    case scope a => rw [execD] at e ⊢; exact ih _ _ _ e
    case rangeFunc g ps a b => rw [execD] at e ⊢; exact rangeD_mono ih e
    all_goals first
      | (simp only [execD] at e ⊢; exact e)
      | (simp only [execD] at e; cases e)
theorem execD_le {n m : Nat} (h : n ≤ m) {c : Code} {st : St} {r : X × St} (e : execD P S n c st = some r) : execD P S m c st = some r := by
  obtain ⟨d, rfl⟩ := Nat.le.dest h
  induction d with
  | zero => exact e
  | succ d ih => exact execD_succ _ _ _ _ (ih (by omega))
theorem exL_le {n m : Nat} (h : n ≤ m) {l : List Code} {st r : St} (e : exL (execD P S n) l st = some r) : exL (execD P S m) l st = some r := exL_mono (fun c st r e => execD_le h e) l st r e
theorem closeD_le {n m : Nat} (h : n ≤ m) {d : V} {u : Option V} {st r : St} (e : closeD P (execD P S n) d u st = some r) : closeD P (execD P S m) d u st = some r := closeD_mono (fun c st r e => execD_le h e) e
theorem runF_le {n m : Nat} (h : n ≤ m) : CLe (runF P S (execD P S n)) (runF P S (execD P S m)) := runF_mono fun c st r e => execD_le h e
end
end Go.Sx

/- The kernel's evaluator against the plain one: operands, operations without memory. -/
namespace Go.Sx
noncomputable section

def RegsOK (ρ : Nat → Int) (rd : Nat) (rg : Regs rd) (regs : Nat → V) : Prop := ∀ t, regs t = abs ρ (if t < 8 ^ rd then getT rd t rg else undefK)

theorem undefK_eq (ρ : Nat → Int) : abs ρ undefK = undefV := undefK_abs ρ
section
variable {β : Type}
theorem deepS_eq (l : List KI) : ∀ (k : List KI → β), deepS l k = k l := by
  induction l with
  | nil => intro k; rfl
  | cons x l ih => intro k; show forceI x (fun x => deepS l (fun l => k (x :: l))) = _; rw [forceI_eq, ih]
theorem deepV_eq (v : KV) (k : KV → β) (e : β) (he : e = k v) : deepV v k e = k v := by
  cases v <;> simp only [deepV, he, forceI_eq, deepS_eq]
  rename_i b; cases b <;> rfl
theorem deepL_eq (l : List KV) : ∀ (k : List KV → β), deepL l k = k l := by
  induction l with
  | nil => intro k; rfl
  | cons x l ih =>
    intro k
    show deepV x (fun v => deepL l fun l => k (v :: l)) (deepL l fun l => k (x :: l)) = _
    rw [deepV_eq _ _ _ rfl, ih]
theorem deepC_eq (v : KV) (k : KV → β) : deepC v k = k v := by
  cases v <;> simp only [deepC] <;> first
    | exact deepL_eq _ _
    | exact deepV_eq _ (fun w => k (.iface _ w)) _ rfl
    | exact deepV_eq _ _ _ rfl
end

theorem cSrc_den (rd : Nat) (x : Operand) : ∃ g h, cSrc rd x = .mk g h ∧ ∀ rg, ∃ v, (∀ k, g rg k = k v) ∧ h rg = v ∧ ∀ ρ regs, RegsOK ρ rd rg regs → abs ρ v = evalD regs x := by
  cases x with
  | tmp t =>
    simp only [cSrc]
    cases hb : Nat.blt t (Nat.pow 8 rd) with
    | true =>
      have ht : t < 8 ^ rd := blt_iff.1 hb
      cases hg : (gtB rd t : GB KV rd) with
      | mk g h =>
        refine ⟨g, h, rfl, fun rg => ⟨getT rd t rg, fun k => ?_, ?_, fun ρ regs hr => ?_⟩⟩
        · have := gtB_run rd t rg k; rw [hg] at this; exact this
        · have := gtB_lazy rd t rg; rw [hg] at this; exact this
        · rw [evalD, hr t, if_pos ht]
    | false =>
      have ht : ¬ t < 8 ^ rd := fun e => by rw [show Nat.blt t (Nat.pow 8 rd) = true from blt_iff.2 e] at hb; cases hb
      exact ⟨_, _, rfl, fun rg => ⟨undefK, fun k => rfl, rfl, fun ρ regs hr => by rw [evalD, hr t, if_neg ht]⟩⟩
  | const v =>
    simp only [cSrc]
    rw [deepC_eq]
    exact ⟨_, _, rfl, fun rg => ⟨ofValK v, fun k => rfl, rfl, fun ρ regs hr => ofValK_abs ρ v⟩⟩
  | global g =>
    cases hb : globIs g with
    | true => exact ⟨_, _, (by simp only [cSrc, hb, bcond_true]), fun rg => ⟨.ptr g 0, fun k => rfl, rfl, fun ρ regs hr => by simp only [abs, evalD]; rw [if_pos hb]⟩⟩
    | false => exact ⟨_, _, (by simp only [cSrc, hb, bcond_false]), fun rg => ⟨.none, fun k => rfl, rfl, fun ρ regs hr => by simp only [abs, evalD]; rw [if_neg (fun e => by rw [e] at hb; cases hb)]⟩⟩
  | func f => exact ⟨_, _, rfl, fun rg => ⟨.func f [] [], fun k => rfl, rfl, fun ρ regs hr => by simp [abs, evalD, absL]⟩⟩
theorem s1_den (rd : Nat) (x : Operand) : ∃ g h, cSrc rd x = .mk g h ∧ (∀ F, s1 rd x F = F g) ∧ (∀ F, z1 rd x F = F h) ∧ ∀ rg, ∃ v, (∀ k, g rg k = k v) ∧ h rg = v ∧ ∀ ρ regs, RegsOK ρ rd rg regs → abs ρ v = evalD regs x := by
  obtain ⟨g, h, e, hv⟩ := cSrc_den rd x
  exact ⟨g, h, e, fun F => by unfold s1; rw [e], fun F => by unfold z1; rw [e], hv⟩
theorem argsK_eq {rd : Nat} (rg : Regs rd) : ∀ (l : List Operand) (r : List KV) (k : List KV → Bool), ∃ vs, argsK rg (l.map (cSrc rd)) r k = k (vs ++ r) ∧ ∀ ρ regs, RegsOK ρ rd rg regs → absL ρ vs = l.map (evalD regs)
  | [], r, k => ⟨[], rfl, fun ρ regs hr => by simp [absL]⟩
  | x :: l, r, k => by
    obtain ⟨g, h, e, hv⟩ := cSrc_den rd x
    obtain ⟨v, gv, _, av⟩ := hv rg
    obtain ⟨vs, e1, a1⟩ := argsK_eq rg l r (fun l => k (v :: l))
    refine ⟨v :: vs, ?_, fun ρ regs hr => by simp only [absL, List.map_cons, av ρ regs hr, a1 ρ regs hr]⟩
    show (Src.rec (fun g _ => g rg fun v => argsK rg (l.map (cSrc rd)) r fun l => k (v :: l)) (cSrc rd x) : Bool) = _
    rw [e]
    show g rg _ = _
    rw [gv, e1]; rfl

/-! ### Values, by their sort -/
theorem onBool_true {v : KV} {t e : Bool} (h : onBool v t e = true) : ∃ b, v = .bool b ∧ (if b then t else e) = true := by cases v <;> first | exact ⟨_, rfl, by rename_i b; cases b <;> exact h⟩ | cases h
theorem onPtr_true {v : KV} {k : Nat → Nat → Bool} (h : onPtr v k = true) : ∃ b o, v = .ptr b o ∧ k b o = true := by cases v <;> first | exact ⟨_, _, rfl, h⟩ | cases h
theorem onStr_true {v : KV} {k : List KI → Bool} (h : onStr v k = true) : ∃ s, v = .str s ∧ k s = true := by cases v <;> first | exact ⟨_, rfl, h⟩ | cases h
theorem onAgg_true {v : KV} {k : List KV → Bool} (h : onAgg v k = true) : ∃ s, v = .agg s ∧ k s = true := by cases v <;> first | exact ⟨_, rfl, h⟩ | cases h
theorem onTuple_true {v : KV} {k : List KV → Bool} (h : onTuple v k = true) : ∃ s, v = .tuple s ∧ k s = true := by cases v <;> first | exact ⟨_, rfl, h⟩ | cases h
theorem onInt_true {v : KV} {k : IntKind → KI → Bool} {r : Bool} (h : onInt v k r = true) : (∃ i n, v = .int i n ∧ k i n = true) ∨ ((∀ i n, v ≠ .int i n) ∧ r = true) := by
  cases v <;> first | exact .inl ⟨_, _, rfl, h⟩ | exact .inr ⟨(fun i n e => by cases e), h⟩
theorem onInt_false {v : KV} {k : IntKind → KI → Bool} (h : onInt v k false = true) : ∃ i n, v = .int i n ∧ k i n = true := by rcases onInt_true h with h | ⟨_, h⟩; exact h; cases h
theorem onSlice_true {v : KV} {k : Nat → Nat → Nat → Cap → Bool} {nil : Bool} (h : onSlice v k nil = true) : (∃ b o l c, v = .slice b o l c ∧ k b o l c = true) ∨ (v = .nils ∧ nil = true) := by
  cases v <;> first | exact .inl ⟨_, _, _, _, rfl, h⟩ | exact .inr ⟨rfl, h⟩ | cases h

theorem asNatK_sound {ρ : Nat → Int} {cx : Cx} {v : KV} {f : Cx → Nat → Bool} (hs : Sat ρ cx) (h : asNatK cx v f = true) : ∃ cx' n, Sat ρ cx' ∧ f cx' n = true ∧ asNat (abs ρ v) = some n := by
  unfold asNatK at h
  obtain ⟨i, x, rfl, h⟩ := onInt_false h
  cases x with
  | p n => exact ⟨cx, n, hs, h, by simp [abs, asNat, KI.ev]⟩
  | m n => cases h
  | a c ts =>
    obtain ⟨cx', s, h⟩ := concr_sound (x := .a c ts) hs h
    refine ⟨cx', ?_⟩
    split at h
    · rename_i n e
      rw [forceN_eq] at h
      refine ⟨n, s, h, ?_⟩
      have e' : (KI.a c ts).ev ρ = (n : Int) := e
      simp [abs, asNat, e']
    · cases h
theorem optNatK_sound {ρ : Nat → Int} {cx : Cx} {rd : Nat} {rg : Regs rd} {regs : Nat → V} (hr : RegsOK ρ rd rg regs) {v : Option Operand} {f : Cx → Option Nat → Bool} (hs : Sat ρ cx) (h : optNatK cx rg (v.map (cSrc rd)) f = true) :
    ∃ cx' n, Sat ρ cx' ∧ f cx' n = true ∧ (match v with | none => n = none | some x => ∃ m, asNat (evalD regs x) = some m ∧ n = some m) := by
  cases v with
  | none => exact ⟨cx, none, hs, h, rfl⟩
  | some x =>
    obtain ⟨g, hh, e, hv⟩ := cSrc_den rd x
    obtain ⟨v, _, lv, av⟩ := hv rg
    change (Src.rec (fun _ h => asNatK cx (h rg) fun cx n => f cx (some n)) (cSrc rd x) : Bool) = true at h
    rw [e] at h
    change asNatK cx (hh rg) (fun cx n => f cx (some n)) = true at h
    rw [lv] at h
    obtain ⟨cx', n, s, h, e2⟩ := asNatK_sound hs h
    exact ⟨cx', some n, s, h, n, by rw [← av ρ regs hr]; exact e2, rfl⟩

/-! ### What an operation comes to -/
def absE (ρ : Nat → Int) : KE → En
  | .ret v => .ret (abs ρ v)
  | .panic v => .panic (abs ρ v)
def bareK (M : KM) : KM := KM.rec (fun _ ht nx log ln => .mk .nil ht nx log ln) M
def OutK (ρ : Nat → Int) (r : R) (cx : Cx) (M : KM) (k kp : KK) : Prop := match r with
  | .val v => ∃ kv, abs ρ kv = v ∧ k cx kv M = true
  | .skip => ∃ kv, abs ρ kv = undefV ∧ k cx kv M = true
  | .panic v => ∃ kv, abs ρ kv = v ∧ kp cx kv M = true
section
variable (P : Program) (S : FuncId → List V → Option V)
def RunsTo (ρ : Nat → Int) (st : St) (slot : Option Nat) (o : Oper) (k kp : KK) : Prop :=
  ∃ n r m' cx' M', opD P (runF P S (execD P S n)) st slot o = some (r, m') ∧ Sat ρ cx' ∧ DenM ρ M' m' ∧ OutK ρ r cx' M' k kp
def KcOK (ρ : Nat → Int) (kc : KCall) : Prop := ∀ f args cx M g k, Sat ρ cx → DenM ρ M ⟨fun _ => none, g⟩ → kc f args cx M k = true →
  (∃ fn, P.funcs[f]? = some fn ∧ (fn.name == "runtime.NumGoroutine" || fn.body.isNone) = false) ∧ ∃ n e g', runF P S (execD P S n) f (absL ρ args) g = some (e, g') ∧ ∃ cx' ke M', Sat ρ cx' ∧ absE ρ ke = e ∧ DenM ρ (bareK M') ⟨fun _ => none, g'⟩ ∧ k cx' ke M' = true
end
section
variable {P : Program} {S : FuncId → List V → Option V} {ρ : Nat → Int} {rd : Nat} {cx : Cx} {rg : Regs rd} {M : KM} {st : St} {slot : Option Nat} {o : Oper} {k kp : KK}
theorem RunsTo.val {kv : KV} (hm : DenM ρ M st.m) (hs : Sat ρ cx) (h : k cx kv M = true) (e : opD P (runF P S (execD P S 0)) st slot o = some (.val (abs ρ kv), st.m)) : RunsTo P S ρ st slot o k kp :=
  ⟨0, _, _, cx, M, e, hs, hm, kv, rfl, h⟩
theorem RunsTo.valM {kv : KV} {m' : Mem} (hm : DenM ρ M m') (hs : Sat ρ cx) (h : k cx kv M = true) (e : opD P (runF P S (execD P S 0)) st slot o = some (.val (abs ρ kv), m')) : RunsTo P S ρ st slot o k kp :=
  ⟨0, _, _, cx, M, e, hs, hm, kv, rfl, h⟩
theorem Den.rok (h : Den ρ rd cx rg M st) : RegsOK ρ rd rg st.regs := h.regs

theorem op_move (h : Den ρ rd cx rg M st) {x : Operand} (ho : o.op = .move x ∨ o.op = .assign x) {kc : KCall} (hA : (s1 rd x fun g => .p g : Act rd).run kc slot cx rg M k kp = true) : RunsTo P S ρ st slot o k kp := by
  obtain ⟨g, hh, e, eF, eZ, hv⟩ := s1_den rd x
  rw [eF] at hA
  obtain ⟨v, gv, lv, av⟩ := hv rg
  simp only [Act.run, gv] at hA
  refine RunsTo.val h.mem h.sat hA ?_
  rw [av ρ _ h.rok]
  rcases ho with ho | ho <;> simp only [opD, ho]
theorem op_pick (h : Den ρ rd cx rg M st) {c a b : Operand} (ho : o.op = .pick c a b) {kc : KCall} (hA : (z1 rd c fun gc => s1 rd a fun ga => s1 rd b fun gb => aPick rd gc ga gb : Act rd).run kc slot cx rg M k kp = true) : RunsTo P S ρ st slot o k kp := by
  obtain ⟨g1, h1, e1, eF1, eZ1, hv1⟩ := s1_den rd c
  obtain ⟨g2, h2, e2, eF2, eZ2, hv2⟩ := s1_den rd a
  obtain ⟨g3, h3, e3, eF3, eZ3, hv3⟩ := s1_den rd b
  rw [eZ1, eF2, eF3] at hA
  obtain ⟨v1, gv1, lv1, av1⟩ := hv1 rg
  obtain ⟨v2, gv2, lv2, av2⟩ := hv2 rg
  obtain ⟨v3, gv3, lv3, av3⟩ := hv3 rg
  simp only [Act.run, aPick, gv2, gv3, lv1] at hA
  obtain ⟨t, rfl, hA⟩ := onBool_true hA
  have ec : evalD st.regs c = .bool t := by rw [← av1 ρ _ h.rok]; simp [abs]
  cases t with
  | true =>
    refine RunsTo.val h.mem h.sat hA ?_
    simp only [opD, ho, ec, av2 ρ _ h.rok, if_true]
  | false =>
    refine RunsTo.val h.mem h.sat hA ?_
    simp only [opD, ho, ec, av3 ρ _ h.rok, Bool.false_eq_true, if_false]
theorem op_nilCheck (h : Den ρ rd cx rg M st) {x : Operand} (ho : o.op = .nilCheck x) {kc : KCall} (hA : (z1 rd x fun g => aNilCheck rd g : Act rd).run kc slot cx rg M k kp = true) : RunsTo P S ρ st slot o k kp := by
  obtain ⟨g, hh, e, eF, eZ, hv⟩ := s1_den rd x
  rw [eZ] at hA
  obtain ⟨v, gv, lv, av⟩ := hv rg
  simp only [Act.run, aNilCheck, lv] at hA
  have ev := av ρ _ h.rok
  cases v <;> simp only at hA <;> try (cases hA; done)
  all_goals
    refine RunsTo.val h.mem h.sat hA ?_
    simp only [opD, ho, ← ev, abs]
theorem op_field {t : TypeId} {x : Operand} {f : Nat} (h : Den ρ rd cx rg M st) (ho : o.op = .field t x f) {kc : KCall} (hA : (cOp P rd o).run kc slot cx rg M k kp = true) : RunsTo P S ρ st slot o k kp := by
  simp only [cOp, ho, undK_eq] at hA
  split at hA <;> try (cases hA; done)
  rename_i fields hu
  cases hf : fields[f]? with
  | none => rw [hf] at hA; cases hA
  | some fd =>
    rw [hf] at hA
    simp only at hA
    obtain ⟨g, hh, e, eF, eZ, hv⟩ := s1_den rd x
    rw [eZ] at hA
    obtain ⟨v, gv, lv, av⟩ := hv rg
    have ev := av ρ _ h.rok
    simp only [cPart, aggK_eq, sizeK_eq] at hA
    cases ha : aggD P fd.type with
    | none => rw [ha] at hA; cases hA
    | some ag =>
      rw [ha] at hA
      cases ag with
      | true =>
        cases hz : sizeD P fd.type with
        | none => rw [hz] at hA; cases hA
        | some n =>
          rw [hz] at hA
          simp only [Act.run, aPartN, lv] at hA
          obtain ⟨cs, rfl, hA⟩ := onAgg_true hA
          obtain ⟨d1, hA⟩ := dropX_true _ _ _ hA
          obtain ⟨d2, hA⟩ := takeX_true _ _ _ hA
          refine RunsTo.val h.mem h.sat hA ?_
          simp only [opD, ho, hu, ← ev, abs, hf, partD, ha, hz, absL_map, List.length_map]
          rw [if_pos (by rw [List.length_drop] at d2; omega)]
          simp only [Option.map_some, List.map_take, List.map_drop]
      | false =>
        simp only [Act.run, aPart1, lv] at hA
        obtain ⟨cs, rfl, hA⟩ := onAgg_true hA
        obtain ⟨w, hw, hA⟩ := nthK_true hA
        refine RunsTo.val h.mem h.sat hA ?_
        simp only [opD, ho, hu, ← ev, abs, hf, partD, ha, absL_map, List.getElem?_map, hw, Option.map_some]
theorem op_fieldAddr {t : TypeId} {x : Operand} {f : Nat} (h : Den ρ rd cx rg M st) (ho : o.op = .fieldAddr t x f) {kc : KCall} (hA : (cOp P rd o).run kc slot cx rg M k kp = true) : RunsTo P S ρ st slot o k kp := by
  simp only [cOp, ho, undK_eq] at hA
  split at hA <;> try (cases hA; done)
  rename_i fields hu
  cases hf : fields[f]? with
  | none => rw [hf] at hA; cases hA
  | some fd =>
    rw [hf] at hA
    simp only [nonZeroK_eq] at hA
    obtain ⟨g, hh, e, eF, eZ, hv⟩ := s1_den rd x
    rw [eZ] at hA
    obtain ⟨v, gv, lv, av⟩ := hv rg
    have ev := av ρ _ h.rok
    cases hn : nonZero P fd.type with
    | false => rw [hn] at hA; cases hA
    | true =>
      rw [hn] at hA
      simp only [bcond_true, Act.run, aFieldAddr, lv] at hA
      obtain ⟨b, p, rfl, hB⟩ := onPtr_true hA
      rw [forceN_eq] at hB
      refine RunsTo.val h.mem h.sat hB ?_
      simp only [opD, ho, hu, ← ev, abs, hf, hn, if_true]
      rfl
theorem op_extract {t : Operand} {ix : Nat} (h : Den ρ rd cx rg M st) (ho : o.op = .extract t ix) {kc : KCall} (hA : (z1 rd t fun g => aExtract rd g ix : Act rd).run kc slot cx rg M k kp = true) : RunsTo P S ρ st slot o k kp := by
  obtain ⟨g, hh, e, eF, eZ, hv⟩ := s1_den rd t
  rw [eZ] at hA
  obtain ⟨v, gv, lv, av⟩ := hv rg
  have ev := av ρ _ h.rok
  simp only [Act.run, aExtract, lv] at hA
  obtain ⟨cs, rfl, hA⟩ := onTuple_true hA
  obtain ⟨w, hw, hA⟩ := nthK_true hA
  refine RunsTo.val h.mem h.sat hA ?_
  simp only [opD, ho, ← ev, abs, absL_map, List.getElem?_map, hw, Option.map_some]
theorem op_iface {t : TypeId} {x : Operand} (h : Den ρ rd cx rg M st) (ho : o.op = .makeInterface t x) {kc : KCall} (hA : (cOp P rd o).run kc slot cx rg M k kp = true) : RunsTo P S ρ st slot o k kp := by
  simp only [cOp, ho, undK_eq] at hA
  split at hA <;> try (cases hA; done)
  rename_i d hni hu
  obtain ⟨g, hh, e, eF, eZ, hv⟩ := s1_den rd x
  rw [eF] at hA
  obtain ⟨v, gv, lv, av⟩ := hv rg
  have ev := av ρ _ h.rok
  simp only [Act.run, aIface, gv] at hA
  refine RunsTo.val h.mem h.sat hA ?_
  simp only [opD, ho, hu, ← ev, abs]
theorem op_assert {t xt : TypeId} {x : Operand} {ok : Bool} (h : Den ρ rd cx rg M st) (ho : o.op = .typeAssert x xt t ok) {kc : KCall} (hA : (cOp P rd o).run kc slot cx rg M k kp = true) : RunsTo P S ρ st slot o k kp := by
  simp only [cOp, ho, undK_eq] at hA
  cases ok with
  | false => cases hA
  | true =>
  simp only [bcond_true] at hA
  split at hA <;> try (cases hA; done)
  rename_i d hni hu
  obtain ⟨g, hh, e, eF, eZ, hv⟩ := s1_den rd x
  rw [eZ] at hA
  obtain ⟨v, gv, lv, av⟩ := hv rg
  have ev := av ρ _ h.rok
  simp only [Act.run, aAssert, lv] at hA
  split at hA
  · rename_i u w
    obtain ⟨hb, hA⟩ := bcond_and hA
    have hut := Nat.eq_of_beq_eq_true hb
    refine RunsTo.val h.mem h.sat hA ?_
    simp only [opD, ho, hu, ← ev, abs, absL, hut, and_self, if_true]
  · cases hA
theorem op_func {fn : Fn} {a c : Array Operand} (h : Den ρ rd cx rg M st) (ho : o.op = .makeFunc fn a c) {kc : KCall} (hA : (cOp P rd o).run kc slot cx rg M k kp = true) : RunsTo P S ρ st slot o k kp := by
  simp only [cOp, ho] at hA
  split at hA <;> try (cases hA; done)
  rename_i f
  simp only [Act.run, aFunc] at hA
  obtain ⟨l1, e1, a1⟩ := argsK_eq rg a.toList [] (fun a => argsK rg (c.toList.map (cSrc rd)) [] fun c => k cx (.func f a c) M)
  rw [e1] at hA
  obtain ⟨l2, e2, a2⟩ := argsK_eq rg c.toList [] (fun c => k cx (.func f (l1 ++ []) c) M)
  rw [e2] at hA
  refine RunsTo.val h.mem h.sat hA ?_
  simp only [opD, ho, abs, List.append_nil, a1 ρ _ h.rok, a2 ρ _ h.rok]
end
end
end Go.Sx

/- What the model says of operations on values without addresses: texts, truths, conversions. -/
namespace Go.Sx

section
variable {P : Program} {regs : Nat → V} {o : Oper}
theorem two_ops {op : BinOp} {t yt : TypeId} {x y : Operand} (ho : o.op = .binOp op t x y yt) (hx : (toVal (evalD regs x)).isSome = true) (hy : (toVal (evalD regs y)).isSome = true) : ∀ z ∈ o.op.operands.toList, (toVal (evalD regs z)).isSome = true := by
  rw [ho]
  intro z hz
  simp only [Op.operands, List.mem_cons, List.not_mem_nil, or_false] at hz
  rcases hz with e | e <;> subst e <;> assumption

def strV (op : BinOp) (s t : List UInt8) : Option V := match op with
  | .add => if s.length + t.length ≤ 1000000 then some (.str (s ++ t)) else none
  | .eql => some (.bool (s == t))
  | .neq => some (.bool (!(s == t)))
  | .lss => some (.bool (Op.bytesLess s t))
  | .geq => some (.bool (!Op.bytesLess s t))
  | .gtr => some (.bool (!(Op.bytesLess s t || s == t)))
  | .leq => some (.bool (Op.bytesLess s t || s == t))
  | _ => none
theorem plain_str {op : BinOp} {t yt : TypeId} {x y : Operand} {a b : List UInt8} {v : V} (ho : o.op = .binOp op t x y yt)
    (hx : evalD regs x = .str a) (hy : evalD regs y = .str b) (hv : strV op a b = some v) : plainD P regs o = some (.val v) := by
  have key : ∃ r, pureRun P (execOp (fun x => (toVal (evalD regs x)).getD undef) o) = some (.value r) ∧ ofVal r = v := by
    unfold execOp
    rw [ho]
    simp only [hx, hy, toVal, toScal, Option.getD_some]
    cases op <;> simp only [strV] at hv <;> try (cases hv; done)
    case add =>
      by_cases hl : a.length + b.length ≤ 1000000
      · rw [if_pos hl] at hv
        cases hv
        refine ⟨.string (⟨a.toArray⟩ ++ ⟨b.toArray⟩), ?_, ?_⟩
        · simp only [eqGuard, Go.binOp, Op.stringOp]
          have : ¬ ((((⟨a.toArray⟩ : ByteArray).size + (⟨b.toArray⟩ : ByteArray).size : Nat) : Int) > IntKind.i64.max) := by
            have h1 : (⟨a.toArray⟩ : ByteArray).size = a.length := by simp [ByteArray.size]
            have h2 : (⟨b.toArray⟩ : ByteArray).size = b.length := by simp [ByteArray.size]
            have h3 : IntKind.i64.max = 9223372036854775807 := by decide
            rw [h1, h2, h3]; omega
          rw [if_neg this]; rfl
        · simp [ofVal, ofScal]
      · rw [if_neg hl] at hv; cases hv
    all_goals
      cases hv
      refine ⟨.bool _, ?_, rfl⟩
      simp only [eqGuard, Go.binOp, Op.stringOp, ByteArray.toList_eq]
      rfl
  obtain ⟨r, h1, h2⟩ := key
  rw [← h2]
  exact plainD_val (fun cs b e => by rw [ho] at e; cases e) (two_ops ho (by rw [hx]; rfl) (by rw [hy]; rfl)) h1
theorem pureRun_bind {α β : Type} {s : Sem α} {f : α → Sem β} {a : α} (h : pureRun P s = some a) : pureRun P (s >>= f) = pureRun P (f a) := by
  induction s with
  | pure b => cases h; rfl
  | program g ih => exact ih _ h
  | _ => cases h
theorem pure_under {t : TypeId} {d : TypeDesc} (h : P.underlying t = some d) : pureRun P (underlying t) = some d := by
  show pureRun P (match P.underlying t with | some d => pure d | none => stuck "no such type") = _
  rw [h]; rfl
theorem equal_bool {t : TypeId} (ht : P.underlying t = some .bool) (n : Nat) (a b : Bool) : pureRun P (Op.equalIn (n + 1) t (.bool a) (.bool b)) = some (a == b) := by
  rw [Op.equalIn, pureRun_bind (pure_under ht)]
  rfl
theorem plain_beq {t yt : TypeId} {x y : Operand} {a b : Bool} {op : BinOp} {c : Bool} (ho : o.op = .binOp op t x y yt) (ht : P.underlying t = some .bool)
    (hx : evalD regs x = .bool a) (hy : evalD regs y = .bool b) (hc : (op = .eql ∧ c = (a == b)) ∨ (op = .neq ∧ c = !(a == b))) : plainD P regs o = some (.val (.bool c)) := by
  have h1 : pureRun P (Op.equal t (.bool a) (.bool b)) = some (a == b) := equal_bool ht 9999 a b
  have key : pureRun P (execOp (fun x => (toVal (evalD regs x)).getD undef) o) = some (.value (.bool c)) := by
    unfold execOp
    rw [ho]
    simp only [hx, hy, toVal, toScal, Option.getD_some]
    rcases hc with ⟨rfl, rfl⟩ | ⟨rfl, rfl⟩
    · show pureRun P ((do pure (Next.value (← (do pure (Value.bool (← Op.equal t (.bool a) (.bool b))) : Sem Value)))) : Sem Next) = _
      rw [pureRun_bind (a := Value.bool (a == b)) (by rw [pureRun_bind h1]; rfl)]; rfl
    · show pureRun P ((do pure (Next.value (← (do pure (Value.bool (!(← Op.equal t (.bool a) (.bool b)))) : Sem Value)))) : Sem Next) = _
      rw [pureRun_bind (a := Value.bool (!(a == b))) (by rw [pureRun_bind h1]; rfl)]; rfl
  exact plainD_val (fun cs b e => by rw [ho] at e; cases e) (two_ops ho (by rw [hx]; rfl) (by rw [hy]; rfl)) key
theorem equal_inil {t : TypeId} {ms : Array (String × TypeId)} (ht : P.underlying t = some (.interface ms)) (n : Nat) (u : TypeId) (v : Value) : pureRun P (Op.equalIn (n + 1) t (.iface u v) .nilIface) = some false ∧ pureRun P (Op.equalIn (n + 1) t .nilIface (.iface u v)) = some false := by
  constructor <;> rw [Op.equalIn, pureRun_bind (pure_under ht)] <;> rfl
theorem plain_inil {t yt : TypeId} {ms : Array (String × TypeId)} {x y : Operand} {op : BinOp} {c : Bool} {r : R} (ho : o.op = .binOp op t x y yt) (ht : P.underlying t = some (.interface ms))
    (hxy : (∃ u v, evalD regs x = .iface u v ∧ evalD regs y = .nili) ∨ (∃ u v, evalD regs x = .nili ∧ evalD regs y = .iface u v)) (hc : (op = .eql ∧ c = false) ∨ (op = .neq ∧ c = true)) (hp : plainD P regs o = some r) : r = .val (.bool c) := by
  have hall : ∀ z ∈ o.op.operands.toList, (toVal (evalD regs z)).isSome = true := by
    unfold plainD at hp
    split at hp
    · rename_i h; exact List.all_eq_true.1 h
    · cases hp
  have hx := hall x (by rw [ho]; simp [Op.operands])
  have hy := hall y (by rw [ho]; simp [Op.operands])
  have main : ∀ a b : Value, (toVal (evalD regs x)).getD undef = a → (toVal (evalD regs y)).getD undef = b → pureRun P (Op.equal t a b) = some false → (∀ k n, a ≠ .int k n) → (∀ k n, a ≠ .float k n) → (∀ k n m, a ≠ .complex k n m) → (∀ s, a ≠ .string s) →
      (∀ op', (op' = .eql ∨ op' = .neq) → Go.eqGuard op' t x y a b = pure ()) → (Go.binOp .eql t a b = do pure (.bool (← Op.equal t a b))) → (Go.binOp .neq t a b = do pure (.bool (!(← Op.equal t a b)))) → r = .val (.bool c) := by
    intro a b ea eb he _ _ _ _ hg h1 h2
    have key : pureRun P (execOp (fun x => (toVal (evalD regs x)).getD undef) o) = some (.value (.bool c)) := by
      unfold execOp
      rw [ho]
      simp only [ea, eb]
      rcases hc with ⟨rfl, rfl⟩ | ⟨rfl, rfl⟩
      · rw [hg _ (.inl rfl), h1]
        show pureRun P ((do pure (Next.value (← (do pure (Value.bool (← Op.equal t a b)) : Sem Value)))) : Sem Next) = _
        rw [pureRun_bind (a := Value.bool false) (by rw [pureRun_bind he]; rfl)]; rfl
      · rw [hg _ (.inr rfl), h2]
        show pureRun P ((do pure (Next.value (← (do pure (Value.bool (!(← Op.equal t a b))) : Sem Value)))) : Sem Next) = _
        rw [pureRun_bind (a := Value.bool true) (by rw [pureRun_bind he]; rfl)]; rfl
    have := plainD_val (P := P) (regs := regs) (o := o) (fun cs b e => by rw [ho] at e; cases e) hall key
    rw [hp] at this
    simpa [ofVal, ofScal] using this
  rcases hxy with ⟨u, v, e1, e2⟩ | ⟨u, v, e1, e2⟩
  · rw [e1] at hx
    rw [e1, e2] at main
    cases hv : toScal v with
    | none => simp [toVal, hv] at hx
    | some v' =>
      refine main (.iface u v') .nilIface (by simp [toVal, hv]) rfl (equal_inil ht 9999 u v').1 (fun k n e => by cases e) (fun k n e => by cases e) (fun k n m e => by cases e) (fun s e => by cases e) (fun op' h => ?_) rfl rfl
      rcases h with rfl | rfl <;> rfl
  · rw [e2] at hy
    rw [e1, e2] at main
    cases hv : toScal v with
    | none => simp [toVal, hv] at hy
    | some v' =>
      refine main .nilIface (.iface u v') rfl (by simp [toVal, hv]) (equal_inil ht 9999 u v').2 (fun k n e => by cases e) (fun k n e => by cases e) (fun k n m e => by cases e) (fun s e => by cases e) (fun op' h => ?_) rfl rfl
      rcases h with rfl | rfl <;> rfl
/-! Structs whose fields are numbers, texts, truths. -/
def eqCell (c : Nat) : V → V → Option Bool
  | .int i a, .int j b => if c = 0 ∧ i = j then some (a == b) else none
  | .str a, .str b => if c = 1 then some (a == b) else none
  | .bool a, .bool b => if c = 2 then some (a == b) else none
  | _, _ => none
def eqFlat : List (Nat × Nat) → List V → List V → Option Bool
  | [], _, _ => some true
  | p :: l, xs, ys => match xs[p.1]?, ys[p.1]? with
    | some v, some w => match eqCell p.2 v w with
      | some true => eqFlat l xs ys
      | some false => some false
      | none => none
    | _, _ => none
theorem toScals_get : ∀ {l : List V} {x : List Value}, toScals l = some x → ∀ (i : Nat) (v : V), l[i]? = some v → ∃ u, x[i]? = some u ∧ toScal v = some u
  | [], x, h, i, v, e => by simp at e
  | w :: l, x, h, i, v, e => by
    simp only [toScals] at h
    cases h1 : toScal w with
    | none => rw [h1] at h; cases h
    | some a =>
      cases h2 : toScals l with
      | none => rw [h1, h2] at h; cases h
      | some r =>
        rw [h1, h2] at h; cases h
        cases i with
        | zero => simp at e; subst e; exact ⟨a, rfl, h1⟩
        | succ i => simpa using toScals_get h2 i v (by simpa using e)
theorem pure_part {t : TypeId} {d : TypeDesc} (hd : P.underlying t = some d) (hn : (∃ k, d = .int k) ∨ d = .string ∨ d = .bool) {cs : Array Value} {off : Nat} {v : Value} (hv : cs[off]? = some v) : pureRun P (part t cs off) = some v := by
  have h1 : pureRun P (isAgg t) = some false := by
    unfold isAgg
    rw [pureRun_bind (pure_under hd)]
    rcases hn with ⟨k, rfl⟩ | rfl | rfl <;> rfl
  unfold part
  rw [pureRun_bind h1]
  simp only [Bool.false_eq_true, if_false, hv]
  rfl
theorem equal_cell {t : TypeId} {d : TypeDesc} (hd : P.underlying t = some d) {c : Nat} (hc : (c = 0 ∧ ∃ k, d = .int k) ∨ (c = 1 ∧ d = .string) ∨ (c = 2 ∧ d = .bool)) {v w : V} {b : Bool} (he : eqCell c v w = some b) {v' w' : Value} (hv : toScal v = some v') (hw : toScal w = some w') (n : Nat) :
    pureRun P (Op.equalIn (n + 1) t v' w') = some b := by
  rw [Op.equalIn, pureRun_bind (pure_under hd)]
  cases v <;> cases w <;> simp only [eqCell] at he <;> try (cases he; done)
  · split at he
    · rename_i a b' hc2
      rcases hc with ⟨rfl, k, rfl⟩ | ⟨rfl, rfl⟩ | ⟨rfl, rfl⟩ <;> first
        | (cases hc2; done)
        | skip
      cases hv; cases hw; cases he; rfl
    · cases he
  · split at he
    · rename_i i a j b' hc2
      obtain ⟨h0, rfl⟩ := hc2
      rcases hc with ⟨rfl, k, rfl⟩ | ⟨rfl, rfl⟩ | ⟨rfl, rfl⟩ <;> first
        | (cases h0; done)
        | skip
      cases hv; cases hw; cases he
      simp only [if_true]; rfl
    · cases he
  · split at he
    · rename_i a b' hc2
      rcases hc with ⟨rfl, k, rfl⟩ | ⟨rfl, rfl⟩ | ⟨rfl, rfl⟩ <;> first
        | (cases hc2; done)
        | skip
      cases hv; cases hw; cases he
      show some (({ data := a.toArray } : ByteArray) == { data := b'.toArray }) = some (a == b')
      congr 1
      rw [Bool.eq_iff_iff]
      unfold ByteArray.instBEq
      simp only [BEq.beq]
      simp only [ByteArray.beq]
      have e1 : a.beq b' = (a == b') := rfl
      rw [e1]
      simp
    · cases he
/-- The fields' list, as the evaluator has it. -/
inductive Flat (P : Program) : List Field → List (Nat × Nat) → Prop
  | nil : Flat P [] []
  | cons (f : Field) (l : List Field) (c : Nat) (r : List (Nat × Nat)) (d : TypeDesc) (hn : f.name ≠ "_") (hd : P.underlying f.type = some d) (hc : (c = 0 ∧ ∃ k, d = .int k) ∨ (c = 1 ∧ d = .string) ∨ (c = 2 ∧ d = .bool)) (t : Flat P l r) : Flat P (f :: l) ((f.offset, c) :: r)
theorem flatK_ok : ∀ {l : List Field} {r : List (Nat × Nat)}, flatK P l = some r → Flat P l r
  | [], r, h => by simp only [flatK] at h; cases h; exact .nil
  | f :: l, r, h => by
    simp only [flatK, undK_eq] at h
    cases hn : f.name == "_" with
    | true => rw [hn] at h; cases h
    | false =>
      rw [hn] at h
      have hn' : f.name ≠ "_" := by simpa using hn
      simp only [bcond_false] at h
      cases hu : P.underlying f.type with
      | none => rw [hu] at h; cases h
      | some d =>
        cases hr : flatK P l with
        | none => rw [hu, hr] at h; cases d <;> cases h
        | some r' =>
          rw [hu, hr] at h
          have ih := flatK_ok hr
          cases d <;> simp only at h <;> cases h
          · exact .cons f l 2 r' _ hn' hu (.inr (.inr ⟨rfl, rfl⟩)) ih
          · exact .cons f l 0 r' _ hn' hu (.inl ⟨rfl, _, rfl⟩) ih
          · exact .cons f l 1 r' _ hn' hu (.inr (.inl ⟨rfl, rfl⟩)) ih
theorem forIn_flat {n : Nat} {xs ys : List V} {xv yv : List Value} (hx : toScals xs = some xv) (hy : toScals ys = some yv) : ∀ {l : List Field} {r : List (Nat × Nat)} {b : Bool}, Flat P l r → eqFlat r xs ys = some b →
    pureRun P (forIn l ((none, ()) : Option Bool × Unit) (fun (f : Field) (_ : Option Bool × Unit) => (if f.name ≠ "_" then do
      let a ← part f.type xv.toArray f.offset
      let c ← part f.type yv.toArray f.offset
      let e ← Op.equalIn (n + 1) f.type a c
      if (!e) = true then pure (ForInStep.done (some false, ())) else pure (ForInStep.yield (none, ()))
      else pure (ForInStep.yield (none, ())) : Sem (ForInStep (Option Bool × Unit))))) = some (if b then (none, ()) else (some false, ()))
  | [], _, b, .nil, h => by simp only [eqFlat] at h; cases h; rfl
  | f :: l, _, b, .cons _ _ c r d hn hd hc t, h => by
    simp only [eqFlat] at h
    cases h1 : xs[f.offset]? with
    | none => rw [h1] at h; cases h
    | some v =>
      cases h2 : ys[f.offset]? with
      | none => rw [h1, h2] at h; cases h
      | some w =>
        rw [h1, h2] at h
        simp only at h
        obtain ⟨v', a1, a2⟩ := toScals_get hx _ _ h1
        obtain ⟨w', b1, b2⟩ := toScals_get hy _ _ h2
        have hk : (∃ k, d = .int k) ∨ d = .string ∨ d = .bool := by rcases hc with ⟨_, h⟩ | ⟨_, h⟩ | ⟨_, h⟩; exact .inl h; exact .inr (.inl h); exact .inr (.inr h)
        have p1 := pure_part hd hk (cs := xv.toArray) (by simpa using a1)
        have p2 := pure_part hd hk (cs := yv.toArray) (by simpa using b1)
        cases he : eqCell c v w with
        | none => rw [he] at h; cases h
        | some e =>
          rw [he] at h
          have p3 := equal_cell hd hc he a2 b2 n
          rw [List.forIn_cons, if_pos hn]
          have step : pureRun P (do
              let a ← part f.type xv.toArray f.offset
              let c ← part f.type yv.toArray f.offset
              let e ← Op.equalIn (n + 1) f.type a c
              if (!e) = true then pure (ForInStep.done (some false, ())) else pure (ForInStep.yield (none, ())) : Sem (ForInStep (Option Bool × Unit))) = some (if e then ForInStep.yield (none, ()) else ForInStep.done (some false, ())) := by
            rw [pureRun_bind p1, pureRun_bind p2, pureRun_bind p3]
            cases e <;> rfl
          rw [pureRun_bind step]
          cases e with
          | false => simp only at h; cases h; rfl
          | true =>
            simp only at h
            exact forIn_flat hx hy t h
theorem equal_flat {t : TypeId} {fields : Array Field} {r : List (Nat × Nat)} {xs ys : List V} {xv yv : List Value} {b : Bool} (ht : P.underlying t = some (.struct fields)) (hs : P.stoodInHeld t = false) (hf : Flat P fields.toList r) (hx : toScals xs = some xv) (hy : toScals ys = some yv) (he : eqFlat r xs ys = some b) (n : Nat) :
    pureRun P (Op.equalIn (n + 2) t (.agg xv.toArray) (.agg yv.toArray)) = some b := by
  rw [Op.equalIn, pureRun_bind (pure_under ht)]
  simp only
  rw [pureRun_bind (a := P) (show pureRun P program = some P from rfl)]
  rw [hs]
  simp only [Bool.false_eq_true, if_false]
  rw [← Array.forIn_toList, pureRun_bind (forIn_flat (n := n) hx hy hf he)]
  cases b <;> rfl
theorem plain_flat {t yt : TypeId} {x y : Operand} {op : BinOp} {fields : Array Field} {r : List (Nat × Nat)} {xs ys : List V} {xv yv : List Value} {b c : Bool} (ho : o.op = .binOp op t x y yt) (ht : P.underlying t = some (.struct fields)) (hs : P.stoodInHeld t = false) (hg : P.eqGuardType P.depth t = false) (hf : Flat P fields.toList r)
    (ex : evalD regs x = .agg xs) (ey : evalD regs y = .agg ys) (hx : toScals xs = some xv) (hy : toScals ys = some yv) (he : eqFlat r xs ys = some b) (hc : (op = .eql ∧ c = b) ∨ (op = .neq ∧ c = !b)) : plainD P regs o = some (.val (.bool c)) := by
  have hex : toVal (.agg xs) = some (.agg xv.toArray) := by simp [toVal, hx]
  have hey : toVal (.agg ys) = some (.agg yv.toArray) := by simp [toVal, hy]
  have h1 : pureRun P (Op.equal t (.agg xv.toArray) (.agg yv.toArray)) = some b := equal_flat ht hs hf hx hy he 9998
  have guard : ∀ op, (op = BinOp.eql ∨ op = BinOp.neq) → pureRun P (eqGuard op t x y (.agg xv.toArray) (.agg yv.toArray)) = some () := by
    intro op hop
    have : pureRun P (do if !(← program).eqGuardType (← program).depth t then return
                         if ← Op.eqGuardIn Op.maxDepth t (.agg xv.toArray) (.agg yv.toArray) then unsupported (.noEntry "binop/eql: two nil values of an interface type with methods, in a part of a struct or an array") : Sem Unit) = some () := by
      rw [pureRun_bind (a := P) (show pureRun P program = some P from rfl), pureRun_bind (a := P) (show pureRun P program = some P from rfl)]
      rw [hg]; rfl
    rcases hop with rfl | rfl <;> exact this
  have key : pureRun P (execOp (fun x => (toVal (evalD regs x)).getD undef) o) = some (.value (.bool c)) := by
    unfold execOp
    rw [ho]
    simp only [ex, ey, hex, hey, Option.getD_some]
    rcases hc with ⟨rfl, rfl⟩ | ⟨rfl, rfl⟩
    · show pureRun P ((do pure (Next.value (← (do eqGuard .eql t x y (.agg xv.toArray) (.agg yv.toArray); Go.binOp .eql t (.agg xv.toArray) (.agg yv.toArray) : Sem Value)))) : Sem Next) = _
      rw [pureRun_bind (a := Value.bool c) (by rw [pureRun_bind (guard _ (.inl rfl))]; show pureRun P ((do pure (Value.bool (← Op.equal t (.agg xv.toArray) (.agg yv.toArray)))) : Sem Value) = _; rw [pureRun_bind h1]; rfl)]; rfl
    · show pureRun P ((do pure (Next.value (← (do eqGuard .neq t x y (.agg xv.toArray) (.agg yv.toArray); Go.binOp .neq t (.agg xv.toArray) (.agg yv.toArray) : Sem Value)))) : Sem Next) = _
      rw [pureRun_bind (a := Value.bool (!b)) (by rw [pureRun_bind (guard _ (.inr rfl))]; show pureRun P ((do pure (Value.bool (!(← Op.equal t (.agg xv.toArray) (.agg yv.toArray))))) : Sem Value) = _; rw [pureRun_bind h1]; rfl)]; rfl
  exact plainD_val (fun cs b e => by rw [ho] at e; cases e) (two_ops ho (by rw [ex, hex]; rfl) (by rw [ey, hey]; rfl)) key
theorem plain_not {t : TypeId} {x : Operand} {b : Bool} (ho : o.op = .unOp .not t x) (hx : evalD regs x = .bool b) : plainD P regs o = some (.val (.bool (!b))) := by
  refine plainD_val (r := .bool (!b)) (fun cs b e => by rw [ho] at e; cases e) (by rw [ho]; intro z hz; simp only [Op.operands, List.mem_cons, List.not_mem_nil, or_false] at hz; subst hz; rw [hx]; rfl) ?_
  unfold execOp
  rw [ho]
  simp only [hx, toVal, toScal, Option.getD_some]
  rfl
theorem plain_neg {t : TypeId} {x : Operand} {k : IntKind} {n : Int} (ho : o.op = .unOp .neg t x) (hx : evalD regs x = .int k n) : plainD P regs o = some (.val (.int k (k.wrap (0 - n)))) := by
  refine plainD_val (r := .int k (k.wrap (0 - n))) (fun cs b e => by rw [ho] at e; cases e) (by rw [ho]; intro z hz; simp only [Op.operands, List.mem_cons, List.not_mem_nil, or_false] at hz; subst hz; rw [hx]; rfl) ?_
  unfold execOp
  rw [ho]
  simp only [hx, toVal, toScal, Option.getD_some]
  rfl
theorem wrap_mod (k : IntKind) {a b : Int} (h : a % (2 ^ k.bits : Int) = b % (2 ^ k.bits : Int)) : k.wrap a = k.wrap b := by
  simp only [IntKind.wrap, h]
theorem com_wrap (k : IntKind) (n : Int) : k.wrap ((BitVec.ofInt k.bits (-1) ^^^ BitVec.ofInt k.bits n).toNat : Int) = k.wrap (-(n + 1)) := by
  apply wrap_mod
  have e1 : BitVec.ofInt k.bits (-1) = BitVec.allOnes k.bits := by cases k <;> rfl
  rw [e1, BitVec.allOnes_xor, BitVec.toNat_not]
  have hp : (0 : Int) < 2 ^ k.bits := by cases k <;> decide
  have h1 := Int.emod_nonneg n (b := (2 ^ k.bits : Int)) (by omega)
  have h2 := Int.emod_lt_of_pos n hp
  have e2 : ((BitVec.ofInt k.bits n).toNat : Int) = n % (2 ^ k.bits : Int) := by
    rw [BitVec.toNat_ofInt]
    have : ((2 ^ k.bits : Nat) : Int) = (2 ^ k.bits : Int) := by rw [Int.natCast_pow]; rfl
    rw [this]; omega
  have hlt := (BitVec.ofInt k.bits n).isLt
  have e3 : ((2 ^ k.bits - 1 - (BitVec.ofInt k.bits n).toNat : Nat) : Int) = 2 ^ k.bits - 1 - n % (2 ^ k.bits : Int) := by
    have : ((2 ^ k.bits : Nat) : Int) = (2 ^ k.bits : Int) := by rw [Int.natCast_pow]; rfl
    omega
  rw [e3]
  have e4 : (2 ^ k.bits : Int) - 1 - n % (2 ^ k.bits : Int) = -(n + 1) + (2 ^ k.bits : Int) * (n / (2 ^ k.bits : Int) + 1) := by
    have := Int.mul_ediv_add_emod n (2 ^ k.bits : Int)
    rw [Int.mul_add]; omega
  rw [e4, Int.add_mul_emod_self_left]
theorem plain_com {t : TypeId} {x : Operand} {k : IntKind} {n : Int} (ho : o.op = .unOp .xor t x) (hx : evalD regs x = .int k n) (hk : Nat.blt (kIx k) 4 = true) : plainD P regs o = some (.val (.int k (k.wrap (-(n + 1))))) := by
  have hs : k.signed = true := by cases k <;> first | rfl | cases hk
  refine plainD_val (r := .int k (k.wrap (-(n + 1)))) (fun cs b e => by rw [ho] at e; cases e) (by rw [ho]; intro z hz; simp only [Op.operands, List.mem_cons, List.not_mem_nil, or_false] at hz; subst hz; rw [hx]; rfl) ?_
  unfold execOp
  rw [ho]
  simp only [hx, toVal, toScal, Option.getD_some]
  rw [← com_wrap]
  have e : Op.unary .xor (Value.int k n) = Op.intBits .xor k (-1) n := by
    show Op.intBits .xor k (if k.signed then -1 else k.max) n = _
    rw [hs]; rfl
  rw [e]
  rfl
theorem one_conv {s d : TypeId} {x : Operand} (ho : o.op = .convert s d x) (hx : (toVal (evalD regs x)).isSome = true) : ∀ z ∈ o.op.operands.toList, (toVal (evalD regs z)).isSome = true := by
  rw [ho]; intro z hz
  simp only [Op.operands, List.mem_cons, List.not_mem_nil, or_false] at hz
  subst hz; exact hx
theorem plain_convI {s d : TypeId} {x : Operand} {k j : IntKind} {n : Int} {sd : TypeDesc} (ho : o.op = .convert s d x) (hs : P.underlying s = some sd) (hd : P.underlying d = some (.int j)) (hx : evalD regs x = .int k n) : plainD P regs o = some (.val (.int j (j.wrap n))) := by
  refine plainD_val (r := .int j (j.wrap n)) (fun cs b e => by rw [ho] at e; cases e) (one_conv ho (by rw [hx]; rfl)) ?_
  unfold execOp
  rw [ho]
  simp only [hx, toVal, toScal, Option.getD_some, convert, underlying, program, bind, Sem.bind, pureRun, hs, hd, pure, Pure.pure]
  rfl
theorem plain_convS {s d : TypeId} {x : Operand} {a : List UInt8} {sd : TypeDesc} (ho : o.op = .convert s d x) (hs : P.underlying s = some sd) (hd : P.underlying d = some .string) (hx : evalD regs x = .str a) : plainD P regs o = some (.val (.str a)) := by
  have := plainD_val (P := P) (regs := regs) (o := o) (r := .string ⟨a.toArray⟩) (fun cs b e => by rw [ho] at e; cases e) (one_conv ho (by rw [hx]; rfl)) (by
    unfold execOp
    rw [ho]
    simp only [hx, toVal, toScal, Option.getD_some, convert, underlying, program, bind, Sem.bind, pureRun, hs, hd, pure, Pure.pure])
  simpa [ofVal, ofScal] using this
theorem call_ops {c : Call} {b : Builtin} (ho : o.op = .call c) (hc : c.callee = .builtin b) (h : ∀ x ∈ c.args.toList, (toVal (evalD regs x)).isSome = true) : ∀ z ∈ o.op.operands.toList, (toVal (evalD regs z)).isSome = true := by
  rw [ho]; intro z hz
  simp only [Op.operands, Call.operands, hc] at hz
  exact h z (by simpa using hz)
theorem plain_len {c : Call} {x : Operand} {t : TypeId} {d : TypeDesc} {v : Value} {n : Nat} (ho : o.op = .call c) (hc : c.callee = .builtin .len) (ha : c.args.toList = [x]) (ht : c.argTypes[0]? = some t) (hu : P.underlying t = some d) (hx : toVal (evalD regs x) = some v)
    (hd : (d = .string ∧ ∃ s, v = .string s ∧ s.size = n) ∨ (∃ e, d = .slice e ∧ v = .slice Option.none n 0)) : plainD P regs o = some (.val (.int .i64 n)) := by
  have hargs : c.args = #[x] := by rw [← Array.toArray_toList (xs := c.args), ha]
  refine plainD_val (r := .int .i64 n) (fun cs b e => by rw [ho] at e; cases e) (call_ops ho hc (by rw [ha]; intro z hz; simp at hz; subst hz; rw [hx]; rfl)) ?_
  have hl : pureRun P (Builtin.len_ c.argTypes o.type #[v]) = some (.int .i64 n) := by
    unfold Builtin.len_
    simp only [ht]
    show pureRun P (underlying t >>= _) = _
    rw [pureRun_bind (pure_under hu)]
    rcases hd with ⟨rfl, s, rfl, rfl⟩ | ⟨e, rfl, rfl⟩ <;> rfl
  unfold execOp
  rw [ho]
  simp only [resolve, hc, hargs]
  have : (#[x] : Array Operand).map (fun x => (toVal (evalD regs x)).getD undef) = #[v] := by simp [hx]
  rw [this]
  show pureRun P ((do pure (Next.value (← Builtin.len_ c.argTypes o.type #[v]))) : Sem Next) = _
  rw [pureRun_bind hl]; rfl
def mmV (mx : Bool) (x : Int) : List Int → Int
  | [] => x
  | y :: l => mmV mx (if mx then (if y > x then y else x) else (if y < x then y else x)) l
theorem fold_max (k : IntKind) : ∀ (l : List Int) (ks : List IntKind) (x : Int), ks.length = l.length → pureRun P ((List.zipWith (fun k n => Value.int k n) ks l).foldlM Builtin.max2 (.int k x)) = some (.int k (mmV true x l))
  | [], ks, x, h => by cases ks <;> first | rfl | cases h
  | y :: l, [], x, h => by cases h
  | y :: l, j :: ks, x, h => by
    simp only [List.zipWith_cons_cons, List.foldlM_cons, Builtin.max2, mmV, if_true]
    exact fold_max k l ks _ (by simpa using h)
theorem fold_min (k : IntKind) : ∀ (l : List Int) (ks : List IntKind) (x : Int), ks.length = l.length → pureRun P ((List.zipWith (fun k n => Value.int k n) ks l).foldlM Builtin.min2 (.int k x)) = some (.int k (mmV false x l))
  | [], ks, x, h => by cases ks <;> first | rfl | cases h
  | y :: l, [], x, h => by cases h
  | y :: l, j :: ks, x, h => by
    simp only [List.zipWith_cons_cons, List.foldlM_cons, Builtin.min2, mmV, Bool.false_eq_true, if_false]
    exact fold_min k l ks _ (by simpa using h)
theorem plain_mm {c : Call} {mx : Bool} {x : Operand} {l : List Operand} {k : IntKind} {n : Int} {ks : List IntKind} {ns : List Int} (ho : o.op = .call c) (hc : c.callee = .builtin (if mx then .max else .min)) (ha : c.args.toList = x :: l)
    (hx : evalD regs x = .int k n) (hl : ks.length = ns.length) (hns : l.map (evalD regs) = List.zipWith (fun k n => V.int k n) ks ns) : plainD P regs o = some (.val (.int k (mmV mx n ns))) := by
  have hall : ∀ z ∈ l, (toVal (evalD regs z)).isSome = true := by
    intro z hz
    have : evalD regs z ∈ List.zipWith (fun k n => V.int k n) ks ns := by rw [← hns]; exact List.mem_map_of_mem hz
    obtain ⟨i, hi, he⟩ := List.mem_iff_getElem.1 this
    rw [← he]; simp [toVal, toScal]
  have hvals : l.map (fun z => (toVal (evalD regs z)).getD undef) = List.zipWith (fun k n => Value.int k n) ks ns := by
    have : l.map (fun z => (toVal (evalD regs z)).getD undef) = (l.map (evalD regs)).map fun v => (toVal v).getD undef := by rw [List.map_map]; rfl
    rw [this, hns, List.map_zipWith]; rfl
  refine plainD_val (r := .int k (mmV mx n ns)) (fun cs b e => by rw [ho] at e; cases e) (call_ops ho hc (by rw [ha]; intro z hz; rcases List.mem_cons.1 hz with e | e; subst e; rw [hx]; rfl; exact hall z e)) ?_
  have hargs : c.args.map (fun z => (toVal (evalD regs z)).getD undef) = (Value.int k n :: List.zipWith (fun k n => Value.int k n) ks ns).toArray := by
    apply Array.toList_inj.1
    rw [Array.toList_map, ha, List.map_cons, hvals, hx]; rfl
  unfold execOp
  rw [ho]
  simp only [resolve, hc]
  cases mx with
  | true =>
    simp only [if_true, hargs]
    show pureRun P ((do pure (Next.value (← Builtin.max_ c.argTypes o.type _))) : Sem Next) = _
    simp only [Builtin.max_]
    rw [pureRun_bind (fold_max (P := P) k ns ks n hl)]; rfl
  | false =>
    simp only [Bool.false_eq_true, if_false, hargs]
    show pureRun P ((do pure (Next.value (← Builtin.min_ c.argTypes o.type _))) : Sem Next) = _
    simp only [Builtin.min_]
    rw [pureRun_bind (fold_min (P := P) k ns ks n hl)]; rfl
end
end Go.Sx

/- The kernel's evaluator against the plain one: operators, texts, conversions. -/
namespace Go.Sx
noncomputable section

/-! ### Closed values -/
mutual
theorem KV.toV_abs (ρ : Nat → Int) : ∀ {v : KV} {x : V}, KV.toV v = some x → abs ρ v = x
  | .none, x, h => by simp only [KV.toV] at h; cases h; simp [abs]
  | .bool b, x, h => by simp only [KV.toV] at h; cases h; simp [abs]
  | .int k n, x, h => by
    simp only [KV.toV] at h
    cases hc : n.cst with
    | none => rw [hc] at h; cases h
    | some i => rw [hc] at h; cases h; simp only [abs, KI.cst_ev hc]
  | .str s, x, h => by
    simp only [KV.toV] at h
    cases hc : bytesK s with
    | none => rw [hc] at h; cases h
    | some l => rw [hc] at h; cases h; simp only [abs, bytesK_abs ρ hc]
  | .ptr b o, x, h => by simp only [KV.toV] at h; cases h; simp [abs]
  | .nilp, x, h => by simp only [KV.toV] at h; cases h; simp [abs]
  | .slice b o l c, x, h => by simp only [KV.toV] at h; cases h; simp [abs]
  | .nils, x, h => by simp only [KV.toV] at h; cases h; simp [abs]
  | .func f a c, x, h => by
    simp only [KV.toV] at h
    cases h1 : KV.toVs a with
    | none => rw [h1] at h; cases h
    | some a' =>
      cases h2 : KV.toVs c with
      | none => rw [h1, h2] at h; cases h
      | some c' => rw [h1, h2] at h; cases h; simp only [abs, KV.toVs_abs ρ h1, KV.toVs_abs ρ h2]
  | .nilf, x, h => by simp only [KV.toV] at h; cases h; simp [abs]
  | .iface t v, x, h => by
    simp only [KV.toV] at h
    cases h1 : KV.toV v with
    | none => rw [h1] at h; cases h
    | some v' => rw [h1] at h; cases h; simp only [abs, KV.toV_abs ρ h1]
  | .nili, x, h => by simp only [KV.toV] at h; cases h; simp [abs]
  | .agg l, x, h => by
    simp only [KV.toV] at h
    cases h1 : KV.toVs l with
    | none => rw [h1] at h; cases h
    | some v' => rw [h1] at h; cases h; simp only [abs, KV.toVs_abs ρ h1]
  | .tuple l, x, h => by
    simp only [KV.toV] at h
    cases h1 : KV.toVs l with
    | none => rw [h1] at h; cases h
    | some v' => rw [h1] at h; cases h; simp only [abs, KV.toVs_abs ρ h1]
theorem KV.toVs_abs (ρ : Nat → Int) : ∀ {l : List KV} {x : List V}, KV.toVs l = some x → absL ρ l = x
  | [], x, h => by simp only [KV.toVs] at h; cases h; simp [absL]
  | v :: l, x, h => by
    simp only [KV.toVs] at h
    cases h1 : KV.toV v with
    | none => rw [h1] at h; cases h
    | some v' =>
      cases h2 : KV.toVs l with
      | none => rw [h1, h2] at h; cases h
      | some l' => rw [h1, h2] at h; cases h; simp only [absL, KV.toV_abs ρ h1, KV.toVs_abs ρ h2]
theorem bytesK_abs (ρ : Nat → Int) : ∀ {s : List KI} {l : List UInt8}, bytesK s = some l → s.map (byteV ρ) = l
  | [], l, h => by simp only [bytesK] at h; cases h; rfl
  | .p n :: s, l, h => by
    simp only [bytesK] at h
    split at h
    · rename_i hn
      cases h1 : bytesK s with
      | none => rw [h1] at h; cases h
      | some r => rw [h1] at h; cases h; simp only [List.map_cons, bytesK_abs ρ h1, byteV, KI.ev]; simp
    · cases h
  | .m n :: s, l, h => by simp only [bytesK] at h; cases h
  | .a c ts :: s, l, h => by simp only [bytesK] at h; cases h
end
theorem scalK_abs (ρ : Nat → Int) {v : V} {x : KV} (h : scalK v = some x) : abs ρ x = v := by
  cases v <;> simp only [scalK] at h <;> cases h <;> simp only [abs, KI.ofInt_ev]
  rename_i s
  congr 1
  rw [List.map_map]
  conv => rhs; rw [← List.map_id s]
  exact List.map_congr_left fun c _ => by simp [byteV, KI.ev]
theorem globK_abs (ρ : Nat → Int) (g : Nat) : abs ρ (bcond (globIs g) (KV.ptr g 0) KV.none) = if globIs g = true then V.ptr g 0 else V.none := by
  cases hb : globIs g with
  | true => simp only [bcond_true, abs, if_true]
  | false => simp only [bcond_false, abs]; rfl
theorem evalK_den {ρ : Nat → Int} {rd : Nat} {rg : Regs rd} {regs : Nat → V} (hr : RegsOK ρ rd rg regs) (x : Operand) : abs ρ (evalK rd rg x) = evalD regs x := by
  cases x with
  | tmp t => simp only [evalK, evalD, hr t]
  | const v => exact ofValK_abs ρ v
  | global g => exact globK_abs ρ g
  | func f => simp [evalK, abs, evalD, absL]

section
variable {P : Program} {S : FuncId → List V → Option V} {ρ : Nat → Int} {rd : Nat} {cx : Cx} {rg : Regs rd} {M : KM} {st : St} {slot : Option Nat} {o : Oper} {k kp : KK}
theorem plainK_sound (h : RegsOK ρ rd rg st.regs) {f : KV → Bool} (hk : plainK P rd rg o f = true) : ∃ v, plainD P st.regs o = some (.val (abs ρ v)) ∧ f v = true := by
  unfold plainK at hk
  obtain ⟨hall, hk⟩ := bcond_and hk
  split at hk
  · rename_i r hp
    split at hk
    · rename_i v hv
      have e2 : plainD P st.regs o = plainD P (fun t => ((evalK rd rg (.tmp t)).toV).getD .none) o := by
        apply plainD_congr
        intro x hx
        have := List.all_eq_true.1 hall x (by simpa using hx)
        obtain ⟨y, hy⟩ := Option.isSome_iff_exists.1 this
        rw [← evalK_den h x, KV.toV_abs ρ hy]
        cases x with
        | tmp t => simp only [evalD, hy, Option.getD_some]
        | const c =>
          have := KV.toV_abs ρ hy
          rw [← this]
          exact (ofValK_abs ρ c)
        | global g => have := KV.toV_abs ρ hy; rw [← this]; exact globK_abs ρ g
        | func f => have := KV.toV_abs ρ hy; rw [← this]; simp [evalK, abs, absL, evalD]
      cases r with
      | val w =>
        simp only [scalR] at hv
        have ew := scalK_abs ρ hv
        have hk : f v = true := by
          cases v <;> simp only [deepV, forceI_eq, deepS_eq] at hk <;> first | exact hk | (cases hk; done) | skip
          rename_i b; cases b <;> exact hk
        exact ⟨v, by rw [e2, hp, ew], hk⟩
      | skip => cases hv
      | panic w => cases hv
    · cases hk
  · cases hk
theorem opD_plain (hb : ∀ op t x y yt, o.op = .binOp op t x y yt → True) {v : V} (hp : plainD P st.regs o = some (.val v)) (hop : (∃ op t x y yt, o.op = .binOp op t x y yt) ∨ (∃ op t x, o.op = .unOp op t x) ∨ (∃ s d x, o.op = .convert s d x) ∨ (∃ c b, o.op = .call c ∧ c.callee = .builtin b)) {cl : Cl} : opD P cl st slot o = some (.val v, st.m) := by
  rcases hop with ⟨op, t, x, y, yt, e⟩ | ⟨op, t, x, e⟩ | ⟨s, d, x, e⟩ | ⟨c, b, e, ec⟩ <;> simp only [opD, e, hp]
  simp only [ec]

theorem str_len (s : List KI) : (s.map (byteV ρ)).length = s.length := by simp
theorem eqS_sound : ∀ {s t : List KI} {cx : Cx} {f : Cx → Bool → Bool}, (∀ x ∈ s, 0 ≤ x.ev ρ ∧ x.ev ρ < 256) → (∀ x ∈ t, 0 ≤ x.ev ρ ∧ x.ev ρ < 256) → Sat ρ cx → eqS s t cx f = true → ∃ cx', Sat ρ cx' ∧ f cx' (s.map (byteV ρ) == t.map (byteV ρ)) = true
  | [], [], cx, f, _, _, hs, h => ⟨cx, hs, h⟩
  | [], y :: t, cx, f, _, _, hs, h => ⟨cx, hs, h⟩
  | x :: s, [], cx, f, _, _, hs, h => ⟨cx, hs, h⟩
  | x :: s, y :: t, cx, f, h1, h2, hs, h => by
    change cmpK .eql cx x y (fun cx b => Bool.rec (f cx false) (eqS s t cx f) b) = true at h
    obtain ⟨cx1, b, s1, h, e⟩ := cmpK_sound hs h
    simp only [cmpV, Option.some.injEq] at e
    have bx := byteV_nat (h1 x (List.mem_cons_self ..))
    have bt := byteV_nat (h2 y (List.mem_cons_self ..))
    cases b with
    | false =>
      refine ⟨cx1, s1, ?_⟩
      have hne : byteV ρ x ≠ byteV ρ y := fun e2 => by
        have : x.ev ρ = y.ev ρ := by rw [← bx, ← bt, e2]
        rw [this] at e; simp at e
      have : (List.map (byteV ρ) (x :: s) == List.map (byteV ρ) (y :: t)) = false := by simp [hne]
      rw [this]; exact h
    | true =>
      have he : x.ev ρ = y.ev ρ := by simpa using e
      have hb : byteV ρ x = byteV ρ y := by unfold byteV; rw [he]
      obtain ⟨cx2, s2, h⟩ := eqS_sound (fun z hz => h1 z (List.mem_cons_of_mem _ hz)) (fun z hz => h2 z (List.mem_cons_of_mem _ hz)) s1 h
      refine ⟨cx2, s2, ?_⟩
      have : (List.map (byteV ρ) (x :: s) == List.map (byteV ρ) (y :: t)) = (List.map (byteV ρ) s == List.map (byteV ρ) t) := by simp [hb]
      rw [this]; exact h
theorem ltS_sound : ∀ {s t : List KI} {cx : Cx} {f : Cx → Bool → Bool}, (∀ x ∈ s, 0 ≤ x.ev ρ ∧ x.ev ρ < 256) → (∀ x ∈ t, 0 ≤ x.ev ρ ∧ x.ev ρ < 256) → Sat ρ cx → ltS s t cx f = true → ∃ cx', Sat ρ cx' ∧ f cx' (Op.bytesLess (s.map (byteV ρ)) (t.map (byteV ρ))) = true
  | [], [], cx, f, _, _, hs, h => ⟨cx, hs, h⟩
  | [], y :: t, cx, f, _, _, hs, h => ⟨cx, hs, h⟩
  | x :: s, [], cx, f, _, _, hs, h => ⟨cx, hs, h⟩
  | x :: s, y :: t, cx, f, h1, h2, hs, h => by
    change cmpK .lss cx x y (fun cx b => Bool.rec (cmpK .eql cx x y fun cx b => Bool.rec (f cx false) (ltS s t cx f) b) (f cx true) b) = true at h
    obtain ⟨cx1, b, s1, h, e⟩ := cmpK_sound hs h
    simp only [cmpV, Option.some.injEq] at e
    have bx := byteV_nat (h1 x (List.mem_cons_self ..))
    have bt := byteV_nat (h2 y (List.mem_cons_self ..))
    have hlt : (byteV ρ x < byteV ρ y) ↔ x.ev ρ < y.ev ρ := by rw [UInt8.lt_iff_toNat_lt, ← bx, ← bt]; exact Int.ofNat_lt.symm
    cases b with
    | true =>
      refine ⟨cx1, s1, ?_⟩
      have he : x.ev ρ < y.ev ρ := by simpa using e
      have : Op.bytesLess (List.map (byteV ρ) (x :: s)) (List.map (byteV ρ) (y :: t)) = true := by simp [Op.bytesLess, hlt.2 he]
      rw [this]; exact h
    | false =>
      have hnl : ¬ x.ev ρ < y.ev ρ := by simpa using e
      obtain ⟨cx2, b2, s2, h, e2⟩ := cmpK_sound s1 h
      simp only [cmpV, Option.some.injEq] at e2
      cases b2 with
      | false =>
        refine ⟨cx2, s2, ?_⟩
        have hne : byteV ρ x ≠ byteV ρ y := fun e3 => by
          have : x.ev ρ = y.ev ρ := by rw [← bx, ← bt, e3]
          rw [this] at e2; simp at e2
        have : Op.bytesLess (List.map (byteV ρ) (x :: s)) (List.map (byteV ρ) (y :: t)) = false := by
          simp only [List.map_cons, Op.bytesLess, Bool.or_eq_false_iff, decide_eq_false_iff_not, Bool.and_eq_false_iff, beq_eq_false_iff_ne]
          exact ⟨fun q => hnl (hlt.1 q), .inl hne⟩
        rw [this]; exact h
      | true =>
        have he : x.ev ρ = y.ev ρ := by simpa using e2
        have hb : byteV ρ x = byteV ρ y := by unfold byteV; rw [he]
        obtain ⟨cx3, s3, h⟩ := ltS_sound (fun z hz => h1 z (List.mem_cons_of_mem _ hz)) (fun z hz => h2 z (List.mem_cons_of_mem _ hz)) s2 h
        refine ⟨cx3, s3, ?_⟩
        have : Op.bytesLess (List.map (byteV ρ) (x :: s)) (List.map (byteV ρ) (y :: t)) = Op.bytesLess (List.map (byteV ρ) s) (List.map (byteV ρ) t) := by
          simp only [List.map_cons, Op.bytesLess, hb]
          have : ¬ byteV ρ y < byteV ρ y := by rw [UInt8.lt_iff_toNat_lt]; omega
          simp [this]
        rw [this]; exact h
theorem notF_run {f : Cx → KV → Bool} {cx : Cx} {b : Bool} (h : notF f cx b = true) : f cx (.bool (!b)) = true := by cases b <;> exact h
theorem strBinK_sound {op : BinOp} {s t : List KI} {f : Cx → KV → Bool} (hs : Sat ρ cx) (h : strBinK op s t cx f = true) : ∃ cx' v, Sat ρ cx' ∧ f cx' v = true ∧ strV op (s.map (byteV ρ)) (t.map (byteV ρ)) = some (abs ρ v) := by
  cases op <;> simp only [strBinK] at h <;> try (cases h; done)
  case add =>
    rw [lenC_eq, lenC_eq] at h
    obtain ⟨h1, h⟩ := bcond_and h
    rw [appL_eq] at h
    have h1 := ble_iff.1 h1
    refine ⟨cx, .str (s ++ t), hs, h, ?_⟩
    simp only [strV, List.length_map, abs, List.map_append]
    exact if_pos h1
  case eql =>
    obtain ⟨h1, h⟩ := bcond_and h
    obtain ⟨h2, h⟩ := bcond_and h
    obtain ⟨cx', s', h⟩ := eqS_sound (strOk_sound hs h1) (strOk_sound hs h2) hs h
    exact ⟨cx', .bool _, s', boolF_run h, by simp only [strV, abs]⟩
  case neq =>
    obtain ⟨h1, h⟩ := bcond_and h
    obtain ⟨h2, h⟩ := bcond_and h
    obtain ⟨cx', s', h⟩ := eqS_sound (strOk_sound hs h1) (strOk_sound hs h2) hs h
    exact ⟨cx', .bool _, s', notF_run h, by simp only [strV, abs]⟩
  case lss =>
    obtain ⟨h1, h⟩ := bcond_and h
    obtain ⟨h2, h⟩ := bcond_and h
    obtain ⟨cx', s', h⟩ := ltS_sound (strOk_sound hs h1) (strOk_sound hs h2) hs h
    exact ⟨cx', .bool _, s', boolF_run h, by simp only [strV, abs]⟩
  case geq =>
    obtain ⟨h1, h⟩ := bcond_and h
    obtain ⟨h2, h⟩ := bcond_and h
    obtain ⟨cx', s', h⟩ := ltS_sound (strOk_sound hs h1) (strOk_sound hs h2) hs h
    exact ⟨cx', .bool _, s', notF_run h, by simp only [strV, abs]⟩
  case gtr =>
    obtain ⟨h1, h⟩ := bcond_and h
    obtain ⟨h2, h⟩ := bcond_and h
    obtain ⟨cx', s', h⟩ := ltS_sound (strOk_sound hs h1) (strOk_sound hs h2) hs h
    cases hb : Op.bytesLess (s.map (byteV ρ)) (t.map (byteV ρ)) with
    | true =>
      rw [hb] at h
      exact ⟨cx', .bool false, s', h, by simp only [strV, abs, hb, Bool.true_or, Bool.not_true]⟩
    | false =>
      rw [hb] at h
      have h : eqS s t cx' (notF f) = true := h
      obtain ⟨cx2, s2, h⟩ := eqS_sound (strOk_sound hs h1) (strOk_sound hs h2) s' h
      exact ⟨cx2, .bool _, s2, notF_run h, by simp only [strV, abs, hb, Bool.false_or]⟩
  case leq =>
    obtain ⟨h1, h⟩ := bcond_and h
    obtain ⟨h2, h⟩ := bcond_and h
    obtain ⟨cx', s', h⟩ := ltS_sound (strOk_sound hs h1) (strOk_sound hs h2) hs h
    cases hb : Op.bytesLess (s.map (byteV ρ)) (t.map (byteV ρ)) with
    | true =>
      rw [hb] at h
      exact ⟨cx', .bool true, s', h, by simp only [strV, abs, hb, Bool.true_or]⟩
    | false =>
      rw [hb] at h
      have h : eqS s t cx' (boolF f) = true := h
      obtain ⟨cx2, s2, h⟩ := eqS_sound (strOk_sound hs h1) (strOk_sound hs h2) s' h
      exact ⟨cx2, .bool _, s2, boolF_run h, by simp only [strV, abs, hb, Bool.false_or]⟩

theorem svIs_true {cx : Cx} {v : Nat} (h : svIs cx v = true) : ∃ b, cx.box[v]? = some b ∧ b.1 = svLo := by
  unfold svIs at h
  rw [nthB_eq] at h
  cases hb : cx.box[v]? with
  | none => rw [hb] at h; cases h
  | some b => rw [hb] at h; exact ⟨b, rfl, of_decide_eq_true h⟩
theorem svK_ev (v : Nat) : (svK v).ev ρ = ρ v := by simp [svK, KI.ev, evT]
theorem svK_ok {cx : Cx} {v w : Nat} (hs : Sat ρ cx) (h1 : svIs cx v = true) (h2 : svIs cx w = true) :
    Op.bytesLess (svS ρ v) (svS ρ w) = decide ((svK v).ev ρ < (svK w).ev ρ) ∧ (svS ρ v == svS ρ w) = decide ((svK v).ev ρ = (svK w).ev ρ) := by
  obtain ⟨a, e1, l1⟩ := svIs_true h1
  obtain ⟨b, e2, l2⟩ := svIs_true h2
  rw [svK_ev, svK_ev]
  exact hs.sv v w a b e1 e2 l1 l2
theorem sv_lss {cx : Cx} {v w : Nat} {f : Cx → Bool → Bool} (hs : Sat ρ cx) (h1 : svIs cx v = true) (h2 : svIs cx w = true) (h : cmpK .lss cx (svK v) (svK w) f = true) :
    ∃ cx', Sat ρ cx' ∧ f cx' (Op.bytesLess (svS ρ v) (svS ρ w)) = true := by
  obtain ⟨cx', r, s', h, e⟩ := cmpK_sound hs h
  simp only [cmpV, Option.some.injEq] at e
  refine ⟨cx', s', ?_⟩
  rw [(svK_ok hs h1 h2).1, e]; exact h
theorem sv_eql {cx : Cx} {v w : Nat} {f : Cx → Bool → Bool} (hs : Sat ρ cx) (h1 : svIs cx v = true) (h2 : svIs cx w = true) (h : cmpK .eql cx (svK v) (svK w) f = true) :
    ∃ cx', Sat ρ cx' ∧ f cx' (svS ρ v == svS ρ w) = true := by
  obtain ⟨cx', r, s', h, e⟩ := cmpK_sound hs h
  simp only [cmpV, Option.some.injEq] at e
  refine ⟨cx', s', ?_⟩
  rw [(svK_ok hs h1 h2).2, show decide ((svK v).ev ρ = (svK w).ev ρ) = r by rw [← e]; rfl]; exact h
theorem sv_back {cx : Cx} {v w : Nat} (hs : Sat ρ cx) (h1 : svIs cx v = true) (h2 : svIs cx w = true) : Op.bytesLess (svS ρ w) (svS ρ v) = !(Op.bytesLess (svS ρ v) (svS ρ w) || svS ρ v == svS ρ w) := by
  rw [(svK_ok hs h2 h1).1, (svK_ok hs h1 h2).1, (svK_ok hs h1 h2).2]
  by_cases c : (svK w).ev ρ < (svK v).ev ρ
  · rw [decide_eq_true c, decide_eq_false (by omega), decide_eq_false (by omega)]; rfl
  · rw [decide_eq_false c]
    by_cases d : (svK v).ev ρ < (svK w).ev ρ
    · rw [decide_eq_true d]; rfl
    · rw [decide_eq_false d, decide_eq_true (by omega)]; rfl
theorem svBinK_sound {op : BinOp} {v w : Nat} {f : Cx → KV → Bool} (hs : Sat ρ cx) (h : svBinK op v w cx f = true) : ∃ cx' u, Sat ρ cx' ∧ f cx' u = true ∧ strV op (svS ρ v) (svS ρ w) = some (abs ρ u) := by
  unfold svBinK at h
  obtain ⟨h1, h⟩ := bcond_and h
  obtain ⟨h2, h⟩ := bcond_and h
  cases op <;> simp only at h <;> try (cases h; done)
  case eql => obtain ⟨cx', s', h⟩ := sv_eql hs h1 h2 h; exact ⟨cx', .bool _, s', boolF_run h, by simp only [strV, abs]⟩
  case neq => obtain ⟨cx', s', h⟩ := sv_eql hs h1 h2 h; exact ⟨cx', .bool _, s', notF_run h, by simp only [strV, abs]⟩
  case lss => obtain ⟨cx', s', h⟩ := sv_lss hs h1 h2 h; exact ⟨cx', .bool _, s', boolF_run h, by simp only [strV, abs]⟩
  case geq => obtain ⟨cx', s', h⟩ := sv_lss hs h1 h2 h; exact ⟨cx', .bool _, s', notF_run h, by simp only [strV, abs]⟩
  case gtr => obtain ⟨cx', s', h⟩ := sv_lss hs h2 h1 h; exact ⟨cx', .bool _, s', boolF_run h, by simp only [strV, abs, sv_back hs h1 h2]⟩
  case leq => obtain ⟨cx', s', h⟩ := sv_lss hs h2 h1 h; exact ⟨cx', .bool _, s', notF_run h, by simp only [strV, abs, sv_back hs h1 h2, Bool.not_not]⟩

theorem RunsTo.plain {kv : KV} (hm : DenM ρ M st.m) (hs : Sat ρ cx) (h : k cx kv M = true) (e : plainD P st.regs o = some (.val (abs ρ kv)))
    (hop : (∃ op t x y yt, o.op = .binOp op t x y yt) ∨ (∃ op t x, o.op = .unOp op t x) ∨ (∃ s d x, o.op = .convert s d x) ∨ (∃ c b, o.op = .call c ∧ c.callee = .builtin b)) : RunsTo P S ρ st slot o k kp :=
  RunsTo.val hm hs h (opD_plain (fun _ _ _ _ _ _ => trivial) e hop)
theorem kIx_inj {i j : IntKind} (h : Nat.beq (kIx i) (kIx j) = true) : i = j := by cases i <;> cases j <;> first | rfl | cases h
theorem neNilK_abs {d : Option TypeDesc} {v w : KV} (h : neNilK (nsOf d) v w = true) : ∃ d', d = some d' ∧ neNil d' (abs ρ v) (abs ρ w) = true := by
  cases d with
  | none => simp only [nsOf] at h; cases v <;> cases w <;> cases h
  | some d =>
    refine ⟨d, rfl, ?_⟩
    cases d <;> simp only [nsOf] at h <;> cases v <;> (try (cases h; done)) <;> cases w <;> (try (cases h; done)) <;> simp only [abs, neNil]

theorem nsK_cases (P : Program) (t : TypeId) : nsK P t = nsOf (P.underlying t) ∨ ∃ fields l, P.underlying t = some (.struct fields) ∧ nsK P t = .agg l ∧ P.stoodInHeld t = false ∧ P.eqGuardType P.depth t = false ∧ flatK P fields.toList = some l := by
  unfold nsK
  rw [undK_eq]
  cases hu : P.underlying t with
  | none => exact .inl rfl
  | some d =>
    cases d <;> try exact .inl rfl
    rename_i fields
    simp only
    cases h1 : P.stoodInHeld t with
    | true => exact .inl rfl
    | false =>
      cases h2 : P.eqGuardType P.depth t with
      | true => exact .inl rfl
      | false =>
        cases h3 : flatK P fields.toList with
        | none => exact .inl rfl
        | some l => exact .inr ⟨fields, l, rfl, rfl, rfl, rfl, h3⟩
theorem scalsOk_sound : ∀ {l : List KV}, scalsOk l = true → ∃ xv, toScals (absL ρ l) = some xv
  | [], _ => ⟨[], by simp [absL, toScals]⟩
  | v :: l, h => by
    have h' : (Bool.rec false (scalsOk l) (scalOk v) : Bool) = true := h
    obtain ⟨h1, h2⟩ := rec_and h'
    obtain ⟨xv, e⟩ := scalsOk_sound h2
    cases v <;> simp only [scalOk] at h1 <;> try (cases h1; done)
    all_goals (simp only [absL, abs, toScals, toScal, e]; exact ⟨_, rfl⟩)
theorem eqScal_sound {c : Nat} {v w : KV} {cx : Cx} {f : Cx → Bool → Bool} (hs : Sat ρ cx) (h : eqScal c v w cx f = true) : ∃ cx' b, Sat ρ cx' ∧ f cx' b = true ∧ eqCell c (abs ρ v) (abs ρ w) = some b := by
  unfold eqScal at h
  split at h
  · rename_i i a j b
    obtain ⟨h1, h⟩ := bcond_and h
    obtain ⟨h2, h⟩ := bcond_and h
    obtain ⟨cx', r, s', h, e⟩ := cmpK_sound hs h
    refine ⟨cx', r, s', h, ?_⟩
    simp only [abs, eqCell]
    rw [if_pos ⟨beq_iff'.1 h1, kIx_inj h2⟩]
    simpa only [cmpV] using e
  · rename_i a b
    obtain ⟨h1, h⟩ := bcond_and h
    obtain ⟨h2, h⟩ := bcond_and h
    obtain ⟨h3, h⟩ := bcond_and h
    obtain ⟨cx', s', h⟩ := eqS_sound (strOk_sound hs h2) (strOk_sound hs h3) hs h
    refine ⟨cx', _, s', h, ?_⟩
    simp only [abs, eqCell]
    rw [if_pos (beq_iff'.1 h1)]
  · rename_i a b
    obtain ⟨h1, h⟩ := bcond_and h
    obtain ⟨h2, h⟩ := bcond_and h
    obtain ⟨h3, h⟩ := bcond_and h
    obtain ⟨cx', s', h⟩ := sv_eql hs h2 h3 h
    refine ⟨cx', _, s', h, ?_⟩
    simp only [abs, eqCell]
    rw [if_pos (beq_iff'.1 h1)]
  · rename_i a b
    obtain ⟨h1, h⟩ := bcond_and h
    refine ⟨cx, a == b, hs, ?_, ?_⟩
    · cases a <;> cases b <;> exact h
    · simp only [abs, eqCell]
      rw [if_pos (beq_iff'.1 h1)]
  · cases h
theorem eqAgg_sound {xs ys : List KV} : ∀ {l : List (Nat × Nat)} {cx : Cx} {f : Cx → Bool → Bool}, Sat ρ cx → eqAgg xs ys l cx f = true → ∃ cx' b, Sat ρ cx' ∧ f cx' b = true ∧ eqFlat l (absL ρ xs) (absL ρ ys) = some b
  | [], cx, f, hs, h => ⟨cx, true, hs, h, rfl⟩
  | p :: l, cx, f, hs, h => by
    change nthK xs p.1 (fun v => nthK ys p.1 fun w => eqScal p.2 v w cx fun cx b => Bool.rec (f cx false) (eqAgg xs ys l cx f) b) = true at h
    obtain ⟨v, h1, h⟩ := nthK_true h
    obtain ⟨w, h2, h⟩ := nthK_true h
    obtain ⟨cx1, b, s1, h, e⟩ := eqScal_sound hs h
    have g1 : (absL ρ xs)[p.1]? = some (abs ρ v) := by rw [absL_map, List.getElem?_map, h1]; rfl
    have g2 : (absL ρ ys)[p.1]? = some (abs ρ w) := by rw [absL_map, List.getElem?_map, h2]; rfl
    cases b with
    | false => exact ⟨cx1, false, s1, h, by simp only [eqFlat, g1, g2, e]⟩
    | true =>
      obtain ⟨cx2, b2, s2, h, e2⟩ := eqAgg_sound s1 h
      exact ⟨cx2, b2, s2, h, by simp only [eqFlat, g1, g2, e, e2]⟩

theorem op_bin (h : Den ρ rd cx rg M st) {op : BinOp} {t yt : TypeId} {x y : Operand} (ho : o.op = .binOp op t x y yt) {kc : KCall} (hA : (cOp P rd o).run kc slot cx rg M k kp = true) : RunsTo P S ρ st slot o k kp := by
  simp only [cOp, ho, undK_eq] at hA
  obtain ⟨g1, h1, e1, eF1, eZ1, hv1⟩ := s1_den rd x
  obtain ⟨g2, h2, e2, eF2, eZ2, hv2⟩ := s1_den rd y
  rw [eZ1, eZ2] at hA
  obtain ⟨v, gv1, lv1, av1⟩ := hv1 rg
  obtain ⟨w, gv2, lv2, av2⟩ := hv2 rg
  have ev := av1 ρ _ h.rok
  have ew := av2 ρ _ h.rok
  have hop : (∃ op t x y yt, o.op = .binOp op t x y yt) ∨ (∃ op t x, o.op = .unOp op t x) ∨ (∃ s d x, o.op = .convert s d x) ∨ (∃ c b, o.op = .call c ∧ c.callee = .builtin b) := .inl ⟨_, _, _, _, _, ho⟩
  have rest : (plainK P rd rg o fun v => k cx v M) = true → RunsTo P S ρ st slot o k kp := fun hk => by
    obtain ⟨v, e, hk⟩ := plainK_sound h.rok hk
    exact RunsTo.plain h.mem h.sat hk e hop
  unfold aBin at hA
  cases hI : intB op with
  | no => rw [hI] at hA; simp only [Act.run] at hA; exact rest hA
  | sh g =>
    rw [hI] at hA
    simp only [Act.run, lv1, lv2] at hA
    obtain ⟨i, a, e1, hB⟩ := onInt_false hA
    obtain ⟨j, b, e2, hC⟩ := onInt_false hB
    subst e1 e2
    obtain ⟨hok, hsh⟩ := intB_sh (ρ := ρ) hI
    rcases hok i cx a b _ _ h.sat hC with hD | ⟨cx', v, s', hD, e⟩
    · exact rest hD
    · refine RunsTo.plain h.mem s' hD ?_ hop
      exact plain_bin (k := i) (k' := j) ho (by rw [← ev]; simp only [abs]) (by rw [← ew]; simp only [abs]) (.inr hsh) e
  | mk g =>
    rw [hI] at hA
    simp only [Act.run, lv1, lv2] at hA
    rcases onInt_true hA with ⟨i, a, e1, hB⟩ | ⟨hni, hB⟩
    · obtain ⟨j, b, e2, hC⟩ := onInt_false hB
      obtain ⟨hk, hD⟩ := rec_and hC
      have hij := kIx_inj hk
      subst hij e1 e2
      rcases intB_mk (ρ := ρ) hI i cx a b _ _ h.sat hD with hE | ⟨cx', v, s', hE, e⟩
      · exact rest hE
      · refine RunsTo.plain h.mem s' hE ?_ hop
        exact plain_bin (k := i) (k' := i) ho (by rw [← ev]; simp only [abs]) (by rw [← ew]; simp only [abs]) (.inl rfl) e
    · have other : bcond (neNilK (nsK P t) v w) (nilK op (k cx (.bool false) M) (k cx (.bool true) M)) (plainK P rd rg o fun v => k cx v M) = true → RunsTo P S ρ st slot o k kp := fun hB => by
        have hns : nsK P t = nsOf (P.underlying t) ∨ neNilK (nsK P t) v w = false := by
          rcases nsK_cases P t with hns | ⟨_, l, _, hns, _⟩
          · exact .inl hns
          · right; rw [hns]; cases v <;> rfl
        rcases hns with hns | hns
        case inr => rw [hns] at hB; exact rest hB
        rw [hns] at hB
        cases hn : neNilK (nsOf (P.underlying t)) v w with
        | false => rw [hn] at hB; exact rest hB
        | true =>
          rw [hn] at hB
          obtain ⟨d, hd, hne⟩ := neNilK_abs (ρ := ρ) hn
          rw [ev, ew] at hne
          simp only [bcond_true] at hB
          cases hp : plainD P st.regs o with
          | none =>
            cases op <;> (try (cases hB; done))
            · exact RunsTo.val h.mem h.sat hB (by simp only [opD, ho, hp, hd, hne, if_true, abs])
            · exact RunsTo.val h.mem h.sat hB (by simp only [opD, ho, hp, hd, hne, if_true, abs])
          | some r =>
            have hif : ∃ ms, d = .interface ms ∧ ((∃ u v, evalD st.regs x = .iface u v ∧ evalD st.regs y = .nili) ∨ (∃ u v, evalD st.regs x = .nili ∧ evalD st.regs y = .iface u v)) := by
              have hall : ∀ z ∈ o.op.operands.toList, (toVal (evalD st.regs z)).isSome = true := by
                unfold plainD at hp
                split at hp
                · rename_i h; exact List.all_eq_true.1 h
                · cases hp
              have hx := hall x (by rw [ho]; simp [Op.operands])
              have hy := hall y (by rw [ho]; simp [Op.operands])
              generalize evalD st.regs x = vx at *
              generalize evalD st.regs y = vy at *
              cases d <;> simp only [neNil] at hne <;> (try (cases hne; done)) <;> (cases vx <;> (try (cases hne; done)) <;> cases vy <;> (try (cases hne; done)) <;> first
                | (simp [toVal, toScal] at hx hy; done)
                | exact ⟨_, rfl, .inl ⟨_, _, rfl, rfl⟩⟩
                | exact ⟨_, rfl, .inr ⟨_, _, rfl, rfl⟩⟩)
            obtain ⟨ms, rfl, hxy⟩ := hif
            cases op <;> (try (cases hB; done))
            · have := plain_inil (c := false) ho hd hxy (.inl ⟨rfl, rfl⟩) hp
              subst this
              exact RunsTo.val h.mem h.sat hB (by simp only [opD, ho, hp, abs])
            · have := plain_inil (c := true) ho hd hxy (.inr ⟨rfl, rfl⟩) hp
              subst this
              exact RunsTo.val h.mem h.sat hB (by simp only [opD, ho, hp, abs])
      have hu : ∀ d, nsOf d = .bool → d = some .bool := by
        intro d hd
        cases d with
        | none => cases hd
        | some d => cases d <;> first | rfl | cases hd
      cases v with
      | str a =>
        cases w with
        | str b =>
          have hC : strBinK op a b cx (fun cx v => k cx v M) = true := hB
          obtain ⟨cx', v, s', hA, e⟩ := strBinK_sound h.sat hC
          refine RunsTo.plain h.mem s' hA ?_ hop
          exact plain_str ho (by rw [← ev]; simp only [abs]) (by rw [← ew]; simp only [abs]) e
        | _ => cases hB
      | sv a =>
        cases w with
        | sv b =>
          have hC : svBinK op a b cx (fun cx v => k cx v M) = true := hB
          obtain ⟨cx', v, s', hA, e⟩ := svBinK_sound h.sat hC
          refine RunsTo.plain h.mem s' hA ?_ hop
          exact plain_str ho (by rw [← ev]; simp only [abs]) (by rw [← ew]; simp only [abs]) e
        | _ => cases hB
      | bool a =>
        cases w with
        | bool b =>
          cases hns : nsK P t <;> rw [hns] at hB <;> try (cases hB; done)
          have ht : P.underlying t = some .bool := by
            rcases nsK_cases P t with h1 | ⟨_, l, _, h1, _⟩
            · rw [h1] at hns; exact hu _ hns
            · rw [h1] at hns; cases hns
          have fin : ∀ c : Bool, ((op = .eql ∧ c = (a == b)) ∨ (op = .neq ∧ c = !(a == b))) → k cx (.bool c) M = true → RunsTo P S ρ st slot o k kp := fun c hc hk => by
            refine RunsTo.plain h.mem h.sat hk ?_ hop
            have := plain_beq (c := c) ho ht (by rw [← ev]; simp only [abs]) (by rw [← ew]; simp only [abs]) hc
            simpa only [abs] using this
          cases op <;> (try (cases hB; done))
          · cases a <;> cases b <;> exact fin _ (.inl ⟨rfl, rfl⟩) hB
          · cases a <;> cases b <;> exact fin _ (.inr ⟨rfl, rfl⟩) hB
        | _ => cases hB
      | int i a => exact absurd rfl (hni i a)
      | agg xs =>
        cases w with
        | agg ys =>
          rcases nsK_cases P t with hns | ⟨fields, l, hu1, hns, hst, hgt, hfl⟩
          · have hna : ∀ d l, nsOf d ≠ .agg l := by
              intro d l e
              cases d with
              | none => cases e
              | some d => cases d <;> cases e
            rw [hns] at hB
            cases hq : nsOf (P.underlying t) <;> rw [hq] at hB <;> first
              | exact rest hB
              | exact absurd hq (hna _ _)
          · rw [hns] at hB
            have hB2 : bcond (scalsOk xs) (bcond (scalsOk ys) (nilK op (eqAgg xs ys l cx (boolF fun cx v => k cx v M)) (eqAgg xs ys l cx (notF fun cx v => k cx v M))) false) (plainK P rd rg o fun v => k cx v M) = true := hB
            cases c1 : scalsOk xs with
            | false => rw [c1] at hB2; exact rest hB2
            | true =>
              rw [c1] at hB2
              simp only [bcond_true] at hB2
              obtain ⟨c2, hB3⟩ := bcond_and hB2
              obtain ⟨xv, ex1⟩ := scalsOk_sound (ρ := ρ) c1
              obtain ⟨yv, ey1⟩ := scalsOk_sound (ρ := ρ) c2
              have evx : evalD st.regs x = .agg (absL ρ xs) := by rw [← ev]; simp only [abs]
              have evy : evalD st.regs y = .agg (absL ρ ys) := by rw [← ew]; simp only [abs]
              have fin : ∀ (g : Cx → Bool → Bool) (q : Bool → Bool), (∀ cx b, g cx b = true → k cx (.bool (q b)) M = true) → ((op = .eql ∧ q = id) ∨ (op = .neq ∧ q = not)) → eqAgg xs ys l cx g = true → RunsTo P S ρ st slot o k kp := by
                intro g q hg hq he
                obtain ⟨cx', b, s', hk, e⟩ := eqAgg_sound h.sat he
                refine RunsTo.plain h.mem s' (hg _ _ hk) ?_ hop
                have := plain_flat (c := q b) ho hu1 hst hgt (flatK_ok hfl) evx evy ex1 ey1 e (by rcases hq with ⟨a, b⟩ | ⟨a, b⟩ <;> subst b; exact .inl ⟨a, rfl⟩; exact .inr ⟨a, rfl⟩)
                simpa only [abs] using this
              cases op <;> (try (cases hB3; done))
              · exact fin _ id (fun cx b h => boolF_run h) (.inl ⟨rfl, rfl⟩) hB3
              · exact fin _ not (fun cx b h => notF_run h) (.inr ⟨rfl, rfl⟩) hB3
        | _ => cases hB
      | _ => exact other hB
end
end
end Go.Sx

/- The kernel's evaluator against the plain one: the other operators, bounds, memory. -/
namespace Go.Sx
noncomputable section
section
variable {P : Program} {S : FuncId → List V → Option V} {ρ : Nat → Int} {rd : Nat} {cx : Cx} {rg : Regs rd} {M : KM} {st : St} {slot : Option Nat} {o : Oper} {k kp : KK}

theorem op_plain (h : Den ρ rd cx rg M st) {kc : KCall} (hop : (∃ op t x y yt, o.op = .binOp op t x y yt) ∨ (∃ op t x, o.op = .unOp op t x) ∨ (∃ s d x, o.op = .convert s d x) ∨ (∃ c b, o.op = .call c ∧ c.callee = .builtin b))
    (hA : (aPlain P rd o).run kc slot cx rg M k kp = true) : RunsTo P S ρ st slot o k kp := by
  simp only [aPlain, Act.run] at hA
  obtain ⟨v, e, hk⟩ := plainK_sound h.rok hA
  exact RunsTo.plain h.mem h.sat hk e hop
theorem op_unOp (h : Den ρ rd cx rg M st) {op : UnOp} {t : TypeId} {x : Operand} (ho : o.op = .unOp op t x) {kc : KCall} (hA : (cOp P rd o).run kc slot cx rg M k kp = true) : RunsTo P S ρ st slot o k kp := by
  have hop : (∃ op t x y yt, o.op = .binOp op t x y yt) ∨ (∃ op t x, o.op = .unOp op t x) ∨ (∃ s d x, o.op = .convert s d x) ∨ (∃ c b, o.op = .call c ∧ c.callee = .builtin b) := .inr (.inl ⟨_, _, _, ho⟩)
  simp only [cOp, ho] at hA
  obtain ⟨g, hh, e, eF, eZ, hv⟩ := s1_den rd x
  obtain ⟨v, gv, lv, av⟩ := hv rg
  have ev := av ρ _ h.rok
  cases op <;> simp only at hA <;> try exact op_plain h hop hA
  case neg =>
    rw [eZ] at hA
    simp only [Act.run, aNeg, lv] at hA
    obtain ⟨i, n, e1, hB⟩ := onInt_false hA
    subst e1
    obtain ⟨cx', y, s', hB, e2⟩ := wrapK_sound h.sat hB
    refine RunsTo.plain h.mem s' hB ?_ hop
    rw [abs, e2, KI.neg_ev]
    have := plain_neg (P := P) ho (by rw [← ev]; simp only [abs]; rfl)
    rw [this]; simp
  case xor =>
    rw [eZ] at hA
    simp only [Act.run, aCom, lv] at hA
    have rest : (plainK P rd rg o fun v => k cx v M) = true → RunsTo P S ρ st slot o k kp := fun hk => by
      obtain ⟨v, e, hk⟩ := plainK_sound h.rok hk
      exact RunsTo.plain h.mem h.sat hk e hop
    rcases onInt_true hA with ⟨i, n, e1, hB⟩ | ⟨_, hB⟩
    case inr => exact rest hB
    subst e1
    cases hi : Nat.blt (kIx i) 4 with
    | false => rw [hi] at hB; exact rest hB
    | true =>
      rw [hi] at hB
      obtain ⟨cx', y, s', hB, e2⟩ := wrapK_sound h.sat hB
      refine RunsTo.plain h.mem s' hB ?_ hop
      rw [abs, e2, KI.neg_ev, KI.add_ev]
      have := plain_com (P := P) ho (by rw [← ev]; simp only [abs]; rfl) hi
      rw [this]; rfl
  case not =>
    rw [eZ] at hA
    simp only [Act.run, aNot, lv] at hA
    obtain ⟨b, e1, hB⟩ := onBool_true hA
    subst e1
    have := plain_not (P := P) (b := b) ho (by rw [← ev]; simp only [abs])
    cases b with
    | true => exact RunsTo.plain h.mem h.sat hB (by rw [this]; simp [abs]) hop
    | false => exact RunsTo.plain h.mem h.sat hB (by rw [this]; simp [abs]) hop
theorem strOf_sound {l : List KV} : ∀ {k : List KI → Bool}, strOf l k = true → ∃ s, l = s.map (fun x => KV.int .u8 x) ∧ k s = true := by
  induction l with
  | nil => intro k h; exact ⟨[], rfl, h⟩
  | cons v l ih =>
    intro k h
    change onInt v (fun i n => Bool.rec false (strOf l fun l => k (n :: l)) (Nat.beq (kIx i) 4)) false = true at h
    obtain ⟨i, n, rfl, h⟩ := onInt_false h
    obtain ⟨h1, h2⟩ := rec_and h
    obtain ⟨s, rfl, h3⟩ := ih h2
    have : i = .u8 := by cases i <;> first | rfl | cases h1
    subst this
    exact ⟨n :: s, rfl, h3⟩
theorem bytesOf_map {s : List KI} (hs : ∀ x ∈ s, 0 ≤ x.ev ρ ∧ x.ev ρ < 256) : bytesOf (absL ρ (s.map fun x => KV.int .u8 x)) = some (s.map (byteV ρ)) := by
  induction s with
  | nil => rfl
  | cons x s ih =>
    simp only [List.map_cons, absL, abs, bytesOf, ih (fun z hz => hs z (List.mem_cons_of_mem _ hz)), Option.map_some]
    rfl
theorem op_convert (h : Den ρ rd cx rg M st) {s d : TypeId} {x : Operand} (ho : o.op = .convert s d x) {kc : KCall} (hA : (cOp P rd o).run kc slot cx rg M k kp = true) : RunsTo P S ρ st slot o k kp := by
  have hop : (∃ op t x y yt, o.op = .binOp op t x y yt) ∨ (∃ op t x, o.op = .unOp op t x) ∨ (∃ s d x, o.op = .convert s d x) ∨ (∃ c b, o.op = .call c ∧ c.callee = .builtin b) := .inr (.inr (.inl ⟨_, _, _, ho⟩))
  simp only [cOp, ho, undK_eq] at hA
  obtain ⟨g, hh, e, eF, eZ, hv⟩ := s1_den rd x
  obtain ⟨v, gv, lv, av⟩ := hv rg
  have ev := av ρ _ h.rok
  split at hA
  · rename_i j hd
    cases hs : P.underlying s with
    | none => rw [hs] at hA; cases hA
    | some sd =>
      rw [hs] at hA
      simp only at hA
      rw [eZ] at hA
      simp only [Act.run, aConvI, lv] at hA
      obtain ⟨i, n, e1, hB⟩ := onInt_false hA
      subst e1
      rcases dfI_sound h.sat hB with hB | ⟨z, hB, e2⟩
      · obtain ⟨cx', y, s', hB, e2⟩ := wrapK_sound h.sat hB
        refine RunsTo.plain h.mem s' hB ?_ hop
        rw [abs, e2]
        exact plain_convI ho hs hd (k := i) (by rw [← ev]; simp only [abs])
      · refine RunsTo.plain h.mem h.sat hB ?_ hop
        have e3 : z.ev ρ = j.wrap (n.ev ρ) := by simp only [dfV, Option.some.injEq] at e2; exact e2.symm
        rw [abs, e3]
        exact plain_convI ho hs hd (k := i) (by rw [← ev]; simp only [abs])
  · rename_i hd
    split at hA
    · rename_i el hs
      split at hA
      · rename_i hel
        rw [eZ] at hA
        simp only [Act.run, aConvB, lv] at hA
        rcases onSlice_true hA with ⟨b, p, len, cap, e1, hB⟩ | ⟨e1, hB⟩
        · subst e1
          obtain ⟨l, hr, hB⟩ := readK_sound h.mem hB
          obtain ⟨str, el2, hC⟩ := strOf_sound hB
          subst el2
          obtain ⟨hok, hC⟩ := bcond_and hC
          refine RunsTo.val h.mem h.sat hC ?_
          have hp : plainD P st.regs o = Option.none := by
            unfold plainD
            rw [ho]
            have : ¬ ((Op.convert s d x).operands.toList.all (fun x => (toVal (evalD st.regs x)).isSome)) = true := by
              intro hall
              have := List.all_eq_true.1 hall x (by simp [Op.operands])
              rw [← ev] at this
              simp [abs, toVal, toScal] at this
            rw [if_neg this]
          simp only [opD, ho, hp, hs, hd, ← ev, abs, hel, hr, bytesOf_map (strOk_sound h.sat hok), Option.map_some]
        · subst e1
          refine RunsTo.val h.mem h.sat hB ?_
          cases hp : plainD P st.regs o with
          | none => simp only [opD, ho, hp, hs, hd, ← ev, abs, hel, List.map_nil]
          | some r =>
            have hx : evalD st.regs x = .nils := by rw [← ev]; simp only [abs]
            have key : plainD P st.regs o = some (.val (ofVal (.string ⟨#[]⟩))) := by
              refine plainD_val (fun cs b e => by rw [ho] at e; cases e) (one_conv ho (by rw [hx]; rfl)) ?_
              unfold execOp
              rw [ho]
              simp only [hx, toVal, toScal, Option.getD_some]
              have hc : pureRun P (convert s d (.slice Option.none 0 0)) = some (.string ⟨#[]⟩) := by
                unfold convert
                rw [pureRun_bind (pure_under hs), pureRun_bind (pure_under hd)]
                simp only
                rw [pureRun_bind (pure_under hel)]
                rfl
              rw [pureRun_bind hc]; rfl
            simp only [opD, ho, key, abs, List.map_nil]
            rfl
      · exact op_plain h hop hA
    · rename_i hs
      rw [eZ] at hA
      simp only [Act.run, aConvS, lv] at hA
      obtain ⟨str, e1, hB⟩ := onStr_true hA
      subst e1
      refine RunsTo.plain h.mem h.sat hB ?_ hop
      rw [abs]
      exact plain_convS ho hs hd (by rw [← ev]; simp only [abs])
    · exact op_plain h hop hA
  · exact op_plain h hop hA
end
end
end Go.Sx

/- The kernel's evaluator against the plain one: slices, indexes, memory. -/
namespace Go.Sx
noncomputable section
section
variable {P : Program} {S : FuncId → List V → Option V} {ρ : Nat → Int} {rd : Nat} {cx : Cx} {rg : Regs rd} {M : KM} {st : St} {slot : Option Nat} {o : Oper} {k kp : KK}

theorem boundsK_sound {regs : Nat → V} (hr : RegsOK ρ rd rg regs) (hs : Sat ρ cx) {len : Nat} {cap : Option Nat} {lo hi mx : Option Operand} {f : Cx → Nat → Nat → Option Nat → Bool}
    (h : boundsK cx rg len cap (lo.map (cSrc rd)) (hi.map (cSrc rd)) (mx.map (cSrc rd)) f = true) :
    ∃ cx' l h mo, Sat ρ cx' ∧ f cx' l h mo = true ∧ boundsD len cap (lo.map (evalD regs)) (hi.map (evalD regs)) (mx.map (evalD regs)) = some (l, h, mo) := by
  unfold boundsK at h
  obtain ⟨cx1, om, s1, h, hm⟩ := optNatK_sound hr hs h
  simp only at h
  -- what is behind the greatest
  have tail : ∀ (cx1 : Cx) (mo : Option Nat) (isM : Bool), Sat ρ cx1 → (optNatK cx1 rg (hi.map (cSrc rd)) fun cx hi =>
      match hi with
      | none => bcond isM false (optNatK cx rg (lo.map (cSrc rd)) fun cx lo => match lo with
        | none => f cx 0 len mo
        | some l => bcond (Nat.ble l len) (f cx l len mo) false)
      | some h => match mo with
        | some m => bcond (Nat.ble h m) (optNatK cx rg (lo.map (cSrc rd)) fun cx lo => match lo with
          | none => f cx 0 h mo
          | some l => bcond (Nat.ble l h) (f cx l h mo) false) false
        | none => bcond (Nat.ble h len) (optNatK cx rg (lo.map (cSrc rd)) fun cx lo => match lo with
          | none => f cx 0 h mo
          | some l => bcond (Nat.ble l h) (f cx l h mo) false) false) = true →
      ∃ cx' l h, Sat ρ cx' ∧ f cx' l h mo = true ∧ ((highD len mo isM (hi.map (evalD regs))).bind fun h => (lowD h (lo.map (evalD regs))).bind fun l => some (l, h, mo)) = some (l, h, mo) := by
    intro cx1 mo isM s1 h
    obtain ⟨cx2, oh, s2, h, hh⟩ := optNatK_sound hr s1 h
    have lows : ∀ (cx2 : Cx) (hv : Nat), Sat ρ cx2 → (optNatK cx2 rg (lo.map (cSrc rd)) fun cx lo => match lo with
        | none => f cx 0 hv mo
        | some l => bcond (Nat.ble l hv) (f cx l hv mo) false) = true → ∃ cx' l, Sat ρ cx' ∧ f cx' l hv mo = true ∧ lowD hv (lo.map (evalD regs)) = some l := by
      intro cx2 hv s2 h
      obtain ⟨cx3, ol, s3, h, hl⟩ := optNatK_sound hr s2 h
      cases lo with
      | none => subst hl; exact ⟨cx3, 0, s3, h, rfl⟩
      | some x =>
        obtain ⟨m, e1, e2⟩ := hl
        subst e2
        obtain ⟨c, h⟩ := bcond_and h
        refine ⟨cx3, m, s3, h, ?_⟩
        simp only [Option.map_some, lowD, e1, Option.bind_some, if_pos (ble_iff.1 c)]
    cases hi with
    | none =>
      subst hh
      obtain ⟨c, h⟩ := bcond_false_true h
      subst c
      obtain ⟨cx3, l, s3, h, e⟩ := lows cx2 len s2 h
      refine ⟨cx3, l, len, s3, h, ?_⟩
      simp only [Option.map_none, highD, Bool.false_eq_true, if_false, Option.bind_some, e]
    | some x =>
      obtain ⟨hv, e1, e2⟩ := hh
      subst e2
      simp only at h
      cases mo with
      | some m =>
        obtain ⟨c, h⟩ := bcond_and h
        obtain ⟨cx3, l, s3, h, e⟩ := lows cx2 hv s2 h
        refine ⟨cx3, l, hv, s3, h, ?_⟩
        simp only [Option.map_some, highD, e1, Option.bind_some, Option.getD_some, if_pos (ble_iff.1 c), e]
      | none =>
        obtain ⟨c, h⟩ := bcond_and h
        obtain ⟨cx3, l, s3, h, e⟩ := lows cx2 hv s2 h
        refine ⟨cx3, l, hv, s3, h, ?_⟩
        simp only [Option.map_some, highD, e1, Option.bind_some, Option.getD_none, if_pos (ble_iff.1 c), e]
  unfold boundsD
  cases mx with
  | none =>
    subst hm
    obtain ⟨cx2, l, hv, s2, h, e⟩ := tail cx1 cap false s1 h
    refine ⟨cx2, l, hv, cap, s2, h, ?_⟩
    simp only [Option.map_none, maxD, Option.bind_some, Option.isSome_none]
    exact e
  | some x =>
    obtain ⟨m, e1, e2⟩ := hm
    subst e2
    simp only at h
    cases cap with
    | some c =>
      obtain ⟨c1, h⟩ := bcond_and h
      obtain ⟨cx2, l, hv, s2, h, e⟩ := tail cx1 (some m) true s1 h
      refine ⟨cx2, l, hv, some m, s2, h, ?_⟩
      simp only [Option.map_some, maxD, e1, Option.bind_some, Option.getD_some, if_pos (ble_iff.1 c1), Option.isSome_some]
      exact e
    | none =>
      obtain ⟨c1, h⟩ := bcond_and h
      obtain ⟨cx2, l, hv, s2, h, e⟩ := tail cx1 (some m) true s1 h
      refine ⟨cx2, l, hv, some m, s2, h, ?_⟩
      simp only [Option.map_some, maxD, e1, Option.bind_some, Option.getD_none, if_pos (ble_iff.1 c1), Option.isSome_some]
      exact e

theorem op_slice (h : Den ρ rd cx rg M st) {t : TypeId} {x : Operand} {lo hi mx : Option Operand} (ho : o.op = .slice t x lo hi mx) {kc : KCall} (hA : (cOp P rd o).run kc slot cx rg M k kp = true) : RunsTo P S ρ st slot o k kp := by
  simp only [cOp, ho, undK_eq] at hA
  obtain ⟨g, hh, e, eF, eZ, hv⟩ := s1_den rd x
  obtain ⟨v, gv, lv, av⟩ := hv rg
  have ev := av ρ _ h.rok
  split at hA
  · rename_i hu
    cases hm : mx.isSome with
    | true => rw [hm] at hA; cases hA
    | false =>
    rw [hm] at hA
    simp only [bcond_false] at hA
    rw [eZ] at hA
    simp only [Act.run, aSliceS, lv] at hA
    obtain ⟨s, e1, hB⟩ := onStr_true hA
    subst e1
    rw [lenC_eq] at hB
    obtain ⟨cx', l, hv, mo, s', hB, hb⟩ := boundsK_sound (mx := none) h.rok h.sat hB
    obtain ⟨d1, hB⟩ := dropX_true _ _ _ hB
    obtain ⟨d2, hB⟩ := takeX_true _ _ _ hB
    refine RunsTo.val h.mem s' hB ?_
    have hmn : mx = none := by cases mx <;> first | rfl | cases hm
    subst hmn
    have hb' : boundsD (s.map (byteV ρ)).length (some (s.map (byteV ρ)).length) (lo.map (evalD st.regs)) (hi.map (evalD st.regs)) none = some (l, hv, mo) := by rw [List.length_map]; exact hb
    simp only [opD, ho, hu, ← ev, abs, Option.isSome_none, Bool.false_eq_true, if_false, hb']
    congr 3
    congr 1
    rw [List.map_take, List.map_drop, List.drop_take]
    rfl
  · rename_i el hu
    simp only [sizeK_eq] at hA
    cases hz : sizeD P el with
    | none => rw [hz] at hA; cases hA
    | some z =>
      rw [hz] at hA
      simp only at hA
      rw [eZ] at hA
      simp only [Act.run, aSlice, lv] at hA
      rcases onSlice_true hA with ⟨b, p, len, cap, e1, hB⟩ | ⟨e1, hB⟩
      · subst e1
        have cut : ∀ (cx' : Cx) (l hv m : Nat), Sat ρ cx' → cutK b p z l hv m cx' (fun cx v => k cx v M) = true → (boundsD len (match cap with | .is c => some c | .unk _ => Option.none) (lo.map (evalD st.regs)) (hi.map (evalD st.regs)) (mx.map (evalD st.regs)) = some (l, hv, some m)) → RunsTo P S ρ st slot o k kp := by
          intro cx' l hv m s' hc hb
          unfold cutK at hc
          rw [forceN_eq] at hc
          by_cases hlm : l < m
          · have : Nat.blt l m = true := blt_iff.2 hlm
            rw [this] at hc
            simp only [bcond_true, forceN_eq] at hc
            refine RunsTo.val h.mem s' hc ?_
            cases cap <;> (simp only at hb; simp only [opD, ho, hu, ← ev, abs, hz, hb, if_pos hlm]; rfl)
          · have : Nat.blt l m = false := by cases hq : Nat.blt l m with | false => rfl | true => exact absurd (blt_iff.1 hq) hlm
            rw [this] at hc
            simp only [bcond_false] at hc
            obtain ⟨c2, hc⟩ := bcond_and hc
            have c2 := beq_iff'.1 c2
            refine RunsTo.val h.mem s' hc ?_
            cases cap <;> (simp only at hb; simp only [opD, ho, hu, ← ev, abs, hz, hb, if_neg hlm, if_pos c2]; rfl)
        cases cap with
        | is c =>
          simp only at hB
          obtain ⟨cx', l, hv, mo, s', hB, hb⟩ := boundsK_sound h.rok h.sat hB
          cases mo with
          | none => cases hB
          | some m => exact cut cx' l hv m s' hB hb
        | unk z' =>
          simp only at hB
          obtain ⟨cx', l, hv, mo, s', hB, hb⟩ := boundsK_sound h.rok h.sat hB
          cases mo with
          | some m => exact cut cx' l hv m s' hB hb
          | none =>
            obtain ⟨c1, hB⟩ := bcond_and hB
            have c1 := beq_iff'.1 c1
            by_cases hl : l = 0
            · rw [beq_iff'.2 hl] at hB
              simp only [bcond_true] at hB
              refine RunsTo.val h.mem s' hB ?_
              simp only [opD, ho, hu, ← ev, abs, hz, hb, if_pos (And.intro hl c1)]
            · rw [beq_false_iff.2 hl] at hB
              simp only [bcond_false] at hB
              obtain ⟨c2, hB⟩ := bcond_and hB
              have c2 := blt_iff.1 c2
              rw [forceN_eq, forceN_eq] at hB
              refine RunsTo.val h.mem s' hB ?_
              simp only [opD, ho, hu, ← ev, abs, hz, hb, if_neg (fun q : l = 0 ∧ z' = z => hl q.1), if_pos (And.intro c2 c1)]
              rfl
      · subst e1
        obtain ⟨cx', l, hv, mo, s', hB, hb⟩ := boundsK_sound h.rok h.sat hB
        refine RunsTo.val h.mem s' hB ?_
        simp only [opD, ho, hu, ← ev, abs, hz, hb]
  · cases hA
theorem op_indexAddr (h : Den ρ rd cx rg M st) {t : TypeId} {x ix : Operand} (ho : o.op = .indexAddr t x ix) {kc : KCall} (hA : (cOp P rd o).run kc slot cx rg M k kp = true) : RunsTo P S ρ st slot o k kp := by
  simp only [cOp, ho, undK_eq, sizeK_eq] at hA
  obtain ⟨g, hh, e, eF, eZ, hv⟩ := s1_den rd x
  obtain ⟨v, gv, lv, av⟩ := hv rg
  have ev := av ρ _ h.rok
  obtain ⟨g2, hh2, e2, eF2, eZ2, hv2⟩ := s1_den rd ix
  obtain ⟨w, gv2, lv2, av2⟩ := hv2 rg
  have ew := av2 ρ _ h.rok
  split at hA
  · rename_i el hu
    cases hz : sizeD P el with
    | none => rw [hz] at hA; cases hA
    | some z =>
      rw [hz] at hA
      simp only at hA
      rw [eZ, eZ2] at hA
      simp only [Act.run, aIxSlice, lv, lv2] at hA
      rcases onSlice_true hA with ⟨b, p, len, cap, e1, hB⟩ | ⟨e1, hB⟩
      · subst e1
        obtain ⟨cx', i, s', hB, hi⟩ := asNatK_sound h.sat hB
        obtain ⟨c, hB⟩ := rec_and hB
        rw [forceN_eq] at hB
        rw [ew] at hi
        refine RunsTo.val h.mem s' hB ?_
        simp only [opD, ho, hu, ← ev, abs, hi, hz, if_pos (blt_iff.1 c)]
        rfl
      · cases hB
  · rename_i len el hu
    cases hz : sizeD P el with
    | none => rw [hz] at hA; cases hA
    | some z =>
      rw [hz] at hA
      simp only at hA
      rw [eZ, eZ2] at hA
      simp only [Act.run, aIxArr, lv, lv2] at hA
      obtain ⟨b, p, e1, hB⟩ := onPtr_true hA
      subst e1
      obtain ⟨cx', i, s', hB, hi⟩ := asNatK_sound h.sat hB
      obtain ⟨c, hB⟩ := rec_and hB
      rw [forceN_eq] at hB
      rw [ew] at hi
      refine RunsTo.val h.mem s' hB ?_
      simp only [opD, ho, hu, ← ev, abs, hi, hz, if_pos (blt_iff.1 c)]
      rfl
  · cases hA
theorem op_index (h : Den ρ rd cx rg M st) {t : TypeId} {x ix : Operand} (ho : o.op = .index t x ix) {kc : KCall} (hA : (cOp P rd o).run kc slot cx rg M k kp = true) : RunsTo P S ρ st slot o k kp := by
  simp only [cOp, ho, undK_eq, sizeK_eq] at hA
  obtain ⟨g, hh, e, eF, eZ, hv⟩ := s1_den rd x
  obtain ⟨v, gv, lv, av⟩ := hv rg
  have ev := av ρ _ h.rok
  obtain ⟨g2, hh2, e2, eF2, eZ2, hv2⟩ := s1_den rd ix
  obtain ⟨w, gv2, lv2, av2⟩ := hv2 rg
  have ew := av2 ρ _ h.rok
  split at hA
  · rename_i len el hu
    cases hz : sizeD P el with
    | none => rw [hz] at hA; cases hA
    | some z =>
      rw [hz] at hA
      simp only at hA
      rw [eZ, eZ2] at hA
      simp only [cPart, aggK_eq, sizeK_eq] at hA
      cases ha : aggD P el with
      | none => rw [ha] at hA; cases hA
      | some ag =>
        rw [ha] at hA
        cases ag with
        | true =>
          rw [hz] at hA
          simp only [Act.run, aIndexN, lv, lv2] at hA
          obtain ⟨cs, e1, hB⟩ := onAgg_true hA
          subst e1
          obtain ⟨cx', i, s', hB, hi⟩ := asNatK_sound h.sat hB
          obtain ⟨c, hB⟩ := rec_and hB
          rw [forceN_eq] at hB
          obtain ⟨d1, hB⟩ := dropX_true _ _ _ hB
          obtain ⟨d2, hB⟩ := takeX_true _ _ _ hB
          rw [ew] at hi
          refine RunsTo.val h.mem s' hB ?_
          simp only [opD, ho, hu, ← ev, abs, hi, hz, if_pos (blt_iff.1 c), partD, ha, absL_map, List.length_map]
          rw [if_pos (by rw [List.length_drop] at d2; have : Nat.mul i z = i * z := rfl; omega)]
          simp only [Option.map_some, List.map_take, List.map_drop]
          rfl
        | false =>
          simp only [Act.run, aIndex1, lv, lv2] at hA
          obtain ⟨cs, e1, hB⟩ := onAgg_true hA
          subst e1
          obtain ⟨cx', i, s', hB, hi⟩ := asNatK_sound h.sat hB
          obtain ⟨c, hB⟩ := rec_and hB
          obtain ⟨u, hu2, hB⟩ := nthK_true hB
          rw [ew] at hi
          refine RunsTo.val h.mem s' hB ?_
          have hu3 : cs[i * z]? = some u := hu2
          simp only [opD, ho, hu, ← ev, abs, hi, hz, if_pos (blt_iff.1 c), partD, ha, absL_map, List.getElem?_map, hu3, Option.map_some]
  · rename_i hu
    rw [eZ, eZ2] at hA
    simp only [Act.run, aIndexS, lv, lv2] at hA
    obtain ⟨s, e1, hB⟩ := onStr_true hA
    subst e1
    obtain ⟨cx', i, s', hB, hi⟩ := asNatK_sound h.sat hB
    obtain ⟨c, hc, hB⟩ := nthC_true hB
    obtain ⟨hb, hB⟩ := rec_and hB
    rw [ew] at hi
    refine RunsTo.val h.mem s' hB ?_
    simp only [opD, ho, hu, ← ev, abs, hi, List.getElem?_map, hc, Option.map_some, byteV_nat (byteOk_sound s' hb)]
  · cases hA
theorem op_load (h : Den ρ rd cx rg M st) {t : TypeId} {x : Operand} (ho : o.op = .load t x) {kc : KCall} (hA : (cOp P rd o).run kc slot cx rg M k kp = true) : RunsTo P S ρ st slot o k kp := by
  simp only [cOp, ho, cPart, aggK_eq, sizeK_eq] at hA
  obtain ⟨g, hh, e, eF, eZ, hv⟩ := s1_den rd x
  obtain ⟨v, gv, lv, av⟩ := hv rg
  have ev := av ρ _ h.rok
  rw [eZ] at hA
  cases ha : aggD P t with
  | none => rw [ha] at hA; cases hA
  | some ag =>
    rw [ha] at hA
    cases ag with
    | true =>
      cases hz : sizeD P t with
      | none => rw [hz] at hA; cases hA
      | some n =>
        rw [hz] at hA
        simp only [Act.run, aLoadN, lv] at hA
        obtain ⟨b, p, e1, hB⟩ := onPtr_true hA
        subst e1
        obtain ⟨l, hr, hB⟩ := readK_sound h.mem hB
        refine RunsTo.val h.mem h.sat hB ?_
        simp only [opD, ho, ← ev, abs, ha, hz, hr, Option.map_some]
    | false =>
      simp only [Act.run, aLoad1, lv] at hA
      obtain ⟨b, p, e1, hB⟩ := onPtr_true hA
      subst e1
      obtain ⟨u, hr, hB⟩ := read1K_sound h.mem hB
      refine RunsTo.val h.mem h.sat hB ?_
      simp only [opD, ho, ← ev, abs, ha, hr]
theorem cellsK_abs {v : KV} {cs : List KV} (h : cellsK v = some cs) : cellsD (abs ρ v) = some (absL ρ cs) := by
  cases v <;> simp only [cellsK] at h <;> cases h <;> simp only [abs, cellsD, absL]
theorem storeK_sound {m : Mem} (h : DenM ρ M m) {b p : Nat} {vs : List KV} {f : KM → Bool} (hk : storeK M b p vs f = true) :
    ∃ M' m', writeD (if (m.ob b).isSome then m else spillL spillFuel (absL ρ vs) m) b p (absL ρ vs) = some m' ∧ DenM ρ M' m' ∧ f M' = true := by
  obtain ⟨ob, ht, nx, log, ln⟩ := M
  unfold storeK at hk
  simp only at hk
  rw [ownK_eq] at hk
  have hob := h.ob b
  simp only at hob
  rw [own_eq] at hob
  cases ho : ownG ob b with
  | some y =>
    rw [ho] at hk hob
    rw [hob]
    simp only [Option.map_some, Option.isSome_some, if_true]
    exact writeK_sound h hk
  | none =>
    rw [ho] at hk hob
    rw [hob]
    simp only [Option.map_none, Option.isSome_none, Bool.false_eq_true, if_false]
    obtain ⟨M1, d1, hk⟩ := spillK_sound _ _ _ _ _ _ h hk
    exact writeK_sound d1 hk
theorem op_store (h : Den ρ rd cx rg M st) {t : TypeId} {a x : Operand} (ho : o.op = .store t a x) {kc : KCall} (hA : (cOp P rd o).run kc slot cx rg M k kp = true) : RunsTo P S ρ st slot o k kp := by
  simp only [cOp, ho, sizeK_eq] at hA
  obtain ⟨g, hh, e, eF, eZ, hv⟩ := s1_den rd a
  obtain ⟨v, gv, lv, av⟩ := hv rg
  have ev := av ρ _ h.rok
  obtain ⟨g2, hh2, e2, eF2, eZ2, hv2⟩ := s1_den rd x
  obtain ⟨w, gv2, lv2, av2⟩ := hv2 rg
  have ew := av2 ρ _ h.rok
  cases hz : sizeD P t with
  | none => rw [hz] at hA; cases hA
  | some n =>
    rw [hz] at hA
    simp only at hA
    rw [eZ, eF2] at hA
    simp only [Act.run, aStore, lv, gv2] at hA
    obtain ⟨b, p, e1, hB⟩ := onPtr_true hA
    subst e1
    cases hc : cellsK w with
    | none => rw [hc] at hB; cases hB
    | some vs =>
      rw [hc] at hB
      simp only at hB
      rw [lenC_eq] at hB
      obtain ⟨c1, hB⟩ := bcond_and hB
      have hcd := cellsK_abs (ρ := ρ) hc
      rw [ew] at hcd
      obtain ⟨M', m', hw, d, hB⟩ := storeK_sound h.mem hB
      refine ⟨0, .skip, m', cx, M', ?_, h.sat, d, undefK, undefK_abs ρ, hB⟩
      have hl : (absL ρ vs).length = n := by rw [absL_map, List.length_map]; exact beq_iff'.1 c1
      simp only [opD, ho, ← ev, abs, hcd, hz, if_pos hl, hw, Option.map_some]
theorem mkA_eq {l : List KV} {F : (n dep : Nat) → Tr KV dep → Act rd} : mkA l F = F l.length (dep8 l.length) (setC (dep8 l.length) l 0 (emp KV.none _)) := by
  unfold mkA
  rw [lenC_eq, forceN_eq]
theorem op_alloc (h : Den ρ rd cx rg M st) {t : TypeId} (ho : o.op = .alloc t) {kc : KCall} (hA : (cOp P rd o).run kc slot cx rg M k kp = true) : RunsTo P S ρ st slot o k kp := by
  simp only [cOp, ho] at hA
  cases hz : zeroK P t with
  | none => rw [hz] at hA; cases hA
  | some cs =>
    rw [hz] at hA
    simp only [mkA_eq, Act.run, aNew] at hA
    obtain ⟨M', d, hB⟩ := newK_sound h.mem (dep8_fits _) hA
    rw [cells_mk (dep8_fits _)] at d hB
    have hzd : zeroD P t = some (absL ρ cs) := by rw [← zeroK_eq ρ, hz]; rfl
    refine RunsTo.valM d h.sat hB ?_
    simp only [opD, ho, hzd, abs]
theorem op_box (h : Den ρ rd cx rg M st) {t : TypeId} {x : Operand} (ho : o.op = .box t x) {kc : KCall} (hA : (cOp P rd o).run kc slot cx rg M k kp = true) : RunsTo P S ρ st slot o k kp := by
  simp only [cOp, ho] at hA
  obtain ⟨g, hh, e, eF, eZ, hv⟩ := s1_den rd x
  obtain ⟨v, gv, lv, av⟩ := hv rg
  have ev := av ρ _ h.rok
  rw [eF] at hA
  simp only [Act.run, aBox, gv] at hA
  cases hc : cellsK v with
  | none => rw [hc] at hA; cases hA
  | some cs =>
    rw [hc] at hA
    simp only [mkC_eq] at hA
    obtain ⟨M', d, hB⟩ := newK_sound h.mem (dep8_fits _) hA
    rw [cells_mk (dep8_fits _)] at d hB
    have hcd := cellsK_abs (ρ := ρ) hc
    rw [ev] at hcd
    refine RunsTo.valM d h.sat hB ?_
    simp only [opD, ho, hcd, abs]
theorem fillT_sound {regs : Nat → V} (hr : RegsOK ρ rd rg regs) {place : Nat → Option (Nat × Nat)} {len dep : Nat} (hf : len ≤ 8 ^ dep) : ∀ {ps : List (Nat × Operand)} {qs : List (Nat × Nat × Src rd)} {t : Tr KV dep} {f : Tr KV dep → Bool}, cParts rd place ps = some qs →
    fillT rg len dep qs t f = true → ∃ t', fillD place (absL ρ (cellsAt len dep t)) (ps.map fun x => (x.1, evalD regs x.2)) = some (absL ρ (cellsAt len dep t')) ∧ f t' = true
  | [], qs, t, f, hq, h => by
    simp only [cParts] at hq
    cases hq
    exact ⟨t, by simp [fillD], h⟩
  | (i, x) :: ps, qs, t, f, hq, h => by
    simp only [cParts] at hq
    cases hp : place i with
    | none => rw [hp] at hq; cases hq
    | some pl =>
      obtain ⟨off, z⟩ := pl
      cases hc : cParts rd place ps with
      | none => rw [hp, hc] at hq; cases hq
      | some r =>
        rw [hp, hc] at hq
        simp only [Option.some.injEq] at hq
        subst hq
        obtain ⟨g, hh, e, hv⟩ := cSrc_den rd x
        obtain ⟨v, gv, lv, av⟩ := hv rg
        have ev := av ρ _ hr
        change (Src.rec (fun g _ => g rg fun v => match cellsK v with
          | some vs => lenC vs fun n => bcond (Nat.beq n z) (bcond (Nat.ble (Nat.add off n) len) (setCs dep vs off t fun t => fillT rg len dep r t f) false) false
          | none => false) (cSrc rd x) : Bool) = true at h
        rw [e] at h
        simp only [gv] at h
        cases hcv : cellsK v with
        | none => rw [hcv] at h; cases h
        | some vs =>
          rw [hcv] at h
          simp only [lenC_eq] at h
          obtain ⟨c1, h⟩ := bcond_and h
          obtain ⟨c2, h⟩ := bcond_and h
          rw [setCs_eq] at h
          have c1 := beq_iff'.1 c1
          have c2 : off + vs.length ≤ len := ble_iff.1 c2
          have hcd := cellsK_abs (ρ := ρ) hcv
          rw [ev] at hcd
          obtain ⟨t', e1, h⟩ := fillT_sound hr hf hc h
          refine ⟨t', ?_, h⟩
          simp only [List.map_cons, fillD, hp, hcd]
          have hl : (absL ρ vs).length = vs.length := by rw [absL_map, List.length_map]
          have hl2 : (absL ρ (cellsAt len dep t)).length = len := by rw [absL_map, List.length_map, cellsAt_length]
          rw [if_pos ⟨by rw [hl]; exact c1, by rw [hl, hl2]; exact c2⟩, ← splice_cells hf c2]
          exact e1
theorem op_build (h : Den ρ rd cx rg M st) {t : TypeId} {ps : Array (Nat × Operand)} (ho : o.op = .build t ps) {kc : KCall} (hA : (cOp P rd o).run kc slot cx rg M k kp = true) : RunsTo P S ρ st slot o k kp := by
  simp only [cOp, ho, cBuild, undK_eq, placesK_eq, sizeK_eq] at hA
  cases hz : zeroK P t with
  | none => rw [hz] at hA; cases hA
  | some zero =>
    rw [hz] at hA
    have hzd : zeroD P t = some (absL ρ zero) := by rw [← zeroK_eq ρ, hz]; rfl
    have fin : ∀ (place : Nat → Option (Nat × Nat)) (qs : List (Nat × Nat × Src rd)), cParts rd place ps.toList = some qs → (mkA zero fun n d t => aBuild rd n d t qs : Act rd).run kc slot cx rg M k kp = true →
        ∃ cs, fillD place (absL ρ zero) (partsD st.regs ps) = some (absL ρ cs) ∧ k cx (.agg cs) M = true := by
      intro place qs hq hB
      simp only [mkA_eq, Act.run, aBuild] at hB
      obtain ⟨t', e1, hB⟩ := fillT_sound h.rok (dep8_fits _) hq hB
      rw [cells_mk (dep8_fits _)] at e1
      rw [getCs_eq] at hB
      have : (List.range' 0 zero.length).map (fun i => getT (dep8 zero.length) i t') = cellsAt zero.length (dep8 zero.length) t' := by unfold cellsAt; rw [List.range_eq_range']
      rw [this] at hB
      exact ⟨_, e1, hB⟩
    split at hA
    · rename_i z' fields e1 hu
      have e1 : zero = z' := Option.some.inj e1
      subst e1
      cases hpl : placesD P fields.toList with
      | none => rw [hpl] at hA; cases hA
      | some pl =>
        rw [hpl] at hA
        simp only at hA
        split at hA
        · rename_i qs hq
          obtain ⟨cs, e2, hB⟩ := fin _ qs hq hA
          refine RunsTo.val h.mem h.sat hB ?_
          simp only [opD, ho, hzd, hu, hpl, e2, Option.map_some, abs]
        · cases hA
    · rename_i z' len el e1 hu
      have e1 : zero = z' := Option.some.inj e1
      subst e1
      cases hsz : sizeD P el with
      | none => rw [hsz] at hA; cases hA
      | some z =>
        rw [hsz] at hA
        simp only at hA
        split at hA
        · rename_i qs hq
          obtain ⟨cs, e2, hB⟩ := fin _ qs hq hA
          refine RunsTo.val h.mem h.sat hB ?_
          simp only [opD, ho, hzd, hu, hsz, e2, Option.map_some, abs]
        · cases hA
    · cases hA
theorem repeat_abs (zero : List KV) (n : Nat) : absL ρ ((List.replicate n zero).flatten) = repeatD (absL ρ zero) n := by
  unfold repeatD
  simp only [absL_map, List.map_flatten, List.map_replicate]
theorem op_buildSlice (h : Den ρ rd cx rg M st) {t : TypeId} {n : Nat} {ps : Array (Nat × Operand)} (ho : o.op = .buildSlice t n ps) {kc : KCall} (hA : (cOp P rd o).run kc slot cx rg M k kp = true) : RunsTo P S ρ st slot o k kp := by
  simp only [cOp, ho, cBuildSlice, elemK_eq, sizeK_eq] at hA
  cases he : elemD P t with
  | none => rw [he] at hA; cases hA
  | some el =>
    rw [he] at hA
    simp only at hA
    cases hsz : sizeD P el with
    | none => rw [hsz] at hA; cases hA
    | some z =>
      cases hz : zeroK P el with
      | none => rw [hsz, hz] at hA; cases hA
      | some zero =>
        rw [hsz, hz] at hA
        have hzd : zeroD P el = some (absL ρ zero) := by rw [← zeroK_eq ρ, hz]; rfl
        simp only at hA
        cases c1 : Nat.ble (Nat.mul n z) 4096 with
        | false => rw [c1] at hA; cases hA
        | true =>
          cases c2 : Nat.beq zero.length z with
          | false => rw [c1, c2] at hA; cases hA
          | true =>
            rw [c1, c2] at hA
            simp only [bcond_true] at hA
            split at hA
            · rename_i qs hq
              simp only [mkA_eq, Act.run, aBuildSlice] at hA
              obtain ⟨t', e1, hB⟩ := fillT_sound h.rok (dep8_fits _) hq hA
              rw [cells_mk (dep8_fits _), repeat_abs] at e1
              obtain ⟨M', d, hB⟩ := newK_sound h.mem (dep8_fits _) hB
              have hl : (absL ρ zero).length = z := by rw [absL_map, List.length_map]; exact beq_iff'.1 c2
              have hn : n * z ≤ 2 ^ 24 := by have : n * z ≤ 4096 := ble_iff.1 c1; omega
              refine RunsTo.valM d h.sat hB ?_
              simp only [opD, ho, he, hsz, hzd, if_pos (And.intro hn hl), partsD, e1, abs]
            · cases hA
theorem op_makeSlice (h : Den ρ rd cx rg M st) {t : TypeId} {l c : Operand} (ho : o.op = .makeSlice t l c) {kc : KCall} (hA : (cOp P rd o).run kc slot cx rg M k kp = true) : RunsTo P S ρ st slot o k kp := by
  simp only [cOp, ho, elemK_eq, sizeK_eq, bytesT_eq] at hA
  cases he : elemD P t with
  | none => rw [he] at hA; cases hA
  | some el =>
    rw [he] at hA
    simp only at hA
    cases hsz : sizeD P el with
    | none => rw [hsz] at hA; cases hA
    | some z =>
      cases hby : bytesD P el with
      | none => rw [hsz, hby] at hA; cases hA
      | some by_ =>
        cases hz : zeroK P el with
        | none => rw [hsz, hby, hz] at hA; cases hA
        | some zero =>
          rw [hsz, hby, hz] at hA
          have hzd : zeroD P el = some (absL ρ zero) := by rw [← zeroK_eq ρ, hz]; rfl
          simp only at hA
          cases c2 : Nat.beq zero.length z with
          | false => rw [c2] at hA; cases hA
          | true =>
            rw [c2] at hA
            simp only [bcond_true] at hA
            obtain ⟨g, hh, e, eF, eZ, hv⟩ := s1_den rd l
            obtain ⟨v, gv, lv, av⟩ := hv rg
            have ev := av ρ _ h.rok
            obtain ⟨g2, hh2, e2, eF2, eZ2, hv2⟩ := s1_den rd c
            obtain ⟨w, gv2, lv2, av2⟩ := hv2 rg
            have ew := av2 ρ _ h.rok
            rw [eZ, eZ2] at hA
            simp only [Act.run, aMakeSlice, lv, lv2] at hA
            obtain ⟨cx1, ln, s1, hA, el1⟩ := asNatK_sound h.sat hA
            obtain ⟨cx2, cn, s2, hA, ec1⟩ := asNatK_sound s1 hA
            rw [ev] at el1
            rw [ew] at ec1
            obtain ⟨b1, hA⟩ := bcond_and hA
            obtain ⟨b2, hA⟩ := bcond_and hA
            obtain ⟨b3, hA⟩ := bcond_and hA
            rw [mkC_eq] at hA
            obtain ⟨M', d, hB⟩ := newK_sound h.mem (dep8_fits _) hA
            rw [cells_mk (dep8_fits _), repeat_abs] at d hB
            have hl : (absL ρ zero).length = z := by rw [absL_map, List.length_map]; exact beq_iff'.1 c2
            have b2 : cn ≤ 4096 := ble_iff.1 b2
            refine RunsTo.valM d s2 hB ?_
            simp only [opD, ho, he, hsz, hby, hzd, el1, ec1]
            rw [if_pos ⟨ble_iff.1 b1, ble_iff.1 b3, by omega, hl⟩]
            simp only [abs]
end
end
end Go.Sx

/- The kernel's evaluator against the plain one: builtins, calls; all operations. -/
namespace Go.Sx
noncomputable section
section
variable {P : Program}
theorem pureRun_bind' {α β : Type} (s : Sem α) (f : α → Sem β) : pureRun P (s >>= f) = (pureRun P s).bind fun a => pureRun P (f a) := by
  induction s with
  | pure b => rfl
  | program g ih => exact ih _
  | _ => rfl
theorem bind_none {α β : Type} {s : Sem α} {f : α → Sem β} (h : ∀ a, pureRun P (f a) = none) : pureRun P (s >>= f) = none := by
  rw [pureRun_bind']
  cases pureRun P s with
  | none => rfl
  | some a => exact h a
theorem none_of {β : Type} {r : β} (s : Sem β) (h : pureRun P s = none) (k : pureRun P s = some r) : False := by rw [h] at k; cases k
theorem append_pure {tys : Array TypeId} {ty st xt e : TypeId} {d : TypeDesc} {sv xv r : Value} (h0 : tys[0]? = some st) (h1 : tys[1]? = some xt) (hs : P.underlying st = some (.slice e)) (hx : P.underlying xt = some d) (hd : ∀ k, d ≠ .int k)
    (hsv : ∀ b l c, sv = .slice b l c → b = Option.none ∧ l = 0 ∧ c = 0) (hxv : ∀ b l c, xv = .slice b l c → b = Option.none ∧ l = 0 ∧ c = 0) (h : pureRun P (Builtin.append_ tys ty #[sv, xv]) = some r) :
    sv = .slice Option.none 0 0 ∧ r = .slice Option.none 0 0 ∧ ((∃ s : ByteArray, xv = .string s ∧ s.size = 0) ∨ xv = .slice Option.none 0 0) := by
  unfold Builtin.append_ at h
  simp only [h0, h1, List.getElem?_toArray, List.getElem?_cons_zero, List.getElem?_cons_succ] at h
  rw [pureRun_bind', pure_under hs] at h
  simp only [Option.bind_some] at h
  cases sv <;> try (cases h; done)
  rename_i b l c
  obtain ⟨rfl, rfl, rfl⟩ := hsv _ _ _ rfl
  simp only at h
  rw [pureRun_bind'] at h
  cases hz : pureRun P (sizeOf e) with
  | none => rw [hz] at h; cases h
  | some z =>
    rw [hz] at h
    simp only [Option.bind_some] at h
    rw [pureRun_bind', pure_under hx] at h
    simp only [Option.bind_some] at h
    rw [pureRun_bind', show pureRun P (pure false : Sem Bool) = some false from rfl] at h
    simp only [Option.bind_some, Bool.false_eq_true, if_false, Bool.not_false, if_true] at h
    rw [pureRun_bind'] at h
    refine ⟨rfl, ?_⟩
    have key : ∀ n : Nat, pureRun P (Builtin.lenOf xv) = some n → n = 0 ∧ r = .slice Option.none 0 0 := by
      intro n hn
      rw [hn] at h
      simp only [Option.bind_some, Nat.zero_add] at h
      by_cases h0 : n = 0
      · subst h0
        simp only [Nat.le_refl, if_true] at h
        rw [pureRun_bind'] at h
        cases hf : pureRun P (Builtin.firstCells z 0 xv) with
        | none => rw [hf] at h; cases h
        | some cs =>
          rw [hf] at h
          simp only [Option.bind_some] at h
          cases h
          exact ⟨rfl, rfl⟩
      · exfalso
        have : ¬ n ≤ 0 := by omega
        rw [if_neg this] at h
        refine none_of _ ?_ h
        repeat' first
          | rfl
          | (apply bind_none; intro)
          | split
    cases xv <;> try (simp only [Builtin.lenOf] at h; cases h; done)
    · rename_i s
      obtain ⟨h1, h2⟩ := key s.size rfl
      exact ⟨h2, .inl ⟨s, rfl, h1⟩⟩
    · rename_i b l c
      obtain ⟨rfl, rfl, rfl⟩ := hxv _ _ _ rfl
      obtain ⟨h1, h2⟩ := key 0 rfl
      exact ⟨h2, .inr rfl⟩
theorem toVal_slice {v : V} {b : Option Addr} {l c : Nat} (h : toVal v = some (.slice b l c)) : v = .nils ∧ b = Option.none ∧ l = 0 ∧ c = 0 := by
  cases v <;> simp only [toVal, toScal, Option.map_eq_some_iff] at h <;> first
    | (cases h; done)
    | (obtain ⟨_, _, h⟩ := h; cases h; done)
    | (simp only [Option.some.injEq, Value.slice.injEq] at h; exact ⟨rfl, h.1.symm, h.2.1.symm, h.2.2.symm⟩)
theorem plain_append {regs : Nat → V} {o : Oper} {c : Call} {x y : Operand} {st xt e : TypeId} {d : TypeDesc} {r : R} (ho : o.op = .call c) (hc : c.callee = .builtin .append) (ha : c.args.toList = [x, y]) (h0 : c.argTypes[0]? = some st) (h1 : c.argTypes[1]? = some xt)
    (hs : P.underlying st = some (.slice e)) (hx : P.underlying xt = some d) (hd : ∀ k, d ≠ .int k) (hp : plainD P regs o = some r) : evalD regs x = .nils ∧ r = .val .nils ∧ (evalD regs y = .nils ∨ evalD regs y = .str []) := by
  have hargs : c.args = #[x, y] := by rw [← Array.toArray_toList (xs := c.args), ha]
  unfold plainD at hp
  split at hp
  · rename_i hall
    have hall := List.all_eq_true.1 hall
    have hops : o.op.operands.toList = [x, y] := by rw [ho]; simp [Op.operands, Call.operands, hc, ha]
    have kx := hall x (by rw [hops]; simp)
    have ky := hall y (by rw [hops]; simp)
    obtain ⟨sv, hsv⟩ := Option.isSome_iff_exists.1 kx
    obtain ⟨xv, hxv⟩ := Option.isSome_iff_exists.1 ky
    split at hp
    · cases hp
    · have hex : pureRun P (execOp (fun x => (toVal (evalD regs x)).getD undef) o) = (pureRun P (Builtin.append_ c.argTypes o.type #[sv, xv])).map Next.value := by
        unfold execOp
        rw [ho]
        simp only [resolve, hc, hargs]
        have : (#[x, y] : Array Operand).map (fun x => (toVal (evalD regs x)).getD undef) = #[sv, xv] := by simp [hsv, hxv]
        rw [this]
        show pureRun P ((do pure (Next.value (← Builtin.append_ c.argTypes o.type #[sv, xv]))) : Sem Next) = _
        rw [pureRun_bind']
        cases pureRun P (Builtin.append_ c.argTypes o.type #[sv, xv]) <;> rfl
      rw [hex] at hp
      cases hr : pureRun P (Builtin.append_ c.argTypes o.type #[sv, xv]) with
      | none => rw [hr] at hp; cases hp
      | some v =>
        rw [hr] at hp
        obtain ⟨rfl, rfl, h3⟩ := append_pure h0 h1 hs hx hd (fun b l c e => by subst e; exact (toVal_slice hsv).2) (fun b l c e => by subst e; exact (toVal_slice hxv).2) hr
        refine ⟨(toVal_slice hsv).1, ?_, ?_⟩
        · cases hp; rfl
        · rcases h3 with ⟨s, rfl, hs0⟩ | rfl
          · right
            cases hy : evalD regs y <;> rw [hy] at hxv <;> simp only [toVal, toScal, Option.map_eq_some_iff] at hxv <;> first
              | (cases hxv; done)
              | (obtain ⟨_, _, h⟩ := hxv; cases h; done)
              | skip
            cases hxv
            congr 1
            simpa [ByteArray.size] using hs0
          · left; exact (toVal_slice hxv).1
  · cases hp
end
section
variable {P : Program} {S : FuncId → List V → Option V} {ρ : Nat → Int} {rd : Nat} {cx : Cx} {rg : Regs rd} {M : KM} {st : St} {slot : Option Nat} {o : Oper} {k kp : KK}
theorem lenK_sound {v : KV} {f : Nat → Bool} (h : lenK v f = true) : ∃ n, lenD (abs ρ v) = some n ∧ f n = true := by
  cases v <;> simp only [lenK] at h <;> try (cases h; done)
  · rw [lenC_eq] at h; exact ⟨_, by simp only [abs, lenD, List.length_map], h⟩
  · exact ⟨_, by simp only [abs, lenD], h⟩
  · exact ⟨_, by simp only [abs, lenD], h⟩
theorem contentD_len {m : Mem} {z n : Nat} {v : V} {xs : List V} (h : contentD m z n v = some xs) (hn : ∀ l, lenD v = some l → n ≤ l) : xs.length = n * z := by
  unfold contentD at h
  split at h
  · split at h
    · rename_i h0; cases h; subst h0; simp
    · cases h
  · split at h
    · unfold readD at h
      split at h
      · split at h
        · rename_i hle
          cases h
          rw [List.length_take, List.length_drop]; omega
        · cases h
      · cases h
    · cases h
  · split at h
    · rename_i s hz
      cases h
      have := hn _ rfl
      rw [List.length_map, List.length_take, hz]; omega
    · cases h
  · cases h
theorem two_args {c : Call} {x y : Operand} {regs : Nat → V} (ha : c.args.toList = [x, y]) : c.args.toList.map (evalD regs) = [evalD regs x, evalD regs y] := by rw [ha]; rfl
theorem op_append (h : Den ρ rd cx rg M st) {c : Call} {x y : Operand} (ho : o.op = .call c) (hc : c.callee = .builtin .append) (ha : c.args.toList = [x, y]) {kc : KCall} (hA : (cBuiltin P rd o .append [x, y] c.argTypes).run kc slot cx rg M k kp = true) : RunsTo P S ρ st slot o k kp := by
  simp only [cBuiltin, elemK_eq, undK_eq, sizeK_eq, bytesT_eq] at hA
  cases h0 : c.argTypes[0]? with
  | none => rw [h0] at hA; cases hA
  | some sT =>
  cases h1 : c.argTypes[1]? with
  | none => rw [h0, h1] at hA; cases hA
  | some xT =>
  rw [h0, h1] at hA
  simp only at hA
  cases he : elemD P sT with
  | none => rw [he] at hA; cases hA
  | some e =>
  cases hu : P.underlying xT with
  | none => rw [he, hu] at hA; cases hA
  | some d =>
  rw [he, hu] at hA
  have hd : ∀ k, d ≠ .int k := fun k e => by subst e; cases hA
  have hA' : (match sizeD P e, bytesD P e, zeroK P e with
          | some z, some by_, some zero => bcond (Nat.beq zero.length z) (z1 rd x fun gs => z1 rd y fun gx => aAppend rd z by_ gs gx) .bad
          | _, _, _ => .bad : Act rd).run kc slot cx rg M k kp = true := by
    cases d <;> first | exact hA | exact absurd rfl (hd _)
  clear hA
  cases hz : sizeD P e with
  | none => rw [hz] at hA'; cases hA'
  | some z =>
  cases hb : bytesD P e with
  | none => rw [hz, hb] at hA'; cases hA'
  | some by_ =>
  cases hzr : zeroK P e with
  | none => rw [hz, hb, hzr] at hA'; cases hA'
  | some zero =>
  rw [hz, hb, hzr] at hA'
  simp only at hA'
  cases hzl : Nat.beq zero.length z with
  | false => rw [hzl] at hA'; cases hA'
  | true =>
  rw [hzl] at hA'
  simp only [bcond_true] at hA'
  have hzd : zeroD P e = some (absL ρ zero) := by rw [← zeroK_eq ρ, hzr]; rfl
  have hl : (absL ρ zero).length = z := by rw [absL_map, List.length_map]; exact beq_iff'.1 hzl
  obtain ⟨g, hh, e1, eF, eZ, hv⟩ := s1_den rd x
  obtain ⟨v, gv, lv, av⟩ := hv rg
  have ev := av ρ _ h.rok
  obtain ⟨g2, hh2, e2, eF2, eZ2, hv2⟩ := s1_den rd y
  obtain ⟨w, gv2, lv2, av2⟩ := hv2 rg
  have ew := av2 ρ _ h.rok
  rw [eZ, eZ2] at hA'
  simp only [Act.run, aAppend, lv, lv2] at hA'
  obtain ⟨n, hn, hB⟩ := lenK_sound (ρ := ρ) hA'
  obtain ⟨xs, hx, hB⟩ := contentK_sound h.mem h.sat hB
  obtain ⟨M1, d1, hB⟩ := spillK_sound _ _ _ _ _ _ h.mem hB
  have hxl : xs.length = n * z := by
    have := contentD_len hx (fun l hl => by rw [hn] at hl; cases hl; exact Nat.le_refl _)
    rwa [absL_map, List.length_map] at this
  obtain ⟨u, M2, m2, hap, d2, hC⟩ := appendK_sound d1 hxl hB
  rw [ev] at hap
  rw [ew] at hn hx
  simp only [spillD, if_true] at hap
  cases hp : plainD P st.regs o with
  | none =>
    refine RunsTo.valM d2 h.sat hC ?_
    simp only [opD, ho, hc, hp, builtinD, two_args ha, h0, h1, he, hu]
    cases d <;> first
      | exact absurd rfl (hd _)
      | (simp only [hz, hb, hzd, hn, if_pos hl, hx, hap, Option.map_some])
  | some r =>
    obtain ⟨q1, q2, q3⟩ := plain_append ho hc ha h0 h1 (elemD_under he) hu hd hp
    have hn0 : n = 0 := by
      rcases q3 with q3 | q3 <;> rw [q3] at hn <;> simp [lenD] at hn <;> exact hn.symm
    subst hn0
    have hxs : xs = [] := by simpa using hxl
    subst hxs
    rw [q1] at hap
    simp only [absL, appendD, if_true, Option.some.injEq, Prod.mk.injEq] at hap
    obtain ⟨r1, r2⟩ := hap
    have hsp : spillL spillFuel ([] : List V) st.m = st.m := by unfold spillFuel; simp only [spillL]
    rw [hsp] at r2
    subst r2
    refine RunsTo.val d2 h.sat hC ?_
    rw [← r1]
    simp only [opD, ho, hc, hp, q2]
theorem op_copy (h : Den ρ rd cx rg M st) {c : Call} {x y : Operand} (ho : o.op = .call c) (hc : c.callee = .builtin .copy) (ha : c.args.toList = [x, y]) {kc : KCall} (hA : (cBuiltin P rd o .copy [x, y] c.argTypes).run kc slot cx rg M k kp = true) : RunsTo P S ρ st slot o k kp := by
  simp only [cBuiltin, sizeK_eq] at hA
  have hfun : elemK P = elemD P := funext (elemK_eq P)
  rw [hfun] at hA
  cases he : (c.argTypes[0]?).bind (elemD P) with
  | none => rw [he] at hA; cases hA
  | some e =>
  rw [he] at hA
  simp only at hA
  cases hz : sizeD P e with
  | none => rw [hz] at hA; cases hA
  | some z =>
  rw [hz] at hA
  simp only at hA
  obtain ⟨g, hh, e1, eF, eZ, hv⟩ := s1_den rd x
  obtain ⟨v, gv, lv, av⟩ := hv rg
  have ev := av ρ _ h.rok
  obtain ⟨g2, hh2, e2, eF2, eZ2, hv2⟩ := s1_den rd y
  obtain ⟨w, gv2, lv2, av2⟩ := hv2 rg
  have ew := av2 ρ _ h.rok
  rw [eZ, eZ2] at hA
  simp only [Act.run, aCopy, lv, lv2] at hA
  rcases onSlice_true hA with ⟨b, p, len, cap, q1, hB⟩ | ⟨q1, hB⟩
  · subst q1
    obtain ⟨n, hn, hB⟩ := lenK_sound (ρ := ρ) hB
    rw [forceN_eq] at hB
    obtain ⟨xs, hx, hB⟩ := contentK_sound h.mem h.sat hB
    obtain ⟨M1, m1, hw, d1, hB⟩ := writeK_sound h.mem hB
    rw [ew] at hn hx
    refine RunsTo.valM d1 h.sat hB ?_
    have hp : plainD P st.regs o = Option.none := by
      unfold plainD
      have : ¬ (o.op.operands.toList.all (fun x => (toVal (evalD st.regs x)).isSome)) = true := by
        intro hall
        have := List.all_eq_true.1 hall x (by rw [ho]; simp [Op.operands, Call.operands, hc, ha])
        rw [← ev] at this
        simp [abs, toVal, toScal] at this
      rw [if_neg this]
    have evs : evalD st.regs x = .slice b p len cap := by rw [← ev]; simp only [abs]
    have hlv : lenD (.slice b p len cap) = some len := rfl
    simp only [opD, ho, hc, hp, builtinD, two_args ha, he, hn, evs, hlv, hz, hx, hw, abs, KI.ev]
  · cases hB
theorem op_len (h : Den ρ rd cx rg M st) {c : Call} {x : Operand} (ho : o.op = .call c) (hc : c.callee = .builtin .len) (ha : c.args.toList = [x]) {kc : KCall} (hA : (cBuiltin P rd o .len [x] c.argTypes).run kc slot cx rg M k kp = true) : RunsTo P S ρ st slot o k kp := by
  have hop : (∃ op t x y yt, o.op = .binOp op t x y yt) ∨ (∃ op t x, o.op = .unOp op t x) ∨ (∃ s d x, o.op = .convert s d x) ∨ (∃ c b, o.op = .call c ∧ c.callee = .builtin b) := .inr (.inr (.inr ⟨_, _, ho, hc⟩))
  simp only [cBuiltin] at hA
  have hfun : undK P = P.underlying := funext (undK_eq P)
  rw [hfun] at hA
  obtain ⟨g, hh, e1, eF, eZ, hv⟩ := s1_den rd x
  obtain ⟨v, gv, lv, av⟩ := hv rg
  have ev := av ρ _ h.rok
  cases h0 : c.argTypes[0]? with
  | none => rw [h0] at hA; cases hA
  | some t =>
  rw [h0] at hA
  simp only [Option.bind_some] at hA
  split at hA
  · rename_i e hu
    rw [eZ] at hA
    simp only [Act.run, aLenS, lv] at hA
    rcases onSlice_true hA with ⟨b, p, len, cap, q1, hB⟩ | ⟨q1, hB⟩
    · subst q1
      refine RunsTo.val h.mem h.sat hB ?_
      have hp : plainD P st.regs o = Option.none := by
        unfold plainD
        have : ¬ (o.op.operands.toList.all (fun x => (toVal (evalD st.regs x)).isSome)) = true := by
          intro hall
          have := List.all_eq_true.1 hall x (by rw [ho]; simp [Op.operands, Call.operands, hc, ha])
          rw [← ev] at this
          simp [abs, toVal, toScal] at this
        rw [if_neg this]
      have evs : evalD st.regs x = .slice b p len cap := by rw [← ev]; simp only [abs]
      have hel : elemD P t = some e := by unfold elemD; rw [hu]
      simp only [opD, ho, hc, hp, builtinD, ha, List.map_cons, List.map_nil, evs, h0, Option.bind_some, hel, abs, KI.ev]
    · subst q1
      refine RunsTo.plain h.mem h.sat hB ?_ hop
      have evs : evalD st.regs x = .nils := by rw [← ev]; simp only [abs]
      have := plain_len (P := P) (n := 0) ho hc ha h0 hu (v := .slice Option.none 0 0) (by rw [evs]; rfl) (.inr ⟨e, rfl, rfl⟩)
      rw [this]; simp only [abs, KI.ev]
  · rename_i hu
    rw [eZ] at hA
    simp only [Act.run, aLenT, lv] at hA
    obtain ⟨s, q1, hB⟩ := onStr_true hA
    subst q1
    rw [lenC_eq] at hB
    refine RunsTo.plain h.mem h.sat hB ?_ hop
    have evs : evalD st.regs x = .str (s.map (byteV ρ)) := by rw [← ev]; simp only [abs]
    have := plain_len (P := P) (n := s.length) ho hc ha h0 hu (v := .string ⟨(s.map (byteV ρ)).toArray⟩) (by rw [evs]; rfl) (.inl ⟨rfl, _, rfl, by simp [ByteArray.size]⟩)
    rw [this]; simp only [abs, KI.ev]
  · cases hA
theorem sureLe_sound {cx : Cx} {x : KI} (hs : Sat ρ cx) (h : sureLe cx x = true) : x.ev ρ ≤ 0 := by
  cases x with
  | p n =>
    have := Nat.eq_of_beq_eq_true (show Nat.beq n 0 = true from h)
    subst this
    exact Int.le_refl _
  | m n => simp only [KI.ev]; omega
  | a c ts =>
    have h : (oRec (ubT cx.box ts) false fun u => bcond (ile0 (iadd c u)) true (forceZ c fun c => forceT ts fun ts => knownLe cx.cs c ts)) = true := h
    rw [forceZ_eq, forceT_eq] at h
    cases hu : ubT cx.box ts with
    | none => rw [hu] at h; cases h
    | some u =>
      rw [hu, oRec_some, ile0_eq, iadd_eq] at h
      have h1 := ubT_le hs.box _ _ hu
      by_cases h2 : c + u ≤ 0
      · simp only [KI.ev]; omega
      · simp only [h2, decide_false, bcond_false] at h
        exact knownLe_ok hs.cs h
theorem mmK_sound {regs : Nat → V} (hr : RegsOK ρ rd rg regs) (mx : Bool) : ∀ {l : List Operand} {x : KI} {cx : Cx} {f : Cx → KI → Bool}, Sat ρ cx → mmK mx rg (l.map (cSrc rd)) x cx f = true →
    ∃ cx' y ks ns, Sat ρ cx' ∧ f cx' y = true ∧ ks.length = ns.length ∧ l.map (evalD regs) = List.zipWith (fun k n => V.int k n) ks ns ∧ y.ev ρ = mmV mx (x.ev ρ) ns
  | [], x, cx, f, hs, h => ⟨cx, x, [], [], hs, h, rfl, rfl, rfl⟩
  | o :: l, x, cx, f, hs, h => by
    obtain ⟨g, hh, e, hv⟩ := cSrc_den rd o
    obtain ⟨v, gv, lv, av⟩ := hv rg
    have ev := av ρ _ hr
    change (Src.rec (fun _ h => onInt (h rg) (fun _ y => bcond (sureLe cx (bcond mx (KI.sub x y) (KI.sub y x))) (mmK mx rg (l.map (cSrc rd)) y cx f) (decLe cx (bcond mx (KI.sub y x) (KI.sub x y)) fun cx b => Bool.rec (mmK mx rg (l.map (cSrc rd)) y cx f) (mmK mx rg (l.map (cSrc rd)) x cx f) b)) false) (cSrc rd o) : Bool) = true at h
    rw [e] at h
    simp only [lv] at h
    obtain ⟨i, y, q1, h2⟩ := onInt_false h
    subst q1
    clear h
    have eo : evalD regs o = .int i (y.ev ρ) := by rw [← ev]; simp only [abs]
    have step : ∀ (cx1 : Cx) (s1 : Sat ρ cx1) (z : KI), (z.ev ρ = if mx then (if y.ev ρ > x.ev ρ then y.ev ρ else x.ev ρ) else (if y.ev ρ < x.ev ρ then y.ev ρ else x.ev ρ)) → mmK mx rg (l.map (cSrc rd)) z cx1 f = true → ∃ cx' y' ks ns, Sat ρ cx' ∧ f cx' y' = true ∧ ks.length = ns.length ∧ (o :: l).map (evalD regs) = List.zipWith (fun k n => V.int k n) ks ns ∧ y'.ev ρ = mmV mx (x.ev ρ) ns := by
      intro cx1 s1 z hz hk
      obtain ⟨cx', y', ks, ns, a1, a2, a3, a4, a5⟩ := mmK_sound hr mx s1 hk
      refine ⟨cx', y', i :: ks, y.ev ρ :: ns, a1, a2, by simp [a3], by simp only [List.map_cons, eo, a4, List.zipWith_cons_cons], ?_⟩
      rw [a5, hz]; rfl
    cases hsure : sureLe cx (bcond mx (KI.sub x y) (KI.sub y x)) with
    | true =>
      rw [hsure] at h2
      simp only [bcond_true] at h2
      have hle := sureLe_sound hs hsure
      cases mx with
      | true =>
        simp only [bcond_true, KI.sub_ev] at hle
        refine step cx hs y ?_ h2
        rw [if_pos rfl]
        by_cases c : y.ev ρ > x.ev ρ
        · rw [if_pos c]
        · rw [if_neg c]; omega
      | false =>
        simp only [bcond_false, KI.sub_ev] at hle
        refine step cx hs y ?_ h2
        rw [if_neg (by simp)]
        by_cases c : y.ev ρ < x.ev ρ
        · rw [if_pos c]
        · rw [if_neg c]; omega
    | false =>
    rw [hsure] at h2
    simp only [bcond_false] at h2
    obtain ⟨cx1, s1, _, h3⟩ := decLe_sound hs h2
    cases mx with
    | true =>
      simp only [bcond_true, KI.sub_ev] at h3
      by_cases c : y.ev ρ - x.ev ρ ≤ 0
      · rw [decide_eq_true c] at h3
        exact step cx1 s1 x (by rw [if_pos rfl, if_neg (by omega)]) h3
      · rw [decide_eq_false c] at h3
        exact step cx1 s1 y (by rw [if_pos rfl, if_pos (by omega)]) h3
    | false =>
      simp only [bcond_false, KI.sub_ev] at h3
      by_cases c : x.ev ρ - y.ev ρ ≤ 0
      · rw [decide_eq_true c] at h3
        exact step cx1 s1 x (by rw [if_neg (by simp), if_neg (by omega)]) h3
      · rw [decide_eq_false c] at h3
        exact step cx1 s1 y (by rw [if_neg (by simp), if_pos (by omega)]) h3
theorem op_mm (h : Den ρ rd cx rg M st) (mx : Bool) {c : Call} {x : Operand} {l : List Operand} (ho : o.op = .call c) (hc : c.callee = .builtin (if mx then .max else .min)) (ha : c.args.toList = x :: l) {kc : KCall} (hA : (z1 rd x fun g => aMm rd mx g (l.map (cSrc rd)) : Act rd).run kc slot cx rg M k kp = true) : RunsTo P S ρ st slot o k kp := by
  have hop : (∃ op t x y yt, o.op = .binOp op t x y yt) ∨ (∃ op t x, o.op = .unOp op t x) ∨ (∃ s d x, o.op = .convert s d x) ∨ (∃ c b, o.op = .call c ∧ c.callee = .builtin b) := .inr (.inr (.inr ⟨_, _, ho, hc⟩))
  obtain ⟨g, hh, e1, eF, eZ, hv⟩ := s1_den rd x
  obtain ⟨v, gv, lv, av⟩ := hv rg
  have ev := av ρ _ h.rok
  rw [eZ] at hA
  simp only [Act.run, aMm, lv] at hA
  obtain ⟨i, n, q1, hB⟩ := onInt_false hA
  subst q1
  obtain ⟨cx', y, ks, ns, a1, a2, a3, a4, a5⟩ := mmK_sound h.rok mx h.sat hB
  refine RunsTo.plain h.mem a1 a2 ?_ hop
  rw [abs, a5]
  exact plain_mm ho hc ha (by rw [← ev]; simp only [abs]) a3 a4
theorem op_builtin (h : Den ρ rd cx rg M st) {c : Call} {b : Builtin} (ho : o.op = .call c) (hc : c.callee = .builtin b) {kc : KCall} (hA : (cBuiltin P rd o b c.args.toList c.argTypes).run kc slot cx rg M k kp = true) : RunsTo P S ρ st slot o k kp := by
  have hop : (∃ op t x y yt, o.op = .binOp op t x y yt) ∨ (∃ op t x, o.op = .unOp op t x) ∨ (∃ s d x, o.op = .convert s d x) ∨ (∃ c b, o.op = .call c ∧ c.callee = .builtin b) := .inr (.inr (.inr ⟨_, _, ho, hc⟩))
  unfold cBuiltin at hA
  split at hA
  · rename_i x ha
    exact op_len h ho hc ha hA
  · rename_i x y ha
    exact op_append h ho hc ha hA
  · rename_i x y ha
    exact op_copy h ho hc ha hA
  · rename_i x l ha
    exact op_mm h false ho hc ha hA
  · rename_i x l ha
    exact op_mm h true ho hc ha hA
  · exact op_plain h hop hA

/-! ### Calls -/
theorem bare_den {ob : OB} {ht : HT} {nx : Nat} {log : List Nat} {ln : Nat} {m : Mem} (h : DenM ρ (.mk ob ht nx log ln) m) : DenM ρ (.mk .nil ht nx log ln) ⟨fun _ => Option.none, m.g⟩ :=
  { nx := h.nx, log := h.log, ln := h.ln, ob := fun b => rfl, obf := trivial, hp := h.hp, st := h.st }
theorem callK_sound {kc : KCall} (hkc : KcOK P S ρ kc) {m : Mem} (h : DenM ρ M m) (hs : Sat ρ cx) {f : FuncId} {args : List KV} (hk : callK kc f args cx M k kp = true) :
    ∃ n r m' cx' M', callD P (runF P S (execD P S n)) f (absL ρ args) m = some (r, m') ∧ Sat ρ cx' ∧ DenM ρ M' m' ∧ OutK ρ r cx' M' k kp := by
  unfold callK at hk
  obtain ⟨M1, d1, hk⟩ := spillK_sound _ _ _ _ _ _ h hk
  obtain ⟨ob, ht, nx, log, ln⟩ := M1
  simp only [spillD, if_true] at d1 hk
  obtain ⟨⟨fn, hf, hn⟩, n, e, g', hr, cx', ke, M', s', he, d', hk⟩ := hkc f args cx _ _ _ hs (bare_den d1) hk
  obtain ⟨ob', ht', nx', log', ln'⟩ := M'
  have back : DenM ρ (.mk ob ht' nx' log' ln') { (spillL spillFuel (absL ρ args) m) with g := g' } :=
    { nx := d'.nx, log := d'.log, ln := d'.ln, ob := d1.ob, obf := d1.obf, hp := d'.hp, st := d'.st }
  cases ke with
  | ret v =>
    simp only [absE] at he
    subst he
    refine ⟨n, .val (abs ρ v), _, cx', _, ?_, s', back, v, rfl, hk⟩
    simp only [callD, hf, hn, Bool.false_eq_true, if_false, hr]
  | panic v =>
    simp only [absE] at he
    subst he
    refine ⟨n, .panic (abs ρ v), _, cx', _, ?_, s', back, v, rfl, hk⟩
    simp only [callD, hf, hn, Bool.false_eq_true, if_false, hr]
theorem op_call (h : Den ρ rd cx rg M st) {kc : KCall} (hkc : KcOK P S ρ kc) {c : Call} {f : Operand} (ho : o.op = .call c) (hc : c.callee = .value f) (hA : (cOp P rd o).run kc slot cx rg M k kp = true) : RunsTo P S ρ st slot o k kp := by
  simp only [cOp, ho, hc] at hA
  have fin : ∀ (fid : FuncId) (a cp args : List KV), evalD st.regs f = .func fid (absL ρ a) (absL ρ cp) → absL ρ args = c.args.toList.map (evalD st.regs) → callK kc fid (a ++ (args ++ cp)) cx M k kp = true → RunsTo P S ρ st slot o k kp := by
    intro fid a cp args hf hargs hk
    obtain ⟨n, r, m', cx', M', e, s', d', out⟩ := callK_sound hkc h.mem h.sat hk
    refine ⟨n, r, m', cx', M', ?_, s', d', out⟩
    simp only [opD, ho, hc, hf]
    rw [← e]
    congr 1
    simp only [absL_map, List.map_append] at hargs ⊢
    rw [hargs, List.append_assoc]
  cases f with
  | func fid =>
    simp only [Act.run, aCallF] at hA
    obtain ⟨vs, e1, a1⟩ := argsK_eq rg c.args.toList [] (fun l => callK kc fid l cx M k kp)
    rw [e1] at hA
    exact fin fid [] [] vs (by simp [evalD, absL]) (a1 ρ _ h.rok) (by simpa using hA)
  | _ =>
    obtain ⟨g, hh, e2, eF, eZ, hv⟩ := s1_den rd _
    obtain ⟨v, gv, lv, av⟩ := hv rg
    have ev := av ρ _ h.rok
    simp only at hA
    rw [eZ] at hA
    simp only [Act.run, aCall, lv] at hA
    cases v <;> simp only at hA <;> try (cases hA; done)
    rename_i fid a cp
    obtain ⟨vs, e1, a1⟩ := argsK_eq rg c.args.toList cp (fun l => appL a l fun l => callK kc fid l cx M k kp)
    rw [e1, appL_eq] at hA
    exact fin fid a cp vs (by rw [← ev]; simp only [abs]) (a1 ρ _ h.rok) hA
theorem op_panic (h : Den ρ rd cx rg M st) {x : Operand} (ho : o.op = .panic x) {kc : KCall} (hA : (z1 rd x fun g => aPanic rd g : Act rd).run kc slot cx rg M k kp = true) : RunsTo P S ρ st slot o k kp := by
  obtain ⟨g, hh, e1, eF, eZ, hv⟩ := s1_den rd x
  obtain ⟨v, gv, lv, av⟩ := hv rg
  have ev := av ρ _ h.rok
  rw [eZ] at hA
  simp only [Act.run, aPanic, lv] at hA
  cases v <;> simp only at hA <;> try (cases hA; done)
  rename_i t w
  refine ⟨0, .panic (.iface t (abs ρ w)), st.m, cx, M, ?_, h.sat, h.mem, .iface t w, by simp only [abs], hA⟩
  simp only [opD, ho, ← ev, abs]

theorem cOp_sound (h : Den ρ rd cx rg M st) {kc : KCall} (hkc : KcOK P S ρ kc) (hA : (cOp P rd o).run kc slot cx rg M k kp = true) : RunsTo P S ρ st slot o k kp := by
  cases ho : o.op
  case move x => simp only [cOp, ho] at hA; exact op_move h (.inl ho) hA
  case assign x => simp only [cOp, ho] at hA; exact op_move h (.inr ho) hA
  case pick c a b => simp only [cOp, ho] at hA; exact op_pick h ho hA
  case alloc e => exact op_alloc h ho hA
  case box e x => exact op_box h ho hA
  case build t ps => exact op_build h ho hA
  case buildSlice t n ps => exact op_buildSlice h ho hA
  case load t a => exact op_load h ho hA
  case store t a x => exact op_store h ho hA
  case nilCheck x => simp only [cOp, ho] at hA; exact op_nilCheck h ho hA
  case binOp op t x y yt => exact op_bin h ho hA
  case unOp op t x => exact op_unOp h ho hA
  case convert s d x => exact op_convert h ho hA
  case makeInterface t x => exact op_iface h ho hA
  case typeAssert x xt t ok => exact op_assert h ho hA
  case makeFunc fn a c => exact op_func h ho hA
  case makeSlice t l c => exact op_makeSlice h ho hA
  case slice t x lo hi mx => exact op_slice h ho hA
  case fieldAddr t x f => exact op_fieldAddr h ho hA
  case field t x f => exact op_field h ho hA
  case indexAddr t x ix => exact op_indexAddr h ho hA
  case index t x ix => exact op_index h ho hA
  case extract t ix => simp only [cOp, ho] at hA; exact op_extract h ho hA
  case panic x => simp only [cOp, ho] at hA; exact op_panic h ho hA
  case call c =>
    cases hc : c.callee with
    | value f => exact op_call h hkc ho hc hA
    | invoke r m => simp only [cOp, ho, hc] at hA; cases hA
    | builtin b => simp only [cOp, ho, hc] at hA; exact op_builtin h ho hc hA
  all_goals
    simp only [cOp, ho] at hA
    simp only [aPlain, Act.run] at hA
    obtain ⟨v, e, hk⟩ := plainK_sound h.rok hA
    exact RunsTo.val h.mem h.sat hk (by simp only [opD, ho, e])
end
end
end Go.Sx

/- The kernel's evaluator against the plain one: operations one behind the other. -/
namespace Go.Sx
noncomputable section

theorem cDst_sound {rd nt : Nat} (hn : nt ≤ 8 ^ rd) (d : Option Nat) : ∃ p, cDst rd nt d = .mk p ∧ ∀ (ρ : Nat → Int) rg v f, p rg v f = true → ∃ rg', f rg' = true ∧ ∀ st : St, st.nt = nt → RegsOK ρ rd rg st.regs →
    ∃ st', putD st d (abs ρ v) = some st' ∧ st'.nt = nt ∧ st'.m = st.m ∧ RegsOK ρ rd rg' st'.regs := by
  cases d with
  | none => exact ⟨_, rfl, fun ρ rg v f h => ⟨rg, h, fun st hnt hr => ⟨st, rfl, hnt, rfl, hr⟩⟩⟩
  | some d =>
    simp only [cDst]
    by_cases hd : d < nt
    · rw [show Nat.blt d nt = true from blt_iff.2 hd]
      simp only [bcond_true]
      cases hs : (stB rd d : SB KV rd) with
      | mk s =>
        refine ⟨s, rfl, fun ρ rg v f h => ⟨putT rd d v rg, ?_, fun st hnt hr => ?_⟩⟩
        · have := stB_run rd d rg v f
          rw [hs] at this
          rw [← this]; exact h
        · refine ⟨{ st with regs := upd st.regs d (abs ρ v) }, by simp only [putD, hnt, if_pos hd], hnt, rfl, fun t => ?_⟩
          simp only [upd]
          by_cases ht : t < 8 ^ rd
          · rw [if_pos ht, getT_putT rd d t v rg (by omega) ht]
            by_cases e : t = d
            · rw [if_pos e, if_pos e]
            · rw [if_neg e, if_neg e, hr t, if_pos ht]
          · rw [if_neg ht, if_neg (by omega), hr t, if_neg ht]
    · have : Nat.blt d nt = false := by cases hq : Nat.blt d nt with | false => rfl | true => exact absurd (blt_iff.1 hq) hd
      rw [this]
      exact ⟨_, rfl, fun ρ rg v f h => by cases h⟩

theorem chain_run {rd : Nat} (A : Act rd) (p : PutF rd) (next : OpsF rd) : ∃ F, chain A p next = .mk F ∧ ∀ kc cx rg M kn ko, F kc cx rg M kn ko = true → A.run kc none cx rg M (fun cx v M => p rg v fun rg => next kc cx rg M kn ko) (fun cx v M => ko (.panic v) cx rg M) = true := by
  cases A <;> exact ⟨_, rfl, fun kc cx rg M kn ko h => h⟩
theorem onFlag_true {v : KV} {t e n : Bool} (h : onFlag v t e n = true) : (v = .bool true ∧ t = true) ∨ (v = .bool false ∧ e = true) ∨ (v = .tuple [] ∧ n = true) := by
  cases v <;> try (cases h; done)
  · rename_i b; cases b
    · exact .inr (.inl ⟨rfl, h⟩)
    · exact .inl ⟨rfl, h⟩
  · rename_i l; cases l
    · exact .inr (.inr ⟨rfl, h⟩)
    · cases h

section
variable (P : Program) (S : FuncId → List V → Option V)
def EndX (ρ : Nat → Int) (rd nt : Nat) (x : X) (st : St) (kn : KN rd) (ko : KO rd) : Prop := ∃ cx rg M, Den ρ rd cx rg M st ∧ st.nt = nt ∧ match x with
  | .normal => kn cx rg M = true
  | .exit id => ko (.exit id) cx rg M = true
  | .ret => ko .ret cx rg M = true
  | .panic v => ∃ kv, abs ρ kv = v ∧ ko (.panic kv) cx rg M = true
end
section
variable {P : Program} {S : FuncId → List V → Option V} {ρ : Nat → Int} {rd nt : Nat}
theorem opsD_le {n m : Nat} (h : n ≤ m) {ops : Array Oper} {l : List Oper} {st : St} {r : X × St} (e : opsD P (runF P S (execD P S n)) ops l st = some r) : opsD P (runF P S (execD P S m)) ops l st = some r := opsD_mono (runF_le h) ops l st r e
theorem opD_le {n m : Nat} (h : n ≤ m) {st : St} {slot : Option Nat} {o : Oper} {r : R × Mem} (e : opD P (runF P S (execD P S n)) st slot o = some r) : opD P (runF P S (execD P S m)) st slot o = some r := opD_mono (runF_le h) e

def flagD (v : V) (want : Bool) : Option Bool := match v with
  | .bool b => some (b == want)
  | .tuple [] => some false
  | _ => Option.none
theorem wantedD_some {regs : Nat → V} {ops : Array Oper} {o : Oper} {j : Nat} {want : Bool} {t : Nat} (hg : o.guard = some (j, want)) (ht : (ops[j]?).bind (·.dst) = some t) {v : V} (hv : regs t = v) : wantedD regs ops o = flagD v want := by
  unfold wantedD
  rw [hg]
  simp only [ht, hv]
  rfl

theorem cOps_sound (hn : nt ≤ 8 ^ rd) {kc : KCall} (hkc : KcOK P S ρ kc) (ops : Array Oper) : ∀ (l : List Oper), ∃ f, cOps P rd nt ops l = .mk f ∧ ∀ cx rg M (st : St) kn ko, Den ρ rd cx rg M st → st.nt = nt → f kc cx rg M kn ko = true →
    ∃ n x st', opsD P (runF P S (execD P S n)) ops l st = some (x, st') ∧ EndX ρ rd nt x st' kn ko
  | [] => ⟨_, rfl, fun cx rg M st kn ko hd hnt h => ⟨0, .normal, st, rfl, cx, rg, M, hd, hnt, h⟩⟩
  | o :: l => by
    obtain ⟨next, e1, ih⟩ := cOps_sound hn hkc ops l
    obtain ⟨p, e2, hp⟩ := cDst_sound hn o.dst
    have e3 : cOps P rd nt ops (o :: l) = cStep P rd nt ops o next := by
      show (OpsA.rec (fun next => cStep P rd nt ops o next) (cOps P rd nt ops l) : OpsA rd) = _
      rw [e1]
    rw [e3]
    unfold cStep
    rw [e2]
    simp only
    -- the operation is carried out
    have run : ∀ (F : OpsF rd), (∀ kc cx rg M kn ko, F kc cx rg M kn ko = true → (cOp P rd o).run kc none cx rg M (fun cx v M => p rg v fun rg => next kc cx rg M kn ko) (fun cx v M => ko (.panic v) cx rg M) = true) → ∀ cx rg M (st : St) kn ko, Den ρ rd cx rg M st → st.nt = nt → wantedD st.regs ops o = some true → F kc cx rg M kn ko = true →
        ∃ n x st', opsD P (runF P S (execD P S n)) ops (o :: l) st = some (x, st') ∧ EndX ρ rd nt x st' kn ko := by
      intro F hF cx rg M st kn ko hd hnt hw h
      obtain ⟨n, r, m', cx', M', e, s', d', out⟩ := cOp_sound hd hkc (hF _ _ _ _ _ _ h)
      have go : ∀ (v : V) (kv : KV), abs ρ kv = v → p rg kv (fun rg => next kc cx' rg M' kn ko) = true → (∀ n1, n ≤ n1 → ∀ st1, putD { st with m := m' } o.dst v = some st1 → opsD P (runF P S (execD P S n1)) ops (o :: l) st = opsD P (runF P S (execD P S n1)) ops l st1) →
          ∃ n x st', opsD P (runF P S (execD P S n)) ops (o :: l) st = some (x, st') ∧ EndX ρ rd nt x st' kn ko := by
        intro v kv hv hk hstep
        obtain ⟨rg', hk', hput⟩ := hp ρ rg kv _ hk
        obtain ⟨st1, q1, q2, q3, q4⟩ := hput { st with m := m' } hnt hd.regs
        rw [hv] at q1
        have hd1 : Den ρ rd cx' rg' M' st1 := ⟨s', q4, by rw [q3]; exact d'⟩
        obtain ⟨n2, x, st', e2, hend⟩ := ih cx' rg' M' st1 kn ko hd1 q2 hk'
        refine ⟨max n n2, x, st', ?_, hend⟩
        rw [hstep (max n n2) (Nat.le_max_left _ _) st1 q1]
        exact opsD_le (Nat.le_max_right _ _) e2
      cases r with
      | val v =>
        obtain ⟨kv, hv, hk⟩ := out
        refine go v kv hv hk (fun n1 hn1 st1 hst => ?_)
        simp only [opsD, hw, opD_le hn1 e, hst]
      | skip =>
        obtain ⟨kv, hv, hk⟩ := out
        refine go undefV kv hv hk (fun n1 hn1 st1 hst => ?_)
        simp only [opsD, hw, opD_le hn1 e, hst]
      | panic v =>
        obtain ⟨kv, hv, hk⟩ := out
        refine ⟨n, .panic v, { st with m := m' }, by simp only [opsD, hw, e], cx', rg, M', ⟨s', hd.regs, d'⟩, hnt, kv, hv, hk⟩
    have skip : ∀ cx rg M (st : St) kn ko, Den ρ rd cx rg M st → st.nt = nt → wantedD st.regs ops o = some false → skipC p next kc cx rg M kn ko = true →
        ∃ n x st', opsD P (runF P S (execD P S n)) ops (o :: l) st = some (x, st') ∧ EndX ρ rd nt x st' kn ko := by
      intro cx rg M st kn ko hd hnt hw h
      obtain ⟨rg', hk', hput⟩ := hp ρ rg undefK _ h
      obtain ⟨st1, q1, q2, q3, q4⟩ := hput st hnt hd.regs
      rw [undefK_abs] at q1
      have hd1 : Den ρ rd cx rg' M st1 := ⟨hd.sat, q4, by rw [q3]; exact hd.mem⟩
      obtain ⟨n2, x, st', e2, hend⟩ := ih cx rg' M st1 kn ko hd1 q2 hk'
      exact ⟨n2, x, st', by simp only [opsD, hw, q1, e2], hend⟩
    cases hg : o.guard with
    | none =>
      simp only
      obtain ⟨F, e4, hF⟩ := chain_run (cOp P rd o) p next
      refine ⟨F, e4, fun cx rg M st kn ko hd hnt h => run F hF cx rg M st kn ko hd hnt ?_ h⟩
      unfold wantedD; rw [hg]
    | some g =>
      obtain ⟨j, want⟩ := g
      simp only
      cases ht : (ops[j]?).bind (·.dst) with
      | none =>
        simp only
        refine ⟨_, rfl, fun cx rg M st kn ko hd hnt h => skip cx rg M st kn ko hd hnt ?_ h⟩
        unfold wantedD; rw [hg]; simp only [ht]
      | some t =>
        simp only
        obtain ⟨g1, h1, e5, hv⟩ := cSrc_den rd (.tmp t)
        rw [e5]
        obtain ⟨F, e4, hF⟩ := chain_run (cOp P rd o) p next
        simp only [e4]
        cases want with
        | true =>
          refine ⟨_, rfl, fun cx rg M st kn ko hd hnt h => ?_⟩
          obtain ⟨v, _, lv, av⟩ := hv rg
          have ev : st.regs t = abs ρ v := (av ρ st.regs hd.regs).symm
          simp only [lv] at h
          have hw := wantedD_some hg ht ev
          rcases onFlag_true h with ⟨q, h⟩ | ⟨q, h⟩ | ⟨q, h⟩ <;> subst q
          · exact run F hF cx rg M st kn ko hd hnt (by rw [hw]; simp [abs, flagD]) h
          · exact skip cx rg M st kn ko hd hnt (by rw [hw]; simp [abs, flagD]) h
          · exact skip cx rg M st kn ko hd hnt (by rw [hw]; simp [abs, absL, flagD]) h
        | false =>
          refine ⟨_, rfl, fun cx rg M st kn ko hd hnt h => ?_⟩
          obtain ⟨v, _, lv, av⟩ := hv rg
          have ev : st.regs t = abs ρ v := (av ρ st.regs hd.regs).symm
          simp only [lv] at h
          have hw := wantedD_some hg ht ev
          rcases onFlag_true h with ⟨q, h⟩ | ⟨q, h⟩ | ⟨q, h⟩ <;> subst q
          · exact skip cx rg M st kn ko hd hnt (by rw [hw]; simp [abs, flagD]) h
          · exact run F hF cx rg M st kn ko hd hnt (by rw [hw]; simp [abs, flagD]) h
          · exact skip cx rg M st kn ko hd hnt (by rw [hw]; simp [abs, absL, flagD]) h
end
end
end Go.Sx

/- The kernel's evaluator against the plain one: regions that draw their order. -/
namespace Go.Sx
noncomputable section

/-- What a record may be, by the operation's sort. -/
def KindOK (o : Oper) (r : Rec) : Prop := match r with
  | .no => True
  | .load _ _ => kindN o = 2
  | .call _ => kindN o = 1
theorem kindN_both {P : Program} {o : Oper} : (kindD P o = .eff ↔ kindN o = 1) ∧ (kindD P o = .load ↔ kindN o = 2) := by
  unfold kindD kindN
  cases o.op <;> try (constructor <;> constructor <;> intro h <;> first | rfl | (cases h; done))
  case convert s d x =>
    simp only
    split <;> (constructor <;> constructor <;> intro h <;> first | rfl | (cases h; done))
  case call c =>
    simp only
    cases c.callee <;> try (constructor <;> constructor <;> intro h <;> first | rfl | (cases h; done))
    rename_i b
    cases b <;> (constructor <;> constructor <;> intro h <;> first | rfl | (cases h; done))
theorem kindN_eff {P : Program} {o : Oper} : kindD P o = .eff ↔ kindN o = 1 := kindN_both.1
theorem kindN_load {P : Program} {o : Oper} : kindD P o = .load ↔ kindN o = 2 := kindN_both.2
theorem recD_kind {P : Program} {st : St} {o : Oper} {log : List Nat} : KindOK o (recD P st o log) := by
  unfold recD
  cases hk : kindD P o <;> simp only <;> try exact trivial
  · split
    · split
      · exact kindN_load.1 hk
      · exact trivial
    · exact trivial
  · exact kindN_eff.1 hk

theorem rootK_sound {ρ : Nat → Int} {M : KM} {m : Mem} (h : DenM ρ M m) {b : Nat} {k : Nat → Bool} (hk : rootK M b k = true) : k (rootD m b) = true := by
  obtain ⟨ob, ht, nx, log, ln⟩ := M
  unfold rootK at hk
  unfold rootD
  simp only at hk
  rw [ownK_eq] at hk
  have hob := h.ob b
  simp only at hob
  rw [own_eq] at hob
  cases ho : ownG ob b with
  | some x => rw [ho] at hob hk; rw [hob]; exact hk
  | none =>
    rw [ho] at hob hk; rw [hob]
    simp only [Option.map_none] at hk ⊢
    rw [hpK_eq] at hk
    cases hsh : shared ht b with
    | none => rw [hsh] at hk; cases hk
    | some x =>
      rw [hsh] at hk
      obtain ⟨_, _, blk, e1, e2, _⟩ := h.hp b x hsh
      rw [e1]
      simp only [e2]
      exact hk
theorem tgtVK_abs (ρ : Nat → Int) (v : KV) : tgtV (abs ρ v) = tgtVK v := by cases v <;> simp only [tgtVK, tgtV, abs]
section
variable {P : Program} {S : FuncId → List V → Option V} {ρ : Nat → Int} {rd nt : Nat}
theorem effRec_sound {i : Nat} {l : List Nat} {M M' : KM} {m m' : Mem} (h : DenM ρ M m) (h' : DenM ρ M' m') {rs : Recs} {k : Recs → Bool} (hk : effRec i l M M' rs k = true) : k ((i, .call (l ++ newLog m'.g.log m.g.log)) :: rs) = true := by
  obtain ⟨ob, ht, nx, log, ln⟩ := M
  obtain ⟨ob', ht', nx', log', ln'⟩ := M'
  have h1 := h.ln; have h2 := h'.ln; have h3 := h'.log
  simp only at h1 h2 h3
  unfold effRec at hk
  simp only at hk
  unfold newLog
  rw [← h3, h3, ← h2, ← h1, ← h3]
  exact hk
/-- What is recorded of an operation is what the plain evaluator records. -/
theorem cRec_sound {cx : Cx} {rg : Regs rd} {M M' : KM} {st : St} {m' : Mem} (h : Den ρ rd cx rg M st) (h' : DenM ρ M' m') {i : Nat} {o : Oper} {rs : Recs} {k : Recs → Bool} (hk : cRec rd i o rg M M' rs k = true) :
    ∃ rs', k rs' = true ∧ (rs' = (i, recD P st o (newLog m'.g.log st.m.g.log)) :: rs ∨ (rs' = rs ∧ recD P st o (newLog m'.g.log st.m.g.log) = .no)) := by
  unfold cRec at hk
  by_cases hkind : kindN o = 1
  · rw [hkind] at hk
    simp only at hk
    have he : kindD P o = .eff := kindN_eff.2 hkind
    have hr : recD P st o (newLog m'.g.log st.m.g.log) = .call (tgtD st.regs o ++ newLog m'.g.log st.m.g.log) := by unfold recD; rw [he]
    have fin : ∀ l, l = tgtD st.regs o → effRec i l M M' rs k = true → ∃ rs', k rs' = true ∧ (rs' = (i, recD P st o (newLog m'.g.log st.m.g.log)) :: rs ∨ (rs' = rs ∧ recD P st o (newLog m'.g.log st.m.g.log) = .no)) := by
      intro l hl hk
      exact ⟨_, effRec_sound h.mem h' hk, .inl (by rw [hr, hl])⟩
    cases ht : cTgt rd o with
    | none =>
      rw [ht] at hk
      refine fin [] ?_ hk
      unfold cTgt at ht
      unfold tgtD
      cases ho : o.op <;> rw [ho] at ht <;> simp only at ht ⊢
      · rename_i t a x
        obtain ⟨g1, h1, e5, hv⟩ := cSrc_den rd a
        rw [e5] at ht; cases ht
      · rename_i c
        cases hc : c.callee <;> rw [hc] at ht <;> simp only at ht ⊢
        cases ha : c.args.toList <;> rw [ha] at ht <;> simp only at ht ⊢
        rename_i s _
        obtain ⟨g1, h1, e5, hv⟩ := cSrc_den rd s
        rw [e5] at ht; cases ht
    | some hh =>
      rw [ht] at hk
      refine fin _ ?_ hk
      unfold cTgt at ht
      unfold tgtD
      cases ho : o.op <;> rw [ho] at ht <;> simp only at ht ⊢ <;> try (cases ht; done)
      · rename_i t a x
        obtain ⟨g1, h1, e5, hv⟩ := cSrc_den rd a
        rw [e5] at ht
        simp only [Option.some.injEq] at ht
        subst ht
        obtain ⟨v, _, lv, av⟩ := hv rg
        rw [lv, ← av ρ st.regs h.regs, tgtVK_abs]
      · rename_i c
        cases hc : c.callee <;> rw [hc] at ht <;> simp only at ht ⊢ <;> try (cases ht; done)
        cases ha : c.args.toList <;> rw [ha] at ht <;> simp only at ht ⊢ <;> try (cases ht; done)
        rename_i s _
        obtain ⟨g1, h1, e5, hv⟩ := cSrc_den rd s
        rw [e5] at ht
        simp only [Option.some.injEq] at ht
        subst ht
        obtain ⟨v, _, lv, av⟩ := hv rg
        rw [lv, ← av ρ st.regs h.regs, tgtVK_abs]
  by_cases hkind2 : kindN o = 2
  · rw [hkind2] at hk
    simp only at hk
    have he : kindD P o = .load := kindN_load.2 hkind2
    unfold recD
    rw [he]
    simp only
    cases ho : o.op <;> rw [ho] at hk <;> simp only at hk ⊢ <;> try (exact ⟨_, hk, .inl rfl⟩)
    rename_i t a
    obtain ⟨g1, h1, e5, hv⟩ := cSrc_den rd a
    rw [e5] at hk
    obtain ⟨v, _, lv, av⟩ := hv rg
    simp only [lv] at hk
    have ev := av ρ st.regs h.regs
    rw [← ev]
    cases v <;> simp only [abs] at hk ⊢ <;> try (exact ⟨_, hk, .inl rfl⟩)
    exact ⟨_, rootK_sound h.mem hk, .inl rfl⟩
  · have hk : k rs = true := by
      revert hk hkind hkind2
      cases kindN o with
      | zero => intro hk _ _; exact hk
      | succ n => cases n with
        | zero => intro _ h; exact absurd rfl h
        | succ n => cases n with
          | zero => intro _ _ h; exact absurd rfl h
          | succ n => intro hk _ _; exact hk
    refine ⟨rs, hk, .inr ⟨rfl, ?_⟩⟩
    unfold recD
    cases he : kindD P o <;> simp only
    · exact absurd (kindN_load.1 he) hkind2
    · exact absurd (kindN_eff.1 he) hkind
end
end
end Go.Sx
