/- Proved here: what functions of the program compute, each by a contract over its translation (rules of the walk, or contracts function by function). No conditions beyond those that each contract states. -/
import Derived.Tactics
import Derived.TacticsIn
import Derived.OrdersIn
import Derived.RangeFuncRecord
import Derived.KernelRfl
import Derived.Orders
namespace Go.W

/-! The walk as a function: a predicate transformer that the kernel computes on closed code, and its soundness. -/

structure Env where
  base : Nat → Value
  ov : List (Nat × Value)

noncomputable def look (base : Nat → Value) (t : Nat) (l : List (Nat × Value)) : Value :=
  List.rec (motive := fun _ => Value) (base t) (fun p _ ih => cond (Nat.beq p.1 t) p.2 ih) l

noncomputable def Env.get (e : Env) (t : Nat) : Value := look e.base t e.ov
noncomputable def Env.eval (e : Env) : Operand → Value
  | .tmp t => e.get t
  | .const v => v
  | .global g => .pointer (some ⟨g, 0, none⟩)
  | .func f => .func (.func f) #[] #[]
def Env.set (e : Env) (d : Nat) (v : Value) : Env := ⟨e.base, (d, v) :: e.ov⟩
noncomputable def Env.keep (l : List Nat) (e : Env) (b : Nat → Value) : Env := ⟨b, l.map fun t => (t, e.get t)⟩
noncomputable def Env.vals (l : List Nat) (e : Env) : List Value := l.map e.get
def Env.of (l : List Nat) (vs : List Value) (b : Nat → Value) : Env := ⟨b, l.zip vs⟩

inductive Sh0 where
  | int (k : IntKind) | bool | str | ptr | slc | map | one
inductive Sh1 where
  | s0 (x : Sh0)
  | agg
  | aggs (l : List Sh0)
inductive Sh where
  | s (x : Sh1)
  | tup (l : List Sh1)

def ex0 (s : Sh0) (φ : Value → Prop) : Prop :=
  match s with
  | .int k => ∃ n : Int, φ (.int k n)
  | .bool => ∃ b : Bool, φ (.bool b)
  | .str => ∃ x : ByteArray, φ (.string x)
  | .ptr => ∃ p : Option Addr, φ (.pointer p)
  | .slc => ∃ (p : Option Addr) (l c : Nat), φ (.slice p l c)
  | .map => ∃ r : Option Nat, φ (.map r)
  | .one => ∃ v : Value, φ v
noncomputable def exL0 (l : List Sh0) : (List Value → Prop) → Prop :=
  List.rec (motive := fun _ => (List Value → Prop) → Prop) (fun φ => φ []) (fun s _ ih φ => ex0 s fun v => ih fun vs => φ (v :: vs)) l
noncomputable def ex1 (s : Sh1) (φ : Value → Prop) : Prop :=
  match s with
  | .s0 x => ex0 x φ
  | .agg => ∃ cs : Array Value, φ (.agg cs)
  | .aggs l => exL0 l fun vs => φ (.agg vs.toArray)
noncomputable def exL (l : List Sh1) : (List Value → Prop) → Prop :=
  List.rec (motive := fun _ => (List Value → Prop) → Prop) (fun φ => φ []) (fun s _ ih φ => ex1 s fun v => ih fun vs => φ (v :: vs)) l
noncomputable def exV (s : Sh) (φ : Value → Prop) : Prop :=
  match s with
  | .s x => ex1 x φ
  | .tup l => exL l fun vs => φ (.tuple vs.toArray)

theorem ex0_ex {s : Sh0} {φ : Value → Prop} (h : ex0 s φ) : ∃ v, φ v := by
  cases s
  case slc => obtain ⟨p, l, c, h⟩ := h; exact ⟨_, h⟩
  all_goals (obtain ⟨n, h⟩ := h; exact ⟨_, h⟩)
theorem exL0_ex {l : List Sh0} : ∀ {φ : List Value → Prop}, exL0 l φ → ∃ v, φ v := by
  induction l with
  | nil => intro φ h; exact ⟨[], h⟩
  | cons s l ih =>
    intro φ h
    have h' : ex0 s fun v => exL0 l fun vs => φ (v :: vs) := h
    obtain ⟨v, h⟩ := ex0_ex h'
    obtain ⟨vs, h⟩ := ih h
    exact ⟨v :: vs, h⟩
theorem ex1_ex {s : Sh1} {φ : Value → Prop} (h : ex1 s φ) : ∃ v, φ v := by
  cases s with
  | s0 x => exact ex0_ex h
  | agg => obtain ⟨n, h⟩ := h; exact ⟨_, h⟩
  | aggs l => obtain ⟨vs, h⟩ := exL0_ex h; exact ⟨_, h⟩
theorem exL_ex {l : List Sh1} : ∀ {φ : List Value → Prop}, exL l φ → ∃ v, φ v := by
  induction l with
  | nil => intro φ h; exact ⟨[], h⟩
  | cons s l ih =>
    intro φ h
    have h' : ex1 s fun v => exL l fun vs => φ (v :: vs) := h
    obtain ⟨v, h⟩ := ex1_ex h'
    obtain ⟨vs, h⟩ := ih h
    exact ⟨v :: vs, h⟩
theorem exV_ex {s : Sh} {φ : Value → Prop} (h : exV s φ) : ∃ v, φ v := by
  cases s with
  | s x => exact ex1_ex h
  | tup l => obtain ⟨vs, h⟩ := exL_ex h; exact ⟨_, h⟩

def shape0 (P : Program) (t : TypeId) : Sh0 :=
  match P.underlying t with
  | some .bool => .bool
  | some (.int k) => .int k
  | some .string => .str
  | some (.pointer _) => .ptr
  | some (.slice _) => .slc
  | some (.map _ _) => .map
  | _ => .one
def cells0 (P : Program) : Nat → TypeId → List Sh0
  | 0, t => [shape0 P t]
  | n + 1, t =>
    match P.underlying t with
    | some (.struct fs) => fs.toList.flatMap fun f => cells0 P n f.type
    | some (.array m e) => (List.replicate m (cells0 P n e)).flatten
    | _ => [shape0 P t]
def aggShape (P : Program) (t : TypeId) : Sh1 :=
  match P.info? t with
  | some i => cond (Nat.ble i.size 16) (.aggs (cells0 P 8 t)) .agg
  | none => .agg
def shape1 (P : Program) (t : TypeId) : Sh1 :=
  match P.underlying t with
  | some (.struct _) => aggShape P t
  | some (.array _ _) => aggShape P t
  | _ => .s0 (shape0 P t)
def shapeOf (P : Program) (t : TypeId) : Sh :=
  match P.underlying t with
  | some (.tuple ts) => .tup (ts.toList.map (shape1 P))
  | _ => .s (shape1 P t)

/-- An operation ends in a value and a world. -/
def Is (P : Program) {α : Type} (s : Sem α) (w : World) (a : α) (w' : World) : Prop := s.run P w = .ok a w'

def pureRun (P : Program) (ρ : Operand → Value) (o : Oper) (w : World) (next : Value → World → Prop) : Prop :=
  match (execOp ρ o).run P w with
  | .ok (.value v) w' => next v w'
  | _ => False
noncomputable def genRun (P : Program) (s : Sh) (ρ : Operand → Value) (o : Oper) (w : World) (next : Value → World → Prop) : Prop :=
  exV s fun v => ∃ w', (execOp ρ o).run P w = .ok (.value v) w' ∧ next v w'
def nilK (p : Option Addr) (K : Addr → Prop) : Prop :=
  match p with
  | some a => K a
  | none => False
def isInt : Value → Bool
  | .int _ _ => true
  | _ => false
def isStr : Value → Bool
  | .string _ => true
  | _ => false
def isBool : Value → Bool
  | .bool _ => true
  | _ => false
def pureBin (op : BinOp) (x y : Value) (yo : Operand) : Bool :=
  match op with
  | .add | .sub | .mul | .lss | .leq | .gtr | .geq => isInt x && isInt y
  | .and | .or | .xor | .andNot => isInt x && isInt y
  | .eql | .neq => (isInt x && isInt y) || (isStr x && isStr y)
  | .quo | .rem | .shl | .shr =>
    match yo with
    | .const _ => isInt x && isInt y
    | _ => false

/-- A call of a function with a body, by its contract. -/
noncomputable def callK (P : Program) (s : Sh) (f : FuncId) (args : Array Value) (w : World) (next : Value → World → Prop) : Prop :=
  Calls P f args w fun e w' => exV s fun v => e = .returned v ∧ next v w'
/-- A round of a range over a function. -/
def YieldW (P : Program) (l : Nat) (args : Array Value) (w : World) (R : Ending → World → Prop) : Prop :=
  ∃ fn tmps assign body, (Instr.yield l args).run P w = .ok (.round l fn tmps assign body) w ∧ RoundIn Fence.wide 0 P l fn tmps assign body w R
/-- A call of a function value. 'y': it may be a round. -/
def callV (P : Program) (y : Bool) (f : Value) (args : Array Value) (w : World) (R : Ending → World → Prop) : Prop :=
  match f with
  | .func (.func f) first captured =>
    match (P.funcs[f]?).bind (·.body) with
    | some _ => Calls P f (first ++ args ++ captured) w R
    | none => False
  | .func (.yield l) first _ => cond y (YieldW P l (first ++ args) w R) False
  | _ => False

noncomputable def callW (P : Program) (y : Bool) (o : Oper) (c : Call) (ρ : Operand → Value) (w : World) (next : Value → World → Prop) : Prop :=
  match c.callee with
  | .value (.func f) =>
    match (P.funcs[f]?).bind (·.body) with
    | some _ => callK P (shapeOf P o.type) f (c.args.map ρ) w next
    | none => exV (shapeOf P o.type) fun v => ∃ w', Is P (callFunc f (c.args.map ρ)) w (.value v) w' ∧ next v w'
  | .value (.tmp t) => callV P y (ρ (.tmp t)) (c.args.map ρ) w fun e w' => exV (shapeOf P o.type) fun v => e = .returned v ∧ next v w'
  | .value _ => False
  | .invoke _ _ => False
  | .builtin b =>
    match b with
    | .len | .cap =>
      match c.args.toList.map ρ with
      | [.slice _ _ _] => pureRun P ρ o w next
      | [.string _] => pureRun P ρ o w next
      | [.pointer _] => pureRun P ρ o w next
      | _ => genRun P (shapeOf P o.type) ρ o w next
    | .max | .min =>
      cond (c.args.toList.all fun x => isInt (ρ x)) (pureRun P ρ o w next) (genRun P (shapeOf P o.type) ρ o w next)
    | .append => exV (shapeOf P o.type) fun v => ∃ w', Is P (Builtin.append_ c.argTypes o.type (c.args.map ρ)) w v w' ∧ next v w'
    | .clear => exV (shapeOf P o.type) fun v => ∃ w', Is P (Builtin.clear_ c.argTypes o.type (c.args.map ρ)) w v w' ∧ next v w'
    | .delete => exV (shapeOf P o.type) fun v => ∃ w', Is P (Builtin.delete_ c.argTypes o.type (c.args.map ρ)) w v w' ∧ next v w'
    | .copy => exV (shapeOf P o.type) fun v => ∃ w', Is P (Builtin.copy_ c.argTypes o.type (c.args.map ρ)) w v w' ∧ next v w'
    | _ => genRun P (shapeOf P o.type) ρ o w next

/-- The types of the parts of what a map's or a string's iterator gives, by slot. -/
noncomputable def tab (l : List (Nat × List Nat)) (k : Option Nat) : List Nat :=
  match k with
  | none => []
  | some k => List.rec (motive := fun _ => List Nat) [] (fun p _ ih => cond (Nat.beq p.1 k) p.2 ih) l

noncomputable def opW (P : Program) (yl : Bool) (tt : List (Nat × List Nat)) (o : Oper) (ρ : Operand → Value) (w : World) (next : Value → World → Prop) : Prop :=
  match o.op with
  | .move _ | .assign _ | .build _ _ | .fieldAddr _ _ _ | .field _ _ _ | .unOp _ _ _ | .makeInterface _ _ | .makeFunc _ _ _ | .extract _ _ => pureRun P ρ o w next
  | .load t x => ex1 (shape1 P t) fun v => Is P (Instr.loadAt t (ρ x)) w v w ∧ next v w
  | .store t a x => ∃ w', Is P (Instr.storeAt t (ρ a) (ρ x)) w () w' ∧ next undef w'
  | .alloc t => ∃ b w', Is P (Instr.alloc t true (.tuple #[])) w (.pointer (some ⟨b, 0, none⟩)) w' ∧ next (.pointer (some ⟨b, 0, none⟩)) w'
  | .box t x => ∃ b w', Is P (Instr.box t (ρ x)) w (.pointer (some ⟨b, 0, none⟩)) w' ∧ next (.pointer (some ⟨b, 0, none⟩)) w'
  | .buildSlice t n parts => ∃ b w', Is P (Instr.buildSlice t n (parts.map fun (i, x) => (i, ρ x))) w (.slice (some ⟨b, 0, none⟩) n n) w' ∧ next (.slice (some ⟨b, 0, none⟩) n n) w'
  | .makeSlice t l c => ex0 .slc fun v => ∃ w', Is P (Instr.makeSlice t (ρ l) (ρ c)) w v w' ∧ next v w'
  | .nilCheck x =>
    match ρ x with
    | .pointer p => nilK p fun a => next (.pointer (some a)) w
    | .func (.func f) a b => next (.func (.func f) a b) w
    | _ => False
  | .indexAddr t x i =>
    match P.underlying t, ρ x, ρ i with
    | some (.array n e), .pointer (some a), .int _ j =>
      match P.info? e with
      | some ti => (0 ≤ j ∧ j < (n : Int)) ∧ next (.pointer (some (a.add (j.toNat * ti.size)))) w
      | none => False
    | some (.slice e), .slice p n _, .int _ j =>
      match P.info? e with
      | some ti => (0 ≤ j ∧ j < (n : Int)) ∧ nilK p fun a => next (.pointer (some (a.add (j.toNat * ti.size)))) w
      | none => False
    | _, _, _ => False
  | .slice t x lo hi mx => ex1 (shape1 P o.type) fun v => Is P (Instr.sliceAt t (ρ x) (lo.map ρ) (hi.map ρ) (mx.map ρ)) w v w ∧ next v w
  | .binOp op t x y _ =>
    cond (pureBin op (ρ x) (ρ y) y) (pureRun P ρ o w next)
      (ex1 (shape1 P o.type) fun v => ∃ w', Is P (do eqGuard op t x y (ρ x) (ρ y); binOp op t (ρ x) (ρ y)) w v w' ∧ next v w')
  | .convert s d x =>
    cond (isInt (ρ x)) (pureRun P ρ o w next) (ex1 (shape1 P d) fun v => ∃ w', Is P (convert s d (ρ x)) w v w' ∧ next v w')
  | .call c => callW P yl o c ρ w next
  | .mapUpdate t m k x => ∃ w', Is P (Instr.mapUpdate t (ρ m) (ρ k) (ρ x)) w () w' ∧ next undef w'
  | .insert t m k x => ∃ w', Is P (Instr.mapUpdate t (ρ m) (ρ k) (ρ x)) w () w' ∧ next undef w'
  | .entryStore t m s x => ∃ w', Is P (Instr.entryStore t (ρ m) (ρ s) (ρ x)) w () w' ∧ next undef w'
  | .lookup t x i ok => exV (shapeOf P o.type) fun v => ∃ w', Is P (Instr.lookup t (ρ x) (ρ i) ok) w v w' ∧ next v w'
  | .index t x i => exV (shapeOf P o.type) fun v => ∃ w', Is P (Instr.index t (ρ x) (ρ i)) w v w' ∧ next v w'
  | .makeMap t r => exV (shapeOf P o.type) fun v => ∃ w', Is P (Instr.makeMap t (r.map ρ)) w v w' ∧ next v w'
  | .mapEntry t m k => exL ((tab tt o.dst).map (shape1 P)) fun vs => ∃ w', Is P (Instr.mapEntry t (ρ m) (ρ k)) w (.tuple vs.toArray) w' ∧ next (.tuple vs.toArray) w'
  | .range t x => ∃ b w', Is P (Instr.range t (ρ x)) w (.pointer (some ⟨b, 0, none⟩)) w' ∧ next (.pointer (some ⟨b, 0, none⟩)) w'
  | .next it s =>
    (∃ w', Is P (Instr.next (ρ it) s o.type) w (.tuple #[.bool false]) w' ∧ next (.tuple #[.bool false]) w') ∨
    exL ((tab tt o.dst).map (shape1 P)) fun vs => ∃ w', Is P (Instr.next (ρ it) s o.type) w (.tuple (.bool true :: vs).toArray) w' ∧ next (.tuple (.bool true :: vs).toArray) w'
  | .entry it => exL ((tab tt o.dst).map (shape1 P)) fun vs => ∃ w', Is P (Instr.entry (ρ it)) w (.tuple vs.toArray) w' ∧ next (.tuple vs.toArray) w'
  | _ => False

/-- An operation's result goes into its slot, which must be one of the frame's. -/
def putK (n : Nat) (d : Option Nat) (e : Env) (v : Value) (K : Env → Prop) : Prop :=
  match d with
  | none => K e
  | some d => cond (Nat.blt d n) (K (e.set d v)) False

def litB (e : Env) (c : Operand) (b : Bool) : Env :=
  match c with
  | .tmp t => e.set t (.bool b)
  | _ => e

noncomputable def stepW (P : Program) (yl : Bool) (tt : List (Nat × List Nat)) (n : Nat) (o : Oper) (e : Env) (w : World) (K : Env → World → Prop) : Prop :=
  match o.op with
  | .pick c a b =>
    match e.eval c with
    | .bool t =>
      match t with
      | true => putK n o.dst (litB e c true) (e.eval a) fun e' => K e' w
      | false => putK n o.dst (litB e c false) (e.eval b) fun e' => K e' w
    | _ => False
  | _ => opW P yl tt o e.eval w fun v w' => putK n o.dst e v fun e' => K e' w'

noncomputable def wOps (P : Program) (tt : List (Nat × List Nat)) (n : Nat) (ops : Array Oper) (l : List Oper) : Env → World → (Env → World → Prop) → Prop :=
  List.rec (motive := fun _ => Env → World → (Env → World → Prop) → Prop)
    (fun e w K => K e w)
    (fun o _ ih e w K =>
      match o.guard with
      | none => stepW P true tt n o e w fun e' w' => ih e' w' K
      | some (j, want) =>
        match (ops[j]?).bind (·.dst) with
        | none => putK n o.dst e undef fun e' => ih e' w K
        | some s =>
          match e.get s with
          | .bool b =>
            match b with
            | true => cond want (stepW P true tt n o (e.set s (.bool true)) w fun e' w' => ih e' w' K) (putK n o.dst (e.set s (.bool true)) undef fun e' => ih e' w K)
            | false => cond want (putK n o.dst (e.set s (.bool false)) undef fun e' => ih e' w K) (stepW P true tt n o (e.set s (.bool false)) w fun e' w' => ih e' w' K)
          | .tuple _ => putK n o.dst e undef fun e' => ih e' w K
          | _ => False) l


/-! Soundness. -/

section
variable {P : Program}

theorem run_bind_ok {α β : Type} {s : Sem α} {f : α → Sem β} {w w' : World} {a : α} (h : s.run P w = .ok a w') : (s >>= f).run P w = (f a).run P w' := by
  rw [Sem.run_bind, h]; rfl

theorem sound_pure {o : Oper} {a : Act} {w : World} {next : Value → World → Prop} {K : Act → World → Prop} {Q : Exit → Act → World → Prop}
    (h : pureRun P a.eval o w next) (hK : ∀ v w', next v w' → K (a.put o.dst v) w') : o.wp P a w K Q := by
  unfold pureRun at h
  unfold Oper.wp
  split at h
  · rename_i v w' hr; rw [hr]; exact hK _ _ h
  · exact h.elim

theorem sound_gen {s : Sh} {o : Oper} {a : Act} {w : World} {next : Value → World → Prop} {K : Act → World → Prop} {Q : Exit → Act → World → Prop}
    (h : genRun P s a.eval o w next) (hK : ∀ v w', next v w' → K (a.put o.dst v) w') : o.wp P a w K Q := by
  obtain ⟨v, w', hr, h⟩ := exV_ex h
  unfold Oper.wp; rw [hr]; exact hK _ _ h

theorem sound_val {o : Oper} {a : Act} {w w' : World} {v : Value} {K : Act → World → Prop} {Q : Exit → Act → World → Prop}
    (hr : (execOp a.eval o).run P w = .ok (.value v) w') (h : K (a.put o.dst v) w') : o.wp P a w K Q := by
  unfold Oper.wp; rw [hr]; exact h
theorem sound_skip {o : Oper} {a : Act} {w w' : World} {K : Act → World → Prop} {Q : Exit → Act → World → Prop}
    (hr : (execOp a.eval o).run P w = .ok .skip w') (h : K (a.put o.dst undef) w') : o.wp P a w K Q := by
  unfold Oper.wp; rw [hr]; exact h

theorem run_v {s : Sem Value} {w w' : World} {v : Value} (h : s.run P w = .ok v w') : (do pure (Next.value (← s)) : Sem Next).run P w = .ok (.value v) w' := by
  rw [run_bind_ok h]; rfl
theorem run_u {s : Sem Unit} {w w' : World} (h : s.run P w = .ok () w') : (do s; pure Next.skip : Sem Next).run P w = .ok .skip w' := by
  rw [run_bind_ok h]; rfl

theorem run_info {t : TypeId} {i : TypeInfo} (h : P.info? t = some i) (w : World) : (sizeOf t).run P w = .ok i.size w := by
  simp [sizeOf, typeInfo, h, program, Sem.run_bind, Sem.run, Result.andThen]

theorem run_und {t : TypeId} {d : TypeDesc} (h : P.underlying t = some d) (w : World) : (underlying t).run P w = .ok d w := by
  simp [underlying, h, program, Sem.run_bind, Sem.run, Result.andThen]

theorem run_index_slice {t e : TypeId} {ti : TypeInfo} (h : P.underlying t = some (.slice e)) (hi : P.info? e = some ti) (a : Addr) (n c : Nat) (k : IntKind) (j : Int) (h0 : 0 ≤ j) (h1 : j < (n : Int)) (w : World) :
    (Instr.indexAt t (.slice (some a) n c) (.int k j)).run P w = .ok (.pointer (some (a.add (j.toNat * ti.size)))) w := by
  unfold Instr.indexAt
  simp [asIntOf, Sem.run_bind, run_und h, Result.andThen, h0, h1, run_info hi]

theorem run_index_array {t e : TypeId} {m : Nat} {ti : TypeInfo} (h : P.underlying t = some (.array m e)) (hi : P.info? e = some ti) (a : Addr) (k : IntKind) (j : Int) (h0 : 0 ≤ j) (h1 : j < (m : Int)) (w : World) :
    (Instr.indexAt t (.pointer (some a)) (.int k j)).run P w = .ok (.pointer (some (a.add (j.toNat * ti.size)))) w := by
  unfold Instr.indexAt
  simp [asIntOf, Instr.sureAddr, Sem.run_bind, run_und h, Result.andThen, h0, h1, run_info hi]

/-- No function of the program is the one that the model counts goroutines by. -/
def Plain (P : Program) : Prop := ∀ (f : Nat) (fn : Func), P.funcs[f]? = some fn → (fn.name == "runtime.NumGoroutine") = false

theorem run_callFunc (hP : Plain P) {f : FuncId} {c : Code} (hb : (P.funcs[f]?).bind (·.body) = some c) (args : Array Value) (w : World) :
    (callFunc f args).run P w = .ok (.enter f args) w := by
  cases hf : P.funcs[f]? with
  | none => simp [hf] at hb
  | some fn =>
    have hb' : fn.body = some c := by simpa [hf] using hb
    have hn : fn.name ≠ "runtime.NumGoroutine" := by simpa using hP f fn hf
    unfold callFunc
    rw [Sem.run_bind]
    show Sem.run P (match P.funcs[f]? with | none => stuck "call: no such function" | some fn => _) w = _
    rw [hf]
    simp [hn, hb']

theorem sound_callK {s : Sh} {f : FuncId} {args : Array Value} {o : Oper} {a : Act} {w : World} {next : Value → World → Prop} {K : Act → World → Prop} {Q : Exit → Act → World → Prop}
    (hr : (execOp a.eval o).run P w = .ok (.enter f args) w) (h : callK P s f args w next) (hK : ∀ v w', next v w' → K (a.put o.dst v) w') : o.wp P a w K Q := by
  unfold Oper.wp; rw [hr]
  rw [Oper.upon_enter]
  refine Calls.mono h ?_
  intro e w' hx
  obtain ⟨v, rfl, hn⟩ := exV_ex hx
  exact hK _ _ hn

theorem sound_opW (hP : Plain P) {tt : List (Nat × List Nat)} {o : Oper} {a : Act} {w : World} {next : Value → World → Prop} {K : Act → World → Prop} {Q : Exit → Act → World → Prop}
    (h : opW P false tt o a.eval w next) (hK : ∀ v w', next v w' → K (a.put o.dst v) w') : o.wp P a w K Q := by
  unfold opW at h
  cases ho : o.op with
  | move x => rw [ho] at h; exact sound_pure h hK
  | assign x => rw [ho] at h; exact sound_pure h hK
  | build t ps => rw [ho] at h; exact sound_pure h hK
  | fieldAddr t x f => rw [ho] at h; exact sound_pure h hK
  | field t x f => rw [ho] at h; exact sound_pure h hK
  | unOp u t x => rw [ho] at h; exact sound_pure h hK
  | makeInterface t x => rw [ho] at h; exact sound_pure h hK
  | makeFunc f x y => rw [ho] at h; exact sound_pure h hK
  | extract t i => rw [ho] at h; exact sound_pure h hK
  | load t x =>
    rw [ho] at h
    obtain ⟨v, hv, hn⟩ := ex1_ex h
    exact sound_val (by simp only [execOp, ho]; exact run_v hv) (hK _ _ hn)
  | store t x y =>
    rw [ho] at h
    obtain ⟨w', hv, hn⟩ := h
    exact sound_skip (by simp only [execOp, ho]; exact run_u hv) (hK _ _ hn)
  | alloc t =>
    rw [ho] at h
    obtain ⟨b, w', hv, hn⟩ := h
    exact sound_val (by simp only [execOp, ho]; exact run_v hv) (hK _ _ hn)
  | box t x =>
    rw [ho] at h
    obtain ⟨b, w', hv, hn⟩ := h
    exact sound_val (by simp only [execOp, ho]; exact run_v hv) (hK _ _ hn)
  | buildSlice t n ps =>
    rw [ho] at h
    obtain ⟨b, w', hv, hn⟩ := h
    exact sound_val (by simp only [execOp, ho]; exact run_v hv) (hK _ _ hn)
  | makeSlice t x y =>
    rw [ho] at h
    obtain ⟨v, w', hv, hn⟩ := ex0_ex h
    exact sound_val (by simp only [execOp, ho]; exact run_v hv) (hK _ _ hn)
  | nilCheck x =>
    rw [ho] at h
    dsimp only at h
    split at h
    · rename_i p hp
      unfold nilK at h
      cases p with
      | none => exact h.elim
      | some b => exact sound_val (by simp [execOp, ho, hp]) (hK _ _ h)
    · rename_i f x y hp
      exact sound_val (by simp [execOp, ho, hp]) (hK _ _ h)
    · exact h.elim
  | indexAddr t x i =>
    rw [ho] at h
    dsimp only at h
    split at h
    · rename_i m e b k j hu hx hi
      split at h
      · rename_i ti hti
        obtain ⟨⟨h0, h1⟩, hn⟩ := h
        exact sound_val (by simp only [execOp, ho, hx, hi]; exact run_v (run_index_array hu hti _ _ _ h0 h1 _)) (hK _ _ hn)
      · exact h.elim
    · rename_i e p m c k j hu hx hi
      split at h
      · rename_i ti hti
        obtain ⟨⟨h0, h1⟩, hn⟩ := h
        unfold nilK at hn
        cases p with
        | none => exact hn.elim
        | some b => exact sound_val (by simp only [execOp, ho, hx, hi]; exact run_v (run_index_slice hu hti _ _ _ _ _ h0 h1 _)) (hK _ _ hn)
      · exact h.elim
    · exact h.elim
  | slice t x lo hi mx =>
    rw [ho] at h
    obtain ⟨v, hv, hn⟩ := ex1_ex h
    exact sound_val (by simp only [execOp, ho]; exact run_v hv) (hK _ _ hn)
  | binOp op t x y yt =>
    rw [ho] at h
    dsimp only at h
    cases hb : pureBin op (a.eval x) (a.eval y) y with
    | true => rw [hb] at h; exact sound_pure h hK
    | false =>
      rw [hb] at h
      dsimp only [cond] at h
      obtain ⟨v, w', hv, hn⟩ := ex1_ex h
      exact sound_val (by simp only [execOp, ho]; exact run_v hv) (hK _ _ hn)
  | convert s d x =>
    rw [ho] at h
    dsimp only at h
    cases hb : isInt (a.eval x) with
    | true => rw [hb] at h; exact sound_pure h hK
    | false =>
      rw [hb] at h
      dsimp only [cond] at h
      obtain ⟨v, w', hv, hn⟩ := ex1_ex h
      exact sound_val (by simp only [execOp, ho]; exact run_v hv) (hK _ _ hn)
  | mapUpdate t m k x =>
    rw [ho] at h
    obtain ⟨w', hv, hn⟩ := h
    exact sound_skip (by simp only [execOp, ho]; exact run_u hv) (hK _ _ hn)
  | insert t m k x =>
    rw [ho] at h
    obtain ⟨w', hv, hn⟩ := h
    exact sound_skip (by simp only [execOp, ho]; exact run_u hv) (hK _ _ hn)
  | entryStore t m k x =>
    rw [ho] at h
    obtain ⟨w', hv, hn⟩ := h
    exact sound_skip (by simp only [execOp, ho]; exact run_u hv) (hK _ _ hn)
  | lookup t x i ok =>
    rw [ho] at h
    obtain ⟨v, w', hv, hn⟩ := exV_ex h
    exact sound_val (by simp only [execOp, ho]; exact run_v hv) (hK _ _ hn)
  | index t x i =>
    rw [ho] at h
    obtain ⟨v, w', hv, hn⟩ := exV_ex h
    exact sound_val (by simp only [execOp, ho]; exact run_v hv) (hK _ _ hn)
  | makeMap t r =>
    rw [ho] at h
    obtain ⟨v, w', hv, hn⟩ := exV_ex h
    exact sound_val (by simp only [execOp, ho]; exact run_v hv) (hK _ _ hn)
  | mapEntry t m k =>
    rw [ho] at h
    obtain ⟨v, w', hv, hn⟩ := exL_ex h
    exact sound_val (by simp only [execOp, ho]; exact run_v hv) (hK _ _ hn)
  | range t x =>
    rw [ho] at h
    obtain ⟨v, w', hv, hn⟩ := h
    exact sound_val (by simp only [execOp, ho]; exact run_v hv) (hK _ _ hn)
  | next it s =>
    rw [ho] at h
    have key : ∀ v w', Is P (Instr.next (a.eval it) s o.type) w v w' → next v w' → o.wp P a w K Q := fun v w' hv hn =>
      sound_val (by simp only [execOp, ho]; exact run_v hv) (hK _ _ hn)
    rcases h with ⟨w', hv, hn⟩ | h
    · exact key _ _ hv hn
    · obtain ⟨vs, w', hv, hn⟩ := exL_ex h; exact key _ _ hv hn
  | entry it =>
    rw [ho] at h
    obtain ⟨v, w', hv, hn⟩ := exL_ex h
    exact sound_val (by simp only [execOp, ho]; exact run_v hv) (hK _ _ hn)
  | call c =>
    rw [ho] at h
    dsimp only at h
    unfold callW at h
    split at h
    · rename_i f hc
      split at h
      · rename_i b hb
        refine sound_callK ?_ h hK
        simp [execOp, ho, resolve, hc, Act.eval, Deferred.ofValue, invoke, run_callFunc hP hb]
      · obtain ⟨v, w', hv, hn⟩ := exV_ex h
        refine sound_val ?_ (hK _ _ hn)
        unfold Is at hv
        simp [execOp, ho, resolve, hc, Act.eval, Deferred.ofValue, invoke, hv]
    · rename_i t hc
      unfold callV at h
      split at h
      · rename_i f x y hv
        split at h
        · rename_i b hb
          refine sound_callK (s := shapeOf P o.type) ?_ h hK
          simp [execOp, ho, resolve, hc, hv, Deferred.ofValue, invoke, run_callFunc hP hb]
        · exact h.elim
      · exact h.elim
      · exact h.elim
    · exact h.elim
    · exact h.elim
    · rename_i b hc
      split at h
      · split at h
        · exact sound_pure h hK
        · exact sound_pure h hK
        · exact sound_pure h hK
        · exact sound_gen h hK
      · split at h
        · exact sound_pure h hK
        · exact sound_pure h hK
        · exact sound_pure h hK
        · exact sound_gen h hK
      · cases hb : (c.args.toList.all fun x => isInt (a.eval x)) with
        | true => rw [hb] at h; exact sound_pure h hK
        | false => rw [hb] at h; exact sound_gen h hK
      · cases hb : (c.args.toList.all fun x => isInt (a.eval x)) with
        | true => rw [hb] at h; exact sound_pure h hK
        | false => rw [hb] at h; exact sound_gen h hK
      · obtain ⟨v, w', hv, hn⟩ := exV_ex h
        refine sound_val ?_ (hK _ _ hn)
        unfold Is at hv
        simp [execOp, ho, resolve, hc, invoke, builtin, Result.andThen, hv]
      · obtain ⟨v, w', hv, hn⟩ := exV_ex h
        refine sound_val ?_ (hK _ _ hn)
        unfold Is at hv
        simp [execOp, ho, resolve, hc, invoke, builtin, Result.andThen, hv]
      · obtain ⟨v, w', hv, hn⟩ := exV_ex h
        refine sound_val ?_ (hK _ _ hn)
        unfold Is at hv
        simp [execOp, ho, resolve, hc, invoke, builtin, Result.andThen, hv]
      · obtain ⟨v, w', hv, hn⟩ := exV_ex h
        refine sound_val ?_ (hK _ _ hn)
        unfold Is at hv
        simp [execOp, ho, resolve, hc, invoke, builtin, Result.andThen, hv]
      · exact sound_gen h hK
  | _ => rw [ho] at h; exact h.elim

/-- What an operation may do in a walk that holds rounds. -/
def Wq (P : Program) (o : Oper) (a : Act) (w : World) (K : Act → World → Prop) (Q : Exit → Act → World → Prop) : Prop :=
  o.wp P a w K Q ∨ ∃ l f tmps assign body w', (execOp a.eval o).run P w = .ok (.round l f tmps assign body) w' ∧ RoundIn Fence.wide 0 P l f tmps assign body w' fun e w'' => ∃ v, e = .returned v ∧ K (a.put o.dst v) w''

theorem sound_opWq (hP : Plain P) {tt : List (Nat × List Nat)} {o : Oper} {a : Act} {w : World} {next : Value → World → Prop} {K : Act → World → Prop} {Q : Exit → Act → World → Prop}
    (h : opW P true tt o a.eval w next) (hK : ∀ v w', next v w' → K (a.put o.dst v) w') : (∀ c, o.op ≠ .defer c) ∧ Wq P o a w K Q := by
  have hd : ∀ c, o.op ≠ .defer c := by
    intro c hc
    unfold opW at h
    rw [hc] at h
    exact h
  refine ⟨hd, ?_⟩
  by_cases hy : ∃ c t l x y, o.op = .call c ∧ c.callee = .value (.tmp t) ∧ a.eval (.tmp t) = .func (.yield l) x y
  · obtain ⟨c, t, l, x, y, ho, hc, hv⟩ := hy
    unfold opW at h
    rw [ho] at h
    dsimp only at h
    unfold callW at h
    rw [hc] at h
    dsimp only at h
    rw [hv] at h
    obtain ⟨fn, tmps, assign, body, h1, h2⟩ := h
    refine .inr ⟨l, fn, tmps, assign, body, w, ?_, h2.mono ?_⟩
    · simp [execOp, ho, resolve, hc, hv, Deferred.ofValue, invoke, h1]
    · intro e w' he
      obtain ⟨v, rfl, hn⟩ := exV_ex he
      exact ⟨v, rfl, hK _ _ hn⟩
  · refine .inl (sound_opW hP (tt := tt) (next := next) ?_ hK)
    unfold opW at h ⊢
    cases ho : o.op with
    | call c =>
      rw [ho] at h
      dsimp only at h ⊢
      unfold callW at h ⊢
      split at h
      · exact h
      · rename_i t hc
        unfold callV at h ⊢
        split at h
        · exact h
        · rename_i l x y hv
          exact absurd ⟨c, t, l, x, y, ho, hc, hv⟩ hy
        · exact h
      · exact h
      · exact h
      · exact h
    | _ => rw [ho] at h; exact h
end

end Go.W
namespace Go.W

variable {D : List Deferred}
/-- The frame's slots hold what the environment says. -/
structure Agr (D : List Deferred) (n : Nat) (e : Env) (a : Act) : Prop where
  size : a.tmps.size = n
  defers : a.defers = D
  get : ∀ t, a.tmps.getD t undef = e.get t

theorem Agr.eval {n : Nat} {e : Env} {a : Act} (h : Agr D n e a) : a.eval = e.eval := by
  funext x
  cases x with
  | tmp t => exact h.get t
  | _ => rfl

theorem look_cons (b : Nat → Value) (t d : Nat) (v : Value) (l : List (Nat × Value)) : look b t ((d, v) :: l) = if d = t then v else look b t l := by
  show cond (Nat.beq d t) v (look b t l) = _
  by_cases h : d = t
  · subst h; simp
  · have : Nat.beq d t = false := by cases hb : Nat.beq d t with
      | false => rfl
      | true => exact absurd (Nat.eq_of_beq_eq_true hb) h
    rw [this, if_neg h]; rfl

theorem Agr.set {n : Nat} {e : Env} {a : Act} (h : Agr D n e a) {d : Nat} (hd : d < n) (v : Value) : Agr D n (e.set d v) (a.put (some d) v) := by
  refine ⟨?_, h.defers, ?_⟩
  · simp [Act.put, h.size]
  · intro t
    have h1 := h.get t
    show (a.tmps.setIfInBounds d v).getD t undef = look e.base t ((d, v) :: e.ov)
    rw [look_cons]
    by_cases ht : d = t
    · subst ht; rw [if_pos rfl]; simp [Array.getD, h.size, hd]
    · rw [if_neg ht]
      show _ = e.get t
      rw [← h1]
      simp only [Array.getD_eq_getD_getElem?]
      rw [Array.getElem?_setIfInBounds_ne ht]

theorem Agr.put {n : Nat} {e : Env} {a : Act} (h : Agr D n e a) {d : Option Nat} {v : Value} {K : Env → Prop} (hk : putK n d e v K) :
    ∃ e', K e' ∧ Agr D n e' (a.put d v) := by
  cases d with
  | none => exact ⟨e, hk, h⟩
  | some d =>
    unfold putK at hk
    dsimp only at hk
    cases hb : Nat.blt d n with
    | true => rw [hb] at hk; exact ⟨_, hk, h.set (Nat.lt_of_succ_le (Nat.le_of_ble_eq_true hb)) v⟩
    | false => rw [hb] at hk; exact hk.elim

theorem Agr.lit {n : Nat} {e : Env} {a : Act} (h : Agr D n e a) {c : Operand} {b : Bool} (hc : e.eval c = .bool b) : Agr D n (litB e c b) a := by
  cases c with
  | tmp t =>
    refine ⟨h.size, h.defers, ?_⟩
    intro s
    show _ = look e.base s ((t, .bool b) :: e.ov)
    rw [look_cons]
    by_cases ht : t = s
    · subst ht; rw [if_pos rfl, h.get]; exact hc
    · rw [if_neg ht]; exact h.get s
  | _ => exact h

theorem sound_step {P : Program} (hP : Plain P) {tt : List (Nat × List Nat)} {n : Nat} {o : Oper} {e : Env} {a : Act} {w : World} {K : Env → World → Prop} {K' : Act → World → Prop} {Q : Exit → Act → World → Prop}
    (ha : Agr D n e a) (h : stepW P false tt n o e w K) (hK : ∀ e' a' w', K e' w' → Agr D n e' a' → K' a' w') : o.wp P a w K' Q := by
  unfold stepW at h
  split at h
  · rename_i c x y ho
    split at h
    · rename_i t hc
      have hc' : a.eval c = .bool t := by rw [ha.eval]; exact hc
      cases t with
      | true =>
        obtain ⟨e', hk, ha'⟩ := (ha.lit hc).put h
        refine sound_val (v := e.eval x) (w' := w) ?_ (hK _ _ _ hk ha')
        simp [execOp, ho, hc', asBool, ha.eval]
      | false =>
        obtain ⟨e', hk, ha'⟩ := (ha.lit hc).put h
        refine sound_val (v := e.eval y) (w' := w) ?_ (hK _ _ _ hk ha')
        simp [execOp, ho, hc', asBool, ha.eval]
    · exact h.elim
  · rw [← ha.eval] at h
    refine sound_opW hP h ?_
    intro v w' hv
    obtain ⟨e', hk, ha'⟩ := ha.put hv
    exact hK _ _ _ hk ha'

theorem sound_stepq {P : Program} (hP : Plain P) {tt : List (Nat × List Nat)} {n : Nat} {o : Oper} {e : Env} {a : Act} {w : World} {K : Env → World → Prop} {K' : Act → World → Prop} {Q : Exit → Act → World → Prop}
    (ha : Agr D n e a) (h : stepW P true tt n o e w K) (hK : ∀ e' a' w', K e' w' → Agr D n e' a' → K' a' w') : (∀ c, o.op ≠ .defer c) ∧ Wq P o a w K' Q := by
  unfold stepW at h
  split at h
  · rename_i c x y ho
    split at h
    · rename_i t hc
      have hc' : a.eval c = .bool t := by rw [ha.eval]; exact hc
      cases t with
      | true =>
        obtain ⟨e', hk, ha'⟩ := (ha.lit hc).put h
        refine ⟨fun c => by rw [ho]; simp, .inl (sound_val (v := e.eval x) (w' := w) ?_ (hK _ _ _ hk ha'))⟩
        simp [execOp, ho, hc', asBool, ha.eval]
      | false =>
        obtain ⟨e', hk, ha'⟩ := (ha.lit hc).put h
        refine ⟨fun c => by rw [ho]; simp, .inl (sound_val (v := e.eval y) (w' := w) ?_ (hK _ _ _ hk ha'))⟩
        simp [execOp, ho, hc', asBool, ha.eval]
    · exact h.elim
  · rw [← ha.eval] at h
    refine sound_opWq hP h ?_
    intro v w' hv
    obtain ⟨e', hk, ha'⟩ := ha.put hv
    exact hK _ _ _ hk ha'

/-- The fences of these walks: no fence, and a round's. -/
def WF (F : Fence) : Prop := F = Fence.wide ∨ ∃ l, F = Fence.wide.inRound l
theorem WF.fn {F : Fence} (h : WF F) (f : FuncId) : F.fn f := by rcases h with rfl | ⟨l, rfl⟩ <;> trivial
theorem WF.depth {F : Fence} (h : WF F) : F.depth = none := by rcases h with rfl | ⟨l, rfl⟩ <;> rfl
theorem WF.calls {F : Fence} (h : WF F) {n : Nat} {P : Program} {f : FuncId} {args : Array Value} {w : World} {R : Ending → World → Prop} (hc : Calls P f args w R) : CallsIn F n P f args w R := by
  rcases h with rfl | ⟨l, rfl⟩
  · exact callsIn_wide.2 hc
  · exact (callsIn_wide.2 hc : CallsIn Fence.wide n P f args w R)
theorem WF.rows {F : Fence} (h : WF F) {n : Nat} {P : Program} {row : String} {args : Array Value} {w : World} {R : Value → World → Prop} (hc : Rows P row args w R) : RowsIn F n P row args w R := by
  intro c cs _
  obtain ⟨v, w', r, s⟩ := hc c cs
  refine ⟨v, w', r, ?_⟩
  rcases h with rfl | ⟨l, rfl⟩
  · exact stepsIn_wide.2 s
  · exact (stepsIn_wide.2 s : StepsIn (Machine.fenced P Fence.wide) P _ _)
theorem WF.round {F : Fence} (h : WF F) {n : Nat} {P : Program} {l : Nat} {f : FuncId} {tmps : Array Value} {assign body : Code} {w : World} {R : Ending → World → Prop} (hr : RoundIn Fence.wide 0 P l f tmps assign body w R) : RoundIn F n P l f tmps assign body w R := by
  rcases h with rfl | ⟨l, rfl⟩
  · exact ⟨hr.1, fun c cs _ => hr.2 c cs (room_wide _)⟩
  · exact ⟨hr.1, fun c cs _ => hr.2 c cs (room_wide _)⟩
theorem wp_in {F : Fence} (hF : WF F) {P : Program} {o : Oper} {a : Act} {w : World} {K : Act → World → Prop} {Q : Exit → Act → World → Prop} (hd : ∀ c, o.op ≠ .defer c) (h : o.wp P a w K Q) : o.wpIn F 0 P a w K Q := by
  refine ⟨fun f _ => hF.fn f, ?_⟩
  rw [Oper.semAt_eq _ _ _ hd]
  unfold Oper.wp at h
  generalize (execOp a.eval o).run P w = r at *
  cases r with
  | ok x w' =>
    cases x <;> simp only [Oper.upon, Oper.uponIn] at h ⊢
    case value => exact h
    case skip => exact h
    case defer => exact h
    case enter => exact ⟨fun h => (by rw [hF.depth] at h; cases h), hF.calls h⟩
    case row => exact ⟨fun h => (by rw [hF.depth] at h; cases h), hF.rows h⟩
  | halt x w' => cases x <;> simp only [Oper.upon, Oper.uponIn] at h ⊢; exact h
theorem wq_in {F : Fence} (hF : WF F) {P : Program} {o : Oper} {a : Act} {w : World} {K : Act → World → Prop} {Q : Exit → Act → World → Prop} (hd : ∀ c, o.op ≠ .defer c) (h : Wq P o a w K Q) : o.wpIn F 0 P a w K Q := by
  rcases h with h | ⟨l, f, tmps, assign, body, w', h1, h2⟩
  · exact wp_in hF hd h
  · refine ⟨fun f _ => hF.fn f, ?_⟩
    rw [Oper.semAt_eq _ _ _ hd, h1]
    refine ⟨fun h => (by rw [hF.depth] at h; cases h), (hF.round h2).mono ?_⟩
    rintro e w'' ⟨v, rfl, hk⟩
    exact hk

theorem yielded_of {n : Nat} {e : Env} {a : Act} (ha : Agr D n e a) {ops : Array Oper} {j s : Nat} {b : Bool} (hj : (ops[j]?).bind (·.dst) = some s) (hs : e.get s = .bool b) :
    yielded ops a.tmps j = some b := by
  have h1 := ha.get s
  rw [hs] at h1
  have h2 : a.tmps[s]? = some (.bool b) := by
    cases h3 : a.tmps[s]? with
    | none => simp [Array.getD_eq_getD_getElem?, h3, undef] at h1
    | some v => simp [Array.getD_eq_getD_getElem?, h3] at h1; rw [h1]
  simp [yielded, hj, h2]

theorem yielded_not {n : Nat} {e : Env} {a : Act} (ha : Agr D n e a) {ops : Array Oper} {j s : Nat} {x : Array Value} (hj : (ops[j]?).bind (·.dst) = some s) (hs : e.get s = .tuple x) :
    yielded ops a.tmps j = none := by
  have h1 := ha.get s
  rw [hs] at h1
  cases h3 : a.tmps[s]? with
  | none => simp [yielded, hj, h3]
  | some v => simp [Array.getD_eq_getD_getElem?, h3] at h1; subst h1; simp [yielded, hj, h3]

theorem sound_ops {F : Fence} (hF : WF F) {P : Program} (hP : Plain P) {tt : List (Nat × List Nat)} {n : Nat} {ops : Array Oper} {Q : Exit → Act → World → Prop} (l : List Oper) :
    ∀ {e : Env} {a : Act} {w : World} {K : Env → World → Prop}, Agr D n e a → wOps P tt n ops l e w K → (∀ e' a' w', K e' w' → Agr D n e' a' → Q .normal a' w') →
      wpListIn F 0 P ops Q l a w := by
  induction l with
  | nil => intro e a w K ha h hK; exact hK _ _ _ h ha
  | cons o l ih =>
    intro e a w K ha h hK
    have h' : (match o.guard with
      | none => stepW P true tt n o e w fun e' w' => wOps P tt n ops l e' w' K
      | some (j, want) =>
        match (ops[j]?).bind (·.dst) with
        | none => putK n o.dst e undef fun e' => wOps P tt n ops l e' w K
        | some s =>
          match e.get s with
          | .bool b =>
            match b with
            | true => cond want (stepW P true tt n o (e.set s (.bool true)) w fun e' w' => wOps P tt n ops l e' w' K) (putK n o.dst (e.set s (.bool true)) undef fun e' => wOps P tt n ops l e' w K)
            | false => cond want (putK n o.dst (e.set s (.bool false)) undef fun e' => wOps P tt n ops l e' w K) (stepW P true tt n o (e.set s (.bool false)) w fun e' w' => wOps P tt n ops l e' w' K)
          | .tuple _ => putK n o.dst e undef fun e' => wOps P tt n ops l e' w K
          | _ => False : Prop) := h
    clear h
    have hrun : ∀ {e : Env}, Agr D n e a → (stepW P true tt n o e w fun e' w' => wOps P tt n ops l e' w' K) → o.wpIn F 0 P a w (wpListIn F 0 P ops Q l) Q :=
      fun ha hs => let h := sound_stepq hP ha hs fun e' a' w' hk ha' => ih ha' hk hK; wq_in hF h.1 h.2
    have hskip : ∀ {e : Env}, Agr D n e a → (putK n o.dst e undef fun e' => wOps P tt n ops l e' w K) → wpListIn F 0 P ops Q l (a.put o.dst undef) w := by
      intro e ha hs
      obtain ⟨e', hk, ha'⟩ := ha.put hs
      exact ih ha' hk hK
    have hlit : ∀ {s : Nat} {b : Bool}, e.get s = .bool b → Agr D n (e.set s (.bool b)) a := fun {s b} hs => ha.lit (c := .tmp s) hs
    unfold wpListIn
    cases hg : o.guard with
    | none =>
      rw [hg] at h'
      rw [if_pos (by simp [Region.wanted, hg])]
      exact (hrun ha h')
    | some p =>
      obtain ⟨j, want⟩ := p
      rw [hg] at h'
      dsimp only at h'
      split at h'
      · rename_i hj
        rw [if_neg (by simp [Region.wanted, hg, yielded, hj])]
        exact ⟨fun f _ => hF.fn f, hskip ha h'⟩
      · rename_i s hj
        split at h'
        · rename_i b hs
          have hy := yielded_of ha hj hs
          cases b with
          | true =>
            cases want with
            | true => rw [if_pos (by simp [Region.wanted, hg, hy])]; exact (hrun (hlit hs) h')
            | false => rw [if_neg (by simp [Region.wanted, hg, hy])]; exact ⟨fun f _ => hF.fn f, hskip (hlit hs) h'⟩
          | false =>
            cases want with
            | true => rw [if_neg (by simp [Region.wanted, hg, hy])]; exact ⟨fun f _ => hF.fn f, hskip (hlit hs) h'⟩
            | false => rw [if_pos (by simp [Region.wanted, hg, hy])]; exact (hrun (hlit hs) h')
        · rename_i x hs
          rw [if_neg (by simp [Region.wanted, hg, yielded_not ha hj hs])]
          exact ⟨fun f _ => hF.fn f, hskip ha h'⟩
        · exact h'.elim

/-! The code. -/

/-- The first region of a piece of code names the piece. -/
def first : Code → Option Nat
  | .region id _ _ => some id
  | .seq a b => (first a).or ((first b).map (· + 100000))
  | .cond _ a b => ((first a).or (first b)).map (· + 1000)
  | .block _ c => (first c).map (· + 1000)
  | .loop c => (first c).map (· + 1000)
  | _ => none

def thenE (next : Env → World → Prop) (K : Exit → Env → World → Prop) : Exit → Env → World → Prop
  | .normal, e, w => next e w
  | .exit i, e, w => K (.exit i) e w
  | .goto i, e, w => K (.goto i) e w
  | .ret, e, w => K .ret e w
  | .panic c, e, w => K (.panic c) e w
  | .outgrown, e, w => K .outgrown e w
def blockE (id : Nat) (K : Exit → Env → World → Prop) : Exit → Env → World → Prop
  | .normal, e, w => K .normal e w
  | .exit i, e, w => cond (Nat.beq i id) (K .normal e w) (K (.exit i) e w)
  | .goto i, e, w => K (.goto i) e w
  | .ret, e, w => K .ret e w
  | .panic c, e, w => K (.panic c) e w
  | .outgrown, e, w => K .outgrown e w

/-- Where ways meet, or a loop begins, only the named slots are kept. -/
noncomputable def tabO (l : List (Nat × List Nat)) (k : Option Nat) : Option (List Nat) :=
  match k with
  | none => none
  | some k => List.rec (motive := fun _ => Option (List Nat)) none (fun p _ ih => cond (Nat.beq p.1 k) (some p.2) ih) l

def joinW (j : Option (List Nat)) (next : Env → World → Prop) (e : Env) (w : World) : Prop :=
  match j with
  | none => next e w
  | some l => ∀ b : Nat → Value, next (e.keep l b) w

/-- A loop: an invariant over the kept slots, a measure. -/
def LoopW (vs : List Value) (w : World) (body : List Value → World → (List Value → World → Prop) → Prop) : Prop :=
  ∃ (I : List Value → World → Prop) (μ : List Value → World → Nat), I vs w ∧ ∀ vs w, I vs w → body vs w fun vs' w' => I vs' w' ∧ μ vs' w' < μ vs w

noncomputable def loopW (l : List Nat) (body : Env → World → (Exit → Env → World → Prop) → Prop) (K : Exit → Env → World → Prop) (e : Env) (w : World) : Prop :=
  LoopW (e.vals l) w fun vs w next => ∀ b : Nat → Value, body (Env.of l vs b) w (thenE (fun e' w' => next (e'.vals l) w') K)

/-- A region whose order the tape draws. Given later; here the order of the text, with what must be stable. -/
abbrev DrawT := Nat → Array Oper → Env → World → (Env → World → Prop) → Prop

noncomputable def wCode (P : Program) (n : Nat) (D : DrawT) (tt jt lt : List (Nat × List Nat)) (c : Code) : Env → World → (Exit → Env → World → Prop) → Prop :=
  Code.rec (motive := fun _ => Env → World → (Exit → Env → World → Prop) → Prop)
    (fun e w K => K .normal e w)                                                            -- skip
    (fun id ops d e w K => cond d (D id ops e w fun e' w' => K .normal e' w') (wOps P tt n ops ops.toList e w fun e' w' => K .normal e' w'))
    (fun _ b iha ihb e w K => iha e w (thenE (joinW (tabO jt (first b)) fun e' w' => ihb e' w' K) K))
    (fun c _ _ iha ihb e w K =>
      match e.eval c with
      | .bool t =>
        match t with
        | true => iha (litB e c true) w K
        | false => ihb (litB e c false) w K
      | _ => False)
    (fun id _ ih e w K => ih e w (blockE id K))
    (fun c ih e w K =>
      match tabO lt (first c) with
      | none => False
      | some l => loopW l ih K e w)
    (fun _ _ _ _ _ _ _ _ _ => False)                                                         -- rangeFunc
    (fun id e w K => K (.exit id) e w)
    (fun _ _ _ _ _ => False)                                                                   -- scope
    (fun _ e w K => K .normal e w)                                                              -- label
    (fun _ _ _ _ => False)                                                                      -- goto
    (fun e w K => K .ret e w)
    (fun _ _ _ _ => False)                                                                      -- refuse
    c

end Go.W
namespace Go.W

/-! A region whose order the tape draws: operations that only compute, or read what the whole region leaves alone, are taken first; the others one by one, whichever may come up. -/

/-- The result of a run does not hang on the world. -/
def Const (P : Program) {α : Type} (s : Sem α) : Prop := ∀ w w1 a w', s.run P w = .ok a w' → w' = w ∧ s.run P w1 = .ok a w1

section
variable {P : Program}
theorem Const.pure {α : Type} (a : α) : Const P (pure a : Sem α) := by
  intro w w1 b w' h
  have h' : (Result.ok a w : Result α) = .ok b w' := h
  injection h' with h1 h2
  subst h1; subst h2
  exact ⟨rfl, rfl⟩
theorem Const.halt {α : Type} (x : Halt) : Const P (.halt x : Sem α) := by
  intro w w1 b w' h
  have h' : (Result.halt x w : Result α) = .ok b w' := h
  cases h'
theorem Const.bind {α β : Type} {s : Sem α} {f : α → Sem β} (h : Const P s) (hf : ∀ a, Const P (f a)) : Const P (s >>= f) := by
  intro w w1 b w' hr
  rw [Sem.run_bind] at hr
  cases hs : s.run P w with
  | halt x w2 => rw [hs] at hr; cases hr
  | ok a w2 =>
    rw [hs] at hr
    obtain ⟨rfl, h1⟩ := h w w1 a w2 hs
    obtain ⟨h2, h3⟩ := hf a _ w1 b w' hr
    exact ⟨h2, by rw [Sem.run_bind, h1]; exact h3⟩
theorem Const.program : Const P program := by
  intro w w1 b w' h
  have h' : (Result.ok P w : Result Program) = .ok b w' := h
  injection h' with h1 h2
  subst h1; subst h2
  exact ⟨rfl, rfl⟩
theorem Const.underlying (t : TypeId) : Const P (Go.underlying t) := by
  unfold Go.underlying
  refine Const.program.bind fun p => ?_
  split
  · exact Const.pure _
  · exact Const.halt _
theorem Const.typeInfo (t : TypeId) : Const P (Go.typeInfo t) := by
  unfold Go.typeInfo
  refine Const.program.bind fun p => ?_
  split
  · exact Const.pure _
  · exact Const.halt _
theorem Const.sizeOf (t : TypeId) : Const P (Go.sizeOf t) := (Const.typeInfo t).bind fun _ => Const.pure _
theorem Const.isAgg (t : TypeId) : Const P (Go.isAgg t) := by
  refine (Const.underlying t).bind fun _ => ?_
  split <;> exact Const.pure _
theorem Const.asBool (v : Value) : Const P (Go.asBool v) := by
  unfold Go.asBool; split
  · exact Const.pure _
  · exact Const.halt _
theorem Const.part (t : TypeId) (cs : Array Value) (o : Nat) : Const P (Go.part t cs o) := by
  unfold Go.part
  refine (Const.isAgg t).bind fun b => ?_
  split
  · exact (Const.sizeOf t).bind fun _ => Const.pure _
  · split
    · exact Const.pure _
    · exact Const.halt _
end

/-- What only computes. -/
def firstable (o : Oper) : Bool :=
  match o.op with
  | .move _ | .assign _ | .fieldAddr _ _ _ | .extract _ _ | .unOp _ _ _ | .load _ _ | .nilCheck _ | .indexAddr _ _ _ | .slice _ _ _ _ _ | .build _ _ | .pick _ _ _ => true
  | .convert _ _ _ => true
  | .binOp _ _ _ _ _ => true
  | .call c =>
    match c.callee with
    | .builtin .len => true
    | .builtin .max => true
    | .builtin .min => true
    | _ => false
  | _ => false

noncomputable def firstW (P : Program) (C : World → Prop) (o : Oper) (ρ : Operand → Value) (w : World) (next : Value → Prop) : Prop :=
  match o.op with
  | .move x => next (ρ x)
  | .assign x => next (ρ x)
  | .load t x => ex1 (shape1 P t) fun v => (∀ w, C w → Is P (Instr.loadAt t (ρ x)) w v w) ∧ next v
  | .slice t x lo hi mx => ex1 (shape1 P o.type) fun v => (∀ w, C w → Is P (Instr.sliceAt t (ρ x) (lo.map ρ) (hi.map ρ) (mx.map ρ)) w v w) ∧ next v
  | .nilCheck x =>
    match ρ x with
    | .pointer p => nilK p fun a => next (.pointer (some a))
    | _ => False
  | .indexAddr t x i =>
    match P.underlying t, ρ x, ρ i with
    | some (.array n e), .pointer (some a), .int _ j =>
      match P.info? e with
      | some ti => (0 ≤ j ∧ j < (n : Int)) ∧ next (.pointer (some (a.add (j.toNat * ti.size))))
      | none => False
    | some (.slice e), .slice p n _, .int _ j =>
      match P.info? e with
      | some ti => (0 ≤ j ∧ j < (n : Int)) ∧ nilK p fun a => next (.pointer (some (a.add (j.toNat * ti.size))))
      | none => False
    | _, _, _ => False
  | .fieldAddr s x f =>
    match P.underlying s, ρ x with
    | some (.struct fs), .pointer (some a) =>
      match fs[f]? with
      | some fd =>
        match P.info? fd.type with
        | some ti => cond (Nat.beq ti.size 0) False (next (.pointer (some (a.add fd.offset))))
        | none => False
      | none => False
    | _, _ => False
  | .extract t i =>
    match ρ t with
    | .tuple vs =>
      match vs[i]? with
      | some v => next v
      | none => False
    | _ => False
  | .unOp op _ x =>
    match op, ρ x with
    | .not, .bool b => next (.bool !b)
    | .neg, .int k n => next (.int k (k.wrap (0 - n)))
    | .xor, .int k n => next (.int k (k.wrap (BitVec.ofInt k.bits (if k.signed then -1 else k.max) ^^^ BitVec.ofInt k.bits n).toNat))
    | _, _ => False
  | .binOp op t x y _ =>
    cond (pureBin op (ρ x) (ρ y) y) (match (execOp ρ o).run P w with
      | .ok (.value v) _ => next v
      | _ => False)
      (ex1 (shape1 P o.type) fun v => (∀ w, C w → Is P (do eqGuard op t x y (ρ x) (ρ y); binOp op t (ρ x) (ρ y)) w v w) ∧ next v)
  | .convert s d x =>
    cond (isInt (ρ x)) (match P.underlying s, P.underlying d, ρ x with
      | some _, some (.int k), .int _ n => next (.int k (k.wrap n))
      | _, _, _ => False)
      (ex1 (shape1 P d) fun v => (∀ w, C w → Is P (convert s d (ρ x)) w v w) ∧ next v)
  | .build _ _ => match (execOp ρ o).run P w with
      | .ok (.value v) _ => next v
      | _ => False
  | .call c =>
    match c.callee, c.args.toList.map ρ with
    | .builtin .len, [.slice _ n _] =>
      match (c.argTypes[0]?).bind P.underlying with
      | some (.slice _) => next (goInt n)
      | _ => False
    | .builtin .len, [.string s] =>
      match (c.argTypes[0]?).bind P.underlying with
      | some .string => next (goInt s.size)
      | _ => False
    | .builtin .len, [.map _] => ex1 (shape1 P o.type) fun v => (∀ w, C w → Is P (Builtin.len_ c.argTypes o.type (c.args.map ρ)) w v w) ∧ next v
    | .builtin .max, [.int k a, .int _ b] => next (.int k (if b > a then b else a))
    | .builtin .min, [.int k a, .int _ b] => next (.int k (if b < a then b else a))
    | _, _ => False
  | _ => False

noncomputable def firstStep (P : Program) (n : Nat) (C : World → Prop) (o : Oper) (e : Env) (w : World) (K : Env → Prop) : Prop :=
  match o.op with
  | .pick c a b =>
    match e.eval c with
    | .bool t =>
      match t with
      | true => putK n o.dst (litB e c true) (e.eval a) K
      | false => putK n o.dst (litB e c false) (e.eval b) K
    | _ => False
  | _ => firstW P C o e.eval w fun v => putK n o.dst e v K

/-- An operation under its guard. -/
noncomputable def guardW (ops : Array Oper) (n : Nat) (o : Oper) (e : Env) (run : Env → Prop) (skip : Env → Prop) : Prop :=
  match o.guard with
  | none => run e
  | some (j, want) =>
    match (ops[j]?).bind (·.dst) with
    | none => putK n o.dst e undef skip
    | some s =>
      match e.get s with
      | .bool b =>
        match b with
        | true => cond want (run (e.set s (.bool true))) (putK n o.dst (e.set s (.bool true)) undef skip)
        | false => cond want (putK n o.dst (e.set s (.bool false)) undef skip) (run (e.set s (.bool false)))
      | .tuple _ => putK n o.dst e undef skip
      | _ => False

noncomputable def allP (l : List Nat) (f : Nat → Prop) : Prop :=
  List.rec (motive := fun _ => Prop) True (fun i r ih => List.rec (motive := fun _ => Prop) (f i) (fun _ _ _ => f i ∧ ih) r) l

theorem allP_mem {l : List Nat} {f : Nat → Prop} (h : allP l f) : ∀ i ∈ l, f i := by
  induction l with
  | nil => intro i hi; cases hi
  | cons x r ih =>
    intro i hi
    cases r with
    | nil => simp at hi; subst hi; exact h
    | cons y r =>
      have h' : f x ∧ allP (y :: r) f := h
      cases hi with
      | head => exact h'.1
      | tail _ hi => exact ih h'.2 i hi

def pickFirst (ops : Array Oper) (listed : Array Bool) (rs : List Nat) : Option Nat :=
  rs.find? fun i => ((ops[i]?).map firstable).getD false && Region.free .any ops listed i

/-- What an operation reads of the world. -/
def readsB (P : Program) (o : Oper) : Bool :=
  match o.op with
  | .load _ _ => true
  | .slice _ _ _ _ _ => true
  | .binOp _ t _ _ _ =>
    match P.underlying t with
    | some (.int _) => false
    | some .bool => false
    | _ => true
  | .convert s d _ =>
    match P.underlying s, P.underlying d with
    | some (.int _), some (.int _) => false
    | _, _ => true
  | .call c =>
    match (c.argTypes[0]?).bind P.underlying with
    | some (.map _ _) => true
    | _ => false
  | _ => false
def clsOf (P : Program) (o : Oper) (C : World → Prop) : World → Prop := cond (readsB P o) C fun _ => True
def depsOf (ops : Array Oper) (k : Nat) : List Nat :=
  match ops[k]? with
  | some o => (o.after.toList.filter (Region.binds .any)).map (·.on)
  | none => []
/-- What an operation waits for. -/
def ancs (ops : Array Oper) (j : Nat) : List Nat := ((List.range ops.size).reverse).foldl (fun acc k => cond (acc.elem k) (depsOf ops k ++ acc) acc) [j]
def readsAt (P : Program) (ops : Array Oper) (i : Nat) : Bool :=
  match ops[i]? with
  | some o => readsB P o
  | none => false
/-- May an operation that reads come behind this one? -/
def needs (P : Program) (ops : Array Oper) (j : Nat) : Bool := (List.range ops.size).any fun i => readsAt P ops i && !((ancs ops j).elem i)

noncomputable def drawTree (P : Program) (tt : List (Nat × List Nat)) (n : Nat) (ops : Array Oper) (C : World → Prop) (fuel : Nat) : Array Bool → Env → World → (Env → World → Prop) → Prop :=
  Nat.rec (motive := fun _ => Array Bool → Env → World → (Env → World → Prop) → Prop)
    (fun listed e w K => cond (Region.ready .any ops listed).isEmpty (K e w) False)
    (fun _ ih listed e w K =>
      match Region.ready .any ops listed with
      | [] => K e w
      | r :: rs =>
        match pickFirst ops listed (r :: rs) with
        | some i =>
          match ops[i]? with
          | some o => guardW ops n o e (fun e => firstStep P n (clsOf P o C) o e w fun e' => ih (listed.setIfInBounds i true) e' w K) (fun e' => ih (listed.setIfInBounds i true) e' w K)
          | none => False
        | none => allP (r :: rs) fun i =>
          match ops[i]? with
          | some o => guardW ops n o e (fun e => stepW P false tt n o e w fun e' w' => cond (needs P ops i) (C w' ∧ ih (listed.setIfInBounds i true) e' w' K) (ih (listed.setIfInBounds i true) e' w' K)) (fun e' => ih (listed.setIfInBounds i true) e' w K)
          | none => False) fuel

def noDefer (ops : Array Oper) : Bool := ops.toList.all fun o => match o.op with | .defer _ => false | _ => true
noncomputable def drawW (P : Program) (tt : List (Nat × List Nat)) (n : Nat) : DrawT := fun _ ops e w K =>
  cond (Region.noSelect ops && noDefer ops) (∃ C : World → Prop, C { w with drawn := w.drawn + 1 } ∧ drawTree P tt n ops C ops.size (Array.replicate ops.size false) e { w with drawn := w.drawn + 1 } K) False

/-! Soundness. -/
section
variable {P : Program}

theorem Const.foldlM {α β : Type} {f : β → α → Sem β} (hf : ∀ b a, Const P (f b a)) : ∀ (l : List α) (b : β), Const P (l.foldlM f b)
  | [], b => Const.pure b
  | a :: l, b => by rw [List.foldlM_cons]; exact (hf b a).bind fun b => Const.foldlM hf l b
theorem Const.mapM {α β : Type} {f : α → Sem β} (hf : ∀ a, Const P (f a)) (xs : Array α) : Const P (xs.mapM f) := by
  rw [Array.mapM_eq_foldlM, ← Array.foldlM_toList]
  exact Const.foldlM (fun b a => (hf a).bind fun c => Const.pure _) _ _
theorem Const.zeroValue (t : TypeId) : Const P (Go.zeroValue t) := by
  unfold Go.zeroValue
  refine (Const.typeInfo t).bind fun i => ?_
  split
  · exact Const.pure _
  · exact Const.halt _
theorem Const.build (t : TypeId) (ps : Array (Nat × Value)) : Const P (Instr.build t ps) := by
  unfold Instr.build
  refine (Const.zeroValue t).bind fun z => ?_
  refine (Const.underlying t).bind fun d => ?_
  split
  · refine (Const.mapM (fun f => (Const.sizeOf _).bind fun _ => Const.pure _) _).bind fun pl => ?_
    split
    · exact Const.pure _
    · exact Const.halt _
  · refine (Const.sizeOf _).bind fun _ => ?_
    split
    · exact Const.pure _
    · exact Const.halt _
  · exact Const.halt _

theorem Const.ite {α : Type} {c : Prop} [Decidable c] {s t : Sem α} (hs : Const P s) (ht : Const P t) : Const P (if c then s else t) := by
  split
  · exact hs
  · exact ht

theorem Const.runtimeError (m : String) {α : Type} : Const P (runtimePanic (α := α) (.error m)) := by
  unfold runtimePanic
  exact Const.program.bind fun _ => Const.halt _

theorem Const.bin {op : BinOp} {a b : Value} {yo : Operand} (h : pureBin op a b yo = true) (t : TypeId) (x y : Operand) :
    Const P (do eqGuard op t x y a b; binOp op t a b) := by
  have h2 : (isInt a = true ∧ isInt b = true) ∨ ((op = .eql ∨ op = .neq) ∧ isStr a = true ∧ isStr b = true) := by
    cases op <;> simp [pureBin] at h <;> first | (left; exact h) | (rcases h with h | h; (left; exact h); (right; exact ⟨by simp, h⟩)) | (cases yo <;> simp at h; left; exact h)
  rcases h2 with ⟨ha, hb⟩ | ⟨ho, ha, hb⟩
  · cases a <;> simp [isInt] at ha
    cases b <;> simp [isInt] at hb
    rename_i k n k' m
    refine Const.bind (s := eqGuard op t x y (.int k n) (.int k' m)) ?_ fun _ => ?_
    · unfold eqGuard
      cases op <;> exact Const.pure _
    · cases op <;> simp only [binOp] <;> first
        | (unfold Op.shift; exact Const.ite (Const.runtimeError _) (Const.pure _))
        | (refine Const.ite (Const.halt _) ?_; first
            | exact Const.pure _
            | (unfold Op.intDiv; exact Const.ite (Const.runtimeError _) (Const.pure _)))
  · cases a <;> simp [isStr] at ha
    cases b <;> simp [isStr] at hb
    rename_i k k'
    refine Const.bind (s := eqGuard op t x y (.string k) (.string k')) ?_ fun _ => ?_
    · unfold eqGuard
      cases op <;> exact Const.pure _
    · rcases ho with rfl | rfl <;> exact Const.pure _
end

end Go.W
namespace Go.W
section
variable {P : Program} {ops : Array Oper} {Q : Exit → Act → World → Prop} {md : Region.Mode} {C : World → Prop}

/-- Whatever order is picked, every world on the way being of the class. -/
def wpAnyC (P : Program) (md : Region.Mode) (ops : Array Oper) (C : World → Prop) (Q : Exit → Act → World → Prop) : Nat → Array Bool → Act → World → Prop
  | 0, listed, a, w => Region.ready md ops listed = [] ∧ Q .normal a w
  | fuel + 1, listed, a, w =>
    (Region.ready md ops listed = [] → Q .normal a w) ∧
    ∀ i ∈ Region.ready md ops listed, wpOp P ops Q i (fun a' w' => ((needs P ops i = true → C w') ∨ w' = w) ∧ wpAnyC P md ops C Q fuel (listed.setIfInBounds i true) a' w') a w

theorem wpAny_of_C : ∀ (fuel : Nat) (listed : Array Bool) (a : Act) (w : World), wpAnyC P md ops C Q fuel listed a w → wpAny P md ops Q fuel listed a w
  | 0, _, _, _, h => h
  | fuel + 1, _, _, _, h => ⟨h.1, fun i hi => wpOp_mono (fun a' w' h' => wpAny_of_C fuel _ a' w' h'.2) (h.2 i hi)⟩

theorem noDefer_spec (h : noDefer ops = true) (j : Nat) (o : Oper) (ho : ops[j]? = some o) : ∀ c, o.op ≠ .defer c := by
  intro c hc
  have := List.all_eq_true.1 h o (Array.mem_toList_iff.2 (Array.mem_of_getElem? ho))
  rw [hc] at this; cases this
theorem wpAny_in {F : Fence} (hF : WF F) (hq : ¬ LetsOut Q) (hd : noDefer ops = true) : ∀ (fuel : Nat) (listed : Array Bool) (a : Act) (w : World), wpAny P md ops Q fuel listed a w → wpAnyIn F 0 P md ops Q fuel listed a w
  | 0, _, _, _, h => h
  | fuel + 1, _, _, _, h => by
    refine ⟨h.1, fun i hi => ?_⟩
    have h1 := h.2 i hi
    unfold wpOp at h1
    unfold wpOpIn
    split at h1
    · rename_i ho; simp only [ho]; exact wpAny_in hF hq hd fuel _ _ _ h1
    · rename_i o ho
      simp only [ho]
      split at h1
      · rename_i hw; rw [if_pos hw]; exact Oper.wpIn_mono (fun a w h => wpAny_in hF hq hd fuel _ _ _ h) (wp_in hF (noDefer_spec hd i o ho) (h1.resolve_right fun h => hq h.2))
      · rename_i hw; rw [if_neg hw]; exact ⟨fun f _ => hF.fn f, wpAny_in hF hq hd fuel _ _ _ h1⟩

def YieldsC (P : Program) (ops : Array Oper) (C : World → Prop) (o : Oper) (v : Value) (a : Act) : Prop :=
  (Region.wanted o (yielded ops a.tmps) = true ∧ ∀ w, C w → (execOp a.eval o).run P w = .ok (.value v) w) ∨
  (Region.wanted o (yielded ops a.tmps) = false ∧ v = undef)

theorem YieldsC.wpOp {i : Nat} {o : Oper} {v : Value} {a : Act} (hi : ops[i]? = some o) (hy : YieldsC P ops C o v a)
    {K : Act → World → Prop} {w : World} (hC : C w) (h : K (a.put o.dst v) w) : wpOp P ops Q i K a w := by
  unfold Go.wpOp
  simp only [hi]
  rcases hy with ⟨hw, hv⟩ | ⟨hw, rfl⟩
  · simp only [hw, if_true, Oper.wp, hv w hC, Oper.upon]; exact .inl h
  · simp only [hw, Bool.false_eq_true, if_false]; exact h

theorem YieldsC.of_same {o : Oper} {v : Value} {a a' : Act} (hy : YieldsC P ops C o v a) (he : execOp a'.eval o = execOp a.eval o)
    (hw : Region.wanted o (yielded ops a'.tmps) = Region.wanted o (yielded ops a.tmps)) : YieldsC P ops C o v a' := by
  unfold YieldsC at *
  rw [he, hw]
  exact hy

theorem wpOpC_put {j : Nat} {oi oj : Oper} {v : Value} (hj : ops[j]? = some oj) (hap : oi.apart ops oj = true)
    (hsi : ∀ cs b, oi.op ≠ .select cs b) (hsj : ∀ cs b, oj.op ≠ .select cs b)
    (hQ : ∀ c a w, Q (.panic c) (a.put oi.dst v) w → Q (.panic c) a w) {K : Act → World → Prop} {a : Act} {w : World}
    (hy : YieldsC P ops C oi v a) (h : wpOp P ops Q j K (a.put oi.dst v) w) :
    wpOp P ops Q j (fun a' w' => YieldsC P ops C oi v a' ∧ K (a'.put oi.dst v) w') a w := by
  obtain ⟨h1, h2, h3⟩ := Oper.apart_spec hap
  have keep : ∀ (a : Act), YieldsC P ops C oi v a → ∀ u, YieldsC P ops C oi v (a.put oj.dst u) := fun a hy u =>
    hy.of_same (execOp_put oi hsi a oj.dst u h3) (wanted_put oi a oj.dst u h3)
  have keepD : ∀ d, YieldsC P ops C oi v { a with defers := d :: a.defers } := fun d => hy.of_same rfl rfl
  unfold wpOp at *
  simp only [hj] at *
  rw [wanted_put oj a oi.dst v h1] at h
  split
  · rename_i hw
    simp only [hw, if_true] at h
    rcases h with h | ⟨hasks, hlets⟩
    case inr => exact .inr ⟨by unfold Oper.asks at *; rw [execOp_put oj hsj a oi.dst v h1] at hasks; exact hasks, hlets⟩
    refine .inl ?_
    unfold Oper.wp at *
    rw [execOp_put oj hsj a oi.dst v h1] at h
    generalize (execOp a.eval oj).run P w = r at *
    cases r with
    | ok n w' =>
      cases n <;> simp only [Oper.upon] at h ⊢
      case value u => exact ⟨keep a hy u, by rw [← Act.put_comm a v u h2]; exact h⟩
      case skip => exact ⟨keep a hy _, by rw [← Act.put_comm a v undef h2]; exact h⟩
      case defer d =>
        refine ⟨keep _ (keepD d) _, ?_⟩
        rw [← Act.put_comm _ v undef h2, ← Act.put_defers]
        exact h
      case enter f args =>
        refine Calls.mono h fun e w'' he => ?_
        cases e with
        | returned u => exact ⟨keep a hy u, by rw [← Act.put_comm a v u h2]; exact he⟩
        | panicked c => exact hQ _ _ _ he
        | outgrown => exact he
      case row row args => exact Rows.mono h fun u w'' he => ⟨keep a hy u, by rw [← Act.put_comm a v u h2]; exact he⟩
    | halt x w' =>
      cases x <;> simp only [Oper.upon] at h ⊢
      case panic u => exact hQ _ _ _ h
  · rename_i hw
    simp only [hw] at h
    exact ⟨keep a hy _, by rw [← Act.put_comm a v undef h2]; exact h⟩

/-- What is listed has what it waits for listed. -/
def Closed (ops : Array Oper) (listed : Array Bool) : Prop := ∀ k ok, ops[k]? = some ok → listed.getD k false = true → ∀ e ∈ ok.after, Region.binds .any e = true → listed.getD e.on false = true
theorem getD_flip {l : Array Bool} {i : Nat} (h : l.getD i false = true) (h0 : l.getD i true = false) : False := by
  rcases Nat.lt_or_ge i l.size with h' | h'
  · simp [h'] at h0 h; rw [h0] at h; cases h
  · simp [Array.getElem?_eq_none h'] at h
theorem ancs_listed {listed : Array Bool} {j : Nat} (hc : Closed ops listed) (hj : j ∈ Region.ready .any ops listed) : ∀ i ∈ ancs ops j, i = j ∨ listed.getD i false = true := by
  have hd : ∀ k, (k = j ∨ listed.getD k false = true) → ∀ i ∈ depsOf ops k, listed.getD i false = true := by
    intro k hk i hi
    unfold depsOf at hi
    split at hi
    · rename_i o ho
      obtain ⟨e, he, rfl⟩ := List.mem_map.1 hi
      obtain ⟨he1, he2⟩ := List.mem_filter.1 he
      rcases hk with rfl | hk
      · obtain ⟨_, oj, hoj, hall⟩ := mem_ready.1 hj
        rw [ho] at hoj; cases hoj
        exact hall e (Array.mem_toList_iff.1 he1) he2
      · exact hc k o ho hk e (Array.mem_toList_iff.1 he1) he2
    · cases hi
  have hf : ∀ (l : List Nat) (acc : List Nat), (∀ i ∈ acc, i = j ∨ listed.getD i false = true) → ∀ i ∈ l.foldl (fun acc k => cond (acc.elem k) (depsOf ops k ++ acc) acc) acc, i = j ∨ listed.getD i false = true := by
    intro l
    induction l with
    | nil => intro acc h; exact h
    | cons k l ih =>
      intro acc h
      refine ih _ ?_
      cases hk : acc.elem k with
      | false => intro i hi; simp only [hk, cond_false] at hi; exact h i hi
      | true =>
        intro i hi
        have hi' : i ∈ depsOf ops k ++ acc := by simpa only [hk, cond_true] using hi
        rcases List.mem_append.1 hi' with hi' | hi'
        · exact .inr (hd k (h k (by simpa using hk)) i hi')
        · exact h i hi'
  exact hf _ _ (by intro i hi; simp at hi; exact .inl hi)
theorem needs_of {listed : Array Bool} {i j : Nat} {oi : Oper} (hc : Closed ops listed) (hj : j ∈ Region.ready .any ops listed) (hi : ops[i]? = some oi) (hij : j ≠ i) (hu : listed.getD i true = false) (hr : readsB P oi = true) : needs P ops j = true := by
  unfold needs
  rw [List.any_eq_true]
  refine ⟨i, List.mem_range.2 (Array.getElem?_eq_some_iff.1 hi).1, ?_⟩
  have h1 : readsAt P ops i = true := by unfold readsAt; rw [hi]; exact hr
  rw [h1]
  cases he : (ancs ops j).elem i with
  | false => rfl
  | true =>
    rcases ancs_listed hc hj i (by simpa using he) with h | h
    · exact absurd h.symm hij
    · exact (getD_flip h hu).elim
theorem Closed.add {listed : Array Bool} {j : Nat} (hc : Closed ops listed) (hj : j ∈ Region.ready .any ops listed) : Closed ops (listed.setIfInBounds j true) := by
  have hmono : ∀ i, listed.getD i false = true → (listed.setIfInBounds j true).getD i false = true := by
    intro i hi
    by_cases hji : j = i
    · subst hji
      rcases Nat.lt_or_ge j listed.size with h' | h'
      · simp [h']
      · simp [Array.getElem?_eq_none h'] at hi
    · rw [getD_set_ne false hji]; exact hi
  intro k ok hk hl e he hb
  by_cases hjk : j = k
  · subst hjk
    obtain ⟨_, oj, hoj, hall⟩ := mem_ready.1 hj
    rw [hk] at hoj; cases hoj
    exact hmono _ (hall e he hb)
  · rw [getD_set_ne false hjk] at hl
    exact hmono _ (hc k ok hk hl e he hb)

theorem wpAnyC_first {i : Nat} {oi : Oper} {v : Value} (hi : ops[i]? = some oi) (hsel : ∀ (j : Nat) (o : Oper) cs b, ops[j]? = some o → o.op ≠ .select cs b)
    (hQ : ∀ c a w, Q (.panic c) (a.put oi.dst v) w → Q (.panic c) a w) :
    ∀ (fuel : Nat) (listed : Array Bool) (a : Act) (w : World), clsOf P oi C w → Closed ops listed →
      (∀ j oj, ops[j]? = some oj → j ≠ i → listed.getD j true = false → (∀ e ∈ oj.after, Region.binds .any e = true → e.on ≠ i) → oi.apart ops oj = true) →
      i ∈ Region.ready .any ops listed → YieldsC P ops (clsOf P oi C) oi v a →
      wpAnyC P .any ops C Q fuel (listed.setIfInBounds i true) (a.put oi.dst v) w → wpAnyC P .any ops C Q (fuel + 1) listed a w := by
  intro fuel
  induction fuel with
  | zero =>
    intro listed a w hC _ _ hr hy H
    refine ⟨fun h => (by rw [h] at hr; cases hr), fun j hj => ?_⟩
    by_cases hji : j = i
    · subst hji; exact hy.wpOp hi hC ⟨.inr rfl, H⟩
    · have := ready_mono hj hji
      rw [H.1] at this
      cases this
  | succ fuel ih =>
    intro listed a w hC hcl hfree hr hy H
    refine ⟨fun h => (by rw [h] at hr; cases hr), fun j hj => ?_⟩
    by_cases hji : j = i
    · subst hji; exact hy.wpOp hi hC ⟨.inr rfl, H⟩
    · have h1 := H.2 j (ready_mono hj hji)
      obtain ⟨hjun, oj, hoj, hall⟩ := mem_ready.1 hj
      have hnot : ∀ e ∈ oj.after, Region.binds .any e = true → e.on ≠ i := fun e he hb heq => by
        have h1 := hall e he hb
        have h0 := (mem_ready.1 hr).1
        rw [heq] at h1
        exact getD_flip h1 h0
      have h2 := wpOpC_put hoj (hfree j oj hoj hji hjun hnot) (fun cs b => hsel i oi cs b hi) (fun cs b => hsel j oj cs b hoj) hQ hy h1
      have hfree' : ∀ k ok, ops[k]? = some ok → k ≠ i → (listed.setIfInBounds j true).getD k true = false →
          (∀ e ∈ ok.after, Region.binds .any e = true → e.on ≠ i) → oi.apart ops ok = true := fun k ok hk hki hun hno => by
        refine hfree k ok hk hki ?_ hno
        by_cases hjk : j = k
        · subst hjk; exact hjun
        · rw [getD_set_ne true hjk] at hun; exact hun
      refine wpOp_mono (fun a' w' h3 => ?_) h2
      obtain ⟨hy', hC', h4⟩ := h3
      have hCi : clsOf P oi C w' := by
        unfold clsOf at hC ⊢
        cases hrd : readsB P oi with
        | false => trivial
        | true =>
          rw [hrd] at hC
          rcases hC' with hC' | rfl
          · exact hC' (needs_of hcl hj hi hji (mem_ready.1 hr).1 hrd)
          · exact hC
      refine ⟨hC', ih (listed.setIfInBounds j true) a' w' hCi (hcl.add hj) hfree' (ready_mono hr (Ne.symm hji)) hy' ?_⟩
      rw [Array.setIfInBounds_comm _ _ hji]
      exact h4


theorem const_v {s : Sem Value} (h : Const P s) : Const P (do pure (Next.value (← s)) : Sem Next) := h.bind fun _ => Const.pure _

theorem val_of_const {s : Sem Next} (h : Const P s) {w w' : World} {v : Value} (hr : s.run P w = .ok (.value v) w') : ∀ w, s.run P w = .ok (.value v) w :=
  fun w1 => (h w w1 _ _ hr).2

theorem sound_firstW {o : Oper} {a : Act} {w : World} {next : Value → Prop} (h : firstW P C o a.eval w next) :
    ∃ v, (∀ w, C w → (execOp a.eval o).run P w = .ok (.value v) w) ∧ next v := by
  unfold firstW at h
  cases ho : o.op with
  | move x => rw [ho] at h; exact ⟨_, fun w _ => by simp [execOp, ho], h⟩
  | assign x => rw [ho] at h; exact ⟨_, fun w _ => by simp [execOp, ho], h⟩
  | load t x =>
    rw [ho] at h
    obtain ⟨v, hv, hn⟩ := ex1_ex h
    exact ⟨v, fun w hw => by simp only [execOp, ho]; exact run_v (hv w hw), hn⟩
  | slice t x lo hi mx =>
    rw [ho] at h
    obtain ⟨v, hv, hn⟩ := ex1_ex h
    exact ⟨v, fun w hw => by simp only [execOp, ho]; exact run_v (hv w hw), hn⟩
  | nilCheck x =>
    rw [ho] at h
    dsimp only at h
    split at h
    · rename_i p hp
      unfold nilK at h
      cases p with
      | none => exact h.elim
      | some b => exact ⟨_, fun w _ => by simp [execOp, ho, hp], h⟩
    · exact h.elim
  | indexAddr t x i =>
    rw [ho] at h
    dsimp only at h
    split at h
    · rename_i m e b k j hu hx hi
      split at h
      · rename_i ti hti
        obtain ⟨⟨h0, h1⟩, hn⟩ := h
        exact ⟨_, fun w _ => by simp only [execOp, ho, hx, hi]; exact run_v (run_index_array hu hti _ _ _ h0 h1 _), hn⟩
      · exact h.elim
    · rename_i e p m c k j hu hx hi
      split at h
      · rename_i ti hti
        obtain ⟨⟨h0, h1⟩, hn⟩ := h
        unfold nilK at hn
        cases p with
        | none => exact hn.elim
        | some b => exact ⟨_, fun w _ => by simp only [execOp, ho, hx, hi]; exact run_v (run_index_slice hu hti _ _ _ _ _ h0 h1 _), hn⟩
      · exact h.elim
    · exact h.elim
  | fieldAddr s x f =>
    rw [ho] at h
    dsimp only at h
    split at h
    · rename_i fs b hu hx
      split at h
      · rename_i fd hf
        split at h
        · rename_i ti hti
          cases hb : Nat.beq ti.size 0 with
          | true => rw [hb] at h; exact h.elim
          | false =>
            rw [hb] at h
            refine ⟨_, fun w _ => ?_, h⟩
            have hz : ti.size ≠ 0 := fun he => by rw [he] at hb; cases hb
            simp only [execOp, ho, hx]
            refine run_v ?_
            unfold Instr.fieldAt
            rw [run_bind_ok (run_und hu w)]
            simp only [hf, Instr.sureAddr]
            simp [Sem.run_bind, Result.andThen, fieldPlace, run_info hti, hz]
        · exact h.elim
      · exact h.elim
    · exact h.elim
  | extract t i =>
    rw [ho] at h
    dsimp only at h
    split at h
    · rename_i vs hv
      split at h
      · rename_i v hi
        exact ⟨_, fun w _ => by simp [execOp, ho, hv, Instr.extract, hi], h⟩
      · exact h.elim
    · exact h.elim
  | unOp op t x =>
    rw [ho] at h
    dsimp only at h
    split at h
    · rename_i b hb
      exact ⟨_, fun w _ => by simp [execOp, ho, hb, Op.unary], h⟩
    · rename_i k m hb
      exact ⟨_, fun w _ => by simp [execOp, ho, hb, Op.unary, Op.intArith], h⟩
    · rename_i k m hb
      exact ⟨_, fun w _ => by simp [execOp, ho, hb, Op.unary, Op.intBits], h⟩
    · exact h.elim
  | binOp op t x y yt =>
    rw [ho] at h
    dsimp only at h
    cases hb : pureBin op (a.eval x) (a.eval y) y with
    | true =>
      rw [hb] at h
      dsimp only [cond] at h
      split at h
      · rename_i v w' hr
        refine ⟨v, fun w1 _ => ?_, h⟩
        refine val_of_const ?_ hr w1
        simp only [execOp, ho]
        exact const_v (Const.bin hb t x y)
      · exact h.elim
    | false =>
      rw [hb] at h
      dsimp only [cond] at h
      obtain ⟨v, hv, hn⟩ := ex1_ex h
      exact ⟨v, fun w hw => by simp only [execOp, ho]; exact run_v (hv w hw), hn⟩
  | convert s d x =>
    rw [ho] at h
    dsimp only at h
    cases hb : isInt (a.eval x) with
    | true =>
      rw [hb] at h
      dsimp only [cond] at h
      split at h
      · rename_i d' k k' m hsu hu hx
        refine ⟨_, fun w _ => ?_, h⟩
        simp only [execOp, ho, hx]
        refine run_v ?_
        unfold convert
        rw [run_bind_ok (run_und hsu w), run_bind_ok (run_und hu w)]
        rfl
      · exact h.elim
    | false =>
      rw [hb] at h
      dsimp only [cond] at h
      obtain ⟨v, hv, hn⟩ := ex1_ex h
      exact ⟨v, fun w hw => by simp only [execOp, ho]; exact run_v (hv w hw), hn⟩
  | build t ps =>
    rw [ho] at h
    dsimp only at h
    split at h
    · rename_i v w' hr
      refine ⟨v, fun w1 _ => ?_, h⟩
      refine val_of_const ?_ hr w1
      simp only [execOp, ho]
      exact const_v (Const.build _ _)
    · exact h.elim
  | call c =>
    rw [ho] at h
    dsimp only at h
    have hm : ∀ l, c.args.toList.map a.eval = l → c.args.map a.eval = l.toArray := fun l hl => by
      apply Array.toList_inj.1; simpa using hl
    split at h
    · rename_i p m c' hc hargs
      split at h
      · rename_i e hu
        refine ⟨_, fun w _ => ?_, h⟩
        cases ht : c.argTypes[0]? with
        | none => simp [ht] at hu
        | some t =>
          have hu' : P.underlying t = some (.slice e) := by simpa [ht] using hu
          simp [execOp, ho, resolve, hc, invoke, builtin, hm _ hargs, Builtin.len_, ht, Sem.run_bind, run_und hu', Result.andThen]
      · exact h.elim
    · rename_i x hc hargs
      split at h
      · rename_i hu
        refine ⟨_, fun w _ => ?_, h⟩
        cases ht : c.argTypes[0]? with
        | none => simp [ht] at hu
        | some t =>
          have hu' : P.underlying t = some .string := by simpa [ht] using hu
          simp [execOp, ho, resolve, hc, invoke, builtin, hm _ hargs, Builtin.len_, ht, Sem.run_bind, run_und hu', Result.andThen]
      · exact h.elim
    · rename_i r hc hargs
      obtain ⟨v, hv, hn⟩ := ex1_ex h
      refine ⟨v, fun w hw => ?_, hn⟩
      have hv' := hv w hw
      unfold Is at hv'
      simp [execOp, ho, resolve, hc, invoke, builtin, Result.andThen, hv']
    · rename_i k x k' y hc hargs
      exact ⟨_, fun w _ => by simp [execOp, ho, resolve, hc, invoke, builtin, hm _ hargs, Builtin.max_, Builtin.max2], h⟩
    · rename_i k x k' y hc hargs
      exact ⟨_, fun w _ => by simp [execOp, ho, resolve, hc, invoke, builtin, hm _ hargs, Builtin.min_, Builtin.min2], h⟩
    · exact h.elim
  | _ => rw [ho] at h; exact h.elim

end
end Go.W
namespace Go.W
section
variable {D : List Deferred} {P : Program} {ops : Array Oper} {C : World → Prop}

theorem sound_firstStep {n : Nat} {o : Oper} {e : Env} {a : Act} {w : World} {K : Env → Prop} (ha : Agr D n e a) (h : firstStep P n C o e w K) :
    ∃ v e', (∀ w, C w → (execOp a.eval o).run P w = .ok (.value v) w) ∧ K e' ∧ Agr D n e' (a.put o.dst v) := by
  unfold firstStep at h
  split at h
  · rename_i c x y ho
    split at h
    · rename_i t hc
      have hc' : a.eval c = .bool t := by rw [ha.eval]; exact hc
      cases t with
      | true =>
        obtain ⟨e', hk, ha'⟩ := (ha.lit hc).put h
        exact ⟨e.eval x, e', fun w _ => by simp [execOp, ho, hc', asBool, ha.eval], hk, ha'⟩
      | false =>
        obtain ⟨e', hk, ha'⟩ := (ha.lit hc).put h
        exact ⟨e.eval y, e', fun w _ => by simp [execOp, ho, hc', asBool, ha.eval], hk, ha'⟩
    · exact h.elim
  · rw [← ha.eval] at h
    obtain ⟨v, hv, hn⟩ := sound_firstW h
    obtain ⟨e', hk, ha'⟩ := ha.put hn
    exact ⟨v, e', hv, hk, ha'⟩

theorem sound_guard {n : Nat} {o : Oper} {e : Env} {a : Act} {run skip : Env → Prop} (ha : Agr D n e a) (h : guardW ops n o e run skip) :
    (∃ e', Region.wanted o (yielded ops a.tmps) = true ∧ Agr D n e' a ∧ run e') ∨
    (∃ e', Region.wanted o (yielded ops a.tmps) = false ∧ Agr D n e' (a.put o.dst undef) ∧ skip e') := by
  have hlit : ∀ {s : Nat} {b : Bool}, e.get s = .bool b → Agr D n (e.set s (.bool b)) a := fun {s b} hs => ha.lit (c := .tmp s) hs
  have hskip : ∀ {e : Env}, Agr D n e a → putK n o.dst e undef skip → ∃ e', Agr D n e' (a.put o.dst undef) ∧ skip e' := by
    intro e ha hs
    obtain ⟨e', hk, ha'⟩ := ha.put hs
    exact ⟨e', ha', hk⟩
  unfold guardW at h
  cases hg : o.guard with
  | none => rw [hg] at h; exact .inl ⟨e, by simp [Region.wanted, hg], ha, h⟩
  | some p =>
    obtain ⟨j, want⟩ := p
    rw [hg] at h
    dsimp only at h
    split at h
    · rename_i hj
      obtain ⟨e', h1, h2⟩ := hskip ha h
      exact .inr ⟨e', by simp [Region.wanted, hg, yielded, hj], h1, h2⟩
    · rename_i s hj
      split at h
      · rename_i b hs
        have hy := yielded_of ha hj hs
        cases b with
        | true =>
          cases want with
          | true => exact .inl ⟨_, by simp [Region.wanted, hg, hy], hlit hs, h⟩
          | false => obtain ⟨e', h1, h2⟩ := hskip (hlit hs) h; exact .inr ⟨e', by simp [Region.wanted, hg, hy], h1, h2⟩
        | false =>
          cases want with
          | true => obtain ⟨e', h1, h2⟩ := hskip (hlit hs) h; exact .inr ⟨e', by simp [Region.wanted, hg, hy], h1, h2⟩
          | false => exact .inl ⟨_, by simp [Region.wanted, hg, hy], hlit hs, h⟩
      · rename_i x hs
        obtain ⟨e', h1, h2⟩ := hskip ha h
        exact .inr ⟨e', by simp [Region.wanted, hg, yielded_not ha hj hs], h1, h2⟩
      · exact h.elim

/-- An ending that is only the normal one. -/
def onlyN (Q : Act → World → Prop) : Exit → Act → World → Prop
  | .normal, a, w => Q a w
  | _, _, _ => False

theorem sound_tree (hP : Plain P) {tt : List (Nat × List Nat)} (hs : Region.noSelect ops = true) {n : Nat} {Q : Act → World → Prop} {K : Env → World → Prop} (hK : ∀ e' a' w', K e' w' → Agr D n e' a' → Q a' w') :
    ∀ (fuel : Nat) (listed : Array Bool) (e : Env) (a : Act) (w : World), Closed ops listed → (∀ i o, ops[i]? = some o → listed.getD i true = false → readsB P o = true → C w) → Agr D n e a → drawTree P tt n ops C fuel listed e w K →
      wpAnyC P .any ops C (onlyN Q) fuel listed a w := by
  intro fuel
  induction fuel with
  | zero =>
    intro listed e a w hcl hC ha h
    have h' : cond (Region.ready .any ops listed).isEmpty (K e w) False := h
    cases hr : Region.ready .any ops listed with
    | nil => rw [hr] at h'; exact ⟨hr, hK _ _ _ h' ha⟩
    | cons x r => rw [hr] at h'; exact h'.elim
  | succ fuel ih =>
    intro listed e a w hcl hC ha h
    have h' : (match Region.ready .any ops listed with
      | [] => K e w
      | r :: rs =>
        match pickFirst ops listed (r :: rs) with
        | some i =>
          match ops[i]? with
          | some o => guardW ops n o e (fun e => firstStep P n (clsOf P o C) o e w fun e' => drawTree P tt n ops C fuel (listed.setIfInBounds i true) e' w K) (fun e' => drawTree P tt n ops C fuel (listed.setIfInBounds i true) e' w K)
          | none => False
        | none => allP (r :: rs) fun i =>
          match ops[i]? with
          | some o => guardW ops n o e (fun e => stepW P false tt n o e w fun e' w' => cond (needs P ops i) (C w' ∧ drawTree P tt n ops C fuel (listed.setIfInBounds i true) e' w' K) (drawTree P tt n ops C fuel (listed.setIfInBounds i true) e' w' K)) (fun e' => drawTree P tt n ops C fuel (listed.setIfInBounds i true) e' w K)
          | none => False : Prop) := h
    clear h
    cases hr : Region.ready .any ops listed with
    | nil => rw [hr] at h'; exact ⟨fun _ => hK _ _ _ h' ha, by rw [hr]; simp⟩
    | cons x r =>
      rw [hr] at h'
      dsimp only at h'
      split at h'
      · rename_i i hp
        have hp' := List.find?_some hp
        have hmem := List.mem_of_find?_eq_some hp
        rw [← hr] at hmem
        simp only [Bool.and_eq_true] at hp'
        split at h'
        · rename_i o ho
          have hmem2 := hmem
          have hun := (mem_ready.1 hmem).1
          have hCi : clsOf P o C w := by
            unfold clsOf
            cases hrd : readsB P o with
            | false => trivial
            | true => exact hC i o ho hun hrd
          have hC2 : ∀ k ok, ops[k]? = some ok → (listed.setIfInBounds i true).getD k true = false → readsB P ok = true → C w := fun k ok hk hu hr2 => by
            refine hC k ok hk ?_ hr2
            by_cases hik : i = k
            · subst hik; exact hun
            · rw [getD_set_ne true hik] at hu; exact hu
          refine wpAnyC_first ho (Region.noSelect_spec hs) (fun _ _ _ h => h.elim) fuel listed a w hCi hcl (Region.free_spec ho hp'.2) hmem (v := ?_) ?_ ?_
          case refine_1 =>
            exact Classical.choose (p := fun v => YieldsC P ops (clsOf P o C) o v a ∧ wpAnyC P .any ops C (onlyN Q) fuel (listed.setIfInBounds i true) (a.put o.dst v) w) (by
              rcases sound_guard ha h' with ⟨e', hw, ha', h1⟩ | ⟨e', hw, ha', h1⟩
              · obtain ⟨v, e2, hv, h2, ha2⟩ := sound_firstStep ha' h1
                exact ⟨v, .inl ⟨hw, hv⟩, ih _ _ _ _ (hcl.add hmem2) hC2 ha2 h2⟩
              · exact ⟨undef, .inr ⟨hw, rfl⟩, ih _ _ _ _ (hcl.add hmem2) hC2 ha' h1⟩)
          case refine_2 => exact (Classical.choose_spec (p := fun v => YieldsC P ops (clsOf P o C) o v a ∧ wpAnyC P .any ops C (onlyN Q) fuel (listed.setIfInBounds i true) (a.put o.dst v) w) _).1
          case refine_3 => exact (Classical.choose_spec (p := fun v => YieldsC P ops (clsOf P o C) o v a ∧ wpAnyC P .any ops C (onlyN Q) fuel (listed.setIfInBounds i true) (a.put o.dst v) w) _).2
        · exact h'.elim
      · refine ⟨fun h0 => (by rw [hr] at h0; cases h0), fun i hi => ?_⟩
        have hmem := hi
        rw [hr] at hi
        have h1 := allP_mem h' i hi
        have hset : ∀ k, (listed.setIfInBounds i true).getD k true = false → listed.getD k true = false ∧ i ≠ k := fun k hu => by
          by_cases hik : i = k
          · subst hik
            have h0 := (mem_ready.1 hmem).1
            rcases Nat.lt_or_ge i listed.size with h' | h'
            · simp [h'] at hu
            · simp [Array.getElem?_eq_none h'] at h0
          · rw [getD_set_ne true hik] at hu; exact ⟨hu, hik⟩
        split at h1
        · rename_i o ho
          unfold wpOp
          simp only [ho]
          rcases sound_guard ha h1 with ⟨e', hw, ha', h2⟩ | ⟨e', hw, ha', h2⟩
          · rw [if_pos hw]
            refine .inl (sound_step hP ha' h2 fun e2 a2 w2 hk ha2 => ?_)
            cases hn : needs P ops i with
            | true =>
              rw [hn] at hk
              exact ⟨.inl fun _ => hk.1, ih _ _ _ _ (hcl.add hmem) (fun _ _ _ _ _ => hk.1) ha2 hk.2⟩
            | false =>
              rw [hn] at hk
              refine ⟨.inl fun h0 => (by cases h0), ih _ _ _ _ (hcl.add hmem) (fun k ok hk1 hk2 hk3 => ?_) ha2 hk⟩
              have h5 := needs_of hcl hmem hk1 (hset k hk2).2 (hset k hk2).1 hk3
              rw [hn] at h5; cases h5
          · rw [if_neg (by rw [hw]; simp)]
            exact ⟨by simp, ih _ _ _ _ (hcl.add hmem) (fun k ok hk1 hk2 hk3 => hC k ok hk1 (hset k hk2).1 hk3) ha' h2⟩
        · exact h1.elim

theorem sound_draw {F : Fence} (hF : WF F) (hP : Plain P) (hm : P.follows .mixedOrders = true) {tt : List (Nat × List Nat)} {n id : Nat} {e : Env} {a : Act} {w : World} {K : Env → World → Prop} {Q : Exit → Act → World → Prop}
    (ha : Agr D n e a) (h : drawW P tt n id ops e w K) (hK : ∀ e' a' w', K e' w' → Agr D n e' a' → Q .normal a' w') : (Code.region id ops true).wpIn F 0 P Q a w := by
  unfold drawW at h
  cases hs : Region.noSelect ops && noDefer ops with
  | false => rw [hs] at h; exact h.elim
  | true =>
    rw [hs] at h
    obtain ⟨C, hC, h⟩ := h
    rw [Bool.and_eq_true] at hs
    refine wpIn_mono (Q := onlyN (fun a w => Q .normal a w)) (wpIn_region_any hm (wpAny_in hF (fun ⟨_, _, h⟩ => h) hs.2 _ _ _ _ (wpAny_of_C (C := C) _ _ _ _ (sound_tree hP hs.1 hK _ _ _ _ _ (fun k _ hk hl => by have h1 := (Array.getElem?_eq_some_iff.1 hk).1; simp [h1] at hl) (fun _ _ _ _ _ => hC) ha h)))) ?_
    intro ex a w hq
    cases ex with
    | normal => exact hq
    | _ => exact hq.elim

/-! The code. -/

theorem Agr.keep {n : Nat} {e : Env} {a : Act} (ha : Agr D n e a) (l : List Nat) : Agr D n (e.keep l fun t => a.tmps.getD t undef) a := by
  refine ⟨ha.size, ha.defers, fun t => ?_⟩
  have : ∀ l : List Nat, look (fun t => a.tmps.getD t undef) t (l.map fun t => (t, e.get t)) = a.tmps.getD t undef := by
    intro l
    induction l with
    | nil => rfl
    | cons x l ih =>
      rw [List.map_cons, look_cons]
      by_cases hx : x = t
      · subst hx; rw [if_pos rfl]; exact (ha.get x).symm
      · rw [if_neg hx]; exact ih
  exact (this l).symm

theorem Agr.of {n : Nat} {a : Act} (hn : a.tmps.size = n) (hd : a.defers = D) (l : List Nat) (vs : List Value) (h : l.map (fun t => a.tmps.getD t undef) = vs) :
    Agr D n (Env.of l vs fun t => a.tmps.getD t undef) a := by
  refine ⟨hn, hd, fun t => ?_⟩
  subst h
  have : ∀ l : List Nat, look (fun t => a.tmps.getD t undef) t (l.zip (l.map fun t => a.tmps.getD t undef)) = a.tmps.getD t undef := by
    intro l
    induction l with
    | nil => rfl
    | cons x l ih =>
      rw [List.map_cons, List.zip_cons_cons, look_cons]
      by_cases hx : x = t
      · subst hx; rw [if_pos rfl]
      · rw [if_neg hx]; exact ih
  exact (this l).symm

theorem sound_code {F : Fence} (hF : WF F) (hP : Plain P) (hm : P.follows .mixedOrders = true) {n : Nat} {tt jt lt : List (Nat × List Nat)} (c : Code) :
    ∀ {e : Env} {w : World} {K : Exit → Env → World → Prop} {a : Act} {Q : Exit → Act → World → Prop}, wCode P n (drawW P tt n) tt jt lt c e w K → Agr D n e a →
      (∀ ex e' w' a', K ex e' w' → Agr D n e' a' → Q ex a' w') → c.wpIn F 0 P Q a w := by
  induction c with
  | skip => intro e w K a Q h ha hK; exact wpIn_skip (hK _ _ _ _ h ha)
  | region id ops d =>
    intro e w K a Q h ha hK
    have h' : cond d (drawW P tt n id ops e w fun e' w' => K .normal e' w') (wOps P tt n ops ops.toList e w fun e' w' => K .normal e' w') := h
    cases d with
    | true => exact sound_draw hF hP hm ha h' fun e' a' w' hk ha' => hK _ _ _ _ hk ha'
    | false => exact wpIn_region_list (sound_ops hF hP _ ha h' fun e' a' w' hk ha' => hK _ _ _ _ hk ha')
  | seq x y ihx ihy =>
    intro e w K a Q h ha hK
    have h' : wCode P n (drawW P tt n) tt jt lt x e w (thenE (joinW (tabO jt (first y)) fun e' w' => wCode P n (drawW P tt n) tt jt lt y e' w' K) K) := h
    refine wpIn_seq (ihx h' ha ?_)
    intro ex e' w' a' hk ha'
    cases ex with
    | normal =>
      have hk' : joinW (tabO jt (first y)) (fun e' w' => wCode P n (drawW P tt n) tt jt lt y e' w' K) e' w' := hk
      unfold joinW at hk'
      split at hk'
      · exact ihy hk' ha' hK
      · rename_i l _
        exact ihy (hk' fun t => a'.tmps.getD t undef) (ha'.keep l) hK
    | exit i => exact hK _ _ _ _ hk ha'
    | goto l => exact hK _ _ _ _ hk ha'
    | ret => exact hK _ _ _ _ hk ha'
    | panic c => exact hK _ _ _ _ hk ha'
    | outgrown => exact hK _ _ _ _ hk ha'
  | cond c x y ihx ihy =>
    intro e w K a Q h ha hK
    have h' : (match e.eval c with
      | .bool t =>
        match t with
        | true => wCode P n (drawW P tt n) tt jt lt x (litB e c true) w K
        | false => wCode P n (drawW P tt n) tt jt lt y (litB e c false) w K
      | _ => False : Prop) := h
    split at h'
    · rename_i t hc
      have hc' : a.eval c = .bool t := by rw [ha.eval]; exact hc
      cases t with
      | true => exact wpIn_cond_true hc' (ihx h' (ha.lit hc) hK)
      | false => exact wpIn_cond_false hc' (ihy h' (ha.lit hc) hK)
    · exact h'.elim
  | block id c ih =>
    intro e w K a Q h ha hK
    have h' : wCode P n (drawW P tt n) tt jt lt c e w (blockE id K) := h
    refine wpIn_block (ih h' ha ?_)
    intro ex e' w' a' hk ha'
    cases ex with
    | normal => exact hK _ _ _ _ hk ha'
    | exit i =>
      have hk' : Bool.rec (K (.exit i) e' w') (K .normal e' w') (Nat.beq i id) := by
        have : cond (Nat.beq i id) (K .normal e' w') (K (.exit i) e' w') := hk
        cases hb : Nat.beq i id <;> rw [hb] at this <;> exact this
      show if i = id then Q .normal a' w' else Q (.exit i) a' w'
      by_cases hi : i = id
      · subst hi
        rw [if_pos rfl]
        have hb : Nat.beq i i = true := Nat.beq_refl i
        rw [hb] at hk'
        exact hK _ _ _ _ hk' ha'
      · rw [if_neg hi]
        have hb : Nat.beq i id = false := by cases hb : Nat.beq i id with
          | false => rfl
          | true => exact absurd (Nat.eq_of_beq_eq_true hb) hi
        rw [hb] at hk'
        exact hK _ _ _ _ hk' ha'
    | goto l => exact hK _ _ _ _ hk ha'
    | ret => exact hK _ _ _ _ hk ha'
    | panic c => exact hK _ _ _ _ hk ha'
    | outgrown => exact hK _ _ _ _ hk ha'
  | loop c ih =>
    intro e w K a Q h ha hK
    have h' : (match tabO lt (first c) with
      | none => False
      | some l => loopW l (wCode P n (drawW P tt n) tt jt lt c) K e w : Prop) := h
    split at h'
    · exact h'.elim
    · rename_i l _
      obtain ⟨I, μ, h0, hr⟩ := h'
      refine wpIn_loop (fun a w => a.tmps.size = n ∧ a.defers = D ∧ I (l.map fun t => a.tmps.getD t undef) w) (fun a w => μ (l.map fun t => a.tmps.getD t undef) w) ⟨ha.size, ha.defers, ?_⟩ ?_
      · have : (l.map fun t => a.tmps.getD t undef) = e.vals l := List.map_congr_left fun t _ => ha.get t
        rw [this]; exact h0
      · rintro a w ⟨hn, hd, hI⟩
        refine ih (hr _ _ hI fun t => a.tmps.getD t undef) (Agr.of hn hd l _ rfl) ?_
        intro ex e' w' a' hk ha'
        cases ex with
        | normal =>
          have hk' : I (e'.vals l) w' ∧ μ (e'.vals l) w' < μ (l.map fun t => a.tmps.getD t undef) w := hk
          have hv : (l.map fun t => a'.tmps.getD t undef) = e'.vals l := List.map_congr_left fun t _ => ha'.get t
          refine ⟨⟨ha'.size, ha'.defers, ?_⟩, ?_⟩
          · rw [hv]; exact hk'.1
          · rw [hv]; exact hk'.2
        | exit i => exact hK _ _ _ _ hk ha'
        | goto l => exact hK _ _ _ _ hk ha'
        | ret => exact hK _ _ _ _ hk ha'
        | panic c => exact hK _ _ _ _ hk ha'
        | outgrown => exact hK _ _ _ _ hk ha'
  | rangeFunc f ps x y ihx ihy => intro e w K a Q h; exact False.elim h
  | exit id => intro e w K a Q h ha hK; exact wpIn_exit (hK _ _ _ _ h ha)
  | scope c ih => intro e w K a Q h; exact False.elim h
  | label l => intro e w K a Q h ha hK; exact wpIn_label (hK _ _ _ _ h ha)
  | goto l => intro e w K a Q h; exact False.elim h
  | ret => intro e w K a Q h ha hK; exact wpIn_ret (hK _ _ _ _ h ha)
  | refuse s => intro e w K a Q h; exact False.elim h

/-! A call. -/

/-- What a function hands back. -/
noncomputable def resW (P : Program) (l : List ResultVar) (e : Env) (w : World) : (List Value → Prop) → Prop :=
  List.rec (motive := fun _ => (List Value → Prop) → Prop) (fun K => K [])
    (fun r _ ih K =>
      match r with
      | .tmp t => ih fun vs => K (e.get t :: vs)
      | .cell t ty =>
        match e.get t with
        | .pointer (some a) => ex1 (shape1 P ty) fun v => Is P (loadVar ty a) w v w ∧ ih fun vs => K (v :: vs)
        | _ => False) l
def one (vs : List Value) : Value :=
  match vs with
  | [v] => v
  | vs => .tuple vs.toArray
noncomputable def retK (P : Program) (fn : Func) (R : Ending → World → Prop) (e : Env) (w : World) : Prop :=
  resW P fn.results.toList e w fun vs => R (.returned (one vs)) w
noncomputable def endK (P : Program) (fn : Func) (R : Ending → World → Prop) : Exit → Env → World → Prop
  | .normal, e, w => retK P fn R e w
  | .ret, e, w => retK P fn R e w
  | _, _, _ => False

theorem sound_res {n : Nat} {e : Env} {a : Act} {w : World} (ha : Agr D n e a) (f : ResultVar → Sem Value) (hf1 : ∀ t, f (.tmp t) = pure (a.tmps.getD t undef))
    (hf2 : ∀ b t, f (.cell b t) = (do loadVar t (← asAddr (a.tmps.getD b undef)))) (l : List ResultVar) : ∀ {K : List Value → Prop}, resW P l e w K →
    ∃ vs, (l.mapM f).run P w = .ok vs w ∧ K vs := by
  induction l with
  | nil => intro K h; exact ⟨[], rfl, h⟩
  | cons r l ih =>
    intro K h
    cases r with
    | tmp t =>
      have h' : resW P l e w fun vs => K (e.get t :: vs) := h
      obtain ⟨vs, hr, hk⟩ := ih h'
      refine ⟨e.get t :: vs, ?_, hk⟩
      rw [List.mapM_cons]
      rw [run_bind_ok (a := e.get t) (w' := w) (by rw [hf1, ha.get]; rfl)]
      rw [run_bind_ok hr]
      rfl
    | cell t ty =>
      have h' : (match e.get t with
        | .pointer (some a) => ex1 (shape1 P ty) fun v => Is P (loadVar ty a) w v w ∧ resW P l e w fun vs => K (v :: vs)
        | _ => False : Prop) := h
      split at h'
      · rename_i b hb
        obtain ⟨v, hv, h2⟩ := ex1_ex h'
        obtain ⟨vs, hr, hk⟩ := ih h2
        refine ⟨v :: vs, ?_, hk⟩
        rw [List.mapM_cons]
        have hv' : (f (.cell t ty)).run P w = .ok v w := by
          rw [hf2, ha.get, hb]
          exact hv
        rw [run_bind_ok hv', run_bind_ok hr]
        rfl
      · exact h'.elim

theorem one_eq (vs : List Value) : (if h : vs.toArray.size = 1 then vs.toArray[0] else .tuple vs.toArray : Value) = one vs := by
  match vs with
  | [] => rfl
  | [v] => rfl
  | v :: u :: r => simp [one]

theorem sound_ret {n : Nat} {fn : Func} {R : Ending → World → Prop} {e : Env} {a : Act} {w : World} (ha : Agr D n e a) (h : retK P fn R e w) :
    ∃ v, (results fn a.tmps).run P w = .ok v w ∧ R (.returned v) w := by
  unfold results
  rw [← Array.toArray_toList (xs := fn.results), List.mapM_toArray]
  generalize hf : (fun x : ResultVar => (match x with
    | .tmp t => pure (a.tmps.getD t undef)
    | .cell b t => do loadVar t (← asAddr (a.tmps.getD b undef)) : Sem Value)) = f
  obtain ⟨vs, hr, hk⟩ := sound_res ha f (fun t => by rw [← hf]) (fun b t => by rw [← hf]) _ h
  refine ⟨_, ?_, hk⟩
  refine (run_bind_ok (a := vs.toArray) (w' := w) ?_).trans ?_
  · rw [map_eq_pure_bind]
    refine (run_bind_ok (a := vs) (w' := w) ?_).trans rfl
    rw [← hr, ← hf]
  · show Result.ok (if h : vs.toArray.size = 1 then vs.toArray[0] else .tuple vs.toArray) w = _
    rw [one_eq]

/-- THE DOOR: a call's contract, out of the computed walk. -/
theorem Agr.enter {m : Nat} {args : Array Value} (hn : args.size ≤ m) : Agr [] m ⟨fun _ => undef, (List.range args.size).zip args.toList⟩ { tmps := args ++ Array.replicate (m - args.size) undef, defers := [] } := by
    refine ⟨by simp; omega, rfl, fun t => ?_⟩
    have key : ∀ (l : List Value) (k : Nat), look (fun _ => undef) t ((List.range' k l.length).zip l) = if k ≤ t then (l[t - k]?).getD undef else undef := by
      intro l
      induction l with
      | nil => intro k; simp [look]
      | cons v l ih =>
        intro k
        rw [List.length_cons, List.range'_succ, List.zip_cons_cons, look_cons, ih]
        by_cases hk : k = t
        · subst hk; simp
        · rw [if_neg hk]
          by_cases hlt : k ≤ t
          · rw [if_pos hlt, if_pos (by omega)]
            obtain ⟨m, rfl⟩ : ∃ m, t = k + 1 + m := ⟨t - (k + 1), by omega⟩
            rw [show k + 1 + m - k = m + 1 by omega, show k + 1 + m - (k + 1) = m by omega]
            rfl
          · rw [if_neg hlt, if_neg (by omega)]
    have h1 := key args.toList 0
    rw [← List.range_eq_range', Array.length_toList] at h1
    show _ = look (fun _ => undef) t ((List.range args.size).zip args.toList)
    rw [h1]
    simp only [Nat.zero_le, if_true, Nat.sub_zero, Array.getElem?_toList, Array.getD_eq_getD_getElem?]
    by_cases ht : t < args.size
    · rw [Array.getElem?_append_left ht]
    · rw [Array.getElem?_append_right (by omega), Array.getElem?_eq_none (by omega : args.size ≤ t)]
      by_cases h2 : t - args.size < m - args.size
      · rw [Array.getElem?_eq_getElem (by simpa using h2)]; simp
      · rw [Array.getElem?_eq_none (by simp; omega)]
theorem calls_of_W (hP : Plain P) (hm : P.follows .mixedOrders = true) {f : FuncId} {fn : Func} {c : Code} {args : Array Value} {w : World} {R : Ending → World → Prop} (tt jt lt : List (Nat × List Nat))
    (hf : P.funcs[f]? = some fn) (hb : fn.body = some c) (hn : args.size ≤ fn.ntmps)
    (h : wCode P fn.ntmps (drawW P tt fn.ntmps) tt jt lt c ⟨fun _ => undef, (List.range args.size).zip args.toList⟩ w (endK P fn R)) : Calls P f args w R := by
  refine calls_of_wp hf hb ?_
  refine wpIn_wide.1 (sound_code (F := Fence.wide) (.inl rfl) hP hm c h (Agr.enter hn) ?_)
  · intro ex e' w' a' hk ha'
    cases ex with
    | normal => exact ⟨ha'.defers, sound_ret ha' hk⟩
    | ret => exact ⟨ha'.defers, sound_ret ha' hk⟩
    | _ => exact hk.elim
/-- The same of a deferred call. -/
theorem callsD_of_W (hP : Plain P) (hm : P.follows .mixedOrders = true) {f : FuncId} {fn : Func} {c : Code} {args : Array Value} {u : FrameMode} {w : World} {R : Ending → World → Prop} (tt jt lt : List (Nat × List Nat))
    (hf : P.funcs[f]? = some fn) (hb : fn.body = some c) (hn : args.size ≤ fn.ntmps)
    (h : wCode P fn.ntmps (drawW P tt fn.ntmps) tt jt lt c ⟨fun _ => undef, (List.range args.size).zip args.toList⟩ w (endK P fn R)) : CallsD P f args u w fun e u' w' => u' = u ∧ R e w' := by
  refine callsD_of_wp hf hb ?_
  refine wpIn_wide.1 (sound_code (F := Fence.wide) (.inl rfl) hP hm c h (Agr.enter hn) ?_)
  · intro ex e' w' a' hk ha'
    cases ex with
    | normal => exact ⟨ha'.defers, sound_ret ha' hk⟩
    | ret => exact ⟨ha'.defers, sound_ret ha' hk⟩
    | _ => exact hk.elim
end
end Go.W
