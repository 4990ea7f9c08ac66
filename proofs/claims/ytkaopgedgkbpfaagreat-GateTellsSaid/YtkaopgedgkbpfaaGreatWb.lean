/- Proved here: what functions of the program compute, each by a contract over its translation (rules of the walk, or contracts function by function). No conditions beyond those that each contract states. -/
import Derived.Test.YtkaopgedgkbpfaaGreatWa
import Derived.RangeFuncIn
import Derived.RangeFuncRecord
import Derived.Laws.LoneSync
namespace Go.W

/-! Short words for the computed walks. -/

abbrev iv (n : Int) : Value := .int .i64 n
abbrev bv (b : Bool) : Value := .bool b
abbrev sv (s : ByteArray) : Value := .string s
abbrev pv (a : Addr) : Value := .pointer (some a)
abbrev lv (p : Option Addr) (l c : Nat) : Value := .slice p l c
abbrev tv (l : List Value) : Value := .tuple l.toArray
abbrev at0 (b : Nat) : Addr := ⟨b, 0, none⟩
def dr (w : World) : World := { w with drawn := w.drawn + 1 }
def w64 (n : Int) : Int := IntKind.i64.wrap n
def iand (k : IntKind) (a b : Int) : Int := k.wrap (BitVec.ofInt k.bits a &&& BitVec.ofInt k.bits b).toNat
def ior (k : IntKind) (a b : Int) : Int := k.wrap (BitVec.ofInt k.bits a ||| BitVec.ofInt k.bits b).toNat
def ixor (k : IntKind) (a b : Int) : Int := k.wrap (BitVec.ofInt k.bits a ^^^ BitVec.ofInt k.bits b).toNat
def iandnot (k : IntKind) (a b : Int) : Int := k.wrap (BitVec.ofInt k.bits a &&& ~~~BitVec.ofInt k.bits b).toNat
def ishl (k : IntKind) (x : Int) (n : Nat) : Int := k.wrap (x * 2 ^ (min n k.bits))
def ishr (k : IntKind) (x : Int) (n : Nat) : Int := x.fdiv (2 ^ (min n k.bits))
def imax (a b : Int) : Int := if b > a then b else a
def imin (a b : Int) : Int := if b < a then b else a
def seq (a b : ByteArray) : Bool := a.toList == b.toList
def slen (s : ByteArray) : Int := (s.size : Int)
def ln (n : Nat) : Int := (n : Int)

section
variable (P : Program)
def Ld (t : TypeId) (a : Addr) (w : World) (v : Value) : Prop := Is P (Instr.loadAt t (.pointer (some a))) w v w
def Sto (t : TypeId) (a : Addr) (v : Value) (w w' : World) : Prop := Is P (Instr.storeAt t (.pointer (some a)) v) w () w'
def Al (t : TypeId) (b : Nat) (w w' : World) : Prop := Is P (Instr.alloc t true (.tuple #[])) w (.pointer (some ⟨b, 0, none⟩)) w'
def Bx (t : TypeId) (v : Value) (b : Nat) (w w' : World) : Prop := Is P (Instr.box t v) w (.pointer (some ⟨b, 0, none⟩)) w'
def Bs (t : TypeId) (n : Nat) (ps : List (Nat × Value)) (b : Nat) (w w' : World) : Prop := Is P (Instr.buildSlice t n ps.toArray) w (.slice (some ⟨b, 0, none⟩) n n) w'
def Mk (t : TypeId) (l c : Value) (w : World) (v : Value) (w' : World) : Prop := Is P (Instr.makeSlice t l c) w v w'
def Slc (t : TypeId) (x : Value) (lo hi : Option Value) (w : World) (v : Value) : Prop := Is P (Instr.sliceAt t x lo hi none) w v w
def Ap (ts : List TypeId) (t : TypeId) (args : List Value) (w : World) (v : Value) (w' : World) : Prop := Is P (Builtin.append_ ts.toArray t args.toArray) w v w'
def Cp (ts : List TypeId) (t : TypeId) (args : List Value) (w : World) (v : Value) (w' : World) : Prop := Is P (Builtin.copy_ ts.toArray t args.toArray) w v w'
def Clr (ts : List TypeId) (t : TypeId) (args : List Value) (w : World) (v : Value) (w' : World) : Prop := Is P (Builtin.clear_ ts.toArray t args.toArray) w v w'
def Del (ts : List TypeId) (t : TypeId) (args : List Value) (w : World) (v : Value) (w' : World) : Prop := Is P (Builtin.delete_ ts.toArray t args.toArray) w v w'
def Cv (s d : TypeId) (x : Value) (w : World) (v : Value) (w' : World) : Prop := Is P (convert s d x) w v w'
def Bin (op : BinOp) (t : TypeId) (xo yo : Operand) (x y : Value) (w : World) (v : Value) (w' : World) : Prop := Is P (do eqGuard op t xo yo x y; binOp op t x y) w v w'
end

end Go.W

namespace Go
def Code.l : Code → Code
  | .seq a _ => a
  | .cond _ a _ => a
  | .block _ c => c
  | .loop c => c
  | c => c
def Code.r : Code → Code
  | .seq _ b => b
  | .cond _ _ b => b
  | c => c
def Func.code (f : Func) : Code := f.body.getD .skip
end Go
namespace Go.W

/-! Assertions over parts of the heap. -/

/-- What a part of a world is: a block (at its number and one), or what is outside (at 0). -/
inductive Res where
  | obj (o : Obj)
  | env (s : Os) (p : Array (Nat × ByteArray))
abbrev PH := Nat → Option Res
def HP := PH → Prop
def disj (a b : PH) : Prop := ∀ n, a n = none ∨ b n = none
def uni (a b : PH) : PH := fun n => (a n).or (b n)
def star (P Q : HP) : HP := fun h => ∃ a b, disj a b ∧ h = uni a b ∧ P a ∧ Q b
def pt (b : Nat) (o : Obj) : HP := fun h => h = fun n => if n = b + 1 then some (.obj o) else none
def pur (φ : Prop) : HP := fun _ => φ
def hex {α : Type} (P : α → HP) : HP := fun h => ∃ x, P x h
def stars : List HP → HP
  | [] => fun _ => True
  | P :: L => star P (stars L)
def Fits (w : World) (h : PH) : Prop := (∀ n r, h (n + 1) = some r → (w.heap[n]?).map Res.obj = some r) ∧ ∀ s p, h 0 = some (.env s p) → w.os = s ∧ w.output = p
/-- The state of a world: disjoint parts of its heap satisfy the assertions. -/
def St (w : World) (L : List HP) : Prop := ∃ h : PH, Fits w h ∧ stars L h
/-- A row of cells. -/
abbrev row (b : Nat) (T : TypeId) (l : List Value) : HP := pt b (.cells l.toArray T (0, 0))

theorem disj.symm {a b : PH} (h : disj a b) : disj b a := fun n => (h n).symm
theorem uni_comm {a b : PH} (h : disj a b) : uni a b = uni b a := by
  funext n; rcases h n with h | h <;> simp [uni, h]
theorem uni_assoc (a b c : PH) : uni (uni a b) c = uni a (uni b c) := by
  funext n; simp [uni, Option.or_assoc]
theorem disj_uni_left {a b c : PH} : disj (uni a b) c ↔ disj a c ∧ disj b c := by
  constructor
  · intro h
    refine ⟨fun n => ?_, fun n => ?_⟩
    · rcases h n with h | h
      · left; simp [uni] at h; exact h.1
      · exact .inr h
    · rcases h n with h | h
      · left; simp [uni] at h; exact h.2
      · exact .inr h
  · rintro ⟨h1, h2⟩ n
    rcases h1 n with h1 | h1 <;> rcases h2 n with h2 | h2 <;> simp [uni, h1, h2]
theorem disj_uni_right {a b c : PH} : disj a (uni b c) ↔ disj a b ∧ disj a c := by
  constructor
  · intro h
    have := disj_uni_left.1 h.symm
    exact ⟨this.1.symm, this.2.symm⟩
  · rintro ⟨h1, h2⟩; exact (disj_uni_left.2 ⟨h1.symm, h2.symm⟩).symm

def Ent (L M : List HP) : Prop := ∀ h, stars L h → stars M h

theorem stars_up {L : List HP} : ∀ {h x : PH}, disj h x → stars L h → stars L (uni h x) := by
  induction L with
  | nil => intro _ _ _ _; trivial
  | cons P L ih =>
    rintro _ x hd ⟨a, b, hab, rfl, hp, hl⟩
    obtain ⟨h1, h2⟩ := disj_uni_left.1 hd
    exact ⟨a, uni b x, disj_uni_right.2 ⟨hab, h1⟩, uni_assoc _ _ _, hp, ih h2 hl⟩

theorem Ent.refl (L : List HP) : Ent L L := fun _ h => h
theorem Ent.trans {L M N : List HP} (h1 : Ent L M) (h2 : Ent M N) : Ent L N := fun h hs => h2 h (h1 h hs)
theorem Ent.cons {L M : List HP} (P : HP) (h : Ent L M) : Ent (P :: L) (P :: M) := by
  rintro _ ⟨a, b, hd, rfl, hp, hl⟩; exact ⟨a, b, hd, rfl, hp, h _ hl⟩
theorem Ent.swap (P Q : HP) (L : List HP) : Ent (P :: Q :: L) (Q :: P :: L) := by
  rintro _ ⟨a, _, hd, rfl, hp, b, c, hbc, rfl, hq, hl⟩
  obtain ⟨h1, h2⟩ := disj_uni_right.1 hd
  exact ⟨b, uni a c, disj_uni_right.2 ⟨h1.symm, hbc⟩, by rw [← uni_assoc, ← uni_assoc, uni_comm h1], hq, a, c, h2, rfl, hp, hl⟩
theorem Ent.drop (P : HP) (L : List HP) : Ent (P :: L) L := by
  rintro _ ⟨a, b, hd, rfl, hp, hl⟩
  rw [uni_comm hd]; exact stars_up hd.symm hl
theorem Ent.star (P Q : HP) (L : List HP) : Ent (star P Q :: L) (P :: Q :: L) := by
  rintro _ ⟨_, c, hd, rfl, ⟨a, b, hab, rfl, hp, hq⟩, hl⟩
  obtain ⟨h1, h2⟩ := disj_uni_left.1 hd
  exact ⟨a, uni b c, disj_uni_right.2 ⟨hab, h1⟩, uni_assoc _ _ _, hp, b, c, h2, rfl, hq, hl⟩
theorem Ent.unstar (P Q : HP) (L : List HP) : Ent (P :: Q :: L) (W.star P Q :: L) := by
  rintro _ ⟨a, _, hd, rfl, hp, b, c, hbc, rfl, hq, hl⟩
  obtain ⟨h1, h2⟩ := disj_uni_right.1 hd
  exact ⟨uni a b, c, disj_uni_left.2 ⟨h2, hbc⟩, (uni_assoc _ _ _).symm, ⟨a, b, h1, rfl, hp, hq⟩, hl⟩
theorem Ent.head {P Q : HP} (h : ∀ x, P x → Q x) (L : List HP) : Ent (P :: L) (Q :: L) := by
  rintro _ ⟨a, b, hd, rfl, hp, hl⟩; exact ⟨a, b, hd, rfl, h _ hp, hl⟩
theorem Ent.app {L M : List HP} (N : List HP) (h : Ent L M) : Ent (N ++ L) (N ++ M) := by
  induction N with
  | nil => exact h
  | cons P N ih => exact ih.cons P

theorem St.ent {w : World} {L M : List HP} (h : St w L) (he : Ent L M) : St w M := by
  obtain ⟨x, h1, h2⟩ := h; exact ⟨x, h1, he _ h2⟩
theorem St.ex {w : World} {α : Type} {P : α → HP} {L : List HP} (h : St w (hex P :: L)) : ∃ x, St w (P x :: L) := by
  obtain ⟨x, h1, a, b, hd, rfl, ⟨y, hp⟩, hl⟩ := h
  exact ⟨y, uni a b, h1, a, b, hd, rfl, hp, hl⟩
theorem St.pure {w : World} {φ : Prop} {L : List HP} (h : St w (pur φ :: L)) : φ ∧ St w L := by
  have h2 := h.ent (Ent.drop _ _)
  obtain ⟨x, h1, a, b, hd, rfl, hp, hl⟩ := h
  exact ⟨hp, h2⟩
theorem St.star {w : World} {P Q : HP} {L : List HP} (h : St w (star P Q :: L)) : St w (P :: Q :: L) := h.ent (Ent.star _ _ _)
theorem St.unstar {w : World} {P Q : HP} {L : List HP} (h : St w (P :: Q :: L)) : St w (W.star P Q :: L) := h.ent (Ent.unstar _ _ _)
theorem St.tail {w : World} {P : HP} {L : List HP} (h : St w (P :: L)) : St w L := h.ent (Ent.drop _ _)
theorem St.swap {w : World} {P Q : HP} {L : List HP} (h : St w (P :: Q :: L)) : St w (Q :: P :: L) := h.ent (Ent.swap _ _ _)
theorem St.head {w : World} {P Q : HP} {L : List HP} (h : St w (P :: L)) (hp : ∀ x, P x → Q x) : St w (Q :: L) := h.ent (Ent.head hp L)
theorem St.heap {w w' : World} {L : List HP} (h : St w L) (he : w'.heap = w.heap) (ho : w'.os = w.os) (hp : w'.output = w.output) : St w' L := by
  obtain ⟨x, ⟨h1, h3⟩, h2⟩ := h; exact ⟨x, ⟨by rw [he]; exact h1, by rw [ho, hp]; exact h3⟩, h2⟩
theorem St.dr {w : World} {L : List HP} (h : St w L) : St (W.dr w) L := h
theorem St.nil (w : World) : St w [] := ⟨fun _ => none, ⟨⟨fun _ _ h => (by cases h), fun _ _ h => (by cases h)⟩, trivial⟩⟩
theorem St.addPure {w : World} {φ : Prop} {L : List HP} (h : St w L) (hp : φ) : St w (pur φ :: L) := by
  obtain ⟨x, h1, h2⟩ := h
  exact ⟨x, h1, fun _ => none, x, fun _ => .inl rfl, by funext n; simp [uni], hp, h2⟩
theorem St.intro {w : World} {α : Type} {P : α → HP} {L : List HP} (x : α) (h : St w (P x :: L)) : St w (hex P :: L) := h.head fun _ hx => ⟨x, hx⟩

/-! The rules of memory. -/

theorem St.pt {w : World} {b : Nat} {o : Obj} {L : List HP} (h : St w (pt b o :: L)) : w.heap[b]? = some o := by
  obtain ⟨x, h1, a, c, hd, rfl, rfl, hl⟩ := h
  have := h1.1 b (.obj o) (by simp [uni])
  cases hb : w.heap[b]? with
  | none => rw [hb] at this; cases this
  | some p => rw [hb] at this; cases this; rfl
theorem St.pt_upd {w w' : World} {b : Nat} {o o' : Obj} {L : List HP} (h : St w (W.pt b o :: L)) (hb : w'.heap[b]? = some o') (hne : ∀ n, n ≠ b → w'.heap[n]? = w.heap[n]?) (hos : w'.os = w.os) (hou : w'.output = w.output) : St w' (W.pt b o' :: L) := by
  obtain ⟨x, ⟨h1, g1⟩, a, c, hd, rfl, rfl, hl⟩ := h
  have hc : c (b + 1) = none := by
    rcases hd (b + 1) with h | h
    · simp at h
    · exact h
  refine ⟨uni (fun n => if n = b + 1 then some (.obj o') else none) c, ⟨?_, ?_⟩, _, c, ?_, rfl, rfl, hl⟩
  · intro n p hp
    by_cases hn : n = b
    · subst hn; simp [uni] at hp; subst hp; rw [hb]; rfl
    · rw [hne n hn]
      refine h1 n p ?_
      simpa [uni, hn] using hp
  · intro s p hp
    rw [hos, hou]
    refine g1 s p ?_
    simpa [uni] using hp
  · intro n
    by_cases hn : n = b + 1
    · subst hn; exact .inr hc
    · exact .inl (by simp [hn])
theorem St.alloc {w : World} {o : Obj} {L : List HP} (h : St w L) : St { w with heap := w.heap.push o } (W.pt w.heap.size o :: L) := by
  obtain ⟨x, ⟨h1, g1⟩, h2⟩ := h
  have hx : x (w.heap.size + 1) = none := by
    cases hc : x (w.heap.size + 1) with
    | none => rfl
    | some r => have := h1 _ _ hc; simp at this
  refine ⟨uni (fun n => if n = w.heap.size + 1 then some (.obj o) else none) x, ⟨?_, ?_⟩, _, x, ?_, rfl, rfl, h2⟩
  · intro n p hp
    by_cases hn : n = w.heap.size
    · subst hn; simp [uni] at hp; subst hp; simp
    · have hp' : x (n + 1) = some p := by simpa [uni, hn] using hp
      have h3 := h1 n p hp'
      have hlt : n < w.heap.size := by
        cases hh : w.heap[n]? with
        | none => rw [hh] at h3; cases h3
        | some o => exact (Array.getElem?_eq_some_iff.1 hh).1
      simpa [Array.getElem?_push, show ¬ n = w.heap.size by omega] using h3
  · intro s p hp
    exact g1 s p (by simpa [uni] using hp)
  · intro n
    by_cases hn : n = w.heap.size + 1
    · subst hn; exact .inr hx
    · exact .inl (by simp [hn])

/-- Where a block's assertion stands in a list. -/
class Find (b : Nat) (L : List HP) (o : outParam Obj) (R : outParam (List HP)) (F : outParam (Obj → List HP)) : Prop where
  out : Ent L (pt b o :: R)
  back : ∀ o', Ent (pt b o' :: R) (F o')
instance Find.here (b : Nat) (o : Obj) (L : List HP) : Find b (pt b o :: L) o L (fun o' => pt b o' :: L) := ⟨Ent.refl _, fun _ => Ent.refl _⟩
instance Find.there (b : Nat) (o : Obj) (P : HP) (L R : List HP) (F : Obj → List HP) [h : Find b L o R F] : Find b (P :: L) o (P :: R) (fun o' => P :: F o') :=
  ⟨(h.out.cons P).trans (Ent.swap _ _ _), fun o' => (Ent.swap _ _ _).trans ((h.back o').cons P)⟩

/-- Where an assertion stands in a list. -/
class Sel (P : HP) (L : List HP) (R : outParam (List HP)) : Prop where
  out : Ent L (P :: R)
instance Sel.here (P : HP) (L : List HP) : Sel P (P :: L) L := ⟨Ent.refl _⟩
instance Sel.there (P Q : HP) (L R : List HP) [h : Sel P L R] : Sel P (Q :: L) (Q :: R) := ⟨(h.out.cons Q).trans (Ent.swap _ _ _)⟩
theorem St.sel {w : World} (P : HP) {L R : List HP} [h : Sel P L R] (hS : St w L) : St w (P :: R) := hS.ent h.out

theorem St.look {w : World} {b : Nat} {o : Obj} {L R : List HP} {F : Obj → List HP} (h : St w L) [hf : Find b L o R F] : w.heap[b]? = some o := (h.ent hf.out).pt
theorem St.upd {w w' : World} {b : Nat} {o o' : Obj} {L R : List HP} {F : Obj → List HP} (h : St w L) [hf : Find b L o R F] (hb : w'.heap[b]? = some o') (hne : ∀ n, n ≠ b → w'.heap[n]? = w.heap[n]?) (hos : w'.os = w.os) (hou : w'.output = w.output) : St w' (F o') :=
  ((h.ent hf.out).pt_upd hb hne hos hou).ent (hf.back o')

theorem St.f1 {w : World} {A B : HP} {L : List HP} (h : St w (A :: B :: L)) : St w (B :: A :: L) := h.swap
theorem St.f2 {w : World} {A B C : HP} {L : List HP} (h : St w (A :: B :: C :: L)) : St w (C :: A :: B :: L) := (h.ent ((Ent.swap B C L).cons A)).swap
theorem St.f3 {w : World} {A B C D : HP} {L : List HP} (h : St w (A :: B :: C :: D :: L)) : St w (D :: A :: B :: C :: L) :=
  ((h.ent (((Ent.swap C D L).cons B).cons A)).ent ((Ent.swap B D _).cons A)).swap

end Go.W
namespace Go
def Code.aft : Nat → Code → Code
  | 0, c => c
  | k + 1, .seq _ b => Code.aft k b
  | _ + 1, _ => .skip
end Go
namespace Go
def Code.asg : Code → Code
  | .rangeFunc _ _ x _ => x
  | c => c
def Code.bdy : Code → Code
  | .rangeFunc _ _ _ y => y
  | c => c
end Go
namespace Go.W

/-! A range over a function, in the midst of a function's body. -/

/-- The first pieces of a body. -/
noncomputable def wPre (P : Program) (n : Nat) (tt jt lt : List (Nat × List Nat)) (k : Nat) : Code → Env → World → (Env → World → Prop) → Prop :=
  Nat.rec (motive := fun _ => Code → Env → World → (Env → World → Prop) → Prop)
    (fun _ e w X => X e w)
    (fun _ ih c e w X =>
      match c with
      | .seq a b => wCode P n (drawW P tt n) tt jt lt a e w (thenE (joinW (tabO jt (first b)) fun e' w' => ih b e' w' X) fun _ _ _ => False)
      | _ => False) k

theorem sound_pre {D : List Deferred} {P : Program} {F : Fence} (hF : WF F) (hP : Plain P) (hm : P.follows .mixedOrders = true) {n : Nat} {tt jt lt : List (Nat × List Nat)} {Q : Exit → Act → World → Prop} : ∀ (k : Nat) (c : Code) {e : Env} {w : World} {X : Env → World → Prop} {a : Act},
    wPre P n tt jt lt k c e w X → Agr D n e a → (∀ e' w' a', X e' w' → Agr D n e' a' → (Code.aft k c).wpIn F 0 P Q a' w') → c.wpIn F 0 P Q a w
  | 0, _, _, _, _, _, h, ha, hX => hX _ _ _ h ha
  | k + 1, c, e, w, X, a, h, ha, hX => by
    cases c with
    | seq x y =>
      have h' : wCode P n (drawW P tt n) tt jt lt x e w (thenE (joinW (tabO jt (first y)) fun e' w' => wPre P n tt jt lt k y e' w' X) fun _ _ _ => False) := h
      refine wpIn_seq (sound_code hF hP hm x h' ha ?_)
      intro ex e' w' a' hk ha'
      cases ex with
      | normal =>
        have hk' : joinW (tabO jt (first y)) (fun e' w' => wPre P n tt jt lt k y e' w' X) e' w' := hk
        unfold joinW at hk'
        split at hk'
        · exact sound_pre hF hP hm k y hk' ha' hX
        · rename_i l _
          exact sound_pre hF hP hm k y (hk' fun t => a'.tmps.getD t undef) (ha'.keep l) hX
      | exit i => exact hk.elim
      | goto l => exact hk.elim
      | ret => exact hk.elim
      | panic c => exact hk.elim
      | outgrown => exact hk.elim
    | _ => exact False.elim h

def Env.sets (e : Env) : List Nat → List Value → Env
  | p :: ps, v :: vs => (e.set p v).sets ps vs
  | _, _ => e
/-- A round: its assignment, its beginning, its body, its end. -/
noncomputable def rndW (P : Program) (n : Nat) (tt jt lt : List (Nat × List Nat)) (l : Nat) (x y : Code) (ps : List Nat) (e : Env) (us : List Value) (w : World) (X : World → Prop) : Prop :=
  wCode P n (drawW P tt n) tt jt lt x (e.sets ps us) w (thenE (fun e1 w1 => ∃ w2, Is P (Instr.beginRound l) w1 () w2 ∧
    wCode P n (drawW P tt n) tt jt lt y e1 w2 (thenE (fun _ w3 => ∃ w4, Is P (Instr.endRound l none) w3 (.bool true) w4 ∧ X w4) fun _ _ _ => False)) fun _ _ _ => False)
/-- What the function that is ranged over is asked. -/
def CutW (P : Program) (np : Nat) (fv : Value) (w : World) (rnd : Nat → List Value → World → (World → Prop) → Prop) (post : Nat → World → Prop) : Prop :=
  ∀ (r : Loop) (w2 : World) (db : Nat), db = w.heap.size → r.state = .ready → r.pending = none → w2 = (w.alloc (.deferred (some []))).alloc (.loop r) →
    (∀ us w' X, us.length = np → w'.heap[db + 1]? = some (.loop r) → rnd (db + 1) us w' X → YieldW P (db + 1) us.toArray w' fun e w'' => e = .returned (.bool true) ∧ X w'') →
    callV P false fv #[.func (.yield (db + 1)) #[] #[]] w2 fun e w3 => (∃ v, e = .returned v) ∧ ∃ w4, Is P (Instr.endLoop (db + 1)) w3 none w4 ∧ post db w4
/-- The result, behind the taking of the deferred calls. -/
def RM (P : Program) (db : Nat) (R : Ending → World → Prop) (e : Ending) (w : World) : Prop := ∃ w', Is P (Instr.takeDeferred db) w [] w' ∧ R e w'
def tmpsOnly (l : List ResultVar) : Bool := l.all fun r => match r with | .tmp _ => true | _ => false

theorem sets_agr {n : Nat} : ∀ (ps : List Nat) (us : List Value) {e : Env} {tmps : Array Value}, (∀ p ∈ ps, p < n) → us.length = ps.length → Agr [] n e { tmps := tmps, defers := [] } →
    Agr [] n (e.sets ps us) { tmps := (ps.zip us).foldl (fun tmps (t, a) => tmps.setIfInBounds t a) tmps, defers := [] }
  | [], us, e, tmps, _, hl, ha => by simpa [Env.sets] using ha
  | p :: ps, [], e, tmps, _, hl, ha => by simp at hl
  | p :: ps, u :: us, e, tmps, hp, hl, ha => by
    have h1 := ha.set (hp p (by simp)) u
    exact sets_agr ps us (fun q hq => hp q (by simp [hq])) (by simpa using hl) h1

theorem res_const {P : Program} {tmps : Array Value} {fn : Func} (h : tmpsOnly fn.results.toList = true) (w w1 : World) (v : Value) (hr : (results fn tmps).run P w = .ok v w) : (results fn tmps).run P w1 = .ok v w1 := by
  unfold results at *
  rw [← Array.toArray_toList (xs := fn.results), List.mapM_toArray] at *
  generalize hf : (fun x : ResultVar => (match x with
    | .tmp t => pure (tmps.getD t undef)
    | .cell b t => do loadVar t (← asAddr (tmps.getD b undef)) : Sem Value)) = f at *
  have hl : ∀ (l : List ResultVar), tmpsOnly l = true → ∃ vs, ∀ w, (l.mapM f).run P w = .ok vs w := by
    intro l
    induction l with
    | nil => intro _; exact ⟨[], fun w => rfl⟩
    | cons r l ih =>
      intro h
      cases r with
      | cell b t => simp [tmpsOnly] at h
      | tmp t =>
        obtain ⟨vs, hv⟩ := ih (by simpa [tmpsOnly] using h)
        refine ⟨tmps.getD t undef :: vs, fun w => ?_⟩
        rw [List.mapM_cons]
        rw [run_bind_ok (a := tmps.getD t undef) (w' := w) (by rw [← hf]; rfl), run_bind_ok (hv w)]
        rfl
  obtain ⟨vs, hv⟩ := hl _ h
  have key : ∀ w, ((List.toArray <$> fn.results.toList.mapM f) >>= fun vs => pure (if h : vs.size = 1 then vs[0] else .tuple vs) : Sem Value).run P w = .ok (if h : vs.toArray.size = 1 then vs.toArray[0] else .tuple vs.toArray) w := by
    intro w
    refine (run_bind_ok (a := vs.toArray) (w' := w) ?_).trans rfl
    rw [map_eq_pure_bind]
    exact (run_bind_ok (hv w)).trans rfl
  have h1 := key w
  have h2 := key w1
  have h3 := hr.symm.trans h1
  cases h3
  exact h2

theorem calls_of_cut {P : Program} (hP : Plain P) (hm : P.follows .mixedOrders = true) {f : FuncId} {fn : Func} {c a0 x y rest : Code} {args : Array Value} {w : World} {R : Ending → World → Prop} (tt jt lt : List (Nat × List Nat)) (k : Nat) (slots : List Nat) {g : Operand} {ps : Array Tmp} {id : Nat}
    (hf : P.funcs[f]? = some fn) (hb : fn.body = some c) (hn : args.size ≤ fn.ntmps) (hc : Code.aft k c = .seq (.seq a0 (.block id (.rangeFunc g ps x y))) rest) (hres : tmpsOnly fn.results.toList = true) (hps : ∀ p ∈ ps.toList, p < fn.ntmps)
    (h : wPre P fn.ntmps tt jt lt k c ⟨fun _ => undef, (List.range args.size).zip args.toList⟩ w fun e w1 => wCode P fn.ntmps (drawW P tt fn.ntmps) tt jt lt a0 e w1 (thenE (fun e w1 => CutW P ps.toList.length (e.eval g) w1
      (fun l us w X => ∀ b, rndW P fn.ntmps tt jt lt l x y ps.toList (Env.of slots (e.vals slots) b) us w X)
      (fun db w => ∀ b, wCode P fn.ntmps (drawW P tt fn.ntmps) tt jt lt rest (Env.of slots (e.vals slots) b) w (endK P fn (RM P db R)))) fun _ _ _ => False)) : Calls P f args w R := by
  refine callsIn_wide.1 (callsIn_of_wp_marks (F := Fence.wide) (n := 0) hf hb trivial ?_)
  refine sound_pre (.inl rfl) hP hm k c h (Agr.enter hn) ?_
  intro e0 w0 a0' hcut0 ha0
  rw [hc]
  refine wpIn_seq (wpIn_seq (sound_code (.inl rfl) hP hm a0 hcut0 ha0 ?_))
  intro ex e w1 a hcut ha
  obtain rfl : ex = .normal := by cases ex <;> first | rfl | exact hcut.elim
  refine wpIn_block (wpIn_rangeFunc fun fid _ => ?_)
  have hlen : (slots.map fun t => a.tmps.getD t undef) = e.vals slots := List.map_congr_left fun t _ => ha.get t
  have hYs : ∀ (r : Loop), r = { state := .ready, pending := none, fn := fid, tmps := a.tmps, params := ps, assign := x, body := y, defers := w1.heap.size } → ∀ us w' X, us.length = ps.toList.length → w'.heap[w1.heap.size + 1]? = some (.loop r) →
      (∀ b, rndW P fn.ntmps tt jt lt (w1.heap.size + 1) x y ps.toList (Env.of slots (e.vals slots) b) us w' X) → YieldW P (w1.heap.size + 1) us.toArray w' fun e w'' => e = .returned (.bool true) ∧ X w'' := by
    intro r hr us w' X hus hl hrnd
    have hsz : us.toArray.size = r.params.size := by subst hr; simpa using hus
    refine ⟨_, _, _, _, run_yield hl hsz, ?_⟩
    refine roundIn_of_wpIn (F := Fence.wide) trivial ?_
    subst hr
    have ha0 : Agr [] fn.ntmps (Env.of slots (e.vals slots) fun t => a.tmps.getD t undef) { tmps := a.tmps, defers := [] } := Agr.of (a := { tmps := a.tmps, defers := [] }) ha.size rfl slots _ hlen
    have ha1 := sets_agr ps.toList us hps hus ha0
    have htm : ((ps.zip us.toArray).foldl (fun tmps (t, a) => tmps.setIfInBounds t a) a.tmps) = (ps.toList.zip us).foldl (fun tmps (t, a) => tmps.setIfInBounds t a) a.tmps := by
      rw [← Array.foldl_toList]; simp
    have h0 := hrnd fun t => a.tmps.getD t undef
    show x.wpIn (Fence.wide.inRound (w1.heap.size + 1)) 0 P _ { tmps := (ps.zip us.toArray).foldl (fun tmps (t, a) => tmps.setIfInBounds t a) a.tmps, defers := [] } w'
    rw [htm]
    refine sound_code (.inr ⟨_, rfl⟩) hP hm x h0 ha1 ?_
    intro ex e1 w2 a1 hk ha1
    cases ex with
    | normal =>
      obtain ⟨w3, hbeg, hbody⟩ := hk
      refine ⟨w3, hbeg, sound_code (.inr ⟨_, rfl⟩) hP hm y hbody ha1 ?_⟩
      intro ex e2 w4 a2 hk2 _
      cases ex with
      | normal =>
        obtain ⟨w5, hend, hX⟩ := hk2
        exact ⟨_, _, hend, rfl, hX⟩
      | _ => exact hk2.elim
    | _ => exact hk.elim
  have hcut' := hcut { state := .ready, pending := none, fn := fid, tmps := a.tmps, params := ps, assign := x, body := y, defers := w1.heap.size } _ w1.heap.size rfl rfl rfl rfl (hYs _ rfl)
  unfold callV at hcut'
  split at hcut'
  · rename_i f' first cap hfv
    split at hcut'
    · rename_i cb hcb
      have hev : a.eval g = .func (.func f') first cap := by rw [ha.eval]; exact hfv
      generalize hW2 : (w1.alloc (.deferred (some []))).alloc (.loop { state := .ready, pending := none, fn := fid, tmps := a.tmps, params := ps, assign := x, body := y, defers := w1.heap.size }) = W2 at hcut'
      refine ⟨w1.heap.size + 1, [{ target := .collected w1.heap.size, args := #[] }], W2, { target := .fn (.func f') cap, args := first ++ #[.func (.yield (w1.heap.size + 1)) #[] #[]] }, W2, f', first ++ #[.func (.yield (w1.heap.size + 1)) #[] #[]] ++ cap, W2, by rw [← hW2]; exact run_enterLoop_outer _ _ _ _ _, ?_, fun _ _ => trivial, ?_, fun h => (by cases h), ?_⟩
      · have hev' : a.eval g = .func (.func f') first cap := hev
        simp only [resolve]
        rw [hev']
        simp [Deferred.ofValue, Act.eval, Sem.run_pure]
      · simp [invoke, run_callFunc hP hcb]
      · refine callsIn_wide.2 (hcut'.mono ?_)
        rintro _ w3 ⟨⟨v, rfl⟩, w4, hend, hpost⟩
        refine ⟨none, w4, hend, ?_⟩
        have ha2 : Agr [{ target := .collected w1.heap.size, args := #[] }] fn.ntmps (Env.of slots (e.vals slots) fun t => a.tmps.getD t undef) { tmps := a.tmps, defers := [{ target := .collected w1.heap.size, args := #[] }] ++ a.defers } :=
          Agr.of (a := { tmps := a.tmps, defers := [{ target := .collected w1.heap.size, args := #[] }] ++ a.defers }) ha.size (by show _ ++ a.defers = _; rw [ha.defers]; rfl) slots _ hlen
        refine sound_code (.inl rfl) hP hm rest (hpost fun t => a.tmps.getD t undef) ha2 ?_
        intro ex e3 w5 a3 hk ha3
        have hfin : ∀ (a3 : Act) (w5 : World), Agr [{ target := .collected w1.heap.size, args := #[] }] fn.ntmps e3 a3 → retK P fn (RM P w1.heap.size R) e3 w5 → LeavesInM Fence.wide 0 P fn a3.tmps R a3.defers .returning w5 := by
          intro a3 w5 ha3 hk
          obtain ⟨v, hv, w6, ht, hR⟩ := sound_ret ha3 hk
          rw [ha3.defers]
          refine ⟨by simp, .inl ⟨_, w6, rfl, ht, ?_⟩⟩
          exact ⟨v, res_const hres _ _ _ hv, hR⟩
        cases ex with
        | normal => exact hfin _ _ ha3 hk
        | ret => exact hfin _ _ ha3 hk
        | _ => exact hk.elim
    · exact hcut'.elim
  · exact hcut'.elim
  · exact hcut'.elim
end Go.W
namespace Go.W

/-! Rules for the words of the clean walks, over states. -/

class Sc (P : Program) (t : TypeId) : Prop where
  out : ∀ w, (isAgg t).run P w = .ok false w
  size : ∀ w, (sizeOf t).run P w = .ok 1 w
class Ag (P : Program) (t : TypeId) (n : outParam Nat) : Prop where
  out : ∀ w, (isAgg t).run P w = .ok true w
  size : ∀ w, (sizeOf t).run P w = .ok n w
class Zr (P : Program) (t : TypeId) (l : outParam (List Value)) : Prop where
  out : ∀ w, ∃ z, (zeroValue t).run P w = .ok z w ∧ z.cells = l.toArray
class El (P : Program) (t : TypeId) (e : outParam TypeId) (n : outParam Nat) : Prop where
  out : P.underlying t = some (.slice e)
  info : (P.info? e).map (fun i => (i.size, decide (i.bytes ≤ 1024), i.zero.map (·.cells.size))) = some (n, true, some n)
theorem El.parts {P : Program} {t e : TypeId} {n : Nat} (h : El P t e n) : ∃ i z, P.info? e = some i ∧ i.size = n ∧ i.bytes ≤ 1024 ∧ i.zero = some z ∧ z.cells.size = n := by
  have h1 := h.info
  cases hi : P.info? e with
  | none => rw [hi] at h1; cases h1
  | some i =>
    rw [hi] at h1
    simp only [Option.map_some, Option.some.injEq, Prod.mk.injEq, decide_eq_true_eq] at h1
    obtain ⟨h2, h3, h4⟩ := h1
    cases hz : i.zero with
    | none => rw [hz] at h4; cases h4
    | some z => rw [hz] at h4; exact ⟨i, z, rfl, h2, h3, hz, by simpa using h4⟩
theorem El.size {P : Program} {t e : TypeId} {n : Nat} (h : El P t e n) (w : World) : (sizeOf e).run P w = .ok n w := by
  obtain ⟨i, z, hi, hs, _⟩ := h.parts
  rw [← hs]; exact run_info hi w
theorem El.zero {P : Program} {t e : TypeId} {n : Nat} (h : El P t e n) (w : World) : ∃ z, (zeroValue e).run P w = .ok z w ∧ z.cells.size = n := by
  obtain ⟨i, z, hi, hs, _, hz, hc⟩ := h.parts
  exact ⟨z, by simp [zeroValue, typeInfo, hi, hz], hc⟩
theorem El.tinfo {P : Program} {t e : TypeId} {n : Nat} (h : El P t e n) (w : World) : ∃ i, (typeInfo e).run P w = .ok i w ∧ i.bytes ≤ 1024 := by
  obtain ⟨i, z, hi, hs, hb, _⟩ := h.parts
  exact ⟨i, by simp [typeInfo, hi], hb⟩

section
variable {P : Program} {w : World} {L R : List HP} {F : Obj → List HP} {b off : Nat} {l : List Value} {T t : TypeId} {fz : Nat × Nat} {v : Value}

theorem add_mk (b o n : Nat) : Addr.add ⟨b, o, none⟩ n = ⟨b, o + n, none⟩ := by
  unfold Addr.add; split
  · rename_i h; subst h; rfl
  · rfl

theorem cell_of_heap {cs : Array Value} (h : w.heap[b]? = some (.cells cs T fz)) (off : Nat) : w.cell? ⟨b, off, none⟩ = cs[off]? := by
  simp [World.cell?, h]
theorem cell_look (hS : St w L) [Find b L (.cells l.toArray T fz) R F] (off : Nat) : w.cell? ⟨b, off, none⟩ = l[off]? := by
  rw [cell_of_heap (hS.look (b := b))]; simp

theorem run_load_cell {a : Addr} (h : w.cell? a = some v) : (load a).run P w = .ok v w := by
  simp [load, Sem.run, h]

theorem ld_cell [hs : Sc P t] {a : Addr} (h : w.cell? a = some v) : Ld P t a w v := by
  unfold Ld Is Instr.loadAt
  show (loadVar t a).run P w = _
  unfold loadVar
  rw [run_bind_ok (hs.out w)]
  exact run_load_cell h

theorem ld (hS : St w L) [Find b L (.cells l.toArray T fz) R F] [Sc P t] (hv : l[off]? = some v) : Ld P t ⟨b, off, none⟩ w v :=
  ld_cell (by rw [cell_look hS]; exact hv)
theorem ldx {o n : Nat} (hS : St w L) [Find b L (.cells l.toArray T fz) R F] [Sc P t] (hv : l[o + n]? = some v) : Ld P t (Addr.add ⟨b, o, none⟩ n) w v := by
  rw [add_mk]; exact ld hS hv

theorem run_loadCells {a : Addr} : ∀ (vs : List Value) (i : Nat) (acc : Array Value), (∀ j v, vs[j]? = some v → w.cell? (a.add (i + j)) = some v) →
    (loadCellsFrom a i vs.length acc).run P w = .ok (acc ++ vs.toArray) w := by
  intro vs
  induction vs with
  | nil => intro i acc _; simp [loadCellsFrom]
  | cons v vs ih =>
    intro i acc h
    rw [List.length_cons, loadCellsFrom]
    rw [run_bind_ok (run_load_cell (by simpa using h 0 v rfl))]
    rw [ih (i + 1) (acc.push v) (fun j u hj => by have := h (j + 1) u hj; rwa [show i + (j + 1) = i + 1 + j by omega] at this)]
    simp

theorem ldA {vs : List Value} {n : Nat} (hS : St w L) [Find b L (.cells l.toArray T fz) R F] [hs : Ag P t n] (hv : (l.drop off).take n = vs) (hn : vs.length = n) : Ld P t ⟨b, off, none⟩ w (.agg vs.toArray) := by
  unfold Ld Is Instr.loadAt
  show (loadVar t _).run P w = _
  unfold loadVar
  rw [run_bind_ok (hs.out w)]
  simp only [if_true]
  rw [run_bind_ok (hs.size w)]
  unfold loadCells
  rw [← hn, run_bind_ok (run_loadCells vs 0 #[] ?_)]
  · simp
  · intro j u hj
    rw [add_mk, cell_look hS]
    subst hv
    have hlt : j < n := by
      have := (List.getElem?_eq_some_iff.1 hj).1
      simp at this; omega
    rw [List.getElem?_take_of_lt hlt, List.getElem?_drop] at hj
    simpa using hj

theorem setCell_heap (a : Addr) (v : Value) (n : Nat) (h : n ≠ a.block) : (w.setCell a v).heap[n]? = w.heap[n]? := by
  simp [World.setCell, Array.getElem?_modify, Ne.symm h]
theorem setCell_at {cs : Array Value} (h : w.heap[b]? = some (.cells cs T fz)) (off : Nat) (v : Value) : (w.setCell ⟨b, off, none⟩ v).heap[b]? = some (.cells (cs.setIfInBounds off v) T fz) := by
  simp [World.setCell, Array.getElem?_modify, h]

theorem St.setCell (hS : St w L) [hf : Find b L (.cells l.toArray T fz) R F] (off : Nat) (v : Value) : St (w.setCell ⟨b, off, none⟩ v) (F (.cells (l.set off v).toArray T fz)) := by
  refine hS.upd (b := b) ?_ ?_ rfl rfl
  · rw [setCell_at (hS.look (b := b))]; simp
  · intro n hn; exact setCell_heap _ _ _ hn

/-- A value of one cell. -/
def sc : Value → Bool
  | .agg _ => false
  | .tuple _ => false
  | _ => true
theorem sc_cells {v : Value} (h : sc v = true) : v.cells = #[v] := by cases v <;> first | rfl | (simp [sc] at h)
theorem run_store_cell {a : Addr} {u : Value} (hv : sc v = true) (h : w.cell? a = some u) (hz : w.frozen? a = false) : (store a v).run P w = .ok () (w.setCell a v) := by
  unfold store
  cases v <;> first
    | (simp [sc] at hv; done)
    | simp [Sem.run, h, hz]

theorem frozen_look (hS : St w L) [Find b L (.cells l.toArray T fz) R F] (off : Nat) : w.frozen? ⟨b, off, none⟩ = (decide (fz.1 ≤ off) && decide (off < fz.2)) := by
  have := hS.look (b := b)
  simp [World.frozen?, this]

theorem sto {K : World → Prop} (hS : St w L) [Find b L (.cells l.toArray T (0, 0)) R F] [hs : Sc P t] (ho : off < l.length) (hv : sc v = true)
    (h : ∀ w1, St w1 (F (.cells (l.set off v).toArray T (0, 0))) → K w1) : ∃ w1, Sto P t ⟨b, off, none⟩ v w w1 ∧ K w1 := by
  refine ⟨_, ?_, h _ (hS.setCell (b := b) off v)⟩
  unfold Sto Is Instr.storeAt
  show (storeVar t _ v).run P w = _
  unfold storeVar
  rw [run_bind_ok (hs.size w)]
  rw [sc_cells hv]
  simp only [List.size_toArray, List.length_cons, List.length_nil, ne_eq, Nat.reduceAdd, not_true_eq_false, if_false]
  unfold storeCells
  rw [run_bind_ok (run_store_cell (a := Addr.add ⟨b, off, none⟩ 0) hv (by rw [add_mk, cell_look hS]; exact List.getElem?_eq_getElem ho) (by rw [add_mk, frozen_look hS]; simp))]
  rfl
theorem stox {K : World → Prop} {o n : Nat} (hS : St w L) [Find b L (.cells l.toArray T (0, 0)) R F] [hs : Sc P t] (ho : o + n < l.length) (hv : sc v = true)
    (h : ∀ w1, St w1 (F (.cells (l.set (o + n) v).toArray T (0, 0))) → K w1) : ∃ w1, Sto P t (Addr.add ⟨b, o, none⟩ n) v w w1 ∧ K w1 := by
  rw [add_mk]; exact sto hS ho hv h

theorem al {K : Nat → World → Prop} [hz : Zr P t l] (hS : St w L) (h : ∀ b w1, St w1 (row b t l :: L) → K b w1) : ∃ b w1, Al P t b w w1 ∧ K b w1 := by
  obtain ⟨z, h1, h2⟩ := hz.out w
  refine ⟨w.heap.size, _, ?_, h _ _ hS.alloc⟩
  unfold Al Is Instr.alloc
  rw [run_bind_ok h1]
  simp only [newVar, newRow, newObj, h2]
  rfl
theorem bx {K : Nat → World → Prop} (hS : St w L) (hv : v.cells = l.toArray) (h : ∀ b w1, St w1 (row b t l :: L) → K b w1) : ∃ b w1, Bx P t v b w w1 ∧ K b w1 := by
  refine ⟨w.heap.size, _, ?_, h _ _ hS.alloc⟩
  unfold Bx Is Instr.box
  simp only [newVar, newRow, newObj, hv]
  rfl

end
end Go.W
namespace Go.W

/-! Slices: owned ones, and ones that are only read. -/

def harmless (fz : Nat × Nat) (n : Nat) : Prop := fz.2 = 0 ∨ n ≤ fz.1

/-- A slice value that owns its row: its cells are 'xs'. -/
def slAt (T sz : Nat) (v : Value) (xs : List Value) : HP := fun h =>
  (v = .slice none 0 0 ∧ xs = []) ∨
  ∃ b pre post n c fz, v = .slice (some ⟨b, List.length pre, none⟩) n c ∧ xs.length = n * sz ∧ (c - n) * sz ≤ List.length post ∧ n ≤ c ∧
    harmless fz (pre.length + xs.length + post.length) ∧ pt b (.cells (pre ++ xs ++ post).toArray T fz) h

/-- A slice value reads as cells in a world. -/
def VC (w : World) (sz : Nat) (v : Value) (xs : List Value) : Prop :=
  ∃ p n c, v = .slice p n c ∧ xs.length = n * sz ∧ n ≤ c ∧ ∀ i x, xs[i]? = some x → ∃ b o, p = some ⟨b, o, none⟩ ∧ w.cell? ⟨b, o + i, none⟩ = some x
/-- .. in every world of a state. -/
def Rd (Fs : List HP) (sz : Nat) (v : Value) (xs : List Value) : Prop := ∀ w, St w Fs → VC w sz v xs

section
variable {P : Program} {w : World} {L R Fs : List HP} {F : Obj → List HP} {b off sz : Nat} {l xs ys : List Value} {T t : TypeId} {fz : Nat × Nat} {v : Value}

theorem open_sl (h : St w (slAt T sz v xs :: L)) : (v = .slice none 0 0 ∧ xs = [] ∧ St w L) ∨
    ∃ b pre post n c fz, v = .slice (some ⟨b, List.length pre, none⟩) n c ∧ xs.length = n * sz ∧ (c - n) * sz ≤ List.length post ∧ n ≤ c ∧
      harmless fz (pre.length + xs.length + post.length) ∧ St w (pt b (.cells (pre ++ xs ++ post).toArray T fz) :: L) := by
  obtain ⟨x, h1, a, c, hd, rfl, hp, hl⟩ := h
  rcases hp with ⟨hv, hx⟩ | ⟨b, pre, post, n, c', fz, hv, h2, h3, h4, h5, h6⟩
  · exact .inl ⟨hv, hx, uni a c, h1, by rw [uni_comm hd]; exact stars_up hd.symm hl⟩
  · exact .inr ⟨b, pre, post, n, c', fz, hv, h2, h3, h4, h5, uni a c, h1, a, c, hd, rfl, h6, hl⟩
theorem mk_sl {pre post : List Value} {n c : Nat} (h : St w (pt b (.cells (pre ++ xs ++ post).toArray T fz) :: L)) (h2 : xs.length = n * sz) (h3 : (c - n) * sz ≤ post.length) (h4 : n ≤ c)
    (h5 : harmless fz (pre.length + xs.length + post.length)) : St w (slAt T sz (.slice (some ⟨b, pre.length, none⟩) n c) xs :: L) :=
  h.head fun _ hp => .inr ⟨b, pre, post, n, c, fz, rfl, h2, h3, h4, h5, hp⟩
theorem mk_slNil (h : St w L) : St w (slAt T sz (.slice none 0 0) [] :: L) :=
  (h.addPure (φ := True) trivial).head fun _ _ => .inl ⟨rfl, rfl⟩
/-- A row that was just made, as a slice. -/
theorem row_sl {n : Nat} (h : St w (row b T xs :: L)) (h2 : xs.length = n * sz) : St w (slAt T sz (.slice (some ⟨b, 0, none⟩) n n) xs :: L) :=
  mk_sl (pre := []) (post := []) (fz := (0, 0)) (by simpa using h) h2 (by simp) (Nat.le_refl _) (.inl rfl)

theorem cells_mid {pre post : List Value} (h : w.heap[b]? = some (.cells (pre ++ xs ++ post).toArray T fz)) (i : Nat) (x : Value) (hi : xs[i]? = some x) :
    w.cell? ⟨b, pre.length + i, none⟩ = some x := by
  rw [cell_of_heap h]
  have hlt := (List.getElem?_eq_some_iff.1 hi).1
  simp only [List.getElem?_toArray, List.append_assoc]
  rw [List.getElem?_append_right (by omega), List.getElem?_append_left (by omega)]
  rw [show pre.length + i - pre.length = i by omega]; exact hi

theorem vc_sl (h : St w (slAt T sz v xs :: L)) : VC w sz v xs := by
  rcases open_sl h with ⟨rfl, rfl, _⟩ | ⟨b, pre, post, n, c, fz, rfl, h2, h3, h4, _, h6⟩
  · exact ⟨none, 0, 0, rfl, by simp, Nat.le_refl _, fun i x hi => by simp at hi⟩
  · exact ⟨_, n, c, rfl, h2, h4, fun i x hi => ⟨b, pre.length, rfl, cells_mid h6.pt i x hi⟩⟩
theorem Rd.of_sl [h : Sel (slAt T sz v xs) L R] : Rd L sz v xs := fun _ hS => vc_sl (hS.sel (slAt T sz v xs))
theorem Rd.mono {M : List HP} (h : Rd L sz v xs) (he : Ent M L) : Rd M sz v xs := fun _ hS => h _ (hS.ent he)
theorem Rd.cons (A : HP) (h : Rd L sz v xs) : Rd (A :: L) sz v xs := h.mono (Ent.drop _ _)
theorem Rd.nil (c : Nat) : Rd L sz (.slice none 0 c) [] := fun _ _ => ⟨none, 0, c, rfl, by simp, Nat.zero_le _, fun i x hi => by simp at hi⟩

/-- An owned slice, cut at its left. -/
theorem sl_drop {n c lo : Nat} {p : Option Addr} (h : St w (slAt T sz (.slice p n c) xs :: L)) (h1 : lo ≤ n) :
    St w (slAt T sz (.slice (if c = lo then p else p.map (·.add (lo * sz))) (n - lo) (c - lo)) (xs.drop (lo * sz)) :: L) := by
  rcases open_sl h with ⟨hv, rfl, h2⟩ | ⟨b, pre, post, n', c', fz, hv, h2, h3, h4, h5, h6⟩
  · cases hv
    have : lo = 0 := by omega
    subst this
    simpa using mk_slNil h2
  · cases hv
    have hle : lo * sz ≤ n * sz := Nat.mul_le_mul_right _ h1
    have hx : xs.take (lo * sz) ++ xs.drop (lo * sz) = xs := List.take_append_drop _ _
    by_cases hc : c = lo
    · subst hc
      have hn : n = c := by omega
      subst hn
      rw [if_pos rfl, List.drop_of_length_le (by omega)]
      refine mk_sl (fz := fz) (pre := pre) (xs := []) (post := xs ++ post) (by simpa using h6) (by simp) (by simp) (by omega) ?_
      simpa [Nat.add_assoc] using h5
    · rw [if_neg hc]
      have e : (some (⟨b, pre.length, none⟩ : Addr)).map (·.add (lo * sz)) = some ⟨b, (pre ++ xs.take (lo * sz)).length, none⟩ := by
        simp [add_mk]; omega
      rw [e]
      refine mk_sl (fz := fz) (pre := pre ++ xs.take (lo * sz)) (post := post) ?_ (by rw [List.length_drop, h2, Nat.sub_mul]) (by rw [show c - lo - (n - lo) = c - n by omega]; exact h3) (by omega) ?_
      · rw [List.append_assoc pre, hx]; exact h6
      · rw [show (pre ++ xs.take (lo * sz)).length + (xs.drop (lo * sz)).length + post.length = pre.length + xs.length + post.length by simp; omega]; exact h5
theorem VC.at {p : Option Addr} {n c i : Nat} {x : Value} (h : VC w 1 (.slice p n c) xs) [Sc P t] (hx : xs[i]? = some x) :
    ∃ b o, p = some ⟨b, o, none⟩ ∧ i < n ∧ Ld P t (Addr.add ⟨b, o, none⟩ (i * 1)) w x := by
  obtain ⟨p', n', c', hv, h2, _, h3⟩ := h
  cases hv
  obtain ⟨b, o, rfl, hc⟩ := h3 i x hx
  refine ⟨b, o, rfl, ?_, ?_⟩
  · have := (List.getElem?_eq_some_iff.1 hx).1; omega
  · rw [add_mk, Nat.mul_one]; exact ld_cell hc
theorem VC.len {p : Option Addr} {n c : Nat} (h : VC w 1 (.slice p n c) xs) : xs.length = n ∧ n ≤ c := by
  obtain ⟨p', n', c', hv, h2, h4, _⟩ := h
  cases hv
  exact ⟨by omega, h4⟩
theorem VC.lenN {p : Option Addr} {n c : Nat} (h : VC w sz (.slice p n c) xs) : xs.length = n * sz ∧ n ≤ c := by
  obtain ⟨p', n', c', hv, h2, h4, _⟩ := h
  cases hv
  exact ⟨h2, h4⟩
theorem VC.form (h : VC w sz v xs) : ∃ p n c, v = .slice p n c := by
  obtain ⟨p, n, c, hv, _⟩ := h; exact ⟨p, n, c, hv⟩

/-! Slicing. -/

theorem run_bound {x : Int} {y : Nat} {code : BoundsCode} (h0 : 0 ≤ x) (h1 : x ≤ y) : (Instr.sliceBound (.int .i64 x) y code).run P w = .ok x.toNat w := by
  unfold Instr.sliceBound asIntOf
  simp [h0, h1]

/-- What a slice expression gives. -/
theorem slc_run {e : TypeId} [he : El P t e sz] {p : Option Addr} {n c lo hi : Nat} (h1 : lo ≤ hi) (h2 : hi ≤ c) {xlo xhi : Option Value}
    (hlo : xlo = some (.int .i64 (lo : Int)) ∨ (xlo = none ∧ lo = 0)) (hhi : xhi = some (.int .i64 (hi : Int)) ∨ (xhi = none ∧ hi = n)) :
    Slc P t (.slice p n c) xlo xhi w (.slice (if c = lo then p else p.map (·.add (lo * sz))) (hi - lo) (c - lo)) := by
  unfold Slc Is Instr.sliceAt
  rw [run_bind_ok (run_und he.out w)]
  show (Instr.slice t (.slice p n c) xlo xhi none).run P w = _
  unfold Instr.slice
  rw [run_bind_ok (run_und he.out w)]
  have hb : (Instr.sliceBounds true n c xlo xhi none).run P w = .ok (lo, hi, c) w := by
    unfold Instr.sliceBounds
    have k1 : ∀ code, (Instr.sliceBound (.int .i64 (hi : Int)) c code).run P w = .ok hi w := fun code => run_bound (by omega) (by omega)
    have k2 : ∀ code, (Instr.sliceBound (.int .i64 (lo : Int)) hi code).run P w = .ok lo w := fun code => run_bound (by omega) (by omega)
    rcases hlo with rfl | ⟨rfl, rfl⟩ <;> rcases hhi with rfl | ⟨rfl, rfl⟩ <;> simp [Sem.run_bind, Result.andThen, k1, k2]
  simp only
  rw [run_bind_ok hb]
  simp only
  rw [run_bind_ok (he.size w)]
  rfl

theorem VC.slice {p : Option Addr} {n c lo hi : Nat} (h : VC w sz (.slice p n c) xs) (h1 : lo ≤ hi) (h2 : hi ≤ n) :
    VC w sz (.slice (if c = lo then p else p.map (·.add (lo * sz))) (hi - lo) (c - lo)) ((xs.drop (lo * sz)).take ((hi - lo) * sz)) := by
  obtain ⟨p', n', c', hv, h3, h4, h5⟩ := h
  cases hv
  have hle : hi * sz ≤ n * sz := Nat.mul_le_mul_right _ h2
  have hls : lo * sz ≤ hi * sz := Nat.mul_le_mul_right _ h1
  refine ⟨_, _, _, rfl, ?_, by omega, ?_⟩
  · rw [List.length_take, List.length_drop, h3, Nat.sub_mul]; omega
  · intro i x hi'
    have hlt : i < (hi - lo) * sz := by
      have := (List.getElem?_eq_some_iff.1 hi').1
      rw [List.length_take] at this; omega
    rw [List.getElem?_take_of_lt hlt, List.getElem?_drop] at hi'
    obtain ⟨b, o, rfl, hc⟩ := h5 _ _ hi'
    by_cases hcl : c = lo
    · subst hcl
      have : hi - c = 0 := by omega
      rw [this] at hlt; omega
    · rw [if_neg hcl]
      refine ⟨b, o + lo * sz, by simp [add_mk], ?_⟩
      rw [Nat.add_assoc]; exact hc

end
end Go.W
namespace Go.W
section
variable {P : Program} {w : World} {L : List HP} {b sz : Nat} {xs ys : List Value} {T t t2 e : TypeId} {v s : Value}

theorem growBy_le (need : Nat) : ∀ (r c : Nat), c ≤ need → Builtin.growBy need r c ≤ 2 * need + 768 := by
  intro r
  induction r with
  | zero => intro c h; unfold Builtin.growBy; omega
  | succ r ih =>
    intro c h
    unfold Builtin.growBy
    split
    · omega
    · by_cases h2 : c + (c + 768) / 4 ≤ need
      · exact ih _ h2
      · have : ∀ r c', need ≤ c' → Builtin.growBy need r c' = c' := by
          intro r c' hc; cases r <;> simp [Builtin.growBy, hc]
        rw [this _ _ (by omega)]; omega
theorem nextcap_le {need c : Nat} (h : c < need) : Builtin.nextslicecap need c ≤ 2 * need + 768 := by
  unfold Builtin.nextslicecap
  split
  · omega
  · split
    · omega
    · exact growBy_le _ _ _ (by omega)

theorem run_firstCells (h : VC w sz s ys) {n : Nat} (hn : ys.length = n * sz) : (Builtin.firstCells sz n s).run P w = .ok ys.toArray w := by
  obtain ⟨p, m, c, rfl, h2, _, h3⟩ := h
  unfold Builtin.firstCells
  cases p with
  | none =>
    cases ys with
    | nil => rfl
    | cons y ys => obtain ⟨b, o, hb, _⟩ := h3 0 y rfl; cases hb
  | some a =>
    show (loadCells a (n * sz)).run P w = _
    rw [← hn]
    unfold loadCells
    rw [run_loadCells ys 0 #[]]
    · simp
    · intro j u hj
      obtain ⟨b, o, hb, hc⟩ := h3 j u hj
      cases hb
      rw [add_mk, Nat.zero_add]; exact hc

theorem run_storeCells {L : List HP} {fz : Nat × Nat} {o : Nat} : ∀ (vs : List Value) (i : Nat) (w : World) (l : List Value), (∀ u ∈ vs, sc u = true) → o + i + vs.length ≤ l.length → harmless fz l.length →
    St w (pt b (.cells l.toArray T fz) :: L) →
    ∃ w', (storeCells ⟨b, o, none⟩ vs i).run P w = .ok () w' ∧ St w' (pt b (.cells (l.take (o + i) ++ vs ++ l.drop (o + i + vs.length)).toArray T fz) :: L) := by
  intro vs
  induction vs with
  | nil => intro i w l _ _ _ hS; exact ⟨w, rfl, by simpa using hS⟩
  | cons u vs ih =>
    intro i w l hu hl hz hS
    simp only [List.length_cons] at hl
    have hlt : o + i < l.length := by omega
    have hst : (store (Addr.add ⟨b, o, none⟩ i) u).run P w = .ok () (w.setCell ⟨b, o + i, none⟩ u) := by
      rw [add_mk]
      refine run_store_cell (hu u (by simp)) (by rw [cell_look hS]; exact List.getElem?_eq_getElem hlt) ?_
      rw [frozen_look hS]
      rcases hz with hz | hz
      · simp [hz]
      · simp; omega
    have hS1 : St (w.setCell ⟨b, o + i, none⟩ u) (pt b (.cells (l.set (o + i) u).toArray T fz) :: L) := hS.setCell (b := b) (o + i) u
    obtain ⟨w', h1, h2⟩ := ih (i + 1) _ (l.set (o + i) u) (fun x hx => hu x (by simp [hx])) (by simp; omega) (by simpa using hz) hS1
    refine ⟨w', ?_, ?_⟩
    · unfold storeCells; rw [run_bind_ok hst]; exact h1
    · have e1 : (l.set (o + i) u).take (o + (i + 1)) = l.take (o + i) ++ [u] := by
        rw [show o + (i + 1) = o + i + 1 by omega, List.take_succ_eq_append_getElem (by simpa using hlt)]
        rw [List.getElem_set_self]
        congr 1
        rw [List.take_set, List.set_eq_of_length_le]
        simp; omega
      have e2 : (l.set (o + i) u).drop (o + (i + 1) + vs.length) = l.drop (o + i + (vs.length + 1)) := by
        rw [List.drop_set_of_lt (by omega)]
        congr 1; omega
      rw [e1, e2] at h2
      simpa using h2

/-- append(dst, src...), dst being owned. -/
theorem ap_run [he : El P t e sz] (h2 : ∃ d, P.underlying t2 = some (.slice d)) (hsz : 0 < sz) (hS : St w (slAt e sz v xs :: L)) (hs : VC w sz s ys) (hy : ∀ u ∈ ys, sc u = true) (hb : xs.length + ys.length ≤ 17179869184) :
    ∃ v' w', Ap P [t, t2] t [v, s] w v' w' ∧ St w' (slAt e sz v' (xs ++ ys) :: L) ∧ ∃ p c, v' = .slice p ((xs.length + ys.length) / sz) c := by
  obtain ⟨d2, h2⟩ := h2
  obtain ⟨i0, hi0, hby⟩ := he.tinfo w
  obtain ⟨z, hz, hzs⟩ := he.zero w
  have hvd := vc_sl hS
  obtain ⟨sp, m, sc', rfl, hm, _, _⟩ := id hs
  obtain ⟨vp, n, vc, rfl, hn, hnc, _⟩ := id hvd
  have hlen : (xs.length + ys.length) / sz = n + m := by rw [hn, hm, ← Nat.add_mul, Nat.mul_div_cancel _ hsz]
  have hnm : n + m ≤ 17179869184 := by
    have : (n + m) * sz ≤ 17179869184 := by rw [Nat.add_mul, ← hn, ← hm]; exact hb
    exact Nat.le_trans (Nat.le_mul_of_pos_right _ hsz) this
  rw [hlen]
  have hpre : ∀ (K : Sem Value) (x : Value) (w' : World), K.run P w = .ok x w' →
      (Builtin.append_ #[t, t2] t #[.slice vp n vc, .slice sp m sc']).run P w = .ok x w' ∨ True := fun _ _ _ _ => .inr trivial
  clear hpre
  unfold Ap Is
  show ∃ v' w', (Builtin.append_ #[t, t2] t #[.slice vp n vc, .slice sp m sc']).run P w = .ok v' w' ∧ _
  by_cases hroom : n + m ≤ vc
  · -- room
    rcases open_sl hS with ⟨hv, rfl, hL⟩ | ⟨b, pre, post, n', c', fz, hv, h5, h6, h7, h8, h9⟩
    · cases hv
      have hm0 : m = 0 := by omega
      subst hm0
      have hy0 : ys = [] := by simpa using hm
      subst hy0
      refine ⟨.slice none 0 0, w, ?_, by simpa using mk_slNil hL, none, 0, rfl⟩
      unfold Builtin.append_
      simp only [List.getElem?_toArray, List.getElem?_cons_zero, List.getElem?_cons_succ]
      rw [run_bind_ok (run_und he.out w)]
      simp only
      rw [run_bind_ok (he.size w)]
      rw [run_bind_ok (run_und h2 w)]
      rw [run_bind_ok (a := false) (w' := w) rfl]
      simp only [Bool.false_eq_true, if_false]
      rw [run_bind_ok (a := 0) (w' := w) rfl]
      simp only [Nat.add_zero, Nat.le_refl, if_true, Bool.not_false]
      rw [run_bind_ok (run_firstCells hs (n := 0) (by simp))]
      rfl
    · cases hv
      have hps : (vc - n) * sz = m * sz + (vc - (n + m)) * sz := by rw [← Nat.add_mul]; congr 1; omega
      obtain ⟨w', hw1, hw2⟩ := run_storeCells (P := P) (o := pre.length + n * sz) ys 0 w (pre ++ xs ++ post) hy (by simp only [List.length_append]; omega) (by simpa only [List.length_append] using h8) h9
      refine ⟨.slice (some ⟨b, pre.length, none⟩) (n + m) vc, w', ?_, ?_, _, _, rfl⟩
      · unfold Builtin.append_
        simp only [List.getElem?_toArray, List.getElem?_cons_zero, List.getElem?_cons_succ]
        rw [run_bind_ok (run_und he.out w)]
        simp only
        rw [run_bind_ok (he.size w)]
        rw [run_bind_ok (run_und h2 w)]
        rw [run_bind_ok (a := false) (w' := w) rfl]
        simp only [Bool.false_eq_true, if_false]
        rw [run_bind_ok (a := m) (w' := w) rfl]
        simp only [hroom, if_true, Bool.not_false]
        rw [run_bind_ok (run_firstCells hs hm)]
        simp only
        rw [run_bind_ok (a := ()) (w' := w') (by rw [add_mk]; exact hw1)]
        rfl
      · have e1 : (pre ++ xs ++ post).take (pre.length + n * sz + 0) = pre ++ xs := by
          rw [List.take_append_of_le_length (by simp; omega), List.take_of_length_le (by simp; omega)]
        have e2 : (pre ++ xs ++ post).drop (pre.length + n * sz + 0 + ys.length) = post.drop ys.length := by
          rw [show pre.length + n * sz + 0 + ys.length = (pre ++ xs).length + ys.length by simp; omega, List.drop_append]
          simp
        rw [e1, e2] at hw2
        refine mk_sl (pre := pre) (post := post.drop ys.length) (by simpa using hw2) (by simp [Nat.add_mul]; omega) (by simp; omega) hroom ?_
        have : pre.length + (xs ++ ys).length + (post.drop ys.length).length = pre.length + xs.length + post.length := by simp; omega
        rw [this]; exact h8
  · -- a new row
    have hcap : ∃ cap w1, (choose (.appendCap (n + m) vc e)).run P w = .ok cap w1 ∧ n + m ≤ cap ∧ w1.heap = w.heap ∧ w1.os = w.os ∧ w1.output = w.output := by
      refine ⟨_, _, rfl, ?_, rfl, rfl, rfl⟩
      simp only [Question.cut]; omega
    obtain ⟨cap, w1, hc1, hc2, hc3, hc4, hc5⟩ := hcap
    have hS1 : St w1 (slAt e sz (.slice vp n vc) xs :: L) := hS.heap hc3 hc4 hc5
    have hvd1 : VC w1 sz (.slice vp n vc) xs := vc_sl hS1
    have hs1 : VC w1 sz (.slice sp m sc') ys := by
      obtain ⟨p, n', c', hv, k2, k3, k4⟩ := hs
      exact ⟨p, n', c', hv, k2, k3, fun i x hx => by obtain ⟨b, o, hp, hc⟩ := k4 i x hx; exact ⟨b, o, hp, by simpa [World.cell?, hc3] using hc⟩⟩
    have hnew := (hS1.tail).alloc (o := .cells (xs.toArray ++ ys.toArray ++ Builtin.zeroCells z.cells (cap - (n + m))) e (0, 0))
    refine ⟨.slice (some ⟨w1.heap.size, 0, none⟩) (n + m) cap, { w1 with heap := w1.heap.push (.cells (xs.toArray ++ ys.toArray ++ Builtin.zeroCells z.cells (cap - (n + m))) e (0, 0)) }, ?_, ?_, _, _, rfl⟩
    · unfold Builtin.append_
      simp only [List.getElem?_toArray, List.getElem?_cons_zero, List.getElem?_cons_succ]
      rw [run_bind_ok (run_und he.out w)]
      simp only
      rw [run_bind_ok (he.size w)]
      rw [run_bind_ok (run_und h2 w)]
      rw [run_bind_ok (a := false) (w' := w) rfl]
      simp only [Bool.false_eq_true, if_false]
      rw [run_bind_ok (a := m) (w' := w) rfl]
      simp only [hroom, if_false, Bool.not_false]
      rw [run_bind_ok hi0]
      have hbig : ¬ (((n + m : Nat) : Int) > IntKind.i64.max ∧ (False ∨ i0.bytes = 0)) := by
        rintro ⟨h1, _⟩; simp [IntKind.max, IntKind.signed, IntKind.bits] at h1; omega
      simp only [hbig, if_false]
      rw [run_bind_ok hi0]
      have hnx : ¬ (Builtin.nextslicecap (n + m) vc * i0.bytes > 2 ^ 48) := by
        have h1 := nextcap_le (need := n + m) (c := vc) (by omega)
        have h3 : Builtin.nextslicecap (n + m) vc * i0.bytes ≤ (2 * (n + m) + 768) * 1024 := Nat.mul_le_mul h1 hby
        have h4 : (2 * (n + m) + 768) * 1024 ≤ 2 ^ 48 := by omega
        omega
      simp only [hnx, if_false]
      rw [run_bind_ok hc1]
      obtain ⟨i1, hi1, _⟩ := he.tinfo w1
      rw [run_bind_ok hi1]
      rw [run_bind_ok (a := ()) (w' := w1) (by unfold askRoom; split <;> rfl)]
      rw [run_bind_ok (run_firstCells hvd1 hn)]
      rw [if_pos trivial, run_bind_ok (run_firstCells hs1 hm)]
      obtain ⟨z1, hz1, _⟩ := he.zero w1
      have hzz : z1 = z := by
        have h1 := (Const.zeroValue (P := P) e w w1 z w hz).2
        rw [h1] at hz1; cases hz1; rfl
      subst hzz
      rw [run_bind_ok hz1]
      rfl
    · have hn2 : w1.heap.size = w1.heap.size := rfl
      have hzl : (Builtin.zeroCells z.cells (cap - (n + m))).toList.length = (cap - (n + m)) * sz := by simp [Builtin.zeroCells, hzs]
      refine mk_sl (pre := []) (post := (Builtin.zeroCells z.cells (cap - (n + m))).toList) (fz := (0, 0)) ?_ (by simp [Nat.add_mul]; omega) (Nat.le_of_eq hzl.symm) hc2 (.inl rfl)
      have hq : ([] ++ (xs ++ ys) ++ (Builtin.zeroCells z.cells (cap - (n + m))).toList).toArray = xs.toArray ++ ys.toArray ++ Builtin.zeroCells z.cells (cap - (n + m)) := by
        apply Array.ext'; simp
      rw [hq]; exact hnew
end
end Go.W
namespace Go.W

/-! More rules: rows that are built, made, copied; strings; shifts. -/

class Ar (P : Program) (t : TypeId) (n : outParam Nat) (e : outParam TypeId) (sz : outParam Nat) : Prop where
  out : P.underlying t = some (.array n e)
  size : ∀ w, (sizeOf e).run P w = .ok sz w
/-- A slice of bytes, or of what else. -/
class Tx (P : Program) (s d : TypeId) : Prop where
  out : ∃ e, P.underlying s = some (.slice e) ∧ P.underlying d = some .string ∧ P.underlying e = some (.int .u8)
class Ty (P : Program) (s d : TypeId) (e : outParam TypeId) : Prop where
  out : P.underlying s = some .string ∧ P.underlying d = some (.slice e) ∧ P.underlying e = some (.int .u8)
class Us (P : Program) (s d : TypeId) : Prop where
  out : ∃ t, P.underlying s = some (.pointer t) ∧ P.underlying d = some .unsafePointer ∧ (P.info? t).map (fun i => decide (i.size = 0)) = some false
class SlT (P : Program) (t : TypeId) : Prop where
  out : ∃ d, P.underlying t = some (.slice d)

section
variable {P : Program} {w : World} {L : List HP} {b off sz n : Nat} {l xs ys : List Value} {T t t2 e : TypeId} {fz : Nat × Nat} {v s : Value}

/-- The cells of a row that is built. -/
def filled (sz n : Nat) (z : List Value) (ps : List (Nat × Value)) : Option (Array Value) :=
  Instr.fill (fun i => some (i * sz, sz)) ((Array.range (n * sz)).map (z.toArray[· % z.toArray.size]!)) ps

theorem bs {K : Nat → World → Prop} [he : El P t e sz] [hz : Zr P e l] {ps : List (Nat × Value)} {cs : List Value} (hS : St w L) (hf : filled sz n l ps = some cs.toArray) (hn : 0 < n * sz ∧ n * sz ≤ 16777216)
    (h : ∀ b w1, St w1 (row b e cs :: L) → K b w1) : ∃ b w1, Bs P t n ps b w w1 ∧ K b w1 := by
  refine ⟨w.heap.size, _, ?_, h _ _ hS.alloc⟩
  unfold Bs Is Instr.buildSlice
  rw [run_bind_ok (run_und he.out w)]
  simp only
  rw [run_bind_ok (he.size w)]
  have h1 : ¬ (n * sz > 2 ^ 24) := by omega
  simp only [h1, if_false]
  obtain ⟨z, hz1, hz2⟩ := hz.out w
  have hfin : ∀ z0 : Array Value, Instr.fill (fun i => some (i * sz, sz)) ((Array.range (n * sz)).map (z0[· % z0.size]!)) ps = some cs.toArray →
      (do
        let some cells := Instr.fill (fun i => some (i * sz, sz)) ((Array.range (n * sz)).map (z0[· % z0.size]!)) ps | stuck "buildSlice: a part of the wrong size"
        pure (Value.slice (some (← newRow e cells)) n n) : Sem Value).run P w = .ok (.slice (some ⟨w.heap.size, 0, none⟩) n n) { w with heap := w.heap.push (.cells cs.toArray e (0, 0)) } := by
    intro z0 h0
    rw [h0]; rfl
  by_cases h0 : n * sz = 0
  · omega
  · simp only [h0, if_false]
    rw [run_bind_ok hz1]
    rw [run_bind_ok (a := l.toArray) (w' := w) (by rw [hz2]; rfl)]
    exact hfin _ hf

/-- An array's part as a slice. -/
theorem slcA [ha : Ar P t n e sz] {o lo hi : Nat} (h1 : lo ≤ hi) (h2 : hi ≤ n) {xlo xhi : Option Value}
    (hlo : xlo = some (.int .i64 (lo : Int)) ∨ (xlo = none ∧ lo = 0)) (hhi : xhi = some (.int .i64 (hi : Int)) ∨ (xhi = none ∧ hi = n)) :
    Slc P t (.pointer (some ⟨b, o, none⟩)) xlo xhi w (.slice (some ⟨b, if n = lo then o else o + lo * sz, none⟩) (hi - lo) (n - lo)) := by
  unfold Slc Is Instr.sliceAt
  rw [run_bind_ok (run_und ha.out w)]
  simp only
  rw [run_bind_ok (a := (⟨b, o, none⟩ : Addr)) (w' := w) rfl]
  have hb : (Instr.sliceBounds false n n xlo xhi none).run P w = .ok (lo, hi, n) w := by
    unfold Instr.sliceBounds
    have k1 : ∀ code, (Instr.sliceBound (.int .i64 (hi : Int)) n code).run P w = .ok hi w := fun code => run_bound (by omega) (by omega)
    have k2 : ∀ code, (Instr.sliceBound (.int .i64 (lo : Int)) hi code).run P w = .ok lo w := fun code => run_bound (by omega) (by omega)
    rcases hlo with rfl | ⟨rfl, rfl⟩ <;> rcases hhi with rfl | ⟨rfl, rfl⟩ <;> simp [Sem.run_bind, Result.andThen, k1, k2]
  rw [run_bind_ok hb]
  simp only
  rw [run_bind_ok (ha.size w)]
  by_cases hc : n = lo
  · simp [hc]
  · simp [hc, add_mk]

theorem run_lenOf (h : VC w sz s ys) : ∃ m, ys.length = m * sz ∧ (Builtin.lenOf s).run P w = .ok m w := by
  obtain ⟨p, m, c, rfl, h2, _⟩ := h
  exact ⟨m, h2, rfl⟩

theorem run_firstOf (h : VC w sz s ys) {n : Nat} (hn : n * sz ≤ ys.length) : (Builtin.firstCells sz n s).run P w = .ok (ys.take (n * sz)).toArray w := by
  obtain ⟨p, m, c, rfl, h2, _, h3⟩ := h
  unfold Builtin.firstCells
  cases p with
  | none =>
    cases ys with
    | nil => simp
    | cons y ys => obtain ⟨b, o, hb, _⟩ := h3 0 y rfl; cases hb
  | some a =>
    show (loadCells a (n * sz)).run P w = _
    have hl : (ys.take (n * sz)).length = n * sz := by simp; omega
    rw [← hl]
    unfold loadCells
    rw [run_loadCells (ys.take (n * sz)) 0 #[]]
    · simp [hl]
    · intro j u hj
      have hj2 : j < n * sz := by
        have := (List.getElem?_eq_some_iff.1 hj).1
        rw [hl] at this; exact this
      rw [List.getElem?_take_of_lt hj2] at hj
      obtain ⟨b, o, hb, hc⟩ := h3 j u hj
      cases hb
      rw [add_mk, Nat.zero_add]; exact hc

/-- copy(dst, src), dst being a part of a row. -/
theorem cp_run [he : El P t e sz] {o d c m : Nat} (hS : St w (pt b (.cells l.toArray T fz) :: L)) (hz : harmless fz l.length) (hs : VC w sz s ys) (hm : ys.length = m * sz) (hsz : 0 < sz) (hy : ∀ u ∈ ys, sc u = true)
    (ho : o + d * sz ≤ l.length) :
    ∃ w', Cp P [t, t2] 3 [.slice (some ⟨b, o, none⟩) d c, s] w (.int .i64 (min m d : Nat)) w' ∧ St w' (pt b (.cells (l.take o ++ ys.take (min m d * sz) ++ l.drop (o + min m d * sz)).toArray T fz) :: L) := by
  obtain ⟨m', hm', hl⟩ := run_lenOf (P := P) hs
  have hmm : m' = m := Nat.eq_of_mul_eq_mul_right hsz (by omega)
  subst hmm
  have hle : min m' d * sz ≤ ys.length := by rw [hm]; exact Nat.mul_le_mul_right _ (Nat.min_le_left _ _)
  have hle2 : min m' d * sz ≤ d * sz := Nat.mul_le_mul_right _ (Nat.min_le_right _ _)
  have hl2 : (ys.take (min m' d * sz)).length = min m' d * sz := by simp; omega
  obtain ⟨w', h1, h2⟩ := run_storeCells (P := P) (o := o) (ys.take (min m' d * sz)) 0 w l (fun u hu => hy u (List.mem_of_mem_take hu)) (by rw [hl2]; omega) hz hS
  rw [hl2] at h2
  refine ⟨w', ?_, by simpa using h2⟩
  unfold Cp Is
  show (Builtin.copy_ #[t, t2] 3 #[.slice (some ⟨b, o, none⟩) d c, s]).run P w = _
  unfold Builtin.copy_
  simp only [List.getElem?_toArray, List.getElem?_cons_zero, List.getElem?_cons_succ]
  rw [run_bind_ok (run_und he.out w)]
  simp only
  rw [run_bind_ok hl]
  simp only [Nat.min_def] at *
  rw [run_bind_ok (he.size w)]
  rw [run_bind_ok (run_firstOf hs hle)]
  simp only
  rw [run_bind_ok h1]
  rfl

/-- Bytes as values. -/
abbrev u8v (x : UInt8) : Value := .int .u8 (x.toNat : Int)
abbrev by8 (l : List UInt8) : List Value := l.map u8v
theorem by8_sc (l : List UInt8) : ∀ u ∈ by8 l, sc u = true := by
  intro u hu; obtain ⟨x, _, rfl⟩ := List.mem_map.1 hu; rfl

theorem cv_str [h : Tx P t t2] {bs : List UInt8} (hs : VC w 1 s (by8 bs)) : Cv P t t2 s w (.string ⟨bs.toArray⟩) w := by
  obtain ⟨e, h1, h2, h3⟩ := h.out
  obtain ⟨p, m, c, rfl, hl, _, hc⟩ := id hs
  have hsa : (convert t t2 (.slice p m c)).run P w = (Conv.bytesToString (.slice p m c)).run P w := by
    unfold convert
    rw [run_bind_ok (run_und h1 w), run_bind_ok (run_und h2 w)]
    simp only
    rw [run_bind_ok (run_und h3 w)]
  unfold Cv Is
  rw [hsa]
  unfold Conv.bytesToString
  cases p with
  | none =>
    cases bs with
    | nil => rfl
    | cons y ys => obtain ⟨b, o, hb, _⟩ := hc 0 _ rfl; cases hb
  | some a =>
    simp only
    have hload : (loadCells a m).run P w = .ok (by8 bs).toArray w := by
      have := run_firstOf (P := P) (n := m) hs (by simp at hl ⊢; omega)
      rw [List.take_of_length_le (by simp at hl ⊢; omega)] at this
      simpa [Builtin.firstCells] using this
    rw [run_bind_ok hload]
    have hfor : ∀ (f : Value → ByteArray → Sem (ForInStep ByteArray)) (_ : ∀ x acc w, (f (u8v x) acc).run P w = .ok (.yield (acc.push x)) w) (l : List UInt8) (acc : ByteArray),
        (forIn (m := Sem) (by8 l) acc f).run P w = .ok ⟨acc.data ++ l.toArray⟩ w := by
      intro f hf l
      induction l with
      | nil => intro acc; simp [Sem.run_pure]
      | cons x l ih =>
        intro acc
        simp only [by8, List.map_cons, List.forIn_cons]
        rw [run_bind_ok (hf x acc w)]
        have := ih (acc.push x)
        simp only [by8] at this
        simp only [this]
        simp [ByteArray.push]
    simp only [List.forIn_toArray]
    refine (run_bind_ok (hfor _ (fun x acc w => ?_) bs .empty)).trans ?_
    · simp [Sem.run_pure]
    · simp [Sem.run_pure]

theorem cv_unsafe [h : Us P t t2] {a : Addr} (hc : w.cell? a = some v) : Cv P t t2 (.pointer (some a)) w (.pointer (some a)) w := by
  obtain ⟨x, h1, h2, h3⟩ := h.out
  exact run_convert_to_unsafe h1 h2 h3 hc
/-- The model's entry for math/bits.Add64. -/
def entAdd64 : Array Value → Sem Value := fun args => do
  let (x, y, c) ← Extern.MathBitsCarry.three "Add64" args
  pure (Extern.MathBitsCarry.pair ((x + y + c) % Extern.MathBitsCarry.m64) ((x + y + c) / Extern.MathBitsCarry.m64))
theorem run_add64_call {f : FuncId} {fn : Func} (hf : P.funcs[f]? = some fn) (hname : (fn.name == "runtime.NumGoroutine") = false) (hb : fn.body.isNone = true) (hn : Extern.findNext fn = none)
    (he : Extern.find fn = some entAdd64) (x y c : Nat) (hc : c ≤ 1) (w : World) : (callFunc f #[.int .u64 x, .int .u64 y, .int .u64 c]).run P w =
      .ok (.value (.tuple #[.int .u64 ((x + y + c) % 18446744073709551616 : Nat), .int .u64 ((x + y + c) / 18446744073709551616 : Nat)])) w := by
  rw [run_callFunc_extern hf hname hb hn he]
  have : c = 0 ∨ c = 1 := by omega
  rcases this with rfl | rfl <;> rfl

theorem bin_shr {k yk : IntKind} {x y : Int} {xo yo : Operand} (h : 0 ≤ y) : Bin P .shr t xo yo (.int k x) (.int yk y) w (.int k (ishr k x y.toNat)) w := by
  unfold Bin Is
  rw [run_bind_ok (a := ()) (w' := w) (by unfold eqGuard; rfl)]
  show (Op.shift .shr k x yk y).run P w = _
  unfold Op.shift
  rw [if_neg (by omega)]; rfl
theorem bin_shl {k yk : IntKind} {x y : Int} {xo yo : Operand} (h : 0 ≤ y) : Bin P .shl t xo yo (.int k x) (.int yk y) w (.int k (ishl k x y.toNat)) w := by
  unfold Bin Is
  rw [run_bind_ok (a := ()) (w' := w) (by unfold eqGuard; rfl)]
  show (Op.shift .shl k x yk y).run P w = _
  unfold Op.shift
  rw [if_neg (by omega)]; rfl
theorem bin_quo {k : IntKind} {x y : Int} {xo yo : Operand} (h : y ≠ 0) : Bin P .quo t xo yo (.int k x) (.int k y) w (.int k (k.wrap (x.tdiv y))) w := by
  unfold Bin Is
  rw [run_bind_ok (a := ()) (w' := w) (by unfold eqGuard; rfl)]
  simp [binOp, Op.intDiv, h, Sem.run_pure]
theorem bin_rem {k : IntKind} {x y : Int} {xo yo : Operand} (h : y ≠ 0) : Bin P .rem t xo yo (.int k x) (.int k y) w (.int k (x.tmod y)) w := by
  unfold Bin Is
  rw [run_bind_ok (a := ()) (w' := w) (by unfold eqGuard; rfl)]
  simp [binOp, Op.intDiv, h, Sem.run_pure]
end
end Go.W
namespace Go.W
section
variable {P : Program} {w : World} {L : List HP} {b off sz n : Nat} {l xs ys : List Value} {T t t2 e : TypeId} {fz : Nat × Nat} {v s : Value}

/-- A slice of nothing, built. -/
theorem bs0 {K : Nat → World → Prop} [he : El P t e sz] (hS : St w L)
    (h : ∀ b w1, St w1 (slAt e sz (.slice (some (at0 b)) 0 0) [] :: L) → K b w1) : ∃ b w1, Bs P t 0 [] b w w1 ∧ K b w1 := by
  refine ⟨w.heap.size, { w with heap := w.heap.push (.cells #[] e (0, 0)) }, ?_, h _ _ (row_sl (by simpa using hS.alloc) (by simp))⟩
  unfold Bs Is Instr.buildSlice
  rw [run_bind_ok (run_und he.out w)]
  simp only
  rw [run_bind_ok (he.size w)]
  simp only [Nat.zero_mul, if_true]
  rw [if_neg (by decide), run_bind_ok (a := #[]) (w' := w) rfl]
  have hz : ∀ f : Nat → Value, Array.map f (Array.range 0) = #[] := fun f => by simp
  rw [hz]
  rfl

/-- append(dst, src...), then what follows. -/
theorem ap {K : Option Addr → Nat → Nat → World → Prop} [he : El P t e sz] [h2 : SlT P t2] (hS : St w (slAt e sz v xs :: L)) (hs : VC w sz s ys) (hy : ∀ u ∈ ys, sc u = true) (hsz : 0 < sz) (hb : xs.length + ys.length ≤ 17179869184)
    (h : ∀ p c w', St w' (slAt e sz (.slice p ((xs.length + ys.length) / sz) c) (xs ++ ys) :: L) → K p ((xs.length + ys.length) / sz) c w') :
    ∃ p n c, ∃ w', Ap P [t, t2] t [v, s] w (.slice p n c) w' ∧ K p n c w' := by
  obtain ⟨v', w', h3, h4, p, c, rfl⟩ := ap_run (t := t) h2.out hsz hS hs hy hb
  exact ⟨p, _, c, w', h3, h _ _ _ h4⟩

theorem eq_nil [h : SlT P t] {p : Option Addr} {n c : Nat} {xo yo : Operand} : Bin P .eql t xo yo (.slice p n c) (.slice none 0 0) w (.bool p.isNone) w := by
  obtain ⟨d, hd⟩ := h.out
  unfold Bin Is
  rw [run_bind_ok (a := ()) (w' := w) (by unfold eqGuard; rfl)]
  have : (Op.equal t (.slice p n c) (.slice none 0 0)).run P w = .ok p.isNone w := by
    unfold Op.equal
    show (Op.equalIn 10000 t _ _).run P w = _
    unfold Op.equalIn
    rw [run_bind_ok (run_und hd w)]
    cases p <;> rfl
  show (do pure (Value.bool (← Op.equal t (.slice p n c) (.slice none 0 0))) : Sem Value).run P w = _
  rw [run_bind_ok this]; rfl

theorem Rd.len {Fs : List HP} {p : Option Addr} {n c : Nat} (hR : Rd Fs 1 (.slice p n c) xs) (hS : St w Fs) : xs.length = n ∧ n ≤ c := (hR w hS).len
/-- A slice's element is read in every world of a state. -/
theorem rd_ld {Fs : List HP} {p : Option Addr} {n c i : Nat} {x : Value} [Sc P t] {K : Addr → Prop} (hR : Rd Fs 1 (.slice p n c) xs) (hS : St w Fs) (hx : xs[i]? = some x)
    (h : ∀ a, (∀ w, St w Fs → Ld P t (Addr.add a (i * 1)) w x) → K a) : nilK p K := by
  obtain ⟨b, o, rfl, _, _⟩ := (hR w hS).at (t := t) (P := P) hx
  refine h _ fun w' hS' => ?_
  obtain ⟨b', o', hp, _, hl⟩ := (hR w' hS').at (t := t) (P := P) hx
  cases hp; exact hl

theorem w64_id {n : Int} (h : -9223372036854775808 ≤ n ∧ n ≤ 9223372036854775807) : w64 n = n := by
  unfold w64 IntKind.wrap; simp [IntKind.signed, IntKind.bits]; omega
theorem w64_eq {x : Int} (n : Nat) (h : x = n) (hn : n ≤ 9223372036854775807) : w64 x = n := by
  rw [w64_id (by omega)]; exact h
theorem u64_id {n : Int} (h : 0 ≤ n ∧ n ≤ 18446744073709551615) : IntKind.u64.wrap n = n := by
  unfold IntKind.wrap; simp [IntKind.signed, IntKind.bits]; omega

/-- A kept slot's number, for measures. -/
def cnt (j : Nat) (vs : List Value) : Int :=
  match vs[j]? with
  | some (.int _ n) => n
  | some (.slice _ n _) => n
  | _ => 0

def putL (cells : List Value) (off : Nat) : List Value → List Value
  | [] => cells
  | c :: r => putL (cells.set off c) (off + 1) r
def fillL (sz : Nat) (cells : List Value) : List (Nat × Value) → Option (List Value)
  | [] => some cells
  | (i, v) :: r => if v.cells.toList.length = sz ∧ i * sz + sz ≤ cells.length then fillL sz (putL cells (i * sz) v.cells.toList) r else none
def initL (sz n : Nat) (z : List Value) : List Value := (List.range (n * sz)).map fun i => (z[i % z.length]?).getD default
theorem putL_len (vs : List Value) : ∀ (cells : List Value) (off : Nat), (putL cells off vs).length = cells.length := by
  induction vs with
  | nil => intro _ _; rfl
  | cons x vs ih => intro cells off; rw [putL, ih]; simp
theorem putL_fold (vs : List Value) : ∀ (cells : List Value) (off k : Nat), (vs.zipIdx k).foldl (fun (cs : Array Value) (p : Value × Nat) => cs.setIfInBounds (off + p.2) p.1) cells.toArray = (putL cells (off + k) vs).toArray := by
  induction vs with
  | nil => intro _ _ _; rfl
  | cons x vs ih =>
    intro cells off k
    rw [List.zipIdx_cons, List.foldl_cons, putL]
    have := ih (cells.set (off + k) x) off (k + 1)
    rw [← Nat.add_assoc] at this
    rw [← this]
    simp
theorem fill_list (sz : Nat) (ps : List (Nat × Value)) : ∀ (cells ys : List Value), fillL sz cells ps = some ys → Instr.fill (fun i => some (i * sz, sz)) cells.toArray ps = some ys.toArray := by
  induction ps with
  | nil => intro cells ys h; cases h; rfl
  | cons p ps ih =>
    obtain ⟨i, v⟩ := p
    intro cells ys h
    unfold fillL at h
    split at h
    · rename_i hc
      unfold Instr.fill
      have h1 : v.cells.size = sz := by simpa using hc.1
      have h2 : (decide (v.cells.size ≠ sz) || decide (i * sz + v.cells.size > cells.toArray.size)) = false := by
        rw [h1]; simp; exact hc.2
      have h3 := putL_fold v.cells.toList cells (i * sz) 0
      rw [Nat.add_zero] at h3
      have h4 : v.cells.zipIdx.foldl (fun (cs : Array Value) (p : Value × Nat) => cs.setIfInBounds (i * sz + p.2) p.1) cells.toArray = (putL cells (i * sz) v.cells.toList).toArray := by
        rw [← h3, ← Array.foldl_toList, Array.toList_zipIdx]
      show (if (decide (v.cells.size ≠ sz) || decide (i * sz + v.cells.size > cells.toArray.size)) = true then none else
        Instr.fill (fun i => some (i * sz, sz)) (v.cells.zipIdx.foldl (fun (cs : Array Value) (p : Value × Nat) => cs.setIfInBounds (i * sz + p.2) p.1) cells.toArray) ps) = _
      rw [h4, h2]
      simp only [Bool.false_eq_true, if_false]
      exact ih _ _ h
    · cases h
theorem filled_of {sz n : Nat} {z : List Value} {ps : List (Nat × Value)} {ys : List Value} (h : fillL sz (initL sz n z) ps = some ys) : filled sz n z ps = some ys.toArray := by
  have := fill_list sz ps _ _ h
  rw [← this]
  unfold filled initL
  congr 1
  apply Array.ext'
  simp
theorem app_lit {K : Option Addr → Nat → Nat → World → Prop} [he : El P t e 1] [hz : Zr P e l] [h2 : SlT P t] {ps : List (Nat × Value)} (hS : St w (slAt e 1 v xs :: L)) (hf : filled 1 n l ps = some ys.toArray) (hn : 0 < n ∧ n ≤ 16777216)
    (hl : ys.length = n) (hy : ∀ u ∈ ys, sc u = true) (hb : xs.length + n ≤ 17179869184) (h : ∀ p c w', St w' (slAt e 1 (.slice p (xs.length + n) c) (xs ++ ys) :: L) → K p (xs.length + n) c w') :
    ∃ b z1, Bs P t n ps b w z1 ∧ ∃ p m c, ∃ z2, Ap P [t, t] t [v, .slice (some (at0 b)) n n] z1 (.slice p m c) z2 ∧ K p m c z2 := by
  refine bs hS hf (by omega) fun b w1 h1 => ?_
  have hv : VC w1 1 (.slice (some (at0 b)) n n) ys := vc_sl (row_sl h1 (by omega))
  refine ap h1.tail hv hy (by omega) (by omega) fun p c w2 h3 => ?_
  rw [hl, Nat.div_one] at h3 ⊢
  exact h p c w2 h3
theorem Rd.slice {Fs : List HP} {p : Option Addr} {n c lo hi : Nat} (h : Rd Fs sz (.slice p n c) xs) (h1 : lo ≤ hi) (h2 : hi ≤ n) :
    Rd Fs sz (.slice (if c = lo then p else p.map (·.add (lo * sz))) (hi - lo) (c - lo)) ((xs.drop (lo * sz)).take ((hi - lo) * sz)) := fun w hS => (h w hS).slice h1 h2
theorem stoA {R : List HP} {F : Obj → List HP} {K : World → Prop} (hS : St w L) [hf : Find b L (.cells l.toArray T (0, 0)) R F] [hs : Ag P t n] {vs : List Value} (hn : vs.length = n) (ho : off + n ≤ l.length) (hv : ∀ u ∈ vs, sc u = true)
    (h : ∀ w1, St w1 (F (.cells (l.take off ++ vs ++ l.drop (off + n)).toArray T (0, 0))) → K w1) : ∃ w1, Sto P t ⟨b, off, none⟩ (.agg vs.toArray) w w1 ∧ K w1 := by
  obtain ⟨w', h1, h2⟩ := run_storeCells (P := P) (o := off) vs 0 w l hv (by omega) (.inl rfl) (hS.ent hf.out)
  refine ⟨w', ?_, h _ ?_⟩
  · unfold Sto Is Instr.storeAt
    show (storeVar t _ _).run P w = _
    unfold storeVar
    rw [run_bind_ok (hs.size w)]
    rw [if_neg (by simp [Value.cells, hn])]
    exact h1
  · have := h2.ent (hf.back _)
    rw [← hn]; simpa using this
theorem cond_t {b : Bool} {A B : Prop} (h : b = true) (ha : A) : cond b A B := by subst h; exact ha
theorem cond_td {p : Prop} [Decidable p] {A B : Prop} (h : p) (ha : A) : cond (decide p) A B := by rw [decide_eq_true h]; exact ha
theorem cond_fd {p : Prop} [Decidable p] {A B : Prop} (h : ¬ p) (hb : B) : cond (decide p) A B := by rw [decide_eq_false h]; exact hb
theorem cond_f {b : Bool} {A B : Prop} (h : b = false) (hb : B) : cond b A B := by subst h; exact hb
/-- A part of a row that is read. -/
theorem Rd.of_row {R : List HP} {F : Obj → List HP} {o n c : Nat} [Find b L (.cells l.toArray T fz) R F] (h1 : (l.drop o).take (n * sz) = xs) (h2 : xs.length = n * sz) (h3 : n ≤ c) : Rd L sz (.slice (some ⟨b, o, none⟩) n c) xs := by
  intro w hS
  refine ⟨_, n, c, rfl, h2, h3, fun i x hi => ⟨b, o, rfl, ?_⟩⟩
  rw [cell_look hS]
  subst h1
  have hlt : i < n * sz := by
    have := (List.getElem?_eq_some_iff.1 hi).1
    simp at this; omega
  rw [List.getElem?_take_of_lt hlt, List.getElem?_drop] at hi
  exact hi
end
end Go.W
namespace Go.W

/-! Lists of owned slices; maps with numbers as keys. -/

/-- Slices, each owned. -/
def ownL (T : Nat) : List Value → List (List Value) → HP
  | [], [] => pur True
  | v :: vs, x :: xs => star (slAt T 1 v x) (ownL T vs xs)
  | _, _ => pur False
section
variable {P : Program} {w : World} {L R : List HP} {T : Nat} {v : Value} {x : List Value}
theorem ownL_len : ∀ {vs : List Value} {ll : List (List Value)} {w : World} {L : List HP}, St w (ownL T vs ll :: L) → vs.length = ll.length
  | [], [], _, _, _ => rfl
  | v :: vs, x :: xs, _, L, h => by
    have h1 : St _ (ownL T vs xs :: slAt T 1 v x :: L) := (St.star (h : St _ (star _ _ :: L))).f1
    simp [ownL_len h1]
  | [], _ :: _, _, _, h => (St.pure (h : St _ (pur False :: _))).1.elim
  | _ :: _, [], _, _, h => (St.pure (h : St _ (pur False :: _))).1.elim
theorem ownL_nil (h : St w L) : St w (ownL T [] [] :: L) := h.addPure trivial
theorem ownL_snoc : ∀ {vs : List Value} {ll : List (List Value)} {w : World} {L : List HP}, St w (ownL T vs ll :: slAt T 1 v x :: L) → St w (ownL T (vs ++ [v]) (ll ++ [x]) :: L)
  | [], [], _, _, h => by
    have h1 : St _ (slAt T 1 v x :: pur True :: _) := h.f1
    exact h1.unstar
  | u :: vs, y :: ys, _, L, h => by
    have h1 : St _ (slAt T 1 u y :: ownL T vs ys :: slAt T 1 v x :: L) := St.star (h : St _ (star _ _ :: _))
    have h2 : St _ (ownL T vs ys :: slAt T 1 v x :: slAt T 1 u y :: L) := h1.f1.ent ((Ent.swap _ _ _).cons _)
    have h3 := ownL_snoc h2
    exact (h3.f1).unstar
  | [], _ :: _, _, _, h => (St.pure (h : St _ (pur False :: _))).1.elim
  | _ :: _, [], _, _, h => (St.pure (h : St _ (pur False :: _))).1.elim
/-- One of them is read. -/
theorem ownL_vc : ∀ {vs : List Value} {ll : List (List Value)} {w : World} {L : List HP} {i : Nat} {v : Value} {x : List Value}, St w (ownL T vs ll :: L) → vs[i]? = some v → ll[i]? = some x → VC w 1 v x
  | [], _, _, _, _, _, _, _, hv, _ => by simp at hv
  | _ :: _, [], _, _, _, _, _, h, _, _ => (St.pure (h : St _ (pur False :: _))).1.elim
  | u :: vs, y :: ys, _, L, 0, v, x, h, hv, hx => by
    simp at hv hx; subst hv; subst hx
    exact vc_sl (St.star (h : St _ (star _ _ :: L)))
  | u :: vs, y :: ys, _, L, i + 1, v, x, h, hv, hx => by
    have h1 : St _ (ownL T vs ys :: slAt T 1 u y :: L) := (St.star (h : St _ (star _ _ :: L))).f1
    exact ownL_vc h1 (by simpa using hv) (by simpa using hx)
theorem Rd.of_own {vs : List Value} {ll : List (List Value)} {i : Nat} [hs : Sel (ownL T vs ll) L R] (hv : vs[i]? = some v) (hx : ll[i]? = some x) : Rd L 1 v x :=
  fun _ hS => ownL_vc (hS.ent hs.out) hv hx
/-- One of them is another one from now on. -/
theorem ownL_set : ∀ {vs : List Value} {ll : List (List Value)} {w : World} {L : List HP} {i : Nat}, St w (ownL T vs ll :: slAt T 1 v x :: L) → i < vs.length → St w (ownL T (vs.set i v) (ll.set i x) :: L)
  | [], _, _, _, _, _, hi => by simp at hi
  | _ :: _, [], _, _, _, h, _ => (St.pure (h : St _ (pur False :: _))).1.elim
  | u :: vs, y :: ys, _, L, 0, h, _ => by
    have h1 : St _ (slAt T 1 u y :: ownL T vs ys :: slAt T 1 v x :: L) := St.star (h : St _ (star _ _ :: _))
    have h2 : St _ (ownL T vs ys :: slAt T 1 v x :: L) := h1.tail
    exact (h2.f1).unstar
  | u :: vs, y :: ys, _, L, i + 1, h, hi => by
    have h1 : St _ (slAt T 1 u y :: ownL T vs ys :: slAt T 1 v x :: L) := St.star (h : St _ (star _ _ :: _))
    have h2 : St _ (ownL T vs ys :: slAt T 1 v x :: slAt T 1 u y :: L) := h1.f1.ent ((Ent.swap _ _ _).cons _)
    have h3 := ownL_set h2 (i := i) (by simpa using hi)
    exact (h3.f1).unstar

/-! Maps. -/
/-- A map from numbers. -/
class MapI (P : Program) (t : TypeId) (z : outParam Value) : Prop where
  out : ∃ k e, P.underlying t = some (.map k e) ∧ P.underlying k = some (.int .i64) ∧ ∀ w, (zeroValue e).run P w = .ok z w
def mapAt (b : Nat) (l : List (Int × Value)) : HP := hex fun es : List MapEntry => hex fun c : Nat => star (pur (es.map (fun e => (e.key, e.val)) = l.map fun p => (Value.int .i64 p.1, p.2))) (pt b (.map es.toArray c))
theorem map_open {b : Nat} {l : List (Int × Value)} (h : St w (mapAt b l :: L)) : ∃ (es : List MapEntry) (c : Nat), es.map (fun e => (e.key, e.val)) = l.map (fun p => (Value.int .i64 p.1, p.2)) ∧ St w (pt b (.map es.toArray c) :: L) := by
  obtain ⟨es, h⟩ := h.ex
  obtain ⟨c, h⟩ := h.ex
  obtain ⟨h1, h2⟩ := h.star.pure
  exact ⟨es, c, h1, h2⟩
theorem map_mk {b : Nat} {l : List (Int × Value)} {es : List MapEntry} {c : Nat} (h : St w (pt b (.map es.toArray c) :: L)) (he : es.map (fun e => (e.key, e.val)) = l.map (fun p => (Value.int .i64 p.1, p.2))) : St w (mapAt b l :: L) := by
  have h1 := (h.addPure he).unstar
  exact h1.head fun x hx => ⟨es, c, hx⟩
theorem mkmap {K : Option Nat → World → Prop} {t : TypeId} (hS : St w L) (h : ∀ b w1, St w1 (mapAt b [] :: L) → K (some b) w1) : ∃ m, ∃ z, Is P (Instr.makeMap t none) w (.map m) z ∧ K m z := by
  refine ⟨some w.heap.size, { w with heap := w.heap.push (.map #[] 0) }, rfl, h _ _ ?_⟩
  exact map_mk (es := []) (c := 0) (by simpa using hS.alloc) rfl
def getM (l : List (Int × Value)) (k : Int) : Option Value := (l.find? fun p => p.1 == k).map (·.2)
theorem find_now (k : Int) : ∀ (es : List MapEntry) (l : List (Int × Value)) (i : Nat), es.map (fun e => (e.key, e.val)) = l.map (fun p => (Value.int .i64 p.1, p.2)) →
    ∃ r, Instr.findNow (.int .i64) (.int .i64 k) es i = some r ∧ r.map (·.2) = getM l k
  | [], [], _, _ => ⟨none, rfl, rfl⟩
  | e :: es, p :: l, i, h => by
    simp only [List.map_cons, List.cons.injEq, Prod.mk.injEq] at h
    obtain ⟨⟨h1, h2⟩, h3⟩ := h
    unfold Instr.findNow
    rw [h1]
    by_cases hk : k = p.1
    · subst hk
      exact ⟨some (i, e.val), by simp [Instr.sameNow], by simp [getM, h2]⟩
    · obtain ⟨r, hr1, hr2⟩ := find_now k es l (i + 1) h3
      refine ⟨r, ?_, ?_⟩
      · have : Instr.sameNow (.int .i64) (.int .i64 k) (.int .i64 p.1) = some false := by simp [Instr.sameNow, hk]
        rw [this]; exact hr1
      · rw [hr2]; unfold getM; rw [List.find?_cons_of_neg (by simpa using Ne.symm hk)]
  | [], _ :: _, _, h => by simp at h
  | _ :: _, [], _, h => by simp at h
theorem run_getObj {b : Nat} {es : Array MapEntry} {c : Nat} (h : w.heap[b]? = some (.map es c)) : (getObj b).run P w = .ok (.map es c) w := by
  simp [getObj, Sem.run, h]
theorem lk {t : TypeId} {z : Value} [hm : MapI P t z] {b : Nat} {l : List (Int × Value)} (k : Int) (hS : St w (mapAt b l :: L)) : Is P (Instr.lookup t (.map (some b)) (.int .i64 k) true) w (.tuple #[(getM l k).getD z, .bool (getM l k).isSome]) w := by
  obtain ⟨ke, e, h1, h2, h3⟩ := hm.out
  obtain ⟨es, c, he, hp⟩ := map_open hS
  obtain ⟨r, hr1, hr2⟩ := find_now k es l 0 he
  unfold Is Instr.lookup
  rw [run_bind_ok (run_und h1 w)]
  simp only
  rw [run_bind_ok (run_getObj hp.pt)]
  simp only
  rw [run_bind_ok (a := es.toArray) (w' := w) rfl]
  have hck : (Instr.checkKey es.toArray.isEmpty 10000 ke (.int .i64 k)).run P w = .ok () w := by
    unfold Instr.checkKey
    rw [run_bind_ok (run_und h2 w)]; rfl
  rw [run_bind_ok hck]
  have hf : (Instr.findKey ke (.int .i64 k) es.toArray.toList).run P w = .ok r w := by
    unfold Instr.findKey
    rw [run_bind_ok (run_und h2 w)]
    rw [show es.toArray.toList = es by simp, hr1]; rfl
  rw [run_bind_ok hf]
  cases r with
  | none =>
    simp only [Option.map_none] at hr2
    rw [← hr2]
    simp only
    rw [run_bind_ok (h3 w)]
    rfl
  | some r =>
    simp only [Option.map_some] at hr2
    rw [← hr2]
    rfl

/-! Pointers compared with nil; the bytes of a literal. -/
class PtrT (P : Program) (t : TypeId) : Prop where
  out : ∃ e, P.underlying t = some (.pointer e)
theorem eq_pnil {t : TypeId} [h : PtrT P t] {p : Option Addr} {xo yo : Operand} : Bin P .eql t xo yo (.pointer p) (.pointer none) w (.bool p.isNone) w := by
  obtain ⟨e, he⟩ := h.out
  unfold Bin Is
  rw [run_bind_ok (a := ()) (w' := w) (by unfold eqGuard; rfl)]
  have : (Op.equal t (.pointer p) (.pointer none)).run P w = .ok p.isNone w := by
    unfold Op.equal
    show (Op.equalIn 10000 t _ _).run P w = _
    unfold Op.equalIn
    rw [run_bind_ok (run_und he w)]
    cases p <;> rfl
  show (do pure (Value.bool (← Op.equal t (.pointer p) (.pointer none))) : Sem Value).run P w = _
  rw [run_bind_ok this]; rfl
theorem ne_pnil {t : TypeId} [h : PtrT P t] {p : Option Addr} {xo yo : Operand} : Bin P .neq t xo yo (.pointer p) (.pointer none) w (.bool p.isSome) w := by
  obtain ⟨e, he⟩ := h.out
  unfold Bin Is
  rw [run_bind_ok (a := ()) (w' := w) (by unfold eqGuard; rfl)]
  have : (Op.equal t (.pointer p) (.pointer none)).run P w = .ok p.isNone w := by
    unfold Op.equal
    show (Op.equalIn 10000 t _ _).run P w = _
    unfold Op.equalIn
    rw [run_bind_ok (run_und he w)]
    cases p <;> rfl
  show (do pure (Value.bool (!(← Op.equal t (.pointer p) (.pointer none)))) : Sem Value).run P w = _
  rw [run_bind_ok this]; cases p <;> rfl
class B8 (P : Program) (t : TypeId) (e : outParam TypeId) : Prop where
  out : P.underlying t = some (.slice e) ∧ P.underlying e = some (.int .u8)
theorem cv_own {t e : TypeId} [h : B8 P t e] {b n : Nat} {xs : List Value} (hS : St w (row b T xs :: L)) (hl : xs.length = n) :
    ∃ w1, Cv P t t (.slice (some ⟨b, 0, none⟩) n n) w (.slice (some ⟨b, 0, none⟩) n n) w1 ∧ St w1 (slAt T 1 (.slice (some ⟨b, 0, none⟩) n n) xs :: L) := by
  obtain ⟨h1, h2⟩ := h.out
  have hb := hS.pt
  refine ⟨w.freeze ⟨b, n, none⟩ 1, ?_, ?_⟩
  · unfold Cv Is convert
    rw [run_bind_ok (run_und h1 w), run_bind_ok (run_und h1 w)]
    simp only
    rw [run_bind_ok (run_und h2 w)]
    simp only [beq_self_eq_true]
    refine (run_bind_ok (a := ()) (w' := w.freeze ⟨b, n, none⟩ 1) ?_).trans rfl
    unfold markStringish
    have hs : (shape b).run P w = .ok (some (T, n)) w := by
      simp [shape, Sem.run, World.shape?, hb, hl]
    rw [run_bind_ok hs]
    rfl
  · have hf : (w.freeze ⟨b, n, none⟩ 1).heap[b]? = some (.cells xs.toArray T (n, n + 1)) := by
      simp [World.freeze, Array.getElem?_modify, hb]
    have h3 : St (w.freeze ⟨b, n, none⟩ 1) (pt b (.cells xs.toArray T (n, n + 1)) :: L) := by
      refine hS.pt_upd hf (fun m hm => ?_) rfl rfl
      simp [World.freeze, Array.getElem?_modify, Ne.symm hm]
    exact mk_sl (pre := []) (post := []) (fz := (n, n + 1)) (by simpa using h3) (by omega) (by simp) (Nat.le_refl _) (.inr (by simp; omega))
/-- Bytes that stand in the text. -/
theorem bsv {K : Option Addr → Nat → Nat → World → Prop} {t e n : Nat} {l cs : List Value} [h : B8 P t e] [he : El P t e 1] [hz : Zr P e l] {ps : List (Nat × Value)} (hS : St w L) (hf : filled 1 n l ps = some cs.toArray) (hn : 0 < n ∧ n ≤ 16777216) (hl : cs.length = n)
    (hK : ∀ q c w1, St w1 (slAt e 1 (.slice q n c) cs :: L) → K q n c w1) : ∃ b z1, Bs P t n ps b w z1 ∧ ∃ q m c, ∃ z2, Cv P t t (.slice (some ⟨b, 0, none⟩) n n) z1 (.slice q m c) z2 ∧ K q m c z2 := by
  refine bs hS hf (by omega) fun b w1 h1 => ?_
  obtain ⟨w2, h2, h3⟩ := cv_own (P := P) (t := t) h1 hl
  exact ⟨_, _, _, w2, h2, hK _ _ _ h3⟩
end
end Go.W
