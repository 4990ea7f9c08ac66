/- Proved here: what functions of the program compute, each by a contract over its translation (rules of the walk, or contracts function by function). No conditions beyond those that each contract states. -/
import Derived.Test.YtkaopgedgkbpfaaGreatWb
import Derived.WalkKit
import Derived.ProofKit
import Derived.OpenShut
import Derived.WideKeyArgs
namespace Go.W
open Go.ChangeShapes Go.WideShapes Go.RowKit

/-! From the row's data to states, and back. -/

/-- All of a world, as it is. -/
def heapAt (W : World) : HP := fun h => h = fun n => match n with | 0 => some (.env W.os W.output) | n + 1 => (W.heap[n]?).map Res.obj
theorem heap_begin (W : World) : St W [heapAt W] := by
  refine ⟨fun n => match n with | 0 => some (.env W.os W.output) | n + 1 => (W.heap[n]?).map Res.obj, ⟨fun n r h => h, fun s p h => ?_⟩, _, fun _ => none, fun n => .inr rfl, ?_, rfl, trivial⟩
  · simp at h; exact h
  · funext n; simp [uni]
theorem heap_same {W w : World} {L : List HP} (h : St w (heapAt W :: L)) : w.os = W.os ∧ w.output = W.output ∧ (∀ n, n < W.heap.size → w.heap[n]? = W.heap[n]?) := by
  obtain ⟨x, ⟨h1, h2⟩, a, b, hd, rfl, rfl, hl⟩ := h
  have h3 := h2 W.os W.output (by simp [uni])
  refine ⟨h3.1, h3.2, fun n hn => ?_⟩
  have h4 : W.heap[n]? = some W.heap[n] := Array.getElem?_eq_getElem hn
  have h5 := h1 n (.obj W.heap[n]) (by simp [uni, h4])
  rw [h4]
  cases h6 : w.heap[n]? with
  | none => rw [h6] at h5; cases h5
  | some o => rw [h6] at h5; cases h5; rfl
theorem heap_cell {W w : World} {L : List HP} (h : St w (heapAt W :: L)) {a : Addr} {v : Value} (hv : W.cell? a = some v) : w.cell? a = some v := by
  have hb : a.block < W.heap.size := by
    unfold World.cell? at hv
    split at hv
    · rename_i hh; exact (Array.getElem?_eq_some_iff.1 hh).1
    · cases hv
  unfold World.cell? at hv ⊢
  rw [(heap_same h).2.2 _ hb]; exact hv
theorem Rd.of_heap {W : World} {L : List HP} {sz : Nat} {v : Value} {xs : List Value} (h : VC W sz v xs) : Rd (heapAt W :: L) sz v xs := by
  intro w hS
  obtain ⟨p, n, c, rfl, h1, h2, h3⟩ := h
  refine ⟨p, n, c, rfl, h1, h2, fun i x hi => ?_⟩
  obtain ⟨b, o, rfl, hc⟩ := h3 i x hi
  exact ⟨b, o, rfl, heap_cell hS hc⟩

section
variable {H : Type} {enc : TypeId × Value → H} {P : Program}
/-- A slice of bytes that came in. -/
theorem arg_bytes {w : World} {r : Reach} {b0 base : Nat} {sp : Nat → Bool} {held : Bool} {t e : TypeId} {v : Value} {d : DataW H} {ps : List MemPlace} (ht : P.underlying t = some (.slice e)) (he : P.underlying e = some (.int .u8)) (hc : P.cellsOf e = 1)
    (hval : Value.okWide P w r b0 t v) (hd : DataW.Trod enc P w base sp held t v d ps) : ∃ (p : Option Addr) (n c : Nat) (bs : List UInt8), v = .slice p n c ∧ VC w 1 (.slice p n c) (by8 bs) := by
  obtain ⟨fuel, hf⟩ := hd
  have hv : ∀ x : Option Addr × Nat × Nat, v.cells.toList = [.slice x.1 x.2.1 x.2.2] → v = .slice x.1 x.2.1 x.2.2 := by
    intro x hx
    unfold Value.okWide at hval
    rw [ht] at hval
    simp only [Cell.okWide, ht] at hval
    unfold Cell.ok at hval
    rw [ht] at hval
    cases v <;> simp_all [Value.cells]
  rcases open_ints ht he hc hf with ⟨h1, _⟩ | ⟨a, len, cap, zs, h1, _, h2, _, h3, _, h4, h5⟩
  · exact ⟨none, 0, 0, [], hv (none, 0, 0) h1, none, 0, 0, rfl, rfl, Nat.le_refl _, fun i x hi => by simp at hi⟩
  · have hle : len ≤ zs.length := by rw [h3]; split <;> omega
    refine ⟨some a, len, cap, (zs.take len).map fun z => UInt8.ofNat z.toNat, hv (some a, len, cap) h1, some a, len, cap, rfl, by simp; omega, h2, fun i x hi => ?_⟩
    have hlt : i < len := by
      have := (List.getElem?_eq_some_iff.1 hi).1
      simp at this; omega
    have hz := h5 zs[i] (List.getElem_mem (by omega))
    have hzb := bounds_u8 hz
    have hx : x = .int .u8 zs[i] := by
      simp only [by8, List.map_map, List.getElem?_map, List.getElem?_take_of_lt hlt, List.getElem?_eq_getElem (show i < zs.length by omega), Option.map_some, Option.some.injEq] at hi
      rw [← hi]
      show Value.int .u8 _ = _
      congr 1
      have : zs[i].toNat < 256 := by omega
      simp [Nat.mod_eq_of_lt this]; omega
    have hcell := h4 i (by omega)
    have hsp : a.spot = none := by
      have h0 := h4 0 (by omega)
      unfold Addr.add World.cell? at h0
      simp only [if_true] at h0
      split at h0
      · cases hs : a.spot with
        | none => rfl
        | some s => rw [hs] at h0; simp at h0
      · cases h0
    obtain ⟨ab, ao, as⟩ := a
    cases hsp
    rw [add_mk] at hcell
    refine ⟨ab, ao, rfl, ?_⟩
    rw [hcell, hx]
    simp [List.getD_eq_getElem?_getD, show i < zs.length by omega]

theorem trodAll_stays (hl : laidOutB P = true) {W W' : World} {sp' : Nat → Bool} : ∀ {ts : List TypeId} {vs : List Value} {ds : List (DataW H)} {ps : List MemPlace}, (∀ t ∈ ts, P.readableRec t = true ∧ t < P.types.size) →
    DataW.TrodAll enc P W 0 (fun _ => true) true ts vs ds ps → (∀ p ∈ ps, W.sameAt W' p) → (∀ p ∈ ps, sp' p.block = true) → DataW.TrodAll enc P W' 0 sp' true ts vs ds ps
  | [], _, _, _, _, h, _, _ => by
    obtain ⟨rfl, rfl, rfl⟩ := trodAll_nil h
    rfl
  | t :: ts, _, _, _, hr, h, h1, h2 => by
    obtain ⟨v, vs, d, ds, p, q, rfl, rfl, rfl, ha, hb⟩ := trodAll_cons h
    have hrt := hr t (by simp)
    exact ⟨p, q, WideElems.Trod_stays hl hrt.1 hrt.2 ha (fun x hx => h1 x (by simp [hx])) (fun x hx => h2 x (by simp [hx])),
      trodAll_stays hl (fun u hu => hr u (by simp [hu])) hb (fun x hx => h1 x (by simp [hx])) (fun x hx => h2 x (by simp [hx])), rfl⟩

/-- What the law's row asks behind the call. -/
theorem post_law {f : Func} {s : ChangeSpec} {W W' : World} {args : Array Value} {ds gs : List (DataW H)} {before : List MemPlace} {t : TypeId} {L : List HP} (hl : laidOutB P = true) (hr : ∀ t ∈ f.params.toList, P.readableRec t = true ∧ t < P.types.size)
    (hW : DataW.Whole enc P f.params.toList s.vars false W args.toList ds gs before) (hv : s.vars = []) (hs : s.fn H (ds ++ gs) = { results := [.lit (.bool true)], args := ds, vars := [] })
    (hrt : f.resultTypes = #[t]) (ht : P.underlying t = some .bool) (hS : St W' (heapAt W :: L)) : s.post enc P f false true false false W args (.bool true) W' := by
  obtain ⟨ho, hp, hh⟩ := heap_same hS
  have hlt : ∀ p ∈ before, p.block < W.heap.size := fun p hp => hW.lt p hp
  have hold : ∀ p ∈ before, (fun b => decide (b < W.heap.size)) p.block = true := fun p hp => by simpa using hlt p hp
  have hsame : ∀ p ∈ before, W.sameAt W' p := by
    intro p hp
    have hb := hh _ (hlt p hp)
    cases p with
    | cell b o => show W'.cell? _ = W.cell? _; unfold World.cell?; rw [show W'.heap[b]? = W.heap[b]? from hb]
    | map b => exact hb
  have hW0 := hW
  obtain ⟨p, q, hA, hV, hb, hfz, hnd⟩ := hW
  rw [hv] at hV
  have hgq : gs = [] ∧ q = [] := by
    cases gs with
    | nil => exact ⟨rfl, hV⟩
    | cons g gs => exact hV.elim
  obtain ⟨rfl, rfl⟩ := hgq
  rw [List.append_nil] at hb
  subst hb
  have hargs : ∀ sp : Nat → Bool, (∀ p ∈ before, sp p.block = true) → DataW.TrodAll enc P W' 0 sp true f.params.toList args.toList ds before := fun sp hsp => trodAll_stays hl hr hA hsame hsp
  have hres : ∀ (b : Nat) (sp : Nat → Bool) (hd : Bool), DataW.TrodAll enc P W' b sp hd f.resultTypes.toList ((Value.bool true).resultList f.resultTypes.size) [.lit (.bool true)] [] := by
    intro b sp hd
    rw [hrt]
    exact trodAll_cons_mk (shut_bool ht true) trodAll_mk0
  have hok : ∀ (j : Nat) (t : TypeId) (r : Value), f.resultTypes[j]? = some t → ((Value.bool true).resultList f.resultTypes.size)[j]? = some r → Value.okWide P W' .any 0 t r := ok_one hrt rfl (okWide_bool_mk ht true)
  have hkept : W.keptBut W' (· ∈ before) := by
    refine ⟨ho, hp, fun i hi => ?_⟩
    rw [hh i hi]
    split <;> simp_all
  refine ⟨ds, [], before, [], before, [], hW0, ?_, ?_, ?_, World.keptBut_mono (fun p hp => ⟨hp, ?_⟩) hkept, fun _ => ?_⟩
  · rw [hs]; exact hres _ _ _
  · rw [hs]; exact hargs _ hold
  · rw [hs, hv]; rfl
  · exact Or.inr (by simpa using hp)
  · refine ⟨hok, _, [], ([] ++ before) ++ [], ⟨[] ++ before, [], trodAll_append (hargs _ (fun _ _ => rfl)) (hres _ _ _), by rw [hv]; rfl, rfl, ?_, ?_⟩, ?_⟩
    · intro b off hp
      have hp' : MemPlace.cell b off ∈ before := by simpa using hp
      have hb := hh _ (hlt _ hp')
      have : W'.frozen? ⟨b, off, none⟩ = W.frozen? ⟨b, off, none⟩ := by
        unfold World.frozen?
        rw [show W'.heap[b]? = W.heap[b]? from hb]
      rw [this]
      exact hfz b off hp'
    · intro ha; cases ha
    · intro p hp _
      simpa using hp
end
end Go.W
