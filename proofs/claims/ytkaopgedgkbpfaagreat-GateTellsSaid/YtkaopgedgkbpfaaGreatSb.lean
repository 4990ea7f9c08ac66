/- Proved here: what functions of the program compute, each by a contract over its translation (rules of the walk, or contracts function by function). No conditions beyond those that each contract states. -/
import Derived.Test.YtkaopgedgkbpfaaGreatSa
namespace Go.Proofs.Tz
open Go.W

def amountB (n : Int) : Bool := decide (0 ≤ n) && decide (n ≤ 4611686018427387904)
def tickB (n : Int) : Bool := decide (0 ≤ n) && decide (n ≤ 1099511627776)

theorem num_Amount_p (n : Int) : Pure k_num_Amount #[iv n] (bv (amountB n)) := by
  intro w
  refine num_Amount_of n ?_
  unfold amountB
  cases decide (0 ≤ n)
  · exact ⟨rfl, rfl⟩
  · exact ⟨rfl, rfl⟩
theorem num_Tick_p (n : Int) : Pure k_num_Tick #[iv n] (bv (tickB n)) := by
  intro w
  refine num_Tick_of n ?_
  unfold tickB
  cases decide (0 ≤ n)
  · exact ⟨rfl, rfl⟩
  · exact ⟨rfl, rfl⟩
theorem num_right_p (n : Int) (b : Bool) : Pure k_num_right #[iv n, bv b] (tv [iv (if b then n else 0), iv (if b then 0 else 1)]) := by
  intro w
  refine num_right_of n b ?_
  cases b
  · exact ⟨rfl, rfl⟩
  · exact ⟨rfl, rfl⟩
theorem num_both_p (a b : Int) : Pure k_num_both #[iv a, iv b] (bv (amountB a && amountB b)) := by
  intro w
  refine num_both_of a b ?_
  refine (num_Amount_p a w).mono ?_
  rintro _ _ ⟨rfl, rfl⟩
  refine ⟨_, rfl, ?_⟩
  cases amountB a
  · exact ⟨rfl, rfl⟩
  · refine (num_Amount_p b w).mono ?_
    rintro _ _ ⟨rfl, rfl⟩
    exact ⟨_, rfl, rfl, rfl⟩

def addB (a b : Int) : Bool := amountB a && amountB b && amountB (w64 (a + b))
theorem num_Add_p (a b : Int) : Pure k_num_Add #[iv a, iv b] (tv [iv (if addB a b then w64 (a + b) else 0), iv (if addB a b then 0 else 1)]) := by
  intro w
  refine num_Add_of a b ?_
  refine (num_both_p a b w).mono ?_
  rintro _ _ ⟨rfl, rfl⟩
  refine ⟨_, rfl, ?_⟩
  unfold addB
  cases amountB a && amountB b
  · refine (num_right_p _ _ w).mono ?_
    rintro _ _ ⟨rfl, rfl⟩
    exact ⟨_, _, rfl, rfl, rfl⟩
  · refine (num_Amount_p _ w).mono ?_
    rintro _ _ ⟨rfl, rfl⟩
    refine ⟨_, rfl, ?_⟩
    refine (num_right_p _ _ w).mono ?_
    rintro _ _ ⟨rfl, rfl⟩
    exact ⟨_, _, rfl, rfl, rfl⟩

theorem meter_has_p (n : Int) : Pure k_meter_has #[iv n] (bv (decide (0 ≤ n) && decide (n < 8))) := by
  intro w
  refine meter_has_of n ?_
  cases decide (0 ≤ n)
  · exact ⟨rfl, rfl⟩
  · exact ⟨rfl, rfl⟩

/-- A meter of eight counters. -/
abbrev meterAt (b : Nat) (l : List Int) : HP := row b t_meter_Meter (l.map fun n => iv n)

theorem meter_New_s {w : World} {Fs : List HP} (hS : St w Fs) : Calls P k_meter_New #[] w fun e w' => ∃ b, e = .returned (pv (at0 b)) ∧ St w' (meterAt b (List.replicate 8 0) :: Fs) := by
  refine meter_New_of ?_
  refine al hS fun b w1 h1 => ?_
  exact ⟨b, rfl, h1⟩

theorem atomic_Int64_Load_s {w : World} {L R : List HP} {F : Obj → List HP} {b off : Nat} {l : List Value} {T : TypeId} {x : Int} (hS : St w L) [Find b L (.cells l.toArray T (0, 0)) R F] (h : l[off]? = some (iv x)) :
    Calls P k_sync_atomic_Int64_Load #[pv ⟨b, off, none⟩] w fun e w' => w = w' ∧ e = .returned (iv x) := by
  refine sync_atomic_Int64_Load_of _ ?_
  exact ⟨_, w, x_sync_atomic_LoadInt64 (by rw [cell_look hS]; exact h), rfl, rfl⟩
theorem atomic_Int64_Add_s {w : World} {L R : List HP} {F : Obj → List HP} {b off : Nat} {l : List Value} {T : TypeId} {x : Int} (y : Int) (hS : St w L) [Find b L (.cells l.toArray T (0, 0)) R F] (h : l[off]? = some (iv x)) :
    Calls P k_sync_atomic_Int64_Add #[pv ⟨b, off, none⟩, iv y] w fun e w' => e = .returned (iv (w64 (x + y))) ∧ St w' (F (.cells (l.set off (iv (w64 (x + y)))).toArray T (0, 0))) := by
  refine sync_atomic_Int64_Add_of _ _ ?_
  exact ⟨_, _, x_sync_atomic_AddInt64 (by rw [cell_look hS]; exact h) (by rw [frozen_look hS]; simp), rfl, hS.setCell (b := b) off _⟩

end Go.Proofs.Tz

namespace Go.Proofs.Tz
open Go.W
set_option maxRecDepth 20000

def sectorsOf (n : Int) : Int := if n < 0 ∨ n > 60000 then 0 else (n + 86) / 63
theorem frame_Sectors_p (n : Int) : Pure k_frame_Sectors #[iv n] (iv (sectorsOf n)) := by
  intro w
  refine frame_Sectors_of n ?_
  unfold sectorsOf
  by_cases h0 : n < 0
  · refine cond_td h0 (frame_Sectors_j1002_of _ _ ⟨rfl, ?_⟩)
    rw [if_pos (.inl h0)]
  · refine cond_fd h0 (frame_Sectors_j1002_of _ _ ?_)
    by_cases h1 : n > 60000
    · refine cond_td h1 ⟨rfl, ?_⟩
      rw [if_pos (.inr h1)]
    · refine cond_fd h1 ⟨rfl, ?_⟩
      rw [if_neg (by omega)]
      rw [w64_id (n := 24 + n) (by omega), w64_id (n := 24 + n + 63) (by omega), w64_id (n := 24 + n + 63 - 1) (by omega), Int.tdiv_eq_ediv_of_nonneg (by omega), w64_id (by omega)]
      congr 3; omega

/-- A slice of slices of numbers, as it is read. -/
def RdLL (Fs : List HP) (v : Value) (ll : List (List Int)) : Prop :=
  ∃ cells : List Value, cells.length = ll.length ∧ Rd Fs 1 v cells ∧ ∀ (i : Nat) (x : List Int), ll[i]? = some x → ∃ u, cells[i]? = some u ∧ Rd Fs 1 u (x.map fun n => iv n)

def addR (s : Int × Int) (x : Int) : Int × Int := if s.2 = 0 then (if addB s.1 x then (w64 (s.1 + x), 0) else (0, 1)) else s
def sumR (xs : List Int) : Int × Int := xs.foldl addR (0, 0)
theorem num_Sum_s {w : World} {Fs : List HP} {p : Option Addr} {n c : Nat} {xs : List Int} (hS : St w Fs) (hx : Rd Fs 1 (lv p n c) (xs.map fun n => iv n)) (hl : xs.length ≤ 9223372036854775000) :
    Calls P k_num_Sum #[lv p n c] w fun e w' => w = w' ∧ e = .returned (tv [iv (sumR xs).1, iv (sumR xs).2]) := by
  have hn : xs.length = n := by simpa using (hx.len hS).1
  refine num_Sum_of _ _ _ ?_
  refine ⟨fun vs w' => w = w' ∧ ∃ i : Nat, i ≤ xs.length ∧ vs = [lv p n c, iv ((xs.take i).foldl addR (0, 0)).1, iv ((xs.take i).foldl addR (0, 0)).2, iv i], fun vs _ => (n - cnt 3 vs).toNat, ⟨rfl, 0, by omega, rfl⟩, ?_⟩
  rintro _ _ ⟨rfl, i, hi, rfl⟩
  refine num_Sum_b3_of _ _ _ _ _ _ ?_
  by_cases h : i < xs.length
  · refine cond_td (by unfold ln; omega) ?_
    have ht : (xs.take (i + 1)).foldl addR (0, 0) = addR ((xs.take i).foldl addR (0, 0)) (xs[i]) := by
      rw [List.take_succ_eq_append_getElem h, List.foldl_append]; rfl
    have hmono : ∀ (l : List Int) (s : Int × Int), s.2 ≠ 0 → l.foldl addR s = s := by
      intro l
      induction l with
      | nil => intro s _; rfl
      | cons y l ih => intro s hs; rw [List.foldl_cons]; unfold addR; rw [if_neg hs]; exact ih s hs
    generalize hs : (xs.take i).foldl addR (0, 0) = s at ht ⊢
    by_cases h0 : s.2 = 0
    · refine cond_t (by simp [h0]) ?_
      have hat : (xs.map fun n => iv n)[i]? = some (iv xs[i]) := by simp [h]
      refine ⟨by omega, rd_ld hx hS hat fun a ha => ⟨_, ha w hS, ?_⟩⟩
      refine (num_Add_p s.1 xs[i]).call ⟨_, _, rfl, ?_⟩
      have e5 : w64 ((i : Int) + 1) = ((i + 1 : Nat) : Int) := w64_eq _ (by omega) (by omega)
      rw [e5]
      refine ⟨⟨rfl, i + 1, by omega, ?_⟩, by simp [cnt]; omega⟩
      rw [ht]
      unfold addR
      rw [if_pos h0]
      cases addB s.1 xs[i] <;> rfl
    · refine cond_f (by simp [h0]) (num_Sum_j6_of _ _ ⟨rfl, ?_⟩)
      have hfull : sumR xs = s := by
        unfold sumR
        rw [← List.take_append_drop i xs, List.foldl_append, hs]
        exact hmono _ _ h0
      rw [hfull]
  · refine cond_fd (by unfold ln; omega) (num_Sum_j6_of _ _ ⟨rfl, ?_⟩)
    rw [List.take_of_length_le (by omega)]
    rfl

/-- The first place where something holds. -/
def firstAt (g : Nat → Bool) (n i : Nat) : Int := match n with
  | 0 => -1
  | n + 1 => if g i then (i : Int) else firstAt g n (i + 1)
theorem IndexFunc_LL {w : World} {Fs : List HP} {p : Option Addr} {n c : Nat} {f : Value} {g : Nat → Bool} {cells : List Value} (hS : St w Fs) (hx : Rd Fs 1 (lv p n c) cells) (hl : cells.length ≤ 9223372036854775000)
    (hsl : ∀ u ∈ cells, ∃ q m k, u = lv q m k) (hf : ∀ i u, cells[i]? = some u → ∀ R : Ending → World → Prop, R (.returned (bv (g i))) w → callV P true f #[u] w R) :
    Calls P k_slices_IndexFunc_SSint_Sint #[lv p n c, f] w fun e w' => w = w' ∧ e = .returned (iv (firstAt g cells.length 0)) := by
  have hn : cells.length = n := (hx.len hS).1
  refine slices_IndexFunc_SSint_Sint_of _ _ _ _ ?_
  refine ⟨fun vs w' => w = w' ∧ ∃ i : Nat, i ≤ cells.length ∧ vs = [lv p n c, f, iv n, iv i] ∧ firstAt g cells.length 0 = firstAt g (cells.length - i) i, fun vs _ => (n - cnt 3 vs).toNat, ⟨rfl, 0, by omega, rfl, rfl⟩, ?_⟩
  rintro _ _ ⟨rfl, i, hi, rfl, he⟩
  refine slices_IndexFunc_SSint_Sint_b2_of _ _ _ _ _ _ ?_
  by_cases h : i < cells.length
  · refine cond_td (by omega) ?_
    have hat : cells[i]? = some cells[i] := List.getElem?_eq_getElem h
    obtain ⟨q, m, k, hu⟩ := hsl _ (List.getElem_mem h)
    have hat' := hat
    rw [hu] at hat'
    refine ⟨by omega, rd_ld hx hS hat' fun a ha => ⟨_, _, _, ha w hS, ?_⟩⟩
    refine hf i _ hat' _ ⟨_, rfl, ?_⟩
    rw [show cells.length - i = cells.length - (i + 1) + 1 by omega] at he
    have he : firstAt g cells.length 0 = if g i then (i : Int) else firstAt g (cells.length - (i + 1)) (i + 1) := he
    cases hg : g i with
    | true => rw [hg] at he; exact ⟨rfl, by rw [he]; rfl⟩
    | false =>
      rw [hg] at he
      have e5 : w64 ((i : Int) + 1) = ((i + 1 : Nat) : Int) := w64_eq _ (by omega) (by omega)
      refine cond_f rfl ?_
      rw [e5]
      exact ⟨⟨rfl, i + 1, by omega, rfl, he⟩, by simp [cnt]; omega⟩
  · refine cond_fd (by omega) ⟨rfl, ?_⟩
    have : cells.length - i = 0 := by omega
    rw [this] at he
    rw [he]; rfl
end Go.Proofs.Tz
namespace Go.Proofs.Tz
open Go.W
set_option maxRecDepth 20000

theorem RdLL.cons (A : HP) {Fs : List HP} {v : Value} {ll : List (List Int)} (h : RdLL Fs v ll) : RdLL (A :: Fs) v ll := by
  obtain ⟨cells, h1, h2, h3⟩ := h
  exact ⟨cells, h1, h2.cons A, fun i x hx => by obtain ⟨u, hu, hr⟩ := h3 i x hx; exact ⟨u, hu, hr.cons A⟩⟩
theorem RdLL.len {Fs : List HP} {p : Option Addr} {n c : Nat} {ll : List (List Int)} (h : RdLL Fs (lv p n c) ll) {w : World} (hS : St w Fs) : ll.length = n ∧ n ≤ c := by
  obtain ⟨cells, h1, h2, h3⟩ := h
  have := h2.len hS
  omega
/-- An inner slice is read. -/
theorem RdLL.at {Fs : List HP} {p : Option Addr} {n c i : Nat} {ll : List (List Int)} {x : List Int} (h : RdLL Fs (lv p n c) ll) {w : World} (hS : St w Fs) (hx : ll[i]? = some x) {K : Addr → Prop}
    (hK : ∀ a q c', (∀ w, St w Fs → W.Ld P t_sl_int (Addr.add a (i * 1)) w (lv q x.length c')) → Rd Fs 1 (lv q x.length c') (x.map fun n => iv n) → K a) : nilK p K := by
  obtain ⟨cells, h1, h2, h3⟩ := h
  obtain ⟨u, hu, hr⟩ := h3 i x hx
  obtain ⟨q, m, c', rfl⟩ := (hr w hS).form
  have hm : x.length = m := by simpa using (hr.len hS).1
  subst hm
  exact rd_ld h2 hS hu fun a ha => hK a q c' ha hr

/-- What a purse begins with. -/
def mayB (ll : List (List Int)) : Bool :=
  decide (2 ≤ ll.length ∧ ll.length ≤ 16) && decide (1 ≤ (ll.getD 0 []).length ∧ (ll.getD 0 []).length ≤ 4) && ll.all (fun x => decide (x.length = (ll.getD 0 []).length)) &&
    (List.range (ll.getD 0 []).length).all fun a => decide ((sumR (ll.map fun x => x.getD a 0)).2 = 0)

theorem purse_may_1_s {w : World} {Fs : List HP} {b T : Nat} {p q : Option Addr} {n c m k : Nat} {ll : List (List Int)} (hS : St w (row b T [lv p n c] :: Fs)) (h : RdLL Fs (lv p n c) ll) (hl : 1 ≤ ll.length) :
    Calls P k_purse_may_1 #[lv q m k, pv (at0 b)] w fun e w' => w = w' ∧ e = .returned (bv (ln m != ln (ll.getD 0 []).length)) := by
  refine purse_may_1_of _ _ _ _ ⟨_, _, _, ld hS rfl, ?_⟩
  have hn := (h.len hS.tail).1
  have h0 : ll[0]? = some (ll.getD 0 []) := by
    rw [List.getElem?_eq_getElem (by omega)]; simp [List.getD_eq_getElem?_getD, show 0 < ll.length by omega]
  refine ⟨by omega, h.at hS.tail h0 fun a q' c' hL hR => ⟨_, _, _, hL w hS.tail, rfl, rfl⟩⟩

theorem firstAt_none {g : Nat → Bool} : ∀ (n i : Nat), (0 ≤ firstAt g n i) = (∃ j, i ≤ j ∧ j < i + n ∧ g j = true)
  | 0, i => by simp [firstAt]; intro j h1 h2; omega
  | n + 1, i => by
    unfold firstAt
    cases hg : g i with
    | true => simp; exact ⟨i, by omega, by omega, hg⟩
    | false =>
      simp only [Bool.false_eq_true, if_false]
      rw [firstAt_none n (i + 1)]
      apply propext
      constructor
      · rintro ⟨j, h1, h2, h3⟩; exact ⟨j, by omega, by omega, h3⟩
      · rintro ⟨j, h1, h2, h3⟩
        by_cases hj : j = i
        · subst hj; rw [hg] at h3; cases h3
        · exact ⟨j, by omega, by omega, h3⟩

theorem ContainsFunc_LL {w : World} {Fs : List HP} {p : Option Addr} {n c : Nat} {f : Value} {g : Nat → Bool} {cells : List Value} (hS : St w Fs) (hx : Rd Fs 1 (lv p n c) cells) (hl : cells.length ≤ 9223372036854775000)
    (hsl : ∀ u ∈ cells, ∃ q m k, u = lv q m k) (hf : ∀ i u, cells[i]? = some u → ∀ R : Ending → World → Prop, R (.returned (bv (g i))) w → callV P true f #[u] w R) :
    Calls P k_slices_ContainsFunc_SSint_Sint #[lv p n c, f] w fun e w' => w = w' ∧ e = .returned (bv ((List.range cells.length).any g)) := by
  refine slices_ContainsFunc_SSint_Sint_of _ _ _ _ ((IndexFunc_LL hS hx hl hsl hf).mono ?_)
  rintro _ _ ⟨rfl, rfl⟩
  refine ⟨_, rfl, rfl, ?_⟩
  have h := firstAt_none (g := g) cells.length 0
  congr 2
  rw [Bool.eq_iff_iff]
  simp only [decide_eq_true_eq, ge_iff_le, h, List.any_eq_true, List.mem_range]
  constructor
  · rintro ⟨j, _, h2, h3⟩; exact ⟨j, by omega, h3⟩
  · rintro ⟨j, h2, h3⟩; exact ⟨j, by omega, by omega, h3⟩

abbrev ints (l : List Int) : List Value := l.map fun n => iv n
theorem purse_may_s {w : World} {Fs : List HP} {p : Option Addr} {n c : Nat} {ll : List (List Int)} (hS : St w Fs) (h : RdLL Fs (lv p n c) ll) (hl : ll.length ≤ 1073741824) :
    Calls P k_purse_may #[lv p n c] w fun e w' => e = .returned (bv (mayB ll)) ∧ St w' Fs := by
  refine purse_may_of _ _ _ ?_
  refine bx (l := [lv p n c]) hS rfl fun b w1 h1 => ?_
  have hn := (h.len hS).1
  have hB := h.cons (row b t_sl_sl_int [lv p n c])
  refine ⟨_, _, _, ld h1 rfl, ?_⟩
  have hfalse : mayB ll = false → purse_may_j1002 (fun e w' => e = .returned (bv (mayB ll)) ∧ St w' Fs) [pv (at0 b), bv true] w1 := fun hm =>
    purse_may_j1002_of _ _ ⟨by rw [hm], h1.tail⟩
  by_cases c1 : ll.length < 2
  · refine cond_td (by unfold ln; omega) (hfalse ?_)
    simp [mayB]; omega
  · refine cond_fd (by unfold ln; omega) ⟨_, _, _, ld h1 rfl, ?_⟩
    by_cases c2 : ll.length > 16
    · refine cond_td (by unfold ln; omega) (hfalse ?_)
      simp [mayB]; omega
    · refine cond_fd (by unfold ln; omega) ⟨_, _, _, ld h1 rfl, by omega, ?_⟩
      have h0 : ll[0]? = some (ll.getD 0 []) := by
        rw [List.getElem?_eq_getElem (by omega)]; simp [List.getD_eq_getElem?_getD, show 0 < ll.length by omega]
      refine hB.at h1 h0 fun a q' c' hL hR => ⟨_, _, _, hL w1 h1, ?_⟩
      by_cases c3 : (ll.getD 0 []).length < 1
      · refine cond_td (by unfold ln; omega) (hfalse ?_)
        have : decide (1 ≤ (ll.getD 0 []).length ∧ (ll.getD 0 []).length ≤ 4) = false := decide_eq_false (by omega)
        unfold mayB; rw [this]; simp
      · refine cond_fd (by unfold ln; omega) ⟨_, _, _, ld h1 rfl, by omega, ?_⟩
        refine hB.at h1 h0 fun a2 q2 c2' hL2 hR2 => ⟨_, _, _, hL2 w1 h1, ?_⟩
        by_cases c4 : (ll.getD 0 []).length > 4
        · rw [decide_eq_true (show ln (ll.getD 0 []).length > 4 by unfold ln; omega)]
          refine hfalse ?_
          have : decide (1 ≤ (ll.getD 0 []).length ∧ (ll.getD 0 []).length ≤ 4) = false := decide_eq_false (by omega)
          unfold mayB; rw [this]; simp
        · rw [decide_eq_false (show ¬ ln (ll.getD 0 []).length > 4 by unfold ln; omega)]
          refine purse_may_j1002_of _ _ (cond_f rfl ⟨_, _, _, ld h1 rfl, ?_⟩)
          obtain ⟨cells, hc1, hc2, hc3⟩ := id hB
          have hcell : ∀ (i : Nat) (u : Value), cells[i]? = some u → ∃ x : List Int, ll[i]? = some x ∧ Rd (row b t_sl_sl_int [lv p n c] :: Fs) 1 u (ints x) := by
            intro i u hu
            have hi : i < ll.length := by rw [← hc1]; exact (List.getElem?_eq_some_iff.1 hu).1
            obtain ⟨u', hu', hr⟩ := hc3 i _ (List.getElem?_eq_getElem hi)
            rw [hu] at hu'; cases hu'
            exact ⟨_, List.getElem?_eq_getElem hi, hr⟩
          refine (ContainsFunc_LL (g := fun i => ln (ll.getD i []).length != ln (ll.getD 0 []).length) h1 hc2 (by omega) ?_ ?_).mono ?_
          · intro u hu
            obtain ⟨i, hi, rfl⟩ := List.getElem_of_mem hu
            obtain ⟨x, hx, hr⟩ := hcell i _ (List.getElem?_eq_getElem hi)
            obtain ⟨q, m, k, hv⟩ := (hr w1 h1).form
            exact ⟨q, m, k, hv⟩
          · intro i u hu R hR
            obtain ⟨x, hx, hr⟩ := hcell i u hu
            obtain ⟨q, m, k, rfl⟩ := (hr w1 h1).form
            have hm : x.length = m := by simpa using (hr.len h1).1
            refine callV_of (by kernel_rfl) ((purse_may_1_s h1 h (by omega)).mono ?_)
            rintro _ _ ⟨rfl, rfl⟩
            have : (ll.getD i []).length = m := by rw [List.getD_eq_getElem?_getD, hx]; exact hm
            rw [this] at hR; exact hR
          · rintro _ _ ⟨rfl, rfl⟩
            refine ⟨_, rfl, ?_⟩
            cases hany : (List.range cells.length).any fun i => ln (ll.getD i []).length != ln (ll.getD 0 []).length with
            | true =>
              refine ⟨?_, h1.tail⟩
              have : (ll.all fun x => decide (x.length = (ll.getD 0 []).length)) = false := by
                obtain ⟨i, hi, hne⟩ := List.any_eq_true.1 hany
                rw [List.mem_range] at hi
                rw [List.all_eq_false]
                refine ⟨ll.getD i [], ?_, ?_⟩
                · rw [List.getD_eq_getElem?_getD, List.getElem?_eq_getElem (by omega)]; exact List.getElem_mem _
                · intro he
                  have he' := of_decide_eq_true he
                  rw [he'] at hne; simp at hne
              unfold mayB; rw [this]; simp
            | false =>
              have hsame : ∀ x ∈ ll, x.length = (ll.getD 0 []).length := by
                intro x hx
                obtain ⟨i, hi, rfl⟩ := List.getElem_of_mem hx
                have h2 := List.any_eq_false.1 hany i (by rw [List.mem_range]; omega)
                have e : ll.getD i [] = ll[i] := by rw [List.getD_eq_getElem?_getD, List.getElem?_eq_getElem hi]; rfl
                rw [e] at h2
                have h3 : ln ll[i].length = ln (ll.getD 0 []).length := by simpa using h2
                unfold ln at h3; omega
              refine ⟨_, _, _, ld h1 rfl, by omega, ?_⟩
              refine hB.at h1 h0 fun a3 q3 c3' hL3 hR3 => ⟨_, _, _, hL3 w1 h1, ?_⟩
              have hm : mayB ll = (List.range (ll.getD 0 []).length).all fun a => decide ((sumR (ll.map fun x => x.getD a 0)).2 = 0) := by
                have e1 : decide (2 ≤ ll.length ∧ ll.length ≤ 16) = true := decide_eq_true (by omega)
                have e2 : decide (1 ≤ (ll.getD 0 []).length ∧ (ll.getD 0 []).length ≤ 4) = true := decide_eq_true (by omega)
                have e3 : (ll.all fun x => decide (x.length = (ll.getD 0 []).length)) = true := List.all_eq_true.2 fun x hx => decide_eq_true (hsame x hx)
                unfold mayB; rw [e1, e2, e3]; rfl
              refine ⟨fun vs w => ∃ a : Nat, a ≤ (ll.getD 0 []).length ∧ vs = [pv (at0 b), iv ((ll.getD 0 []).length : Nat), iv a] ∧ (∀ j, j < a → (sumR (ll.map fun x => x.getD j 0)).2 = 0) ∧ St w (row b t_sl_sl_int [lv p n c] :: Fs),
                fun vs _ => ((ll.getD 0 []).length - cnt 2 vs).toNat, ⟨0, by omega, rfl, fun j hj => by omega, h1⟩, ?_⟩
              rintro _ w2 ⟨a, ha, rfl, hok, h2⟩
              refine purse_may_b6_of _ _ _ ?_
              by_cases hlt : a < (ll.getD 0 []).length
              · refine cond_td (by omega) ⟨_, _, _, ld h2 rfl, ?_⟩
                refine ⟨fun vs w => ∃ r q k, r ≤ ll.length ∧ vs = [pv (at0 b), iv a, lv q r k, iv ((ll.getD 0 []).length : Nat), iv a, lv p n c, iv n, iv r] ∧ St w (slAt t_int 1 (lv q r k) (ints ((ll.take r).map fun x => x.getD a 0)) :: row b t_sl_sl_int [lv p n c] :: Fs),
                  fun vs _ => (n - cnt 7 vs).toNat, ⟨0, none, 0, by omega, rfl, mk_slNil h2⟩, ?_⟩
                rintro _ w3 ⟨r, q, k, hr, rfl, h3⟩
                refine purse_may_b10_of _ _ _ _ _ _ _ _ _ _ _ _ ?_
                by_cases hr2 : r < ll.length
                · refine cond_td (by omega) ⟨by omega, ?_⟩
                  have hx : ll[r]? = some ll[r] := List.getElem?_eq_getElem hr2
                  have hC := hB.cons (slAt t_int 1 (lv q r k) (ints ((ll.take r).map fun x => x.getD a 0)))
                  have hlen := hsame _ (List.getElem_mem hr2)
                  refine hC.at h3 hx fun a4 q4 c4' hL4 hR4 => ⟨_, _, _, hL4 w3 h3, by omega, ?_⟩
                  have hat : (ints ll[r])[a]? = some (iv (ll[r].getD a 0)) := by
                    simp [List.getD_eq_getElem?_getD, show a < ll[r].length by omega]
                  refine rd_ld hR4 h3 hat fun a5 hL5 => ⟨_, hL5 w3 h3, ?_⟩
                  refine app_lit (ys := ints [ll[r].getD a 0]) h3 (filled_of rfl) (by omega) rfl (by intro u hu; obtain ⟨x, _, rfl⟩ := List.mem_map.1 hu; rfl) (by simp; omega) fun q5 k5 w4 h4 => ?_
                  have e1 : ints ((ll.take r).map fun x => x.getD a 0) ++ ints [ll[r].getD a 0] = ints ((ll.take (r + 1)).map fun x => x.getD a 0) := by
                    rw [List.take_succ_eq_append_getElem hr2]; simp only [ints, List.map_append, List.map_cons, List.map_nil]
                  have e2 : (ints ((ll.take r).map fun x => x.getD a 0)).length + 1 = r + 1 := by simp; omega
                  rw [e1, e2] at h4
                  rw [e2]
                  have e5 : w64 ((r : Int) + 1) = ((r + 1 : Nat) : Int) := w64_eq _ (by omega) (by omega)
                  rw [e5]
                  exact ⟨⟨r + 1, q5, k5, by omega, rfl, h4⟩, by simp [cnt]; omega⟩
                · refine cond_fd (by omega) ?_
                  have hrl : r = ll.length := by omega
                  subst hrl
                  rw [List.take_length] at h3
                  refine (num_Sum_s (xs := ll.map fun x => x.getD a 0) h3 (Rd.of_sl (T := t_int)) (by rw [List.length_map]; omega)).mono ?_
                  rintro _ _ ⟨rfl, rfl⟩
                  refine ⟨_, _, rfl, ?_⟩
                  by_cases hz : (sumR (ll.map fun x => x.getD a 0)).2 = 0
                  · refine cond_f (by rw [hz]; rfl) ?_
                    have e5 : w64 ((a : Int) + 1) = ((a + 1 : Nat) : Int) := w64_eq _ (by omega) (by omega)
                    rw [e5]
                    refine ⟨⟨a + 1, by omega, rfl, fun j hj => ?_, h3.tail⟩, by show (((ll.getD 0 []).length : Int) - ((a + 1 : Nat) : Int)).toNat < (((ll.getD 0 []).length : Int) - (a : Int)).toNat; omega⟩
                    by_cases hja : j = a
                    · subst hja; exact hz
                    · exact hok j (by omega)
                  · refine cond_t (bne_iff_ne.2 hz) ⟨?_, h3.tail.tail⟩
                    rw [hm]
                    congr 2
                    refine (List.all_eq_false.2 ⟨a, by rw [List.mem_range]; exact hlt, ?_⟩).symm
                    exact fun he => hz (of_decide_eq_true he)
              · refine cond_fd (by omega) ⟨?_, h2.tail⟩
                rw [hm]
                congr 2
                refine (List.all_eq_true.2 ?_).symm
                intro j hj
                rw [List.mem_range] at hj
                exact decide_eq_true (hok j (by omega))
end Go.Proofs.Tz
namespace Go.Proofs.Tz
open Go.W
set_option maxRecDepth 20000
theorem ints_sc (l : List Int) : ∀ u ∈ ints l, sc u = true := by
  intro u hu; obtain ⟨x, _, rfl⟩ := List.mem_map.1 hu; rfl
/-- A call gives back numbers of its own. -/
def RetI (xs : List Int) (Fs : List HP) (e : Ending) (w' : World) : Prop := ∃ q c, e = .returned (lv q xs.length c) ∧ St w' (slAt t_int 1 (lv q xs.length c) (ints xs) :: Fs)
theorem nil_ints {w : World} {n c : Nat} {xs : List Value} (h : VC w 1 (lv none n c) xs) : xs = [] := by
  obtain ⟨p, m, c', hv, _, _, h2⟩ := h
  cases xs with
  | nil => rfl
  | cons x l => obtain ⟨b, o, hp, _⟩ := h2 0 _ rfl; cases hv; cases hp
theorem slices_Clone_ints {w : World} {Fs : List HP} {p : Option Addr} {n c : Nat} {xs : List Int} (hS : St w Fs) (hb : Rd Fs 1 (lv p n c) (ints xs)) (hl : xs.length ≤ 17179869184) :
    Calls P k_slices_Clone_Sint_int #[lv p n c] w (RetI xs Fs) := by
  refine slices_Clone_Sint_int_of _ _ _ ⟨_, w, eq_nil, ?_⟩
  cases p with
  | none =>
    have h0 := nil_ints (hb w hS)
    have : xs = [] := List.map_eq_nil_iff.1 h0
    subst this
    exact ⟨none, 0, rfl, mk_slNil hS⟩
  | some a =>
    refine bs0 hS fun b w1 h1 => ?_
    refine ap h1 (hb w1 h1.tail) (ints_sc xs) (by omega) (by simpa using hl) fun q c w2 h2 => ?_
    simp only [List.length_nil, Nat.zero_add, Nat.div_one, List.length_map, List.nil_append] at h2 ⊢
    exact ⟨q, c, rfl, h2⟩
end Go.Proofs.Tz
namespace Go.Proofs.Tz
open Go.W
set_option maxRecDepth 20000

/-- Slices of numbers, each owned. -/
def innerAt : List Value → List (List Int) → HP
  | [], [] => pur True
  | v :: vs, x :: xs => star (slAt t_int 1 v (ints x)) (innerAt vs xs)
  | _, _ => pur False
theorem innerAt_len {w : World} {L : List HP} : ∀ {vs : List Value} {ll : List (List Int)}, St w (innerAt vs ll :: L) → vs.length = ll.length
  | [], [], _ => rfl
  | v :: vs, x :: xs, h => by
    have h1 : St w (innerAt vs xs :: slAt t_int 1 v (ints x) :: L) := (St.star (h : St w (star _ _ :: L))).f1
    simp [innerAt_len h1]
  | [], _ :: _, h => (St.pure (h : St w (pur False :: L))).1.elim
  | _ :: _, [], h => (St.pure (h : St w (pur False :: L))).1.elim
theorem innerAt_snoc {w : World} {L : List HP} {v : Value} {x : List Int} : ∀ {vs : List Value} {ll : List (List Int)}, St w (innerAt vs ll :: slAt t_int 1 v (ints x) :: L) → St w (innerAt (vs ++ [v]) (ll ++ [x]) :: L)
  | [], [], h => by
    have h1 : St w (slAt t_int 1 v (ints x) :: pur True :: L) := h.f1
    exact h1.unstar
  | u :: vs, y :: ys, h => by
    have h1 : St w (slAt t_int 1 u (ints y) :: innerAt vs ys :: slAt t_int 1 v (ints x) :: L) := St.star (h : St w (star _ _ :: _))
    have h2 : St w (innerAt vs ys :: slAt t_int 1 v (ints x) :: slAt t_int 1 u (ints y) :: L) := h1.f1.ent ((Ent.swap _ _ _).cons _)
    have h3 := innerAt_snoc h2
    exact (h3.f1).unstar
  | [], _ :: _, h => (St.pure (h : St w (pur False :: _))).1.elim
  | _ :: _, [], h => (St.pure (h : St w (pur False :: _))).1.elim

/-- A purse: who has how much of what. -/
def purseAt (b : Nat) (ll : List (List Int)) : HP := hex fun q => hex fun c => hex fun cells => star (row b t_purse_Purse [lv q ll.length c]) (star (slAt t_sl_int 1 (lv q ll.length c) cells) (innerAt cells ll))
theorem purse_Copy_s {w : World} {Fs : List HP} {b0 : Nat} {p : Option Addr} {n c : Nat} {ll : List (List Int)} (hS : St w Fs) (hp : ∀ w, St w Fs → W.Ld P t_sl_sl_int (at0 b0) w (lv p n c)) (h : RdLL Fs (lv p n c) ll) (hl : ll.length ≤ 1073741824) (hl2 : ∀ x ∈ ll, x.length ≤ 1073741824) :
    Calls P k_purse_Purse_Copy #[pv (at0 b0)] w fun e w' => ∃ b, e = .returned (pv (at0 b)) ∧ St w' (purseAt b ll :: Fs) := by
  have hn := (h.len hS).1
  refine purse_Purse_Copy_of _ ⟨_, _, _, hp w hS, ?_⟩
  refine ⟨fun vs w => ∃ r q k cells, r ≤ ll.length ∧ vs = [lv q r k, lv p n c, iv n, iv r] ∧ St w (slAt t_sl_int 1 (lv q r k) cells :: innerAt cells (ll.take r) :: Fs),
    fun vs _ => (n - cnt 3 vs).toNat, ⟨0, none, 0, [], by omega, rfl, mk_slNil (hS.addPure trivial)⟩, ?_⟩
  rintro _ w1 ⟨r, q, k, cells, hr, rfl, h1⟩
  refine purse_Purse_Copy_b3_of _ _ _ _ _ _ _ _ ?_
  by_cases hlt : r < ll.length
  · refine cond_td (by omega) ⟨by omega, ?_⟩
    have hx : ll[r]? = some ll[r] := List.getElem?_eq_getElem hlt
    refine ((h.cons _).cons _).at h1 hx fun a q2 c2 hL hR => ⟨_, _, _, hL w1 h1, ?_⟩
    refine (slices_Clone_ints h1 hR (by have := hl2 _ (List.getElem_mem hlt); omega)).mono ?_
    rintro _ w2 ⟨q3, c3, rfl, h2⟩
    refine ⟨_, _, _, rfl, ?_⟩
    have hcl : cells.length = r := by
      have := innerAt_len (w := w1) (L := slAt t_sl_int 1 (lv q r k) cells :: Fs) h1.f1
      rw [this]; simp; omega
    refine app_lit (ys := [lv q3 ll[r].length c3]) h2.f1 (filled_of rfl) (by omega) rfl (by intro u hu; simp at hu; subst hu; rfl) (by omega) fun q4 c4 w3 h3 => ?_
    rw [hcl] at h3 ⊢
    have e5 : w64 ((r : Int) + 1) = ((r + 1 : Nat) : Int) := w64_eq _ (by omega) (by omega)
    rw [e5]
    refine ⟨⟨r + 1, q4, c4, cells ++ [lv q3 ll[r].length c3], by omega, rfl, ?_⟩, by simp [cnt]; omega⟩
    have h4 : St w3 (innerAt cells (ll.take r) :: slAt t_int 1 (lv q3 ll[r].length c3) (ints ll[r]) :: slAt t_sl_int 1 (lv q4 (r + 1) c4) (cells ++ [lv q3 ll[r].length c3]) :: Fs) := h3.re
    have h5 := innerAt_snoc h4
    rw [← List.take_succ_eq_append_getElem hlt] at h5
    exact h5.f1
  · refine cond_fd (by omega) ?_
    have hrl : r = ll.length := by omega
    subst hrl
    rw [List.take_length] at h1
    refine bx (l := [lv q ll.length k]) h1 rfl fun b w2 h2 => ⟨b, rfl, ?_⟩
    have h3 := (h2.ent ((Ent.unstar _ _ _).cons _)).unstar
    exact h3.head fun _ hx => ⟨q, k, cells, hx⟩

theorem purse_New_s {w : World} {Fs : List HP} {p : Option Addr} {n c : Nat} {ll : List (List Int)} (hS : St w Fs) (h : RdLL Fs (lv p n c) ll) (hl : ll.length ≤ 1073741824) (hl2 : ∀ x ∈ ll, x.length ≤ 1073741824) :
    Calls P k_purse_New #[lv p n c] w fun e w' => (mayB ll = true ∧ ∃ b, e = .returned (tv [pv (at0 b), iv 0]) ∧ St w' (purseAt b ll :: Fs)) ∨ (mayB ll = false ∧ e = .returned (tv [.pointer none, iv 1]) ∧ St w' Fs) := by
  refine purse_New_of _ _ _ ((purse_may_s hS h hl).mono ?_)
  rintro _ w1 ⟨rfl, h1⟩
  refine ⟨_, rfl, ?_⟩
  cases hm : mayB ll with
  | false => exact cond_t rfl (.inr ⟨rfl, rfl, h1⟩)
  | true =>
    refine cond_f rfl ?_
    refine bx (l := [lv p n c]) h1 rfl fun b w2 h2 => ?_
    refine (purse_Copy_s (b0 := b) h2 (fun w hw => ld hw rfl) (h.cons _) hl hl2).mono ?_
    rintro _ w3 ⟨b3, rfl, h3⟩
    exact ⟨_, rfl, .inl ⟨rfl, b3, rfl, h3.ent ((Ent.drop _ _).cons _)⟩⟩
end Go.Proofs.Tz
namespace Go.Proofs.Tz
open Go.W
set_option maxRecDepth 20000

def confB (ll : List (List Int)) (ev : Int) : Bool := mayB ll && decide (1 ≤ ev ∧ ev ≤ 400)
theorem ledger_Check_s {w : World} {Fs : List HP} {p : Option Addr} {n c : Nat} {ll : List (List Int)} (ev : Int) (hS : St w Fs) (h : RdLL Fs (lv p n c) ll) (hl : ll.length ≤ 1073741824) (hl2 : ∀ x ∈ ll, x.length ≤ 1073741824) :
    Calls P k_ledger_Check #[.agg #[lv p n c, iv ev]] w fun e w' => e = .returned (iv (if confB ll ev then 0 else 1)) ∧ St w' Fs := by
  refine ledger_Check_of _ _ _ _ ?_
  refine bx (l := [lv p n c, iv ev]) hS rfl fun b w1 h1 => ⟨_, _, _, ld h1 rfl, ?_⟩
  refine (purse_New_s h1 (h.cons _) hl hl2).mono ?_
  rintro _ w2 (⟨hm, b2, rfl, h2⟩ | ⟨hm, rfl, h2⟩)
  · refine ⟨_, _, rfl, cond_f rfl ⟨_, ld h2.tail rfl, ?_⟩⟩
    have h3 := h2.tail.tail
    by_cases c1 : ev < 1
    · refine cond_td c1 (ledger_Check_j1005_of _ (cond_t rfl ⟨?_, h3⟩))
      have : confB ll ev = false := by unfold confB; rw [decide_eq_false (by omega)]; simp
      rw [this]; rfl
    · refine cond_fd c1 ⟨_, ld h2.tail rfl, ledger_Check_j1005_of _ ?_⟩
      by_cases c2 : ev > 400
      · refine cond_td c2 ⟨?_, h3⟩
        have : confB ll ev = false := by unfold confB; rw [decide_eq_false (by omega)]; simp
        rw [this]; rfl
      · refine cond_fd c2 ⟨?_, h3⟩
        have : confB ll ev = true := by unfold confB; rw [hm, decide_eq_true (by omega)]; rfl
        rw [this]; rfl
  · refine ⟨_, _, rfl, cond_t rfl ⟨?_, h2.tail⟩⟩
    have : confB ll ev = false := by unfold confB; rw [hm]; rfl
    rw [this]; rfl

def needOf (ll : List (List Int)) (ev : Int) : Int := if confB ll ev then 2 * (sectorsOf (14 + 63 * ev + 220 * (ll.length : Int)) + 53) else 0
theorem confB_spec {ll : List (List Int)} {ev : Int} (h : confB ll ev = true) : 1 ≤ ev ∧ ev ≤ 400 ∧ ll.length ≤ 16 ∧ 2 ≤ ll.length := by
  unfold confB at h
  rw [Bool.and_eq_true, decide_eq_true_eq] at h
  have h2 := h.1
  unfold mayB at h2
  simp only [Bool.and_eq_true, decide_eq_true_eq] at h2
  omega
theorem vault_Need_s {w : World} {Fs : List HP} {p : Option Addr} {n c : Nat} {ll : List (List Int)} (ev : Int) (hS : St w Fs) (h : RdLL Fs (lv p n c) ll) (hl : ll.length ≤ 1073741824) (hl2 : ∀ x ∈ ll, x.length ≤ 1073741824) :
    Calls P k_vault_Need #[.agg #[lv p n c, iv ev]] w fun e w' => e = .returned (iv (needOf ll ev)) ∧ St w' Fs := by
  have hn := (h.len hS).1
  refine vault_Need_of _ _ _ _ ?_
  refine bx (l := [lv p n c, iv ev]) hS rfl fun b w1 h1 => ⟨_, _, _, _, ldA (b := b) (off := 0) (vs := [lv p n c, iv ev]) h1 rfl rfl, ?_⟩
  refine (ledger_Check_s ev h1 (h.cons _) hl hl2).mono ?_
  rintro _ w2 ⟨rfl, h2⟩
  refine ⟨_, rfl, ?_⟩
  unfold needOf
  cases hc : confB ll ev with
  | false => exact cond_t rfl ⟨rfl, h2.tail⟩
  | true =>
    have hs := confB_spec hc
    refine cond_f rfl ⟨_, ld h2 rfl, _, _, _, ld h2 rfl, ?_⟩
    have e1 : w64 (w64 (14 + w64 (63 * ev)) + w64 (220 * ln n)) = 14 + 63 * ev + 220 * (ll.length : Int) := by
      unfold ln
      rw [w64_id (n := 63 * ev) (by omega), w64_id (n := 14 + 63 * ev) (by omega), w64_id (n := 220 * (n : Int)) (by omega), w64_id (by omega), hn]
    rw [e1]
    refine (frame_Sectors_p _).call ⟨_, rfl, ?_⟩
    refine (frame_Sectors_p _).call ⟨_, rfl, ?_⟩
    have e2 : sectorsOf 3300 = 53 := by decide
    have hb : 0 ≤ sectorsOf (14 + 63 * ev + 220 * (ll.length : Int)) ∧ sectorsOf (14 + 63 * ev + 220 * (ll.length : Int)) ≤ 1000 := by unfold sectorsOf; split <;> omega
    generalize sectorsOf (14 + 63 * ev + 220 * (ll.length : Int)) = s at hb ⊢
    rw [e2]
    refine ⟨?_, h2.tail⟩
    rw [w64_id (n := s + 53) (by omega), w64_id (by omega)]
    simp
end Go.Proofs.Tz
namespace Go.Proofs.Tz
open Go.W
set_option maxRecDepth 20000

abbrev zsec : List UInt8 := List.replicate 64 0
/-- A disk: its sectors, what is pending, the fuse, whether it is down. -/
def diskAt (bd : Nat) (lasts : List (List UInt8)) (pend : List (Int × List UInt8)) (fuse : Int) (down : Bool) : HP :=
  hex fun q : Option Addr => hex fun c : Nat => hex fun m : Nat => hex fun cells : List Value => hex fun pvs : List Value =>
    star (row bd t_disk_Disk [lv q lasts.length c, .map (some m), iv fuse, u32v (if down then 1 else 0)]) (star (slAt t_sl_uint8 1 (lv q lasts.length c) cells) (star (ownL t_uint8 cells (lasts.map by8)) (star (mapAt m ((pend.map fun p => p.1).zip pvs)) (ownL t_uint8 pvs (pend.map fun p => by8 p.2)))))
section
variable {w : World} {L : List HP} {bd : Nat} {lasts : List (List UInt8)} {pend : List (Int × List UInt8)} {fuse : Int} {down : Bool}
theorem disk_open (h : St w (diskAt bd lasts pend fuse down :: L)) : ∃ q c m cells pvs,
    St w (row bd t_disk_Disk [lv q lasts.length c, .map (some m), iv fuse, u32v (if down then 1 else 0)] :: slAt t_sl_uint8 1 (lv q lasts.length c) cells :: ownL t_uint8 cells (lasts.map by8) :: mapAt m ((pend.map fun p => p.1).zip pvs) :: ownL t_uint8 pvs (pend.map fun p => by8 p.2) :: L) := by
  obtain ⟨q, h⟩ := h.ex
  obtain ⟨c, h⟩ := h.ex
  obtain ⟨m, h⟩ := h.ex
  obtain ⟨cells, h⟩ := h.ex
  obtain ⟨pvs, h⟩ := h.ex
  refine ⟨q, c, m, cells, pvs, ?_⟩
  exact h.star.ent (((Ent.star _ _ _).trans (((Ent.star _ _ _).trans ((Ent.star _ _ _).cons _)).cons _)).cons _)
theorem disk_mk {q : Option Addr} {c m : Nat} {cells pvs : List Value} (h : St w (row bd t_disk_Disk [lv q lasts.length c, .map (some m), iv fuse, u32v (if down then 1 else 0)] :: slAt t_sl_uint8 1 (lv q lasts.length c) cells :: ownL t_uint8 cells (lasts.map by8) :: mapAt m ((pend.map fun p => p.1).zip pvs) :: ownL t_uint8 pvs (pend.map fun p => by8 p.2) :: L)) :
    St w (diskAt bd lasts pend fuse down :: L) := by
  have h2 := (h.ent (((((((Ent.unstar _ _ _).cons _).trans (Ent.unstar _ _ _)).cons _).trans (Ent.unstar _ _ _)).cons _))).unstar
  exact h2.head fun x hx => ⟨q, c, m, cells, pvs, hx⟩

theorem initL_one (z : Value) : ∀ n, initL 1 n [z] = List.replicate n z := by
  intro n
  apply List.ext_getElem?
  intro i
  by_cases h : i < n
  · simp [initL, h, Nat.mod_one]
  · simp [initL, h]
theorem set_mid (cells : List Value) (z v : Value) (k i : Nat) (h : cells.length = i) (hi : i < k) : (cells ++ List.replicate (k - i) z).set i v = (cells ++ [v]) ++ List.replicate (k - (i + 1)) z := by
  subst h
  rw [show k - cells.length = (k - (cells.length + 1)) + 1 by omega, List.replicate_succ, List.set_append_right _ _ (by omega)]
  simp

theorem disk_New_s {w : World} {Fs : List HP} (n : Int) (hS : St w Fs) : Calls P k_disk_New #[iv n] w fun e w' =>
    (1 ≤ n ∧ n ≤ 8192 ∧ ∃ b, e = .returned (tv [pv (at0 b), iv 0]) ∧ St w' (diskAt b (List.replicate n.toNat zsec) [] (-1) false :: Fs)) ∨ (¬ (1 ≤ n ∧ n ≤ 8192) ∧ e = .returned (tv [.pointer none, iv 1]) ∧ St w' Fs) := by
  refine disk_New_of _ ?_
  by_cases c1 : n < 1
  · exact cond_td c1 (disk_New_j1002_of _ _ (cond_t rfl (.inr ⟨by omega, rfl, hS⟩)))
  refine cond_fd c1 (disk_New_j1002_of _ _ ?_)
  by_cases c2 : n > 8192
  · exact cond_td c2 (.inr ⟨by omega, rfl, hS⟩)
  refine cond_fd c2 ?_
  obtain ⟨k, rfl⟩ : ∃ k : Nat, n = k := ⟨n.toNat, by omega⟩
  refine mk_s (n := k) (c := k) hS (by omega) (by omega) (by omega) fun b w1 h1 => ?_
  refine mkmap h1 fun m w2 h2 => ?_
  refine bx (l := [lv (some (at0 b)) k k, .map (some m), iv (-1), u32v 0]) h2 rfl fun bd w3 h3 => ?_
  refine ⟨_, _, _, ld h3 rfl, ?_⟩
  rw [initL_one] at h3
  refine ⟨fun vs w => ∃ (i : Nat) (cells : List Value), i ≤ k ∧ cells.length = i ∧ vs = [pv (at0 bd), iv k, iv i] ∧
      St w (row bd t_disk_Disk [lv (some (at0 b)) k k, .map (some m), iv (-1), u32v 0] :: row b t_sl_uint8 (cells ++ List.replicate (k - i) (lv none 0 0)) :: ownL t_uint8 cells (List.replicate i (by8 zsec)) :: mapAt m [] :: Fs),
    fun vs _ => (k - cnt 2 vs).toNat, ⟨0, [], by omega, rfl, rfl, ?_⟩, ?_⟩
  · have h4 : St w3 (ownL t_uint8 [] [] :: row bd t_disk_Disk [lv (some (at0 b)) k k, .map (some m), iv (-1), u32v 0] :: mapAt m [] :: row b t_sl_uint8 (List.replicate k (lv none 0 0)) :: Fs) := ownL_nil h3
    have h5 : St w3 (row bd t_disk_Disk [lv (some (at0 b)) k k, .map (some m), iv (-1), u32v 0] :: row b t_sl_uint8 (List.replicate k (lv none 0 0)) :: ownL t_uint8 [] [] :: mapAt m [] :: Fs) := h4.re
    exact h5
  rintro _ w4 ⟨i, cells, hi, hc, rfl, h4⟩
  refine disk_New_b5_of _ _ _ ?_
  by_cases h : i < k
  · refine cond_td (by omega) ⟨fun w => St w (row bd t_disk_Disk [lv (some (at0 b)) k k, .map (some m), iv (-1), u32v 0] :: row b t_sl_uint8 (cells ++ List.replicate (k - i) (lv none 0 0)) :: ownL t_uint8 cells (List.replicate i (by8 zsec)) :: mapAt m [] :: Fs), h4.dr, _, _, _, fun w hw => ld hw rfl, ?_⟩
    refine mk_s (n := 64) (c := 64) h4.dr (by omega) (by omega) (by omega) fun bs w5 h5 => ?_
    refine ⟨h5.tail, by omega, ?_⟩
    have h6 : St w5 (row bs t_uint8 (by8 zsec) :: row bd t_disk_Disk [lv (some (at0 b)) k k, .map (some m), iv (-1), u32v 0] :: row b t_sl_uint8 (cells ++ List.replicate (k - i) (lv none 0 0)) :: ownL t_uint8 cells (List.replicate i (by8 zsec)) :: mapAt m [] :: Fs) := h5
    refine stox (o := 0) (b := b) h6 (by simp; omega) rfl fun w6 h7 => ?_
    have h8 : St w6 (row bs t_uint8 (by8 zsec) :: row bd t_disk_Disk [lv (some (at0 b)) k k, .map (some m), iv (-1), u32v 0] :: row b t_sl_uint8 ((cells ++ List.replicate (k - i) (lv none 0 0)).set (0 + i * 1) (lv (some (at0 bs)) 64 64)) :: ownL t_uint8 cells (List.replicate i (by8 zsec)) :: mapAt m [] :: Fs) := h7
    rw [show 0 + i * 1 = i by omega, set_mid _ _ _ _ _ hc h] at h8
    have h9 : St w6 (ownL t_uint8 cells (List.replicate i (by8 zsec)) :: slAt t_uint8 1 (lv (some (at0 bs)) 64 64) (by8 zsec) :: row bd t_disk_Disk [lv (some (at0 b)) k k, .map (some m), iv (-1), u32v 0] :: row b t_sl_uint8 ((cells ++ [lv (some (at0 bs)) 64 64]) ++ List.replicate (k - (i + 1)) (lv none 0 0)) :: mapAt m [] :: Fs) := (row_sl (sz := 1) (n := 64) h8 (by simp)).re
    have h10 := ownL_snoc h9
    rw [← List.replicate_succ'] at h10
    have e5 : w64 ((i : Int) + 1) = ((i + 1 : Nat) : Int) := w64_eq _ (by omega) (by omega)
    rw [e5]
    exact ⟨⟨i + 1, cells ++ [lv (some (at0 bs)) 64 64], by omega, by simp [hc], rfl, h10.re⟩, by simp [cnt]; omega⟩
  · refine cond_fd (by omega) (.inl ⟨by omega, by omega, bd, rfl, ?_⟩)
    have hik : i = k := by omega
    subst hik
    rw [Nat.sub_self, List.replicate_zero, List.append_nil] at h4
    have h5 := row_sl (sz := 1) (n := i) h4.f1 (by omega)
    refine disk_mk (q := some (at0 b)) (c := i) (m := m) (cells := cells) (pvs := []) ?_
    have h6 : St w4 (row bd t_disk_Disk [lv (some (at0 b)) i i, .map (some m), iv (-1), u32v 0] :: slAt t_sl_uint8 1 (lv (some (at0 b)) i i) cells :: ownL t_uint8 cells (List.replicate i (by8 zsec)) :: mapAt m [] :: Fs) := h5.re
    have h7 : St w4 (row bd t_disk_Disk [lv (some (at0 b)) i i, .map (some m), iv (-1), u32v 0] :: slAt t_sl_uint8 1 (lv (some (at0 b)) i i) cells :: ownL t_uint8 cells (List.replicate i (by8 zsec)) :: mapAt m [] :: ownL t_uint8 [] [] :: Fs) := (ownL_nil (T := t_uint8) h6).re
    have h8 : St w4 (row bd t_disk_Disk [lv (some (at0 b)) (List.replicate i zsec).length i, .map (some m), iv (-1), u32v (if false = true then 1 else 0)] :: slAt t_sl_uint8 1 (lv (some (at0 b)) (List.replicate i zsec).length i) cells :: ownL t_uint8 cells ((List.replicate i zsec).map by8) :: mapAt m [] :: ownL t_uint8 [] [] :: Fs) := by
      rw [List.length_replicate, List.map_replicate]; exact h7
    exact h8

theorem disk_Down_s {Fs : List HP} (hS : St w (diskAt bd lasts pend fuse down :: Fs)) : Calls P k_disk_Disk_Down #[pv (at0 bd)] w fun e w' => w = w' ∧ e = .returned (bv down) := by
  obtain ⟨q, c, m, cells, pvs, h⟩ := disk_open hS
  refine disk_Disk_Down_of _ ((atomic_Bool_Load_s (off := 3) h rfl).mono ?_)
  rintro _ _ ⟨rfl, rfl⟩
  refine ⟨_, rfl, rfl, ?_⟩
  cases down <;> rfl
theorem disk_Len_s {Fs : List HP} (hS : St w (diskAt bd lasts pend fuse down :: Fs)) : Calls P k_disk_Disk_Len #[pv (at0 bd)] w fun e w' => w = w' ∧ e = .returned (iv lasts.length) := by
  obtain ⟨q, c, m, cells, pvs, h⟩ := disk_open hS
  exact disk_Disk_Len_of _ ⟨_, _, _, ld h rfl, rfl, rfl⟩
def sectorE (n : Nat) (down : Bool) (i : Int) : Int := if down then 13 else if i < 0 ∨ i ≥ n then 1 else 0
theorem disk_sector_s {Fs : List HP} (i : Int) (hS : St w (diskAt bd lasts pend fuse down :: Fs)) : Calls P k_disk_Disk_sector #[pv (at0 bd), iv i] w fun e w' => w = w' ∧ e = .returned (iv (sectorE lasts.length down i)) := by
  obtain ⟨q, c, m, cells, pvs, h⟩ := disk_open hS
  refine disk_Disk_sector_of _ _ ((atomic_Bool_Load_s (off := 3) h rfl).mono ?_)
  rintro _ _ ⟨rfl, rfl⟩
  refine ⟨_, rfl, ?_⟩
  cases down with
  | true => exact cond_t rfl ⟨rfl, rfl⟩
  | false =>
    refine cond_f rfl ?_
    by_cases c1 : i < 0
    · refine cond_td c1 (disk_Disk_sector_j1004_of _ (cond_t rfl ⟨rfl, ?_⟩))
      simp [sectorE, c1]
    · refine cond_fd c1 ⟨_, _, _, ld h rfl, disk_Disk_sector_j1004_of _ ?_⟩
      by_cases c2 : i ≥ (lasts.length : Int)
      · refine cond_td c2 ⟨rfl, ?_⟩
        unfold sectorE; rw [if_neg (by simp), if_pos (.inr c2)]
      · refine cond_fd c2 ⟨rfl, ?_⟩
        unfold sectorE; rw [if_neg (by simp), if_neg (by omega)]

/-- What is read of a sector. -/
def readD (lasts : List (List UInt8)) (pend : List (Int × List UInt8)) (i : Nat) : List UInt8 := ((pend.find? fun p => p.1 == (i : Int)).map (·.2)).getD (lasts.getD i [])
theorem find_zip (i : Int) : ∀ (pend : List (Int × List UInt8)) (pvs : List Value), pvs.length = pend.length →
    ((pend.find? fun p => p.1 == i) = none ∧ getM ((pend.map fun p => p.1).zip pvs) i = none) ∨ ∃ (j : Nat) (p : Int × List UInt8) (v : Value), pend[j]? = some p ∧ (pend.find? fun p => p.1 == i) = some p ∧ pvs[j]? = some v ∧ getM ((pend.map fun p => p.1).zip pvs) i = some v
  | [], [], _ => .inl ⟨rfl, rfl⟩
  | p :: pend, v :: pvs, h => by
    by_cases hk : p.1 = i
    · exact .inr ⟨0, p, v, rfl, by simp [hk], rfl, by simp [getM, hk]⟩
    · have hp : (p.1 == i) = false := by simpa using hk
      rcases find_zip i pend pvs (by simpa using h) with ⟨h1, h2⟩ | ⟨j, p', v', h1, h2, h3, h4⟩
      · exact .inl ⟨by rw [List.find?_cons, hp]; exact h1, by unfold getM at *; simp only [List.map_cons, List.zip_cons_cons, List.find?_cons, hp]; exact h2⟩
      · exact .inr ⟨j + 1, p', v', by simpa using h1, by rw [List.find?_cons, hp]; exact h2, by simpa using h3, by unfold getM at *; simp only [List.map_cons, List.zip_cons_cons, List.find?_cons, hp]; exact h4⟩
  | [], _ :: _, h => by simp at h
  | _ :: _, [], h => by simp at h

theorem disk_Read_s {Fs : List HP} (i : Nat) (hi : i < lasts.length) (hl : ∀ s ∈ lasts, s.length ≤ 1048576) (hl2 : ∀ p ∈ pend, p.2.length ≤ 1048576) (hS : St w (diskAt bd lasts pend fuse false :: Fs)) :
    Calls P k_disk_Disk_Read #[pv (at0 bd), iv i] w fun e w' => ∃ q c, e = .returned (tv [lv q (readD lasts pend i).length c, iv 0]) ∧ St w' (bsAt (lv q (readD lasts pend i).length c) (readD lasts pend i) :: diskAt bd lasts pend fuse false :: Fs) := by
  refine disk_Disk_Read_of _ _ ((disk_sector_s _ hS).mono ?_)
  rintro _ _ ⟨rfl, rfl⟩
  have h0 : sectorE lasts.length false i = 0 := by unfold sectorE; rw [if_neg (by simp), if_neg (by omega)]
  refine ⟨_, rfl, cond_f (by rw [h0]; rfl) ?_⟩
  obtain ⟨q, c, m, cells, pvs, h⟩ := disk_open hS
  have hM : St w (mapAt m ((pend.map fun p => p.1).zip pvs) :: ownL t_uint8 pvs (pend.map fun p => by8 p.2) :: Fs) := h.tail.tail.tail
  have hpl : pvs.length = pend.length := by simpa using ownL_len hM.tail
  have hcl : cells.length = lasts.length := by simpa using ownL_len h.tail.tail
  refine ⟨some m, ldx (o := 0) h rfl, ?_⟩
  have hlk := lk (P := P) (t := t_m_int_sl_uint8) (i : Int) hM
  rcases find_zip (i : Int) pend pvs hpl with ⟨h1, h2⟩ | ⟨j, p, v, h1, h2, h3, h4⟩
  · rw [h2] at hlk
    have hr : readD lasts pend i = lasts[i] := by
      unfold readD; rw [h1]; simp [List.getD_eq_getElem?_getD, hi]
    refine ⟨none, 0, 0, false, _, hlk, cond_f rfl ⟨_, _, _, ld h rfl, by omega, ?_⟩⟩
    have hcell : cells[i]? = some cells[i] := List.getElem?_eq_getElem (by omega)
    have hx : (lasts.map by8)[i]? = some (by8 lasts[i]) := by simp [hi]
    obtain ⟨qa, na, ca, hv⟩ := (ownL_vc h.tail.tail hcell hx).form
    rw [hv] at hcell
    have hR : Rd (slAt t_sl_uint8 1 (lv q lasts.length c) cells :: ownL t_uint8 cells (lasts.map by8) :: mapAt m ((pend.map fun p => p.1).zip pvs) :: ownL t_uint8 pvs (pend.map fun p => by8 p.2) :: Fs) 1 (lv q lasts.length c) cells := Rd.of_sl (T := t_sl_uint8)
    refine rd_ld hR h.tail hcell fun a ha => ⟨_, _, _, ha w h.tail, ?_⟩
    refine (slices_Clone_bytes (bs := lasts[i]) h (Rd.of_own (T := t_uint8) hcell hx) (by have := hl _ (List.getElem_mem hi); omega)).mono ?_
    rintro _ w1 ⟨q1, c1, rfl, hw1⟩
    refine ⟨_, _, _, rfl, q1, c1, by rw [hr], ?_⟩
    rw [hr]
    exact (disk_mk (q := q) (c := c) (m := m) (cells := cells) (pvs := pvs) hw1.re).f1
  · rw [h4] at hlk
    have hr : readD lasts pend i = p.2 := by
      unfold readD; rw [h2]; rfl
    have hx : (pend.map fun p => by8 p.2)[j]? = some (by8 p.2) := by simp [h1]
    obtain ⟨qa, na, ca, rfl⟩ := (ownL_vc hM.tail h3 hx).form
    refine ⟨qa, na, ca, true, _, hlk, cond_t rfl ?_⟩
    refine (slices_Clone_bytes (bs := p.2) h (((Rd.of_own (T := t_uint8) h3 hx).cons _).cons _ |>.cons _ |>.cons _) (by have := hl2 _ (List.mem_of_getElem? h1); omega)).mono ?_
    rintro _ w1 ⟨q1, c1, rfl, hw1⟩
    refine ⟨_, _, _, rfl, q1, c1, by rw [hr], ?_⟩
    rw [hr]
    exact (disk_mk (q := q) (c := c) (m := m) (cells := cells) (pvs := pvs) hw1.re).f1
end
end Go.Proofs.Tz
namespace Go.Proofs.Tz
open Go.W
set_option maxRecDepth 20000

/-! The text of sectors. -/
def markOk (bs : List UInt8) (i : Nat) : Bool := decide ((bs.getD (i * 64) 0).toNat = if i = 0 then 1 else 2)
def textOf (bs : List UInt8) (n : Nat) : List UInt8 := ((List.range n).map fun j => (bs.drop (j * 64 + 1)).take 63).flatten
def liftsOf (bs : List UInt8) (n : Nat) : Option (List UInt8) := if n * 64 ≤ bs.length ∧ (List.range n).all (markOk bs) = true then some (textOf bs n) else none
theorem textOf_succ (bs : List UInt8) (n : Nat) : textOf bs (n + 1) = textOf bs n ++ (bs.drop (n * 64 + 1)).take 63 := by
  simp [textOf, List.range_succ]
theorem textOf_len (bs : List UInt8) : ∀ n, n * 64 ≤ bs.length → (textOf bs n).length = 63 * n
  | 0, _ => rfl
  | n + 1, h => by
    rw [textOf_succ, List.length_append, textOf_len bs n (by omega), List.length_take, List.length_drop]; omega
theorem by8_part (bs : List UInt8) (lo n : Nat) : ((by8 bs).drop (lo * 1)).take (n * 1) = by8 ((bs.drop lo).take n) := by
  simp [by8, List.map_take, List.map_drop]
theorem by8_at (bs : List UInt8) (i : Nat) (h : i < bs.length) : (by8 bs)[i]? = some (u8v (bs.getD i 0)) := by
  simp [by8, h, List.getD_eq_getElem?_getD]
theorem u8_ne (x : UInt8) (k : Nat) : (((x.toNat : Int)) != (k : Int)) = !decide (x.toNat = k) := by
  by_cases h : x.toNat = k
  · rw [h]; simp
  · have : ((x.toNat : Int)) ≠ (k : Int) := by omega
    rw [decide_eq_false h]; simpa using this

def LiftsPost (bs : List UInt8) (n : Nat) (Fs : List HP) (e : Ending) (w' : World) : Prop :=
  match liftsOf bs n with
  | some out => ∃ q c, e = .returned (tv [lv q out.length c, bv true]) ∧ St w' (bsAt (lv q out.length c) out :: Fs)
  | none => e = .returned (tv [lv none 0 0, bv false]) ∧ St w' Fs
theorem frame_lifts_s {w : World} {Fs : List HP} {p : Option Addr} {l c : Nat} {bs : List UInt8} (n : Nat) (hn : n ≤ 16777216) (hS : St w Fs) (hb : Rd Fs 1 (lv p l c) (by8 bs)) (hl : bs.length ≤ 1073741824) :
    Calls P k_frame_lifts #[lv p l c, iv n] w (LiftsPost bs n Fs) := by
  have hlen : bs.length = l ∧ l ≤ c := by simpa using hb.len hS
  refine frame_lifts_of _ _ _ _ ?_
  have e0 : w64 ((n : Int) * 64) = ((n * 64 : Nat) : Int) := w64_eq _ (by omega) (by omega)
  rw [e0]
  by_cases c1 : l < n * 64
  · refine cond_td (by unfold ln; omega) ?_
    unfold LiftsPost liftsOf; rw [if_neg (by omega)]
    exact ⟨rfl, hS⟩
  refine cond_fd (by unfold ln; omega) ?_
  refine ⟨fun vs w => ∃ (i : Nat) (q : Option Addr) (k : Nat), i ≤ n ∧ vs = [lv p l c, lv q (63 * i) k, iv n, iv i] ∧ (∀ j, j < i → markOk bs j = true) ∧ St w (bsAt (lv q (63 * i) k) (textOf bs i) :: Fs), fun vs _ => (n - cnt 3 vs).toNat,
    ⟨0, none, 0, by omega, rfl, fun j hj => by omega, mk_slNil hS⟩, ?_⟩
  rintro _ w1 ⟨i, q, k, hi, rfl, hm, h1⟩
  refine frame_lifts_b5_of _ _ _ _ _ _ _ _ ?_
  by_cases h : i < n
  · refine cond_td (by omega) ?_
    have e1 : w64 ((i : Int) * 64) = ((i * 64 : Nat) : Int) := w64_eq _ (by omega) (by omega)
    have e2 : w64 ((i : Int) + 1) = ((i + 1 : Nat) : Int) := w64_eq _ (by omega) (by omega)
    have e3 : w64 (((i + 1 : Nat) : Int) * 64) = (((i + 1) * 64 : Nat) : Int) := w64_eq _ (by omega) (by omega)
    rw [e1, e2, e3]
    refine ⟨_, _, _, slc_run (lo := i * 64) (hi := (i + 1) * 64) (by omega) (by omega) (.inl rfl) (.inl rfl), ?_⟩
    have hR := (hb.cons (bsAt (lv q (63 * i) k) (textOf bs i))).slice (lo := i * 64) (hi := (i + 1) * 64) (by omega) (by omega)
    rw [by8_part] at hR
    generalize (if c = i * 64 then p else p.map (·.add (i * 64 * 1))) = q1 at hR ⊢
    rw [show (i + 1) * 64 - i * 64 = 64 by omega] at hR ⊢
    have hclen : ((bs.drop (i * 64)).take 64).length = 64 := by simp; omega
    have h0 : (by8 ((bs.drop (i * 64)).take 64))[0]? = some (u8v (bs.getD (i * 64) 0)) := by
      rw [by8_at _ _ (by omega)]
      congr 2
      simp [List.getD_eq_getElem?_getD, List.getElem?_drop]
    have hc1 : 64 ≤ c - i * 64 := by omega
    have hj : ∀ t, t = !markOk bs i → frame_lifts_j1009 (LiftsPost bs n Fs) (fun vs w => (∃ (i : Nat) (q : Option Addr) (k : Nat), i ≤ n ∧ vs = [lv p l c, lv q (63 * i) k, iv n, iv i] ∧ (∀ j, j < i → markOk bs j = true) ∧ St w (bsAt (lv q (63 * i) k) (textOf bs i) :: Fs)) ∧
        (n - cnt 3 vs).toNat < (n - cnt 3 [lv p l c, lv q (63 * i) k, iv n, iv i]).toNat) [lv p l c, lv q (63 * i) k, lv q1 64 (c - i * 64), iv n, iv i, bv t] w1 := by
      intro t ht
      refine frame_lifts_j1009_of _ _ _ _ _ _ _ _ _ _ _ _ ?_
      cases hmi : markOk bs i with
      | false =>
        rw [hmi] at ht
        refine cond_t ht ?_
        unfold LiftsPost liftsOf; rw [if_neg]
        · exact ⟨rfl, h1.tail⟩
        · rintro ⟨_, hall⟩
          have := List.all_eq_true.1 hall i (by simpa using h)
          rw [hmi] at this; cases this
      | true =>
        rw [hmi] at ht
        refine cond_f ht ⟨_, _, _, slc_run (lo := 1) (hi := 64) (by omega) (by omega) (.inl rfl) (.inr ⟨rfl, rfl⟩), ?_⟩
        have hR2 := hR.slice (lo := 1) (hi := 64) (by omega) (by omega)
        rw [by8_part, List.drop_take, List.drop_drop, List.take_take] at hR2
        rw [show min (64 - 1) (64 - 1) = 63 by omega] at hR2
        have hclen2 : ((bs.drop (i * 64 + 1)).take 63).length = 63 := by simp; omega
        refine ap h1 (hR2 w1 h1) (by8_sc _) (by omega) (by simp [textOf_len bs i (by omega)]; omega) fun q4 c4 w4 h4 => ?_
        rw [by8_app, ← textOf_succ] at h4
        have e5 : ((by8 (textOf bs i)).length + (by8 ((bs.drop (i * 64 + 1)).take 63)).length) / 1 = 63 * (i + 1) := by
          rw [List.length_map, List.length_map, hclen2, textOf_len bs i (by omega)]; omega
        rw [e5] at h4 ⊢
        rw [e2]
        refine ⟨⟨i + 1, q4, c4, by omega, rfl, fun j hj => ?_, h4⟩, by simp [cnt]; omega⟩
        by_cases hji : j = i
        · subst hji; exact hmi
        · exact hm j (by omega)
    have hmk := u8_ne (bs.getD (i * 64) 0)
    by_cases hi0 : i = 0
    · subst hi0
      refine cond_t rfl ⟨by omega, rd_ld (i := 0) hR h1 h0 fun a ha => ⟨_, ha w1 h1, ?_⟩⟩
      have hm1 : (((bs.getD (0 * 64) 0).toNat : Int) != 1) = !markOk bs 0 := hmk 1
      cases hb1 : (((bs.getD (0 * 64) 0).toNat : Int) != 1) with
      | true => exact cond_t rfl (hj true (by rw [← hm1, hb1]))
      | false => exact cond_f rfl (cond_f (by decide) (hj false (by rw [← hm1, hb1])))
    · have hz : ((i : Int) == 0) = false := by simpa using hi0
      refine cond_f hz (cond_td (by omega) ⟨by omega, rd_ld (i := 0) hR h1 h0 fun a ha => ⟨_, ha w1 h1, ?_⟩⟩)
      refine hj _ ?_
      unfold markOk; rw [if_neg hi0]; exact hmk 2
  · refine cond_fd (by omega) ?_
    have hin : i = n := by omega
    subst hin
    unfold LiftsPost liftsOf
    rw [if_pos ⟨by omega, List.all_eq_true.2 fun j hj => hm j (by simpa using hj)⟩]
    have := textOf_len bs i (by omega)
    exact ⟨q, k, by rw [this], by rw [this]; exact h1⟩
end Go.Proofs.Tz
namespace Go.Proofs.Tz
open Go.W
set_option maxRecDepth 20000

theorem frame_Get_none {w : World} {Fs : List HP} {p : Option Addr} {l c bt : Nat} {bs : List UInt8} (hS : St w Fs) (hb : Rd Fs 1 (lv p l c) (by8 bs)) (hl : bs.length ≤ 1073741824) (h0 : liftsOf bs 1 = none) :
    Calls P k_frame_Get #[pv (at0 bt), lv p l c] w fun e w' => e = .returned (tv [.agg #[iv 0, iv 0, iv 0, lv none 0 0], iv 0, iv 2]) ∧ St w' Fs := by
  refine frame_Get_of _ _ _ _ ?_
  refine al hS fun b w1 h1 => ?_
  refine (frame_lifts_s 1 (by omega) h1 (hb.cons _) hl).mono ?_
  intro e w2 hp
  unfold LiftsPost at hp
  rw [h0] at hp
  obtain ⟨rfl, h2⟩ := hp
  refine ⟨_, _, _, _, rfl, cond_t rfl ?_⟩
  refine stoA (n := 4) (vs := [iv 0, iv 0, iv 0, lv none 0 0]) (off := 0) h2 rfl (by simp) (by intro u hu; simp at hu; rcases hu with rfl | rfl <;> rfl) fun w3 h3 => ?_
  refine ⟨0, 0, 0, none, 0, 0, ldA (n := 4) (vs := [iv 0, iv 0, iv 0, lv none 0 0]) h3 rfl rfl, rfl, h3.tail⟩

section
variable {w : World} {Fs : List HP} {bj bd bt T : Nat} {jl : List Value} {lasts : List (List UInt8)} {pend : List (Int × List UInt8)} {fuse : Int} {down : Bool}
theorem journal_size_s (hS : St w (diskAt bd lasts pend fuse down :: row bj T jl :: Fs)) (h1 : jl[1]? = some (pv (at0 bd))) (hl : lasts.length ≤ 1048576) :
    Calls P k_journal_Journal_size #[pv (at0 bj)] w fun e w' => w = w' ∧ e = .returned (iv ((lasts.length / 2 : Nat))) := by
  refine journal_Journal_size_of _ ⟨some (at0 bd), ldx (o := 0) hS (by simpa using h1), (disk_Len_s hS).mono ?_⟩
  rintro _ _ ⟨rfl, rfl⟩
  refine ⟨_, rfl, rfl, ?_⟩
  have : w64 (Int.tdiv (lasts.length : Int) 2) = ((lasts.length / 2 : Nat) : Int) := w64_eq _ (by rw [Int.tdiv_eq_ediv_of_nonneg (by omega)]; omega) (by omega)
  rw [this]

/-- The bytes of sectors, one behind the other. -/
def secs (lasts : List (List UInt8)) (pend : List (Int × List UInt8)) (lo n : Nat) : List UInt8 := ((List.range n).map fun i => readD lasts pend (lo + i)).flatten
theorem secs_succ (lasts : List (List UInt8)) (pend : List (Int × List UInt8)) (lo n : Nat) : secs lasts pend lo (n + 1) = secs lasts pend lo n ++ readD lasts pend (lo + n) := by
  simp [secs, List.range_succ]
theorem readD_len (h1 : ∀ s ∈ lasts, s.length = 64) (h2 : ∀ p ∈ pend, p.2.length = 64) (i : Nat) (hi : i < lasts.length) : (readD lasts pend i).length = 64 := by
  unfold readD
  cases hf : pend.find? fun p => p.1 == (i : Int) with
  | none => simp [List.getD_eq_getElem?_getD, hi]; exact h1 _ (List.getElem_mem hi)
  | some p => exact h2 p (List.mem_of_find?_eq_some hf)
theorem secs_len (h1 : ∀ s ∈ lasts, s.length = 64) (h2 : ∀ p ∈ pend, p.2.length = 64) (lo : Nat) : ∀ n, lo + n ≤ lasts.length → (secs lasts pend lo n).length = 64 * n
  | 0, _ => rfl
  | n + 1, h => by rw [secs_succ, List.length_append, secs_len h1 h2 lo n (by omega), readD_len h1 h2 _ (by omega)]; omega

theorem journal_read_s (half : Nat) (hh : half ≤ 1) (hS : St w (diskAt bd lasts pend fuse false :: row bj T jl :: Fs)) (h1 : jl[1]? = some (pv (at0 bd))) (hl : lasts.length ≤ 1048576) (hs1 : ∀ s ∈ lasts, s.length = 64) (hs2 : ∀ p ∈ pend, p.2.length = 64) :
    Calls P k_journal_Journal_read #[pv (at0 bj), iv half] w (RetB (secs lasts pend (half * (lasts.length / 2)) (lasts.length / 2)) (diskAt bd lasts pend fuse false :: row bj T jl :: Fs)) := by
  have hhalf : half * (lasts.length / 2) + lasts.length / 2 ≤ lasts.length := by
    rcases (by omega : half = 0 ∨ half = 1) with rfl | rfl <;> omega
  refine journal_Journal_read_of _ _ ((journal_size_s hS h1 hl).mono ?_)
  rintro _ _ ⟨rfl, rfl⟩
  refine ⟨_, rfl, ?_⟩
  generalize hlo : half * (lasts.length / 2) = lo at hhalf ⊢
  generalize hnn : lasts.length / 2 = n at hhalf hlo ⊢
  refine ⟨fun vs w => ∃ (i : Nat) (q : Option Addr) (k : Nat), i ≤ n ∧ vs = [pv (at0 bj), iv half, lv q (64 * i) k, iv n, iv i] ∧ St w (bsAt (lv q (64 * i) k) (secs lasts pend lo i) :: diskAt bd lasts pend fuse false :: row bj T jl :: Fs), fun vs _ => (n - cnt 4 vs).toNat,
    ⟨0, none, 0, by omega, rfl, mk_slNil hS⟩, ?_⟩
  rintro _ w1 ⟨i, q, k, hi, rfl, hw1⟩
  refine journal_Journal_read_b3_of _ _ _ _ _ _ _ ?_
  by_cases h : i < n
  · refine cond_td (by omega) ⟨fun w => St w (bsAt (lv q (64 * i) k) (secs lasts pend lo i) :: diskAt bd lasts pend fuse false :: row bj T jl :: Fs), hw1.dr, some (at0 bd), fun w hw => ldx (o := 0) hw (by simpa using h1), ?_⟩
    have hD : St (W.dr w1) (diskAt bd lasts pend fuse false :: row bj T jl :: bsAt (lv q (64 * i) k) (secs lasts pend lo i) :: Fs) := hw1.dr.re
    refine (journal_size_s hD h1 hl).mono ?_
    rintro _ _ ⟨rfl, rfl⟩
    refine ⟨_, rfl, hw1.dr, ?_⟩
    rw [hnn]
    have e1 : w64 (w64 ((half : Int) * (n : Int)) + (i : Int)) = ((lo + i : Nat) : Int) := by
      have e0 : w64 ((half : Int) * (n : Int)) = (lo : Int) := w64_eq lo (by rw [← hlo]; push_cast; rfl) (by omega)
      rw [e0]
      exact w64_eq _ (by push_cast; rfl) (by omega)
    rw [e1]
    refine (disk_Read_s (lo + i) (by omega) (fun s h => by rw [hs1 s h]; omega) (fun p h => by rw [hs2 p h]; omega) hD).mono ?_
    rintro _ w2 ⟨q2, c2, rfl, h2⟩
    refine ⟨_, _, _, _, rfl, cond_f rfl ?_⟩
    have hrl := readD_len hs1 hs2 (lo + i) (by omega)
    have hsl := secs_len hs1 hs2 lo i (by omega)
    have h3 : St w2 (bsAt (lv q (64 * i) k) (secs lasts pend lo i) :: bsAt (lv q2 (readD lasts pend (lo + i)).length c2) (readD lasts pend (lo + i)) :: diskAt bd lasts pend fuse false :: row bj T jl :: Fs) := h2.re
    refine ap h3 (vc_sl h3.f1) (by8_sc _) (by omega) (by simp [hsl, hrl]; omega) fun q4 c4 w4 h4 => ?_
    rw [by8_app, ← secs_succ] at h4
    have e5 : ((by8 (secs lasts pend lo i)).length + (by8 (readD lasts pend (lo + i))).length) / 1 = 64 * (i + 1) := by
      rw [List.length_map, List.length_map, hsl, hrl]; omega
    rw [e5] at h4 ⊢
    have e2 : w64 ((i : Int) + 1) = ((i + 1 : Nat) : Int) := w64_eq _ (by omega) (by omega)
    rw [e2]
    exact ⟨⟨i + 1, q4, c4, by omega, rfl, h4.re⟩, by simp [cnt]; omega⟩
  · refine cond_fd (by omega) ?_
    have hin : i = n := by omega
    subst hin
    have hsl := secs_len hs1 hs2 lo i (by omega)
    exact ⟨q, k, by rw [hsl], by rw [hsl]; exact hw1⟩

theorem journal_takes_none {p : Option Addr} {l c : Nat} {bs : List UInt8} (half : Int) (hS : St w (row bj T jl :: Fs)) (h1 : jl[0]? = some (pv (at0 bt))) (hb : Rd Fs 1 (lv p l c) (by8 bs)) (hl : bs.length ≤ 1073741824) (h0 : liftsOf bs 1 = none) :
    Calls P k_journal_Journal_takes #[pv (at0 bj), iv half, lv p l c] w fun e w' => e = .returned (tv []) ∧ St w' (row bj T jl :: Fs) := by
  refine journal_Journal_takes_of _ _ _ _ _ ⟨some (at0 bt), ld hS h1, (frame_Get_none hS (hb.cons _) hl h0).mono ?_⟩
  rintro _ w1 ⟨rfl, h2⟩
  refine ⟨0, 0, 0, none, 0, 0, 0, 2, rfl, ?_⟩
  refine al h2 fun b w2 h3 => ?_
  refine stoA (n := 4) (vs := [iv 0, iv 0, iv 0, lv none 0 0]) (off := 0) h3 rfl (by simp) (by intro u hu; simp at hu; rcases hu with rfl | rfl <;> rfl) fun w3 h4 => ?_
  exact ⟨fun _ => True, trivial, cond_t rfl ⟨rfl, h4.tail.dr⟩⟩

theorem journal_follows_none {p : Option Addr} {l c : Nat} {bs : List UInt8} (a : Nat) (hS : St w (row bj T jl :: Fs)) (h1 : jl[0]? = some (pv (at0 bt))) (h8 : jl[8]? = some (iv a)) (ha : a * 64 ≤ bs.length) (hb : Rd Fs 1 (lv p l c) (by8 bs)) (hl : bs.length ≤ 1073741824) (h0 : liftsOf (bs.drop (a * 64)) 1 = none) :
    Calls P k_journal_Journal_follows #[pv (at0 bj), lv p l c] w fun e w' => e = .returned (tv []) ∧ St w' (row bj T jl :: Fs) := by
  have hlen : bs.length = l ∧ l ≤ c := by simpa using hb.len hS.tail
  refine journal_Journal_follows_of _ _ _ _ ⟨fun vs w => vs = [pv (at0 bj), lv p l c] ∧ St w (row bj T jl :: Fs), fun _ _ => 0, ⟨rfl, hS⟩, ?_⟩
  rintro _ w1 ⟨rfl, hw1⟩
  refine journal_Journal_follows_b1000_of _ _ _ _ ⟨fun w => St w (row bj T jl :: Fs), hw1.dr, some (at0 bt), fun w hw => ld hw h1, _, fun w hw => ldx (o := 0) hw (by simpa using h8), ?_⟩
  have e1 : w64 ((a : Int) * 64) = ((a * 64 : Nat) : Int) := w64_eq _ (by omega) (by omega)
  rw [e1]
  refine ⟨_, _, _, fun w _ => slc_run (lo := a * 64) (hi := l) (by omega) (by omega) (.inl rfl) (.inr ⟨rfl, rfl⟩), ?_⟩
  have hR := (hb.cons (row bj T jl)).slice (lo := a * 64) (hi := l) (by omega) (by omega)
  rw [by8_part] at hR
  rw [List.take_of_length_le (by simp; omega)] at hR
  generalize (if c = a * 64 then p else p.map (·.add (a * 64 * 1))) = q1 at hR ⊢
  have hend : ∀ (b : Nat) (w2 : World) (K : List Value → World → Prop), St w2 (row b 206 [iv 0, iv 0, iv 0, lv none 0 0] :: row bj T jl :: Fs) → journal_Journal_follows_j1 (fun e w' => e = .returned (tv []) ∧ St w' (row bj T jl :: Fs)) K [pv (at0 bj), lv p l c, pv (at0 b), iv 0, iv 2] w2 := fun b w2 K h2 =>
    journal_Journal_follows_j1_of _ _ _ _ _ _ _ ⟨fun _ => True, trivial, cond_t rfl ⟨rfl, h2.tail.dr⟩⟩
  constructor
  · refine (frame_Get_none hw1.dr hR (by simp; omega) h0).mono ?_
    rintro _ w2 ⟨rfl, h2⟩
    refine ⟨0, 0, 0, none, 0, 0, 0, 2, rfl, ?_⟩
    refine al h2 fun b w3 h3 => ⟨h3.tail, ?_⟩
    refine stoA (n := 4) (vs := [iv 0, iv 0, iv 0, lv none 0 0]) (off := 0) h3 rfl (by simp) (by intro u hu; simp at hu; rcases hu with rfl | rfl <;> rfl) fun w4 h4 => ?_
    exact hend b w4 _ h4
  · refine al hw1.dr fun b w3 h3 => ⟨h3.tail, ?_⟩
    refine (frame_Get_none h3 (hR.cons _) (by simp; omega) h0).mono ?_
    rintro _ w2 ⟨rfl, h2⟩
    refine ⟨0, 0, 0, none, 0, 0, 0, 2, rfl, ?_⟩
    refine stoA (n := 4) (vs := [iv 0, iv 0, iv 0, lv none 0 0]) (off := 0) h2 rfl (by simp) (by intro u hu; simp at hu; rcases hu with rfl | rfl <;> rfl) fun w4 h4 => ?_
    exact hend b w4 _ h4

/-- A disk on which nothing lasts that is a journal. -/
theorem journal_Open_none (hS : St w (diskAt bd lasts pend fuse false :: Fs)) (hl : lasts.length ≤ 1048576) (hs1 : ∀ s ∈ lasts, s.length = 64) (hs2 : ∀ p ∈ pend, p.2.length = 64)
    (h0 : liftsOf (secs lasts pend 0 (lasts.length / 2)) 1 = none) (h1 : liftsOf (secs lasts pend (lasts.length / 2) (lasts.length / 2)) 1 = none) :
    Calls P k_journal_Open #[pv (at0 bt), pv (at0 bd)] w fun e w' => ∃ bj, e = .returned (pv (at0 bj)) ∧ St w' (row bj t_journal_Journal [pv (at0 bt), pv (at0 bd), bv false, iv 0, iv 0, bv false, lv none 0 0, lv none 0 0, iv 0] :: diskAt bd lasts pend fuse false :: Fs) := by
  refine journal_Open_of _ _ ((disk_Down_s hS).mono ?_)
  rintro _ _ ⟨rfl, rfl⟩
  refine ⟨_, rfl, ?_⟩
  refine bx (l := [pv (at0 bt), pv (at0 bd), bv false, iv 0, iv 0, bv false, lv none 0 0, lv none 0 0, iv 0]) hS rfl fun bj w1 hw1 => ⟨_, ld hw1 rfl, cond_f rfl ?_⟩
  generalize hjl : [pv (at0 bt), pv (at0 bd), bv false, iv 0, iv 0, bv false, lv none 0 0, lv none 0 0, iv 0] = jl at hw1 ⊢
  have hj0 : jl[0]? = some (pv (at0 bt)) := by rw [← hjl]; rfl
  have hj1 : jl[1]? = some (pv (at0 bd)) := by rw [← hjl]; rfl
  have hj3 : jl[3]? = some (iv 0) := by rw [← hjl]; rfl
  have hj8 : jl[8]? = some (iv (0 : Nat)) := by rw [← hjl]; rfl
  refine (journal_read_s 0 (by omega) hw1.f1 hj1 hl hs1 hs2).mono ?_
  rintro _ w2 ⟨q2, c2, rfl, h2⟩
  refine ⟨_, _, _, rfl, ?_⟩
  rw [Nat.zero_mul] at h2 ⊢
  have h3 : St w2 (diskAt bd lasts pend fuse false :: row bj t_journal_Journal jl :: bsAt (lv q2 (secs lasts pend 0 (lasts.length / 2)).length c2) (secs lasts pend 0 (lasts.length / 2)) :: Fs) := h2.re
  refine (journal_read_s 1 (by omega) h3 hj1 hl hs1 hs2).mono ?_
  rintro _ w4 ⟨q4, c4, rfl, h4⟩
  refine ⟨_, _, _, rfl, ?_⟩
  rw [Nat.one_mul] at h4 ⊢
  have hl0 := secs_len (pend := pend) hs1 hs2 0 (lasts.length / 2) (by omega)
  have hl1 := secs_len (pend := pend) hs1 hs2 (lasts.length / 2) (lasts.length / 2) (by omega)
  generalize hb0 : secs lasts pend 0 (lasts.length / 2) = b0 at h0 h4 hl0 ⊢
  generalize hb1 : secs lasts pend (lasts.length / 2) (lasts.length / 2) = b1 at h1 h4 hl1 ⊢
  refine bs (cs := [lv q2 b0.length c2, lv q4 b1.length c4]) h4 (filled_of rfl) (by omega) fun bh w5 h5 => ?_
  refine ⟨fun vs w => ∃ i : Nat, i ≤ 2 ∧ vs = [pv (at0 bj), lv (some (at0 bh)) 2 2, lv (some (at0 bh)) 2 2, iv 2, iv i] ∧ St w (row bj t_journal_Journal jl :: row bh t_sl_uint8 [lv q2 b0.length c2, lv q4 b1.length c4] :: bsAt (lv q2 b0.length c2) b0 :: bsAt (lv q4 b1.length c4) b1 :: diskAt bd lasts pend fuse false :: Fs),
    fun vs _ => (2 - cnt 4 vs).toNat, ⟨0, by omega, rfl, h5.re⟩, ?_⟩
  rintro _ w6 ⟨i, hi, rfl, h6⟩
  refine journal_Open_b6_of _ _ _ _ _ _ _ _ _ ?_
  have hR0 : Rd (row bh t_sl_uint8 [lv q2 b0.length c2, lv q4 b1.length c4] :: bsAt (lv q2 b0.length c2) b0 :: bsAt (lv q4 b1.length c4) b1 :: diskAt bd lasts pend fuse false :: Fs) 1 (lv q2 b0.length c2) (by8 b0) := Rd.of_sl (T := t_uint8)
  have hR1 : Rd (row bh t_sl_uint8 [lv q2 b0.length c2, lv q4 b1.length c4] :: bsAt (lv q2 b0.length c2) b0 :: bsAt (lv q4 b1.length c4) b1 :: diskAt bd lasts pend fuse false :: Fs) 1 (lv q4 b1.length c4) (by8 b1) := Rd.of_sl (T := t_uint8)
  by_cases h : i < 2
  · refine cond_td (by omega) ⟨by omega, ?_⟩
    have e2 : w64 ((i : Int) + 1) = ((i + 1 : Nat) : Int) := w64_eq _ (by omega) (by omega)
    rw [e2]
    rcases (by omega : i = 0 ∨ i = 1) with rfl | rfl
    · refine ⟨_, _, _, ldx (o := 0) h6 rfl, (journal_takes_none _ h6 hj0 hR0 (by omega) h0).mono ?_⟩
      rintro _ w7 ⟨rfl, h7⟩
      exact ⟨rfl, ⟨1, by omega, rfl, h7⟩, by simp [cnt]⟩
    · refine ⟨_, _, _, ldx (o := 0) h6 rfl, (journal_takes_none _ h6 hj0 hR1 (by omega) h1).mono ?_⟩
      rintro _ w7 ⟨rfl, h7⟩
      exact ⟨rfl, ⟨2, by omega, rfl, h7⟩, by simp [cnt]⟩
  · refine cond_fd (by omega) ⟨_, ldx (o := 0) h6 (by simpa using hj3), by omega, ?_⟩
    refine ⟨_, _, _, ldx (o := 0) h6 rfl, (journal_follows_none 0 h6 hj0 hj8 (by omega) hR0 (by omega) (by simpa using h0)).mono ?_⟩
    rintro _ w7 ⟨rfl, h7⟩
    exact ⟨rfl, bj, rfl, h7.re⟩
end
end Go.Proofs.Tz
namespace Go.Proofs.Tz
open Go.W
set_option maxRecDepth 20000

section
variable {w : World} {Fs : List HP} {bt bm : Nat}
theorem meter_Add_s {l : List Int} (k : Nat) (n : Int) (hk : k < 8) (hl : l.length = 8) (hS : St w (meterAt bm l :: Fs)) :
    Calls P k_meter_Meter_Add #[pv (at0 bm), iv k, iv n] w fun e w' => e = .returned (bv true) ∧ St w' (meterAt bm (l.set k (w64 (l.getD k 0 + n))) :: Fs) := by
  refine meter_Meter_Add_of _ _ _ ?_
  refine (meter_has_p _).call ⟨_, rfl, ?_⟩
  have hb : (decide (0 ≤ (k : Int)) && decide ((k : Int) < 8)) = true := by simp; omega
  refine cond_t hb ⟨by omega, ?_⟩
  rw [add_mk]
  have hx : (l.map fun n => iv n)[0 + (k : Int).toNat * 1]? = some (iv (l.getD k 0)) := by
    simp [hl, hk, List.getD_eq_getElem?_getD]
  refine (atomic_Int64_Add_s n hS hx).mono ?_
  rintro _ w1 ⟨rfl, h1⟩
  refine ⟨_, rfl, meter_Meter_Add_j3_of _ ((meter_has_p _).call ⟨_, rfl, ?_, ?_⟩)⟩
  · rw [hb]
  · have e : (l.set k (w64 (l.getD k 0 + n))).map (fun n => iv n) = (l.map fun n => iv n).set (0 + (k : Int).toNat * 1) (iv (w64 (l.getD k 0 + n))) := by
      simp [List.map_set]
    unfold meterAt
    rw [e]; exact h1
theorem meter_Get_s {l : List Int} (k : Nat) (hk : k < 8) (hl : l.length = 8) (hS : St w (meterAt bm l :: Fs)) :
    Calls P k_meter_Meter_Get #[pv (at0 bm), iv k] w fun e w' => w = w' ∧ e = .returned (iv (l.getD k 0)) := by
  refine meter_Meter_Get_of _ _ ?_
  refine (meter_has_p _).call ⟨_, rfl, ?_⟩
  have hb : (decide (0 ≤ (k : Int)) && decide ((k : Int) < 8)) = true := by simp; omega
  refine cond_t hb ⟨by omega, ?_⟩
  rw [add_mk]
  have hx : (l.map fun n => iv n)[0 + (k : Int).toNat * 1]? = some (iv (l.getD k 0)) := by
    simp [hl, hk, List.getD_eq_getElem?_getD]
  refine (atomic_Int64_Load_s hS hx).mono ?_
  rintro _ _ ⟨rfl, rfl⟩
  exact ⟨_, rfl, rfl, rfl⟩

theorem escrow_New_s {bp : Nat} (hS : St w Fs) : Calls P k_escrow_New #[pv (at0 bt), pv (at0 bp)] w fun e w' => ∃ bb, e = .returned (pv (at0 bb)) ∧ St w' (row bb t_escrow_Book [pv (at0 bt), pv (at0 bp), lv none 0 0] :: Fs) := by
  refine escrow_New_of _ _ (bx (l := [pv (at0 bt), pv (at0 bp), lv none 0 0]) hS rfl fun b w1 h1 => ⟨b, rfl, h1⟩)

/-- A ledger without events. -/
def ledger0At (bl bt : Nat) (ll : List (List Int)) (ev : Int) : HP := hex fun bb : Nat => hex fun bp : Nat =>
  star (row bl t_ledger_Ledger [lv none 0 0, iv ev, pv (at0 bb), iv 0, lv none 0 0]) (star (row bb t_escrow_Book [pv (at0 bt), pv (at0 bp), lv none 0 0]) (purseAt bp ll))
theorem ledger_New_s {p : Option Addr} {n c : Nat} {ll : List (List Int)} (ev : Int) (hS : St w Fs) (h : RdLL Fs (lv p n c) ll) (hl : ll.length ≤ 1073741824) (hl2 : ∀ x ∈ ll, x.length ≤ 1073741824) :
    Calls P k_ledger_New #[pv (at0 bt), .agg #[lv p n c, iv ev]] w fun e w' =>
      (confB ll ev = true ∧ ∃ bl, e = .returned (tv [pv (at0 bl), iv 0]) ∧ St w' (ledger0At bl bt ll ev :: Fs)) ∨ (confB ll ev = false ∧ e = .returned (tv [.pointer none, iv 1]) ∧ St w' Fs) := by
  refine ledger_New_of _ _ _ _ _ ?_
  refine bx (l := [lv p n c, iv ev]) hS rfl fun b w1 h1 => ⟨_, _, _, _, ldA (b := b) (off := 0) (vs := [lv p n c, iv ev]) h1 rfl rfl, ?_⟩
  refine (ledger_Check_s ev h1 (h.cons _) hl hl2).mono ?_
  rintro _ w2 ⟨rfl, h2⟩
  refine ⟨_, rfl, ?_⟩
  cases hc : confB ll ev with
  | false => exact cond_t rfl (.inr ⟨rfl, rfl, h2.tail⟩)
  | true =>
    refine cond_f rfl ⟨_, _, _, ld h2 rfl, ?_⟩
    refine (purse_New_s h2 (h.cons _) hl hl2).mono ?_
    rintro _ w3 (⟨hm, bp, rfl, h3⟩ | ⟨hm, rfl, h3⟩)
    · refine ⟨_, _, rfl, cond_f rfl ⟨fun w => St w (purseAt bp ll :: row b t_ledger_Conf [lv p n c, iv ev] :: Fs), h3.dr, _, fun w hw => ld hw rfl, ?_⟩⟩
      refine (escrow_New_s h3.dr).mono ?_
      rintro _ w4 ⟨bb, rfl, h4⟩
      refine ⟨_, rfl, h4.tail, ?_⟩
      refine bx (l := [lv none 0 0, iv ev, pv (at0 bb), iv 0, lv none 0 0]) h4 rfl fun bl w5 h5 => .inl ⟨rfl, bl, rfl, ?_⟩
      have h6 := ((h5.ent ((Ent.unstar _ _ _).cons _)).unstar)
      have h7 : St w5 (ledger0At bl bt ll ev :: row b t_ledger_Conf [lv p n c, iv ev] :: Fs) := h6.head fun _ hx => ⟨bb, bp, hx⟩
      exact h7.re
    · exfalso
      unfold confB at hc; rw [hm] at hc; simp at hc

theorem seal_split_short {p : Option Addr} {l c : Nat} (hS : St w Fs) (hl : l < 44) :
    Calls P k_seal_split #[lv p l c] w fun e w' => e = .returned (tv [.agg #[iv 0, iv 0, iv 0, iv 0, lv none 0 0], iv 2]) ∧ St w' Fs := by
  refine seal_split_of _ _ _ ?_
  refine al hS fun b w1 h1 => cond_td (by unfold ln; omega) ?_
  refine stoA (n := 5) (vs := [iv 0, iv 0, iv 0, iv 0, lv none 0 0]) (off := 0) h1 rfl (by simp) (by intro u hu; simp at hu; rcases hu with rfl | rfl <;> rfl) fun w3 h3 => ?_
  exact ⟨0, 0, 0, 0, none, 0, 0, ldA (n := 5) (vs := [iv 0, iv 0, iv 0, iv 0, lv none 0 0]) h3 rfl rfl, rfl, h3.tail⟩
theorem seal_Peek_short {p : Option Addr} {l c : Nat} (hS : St w Fs) (hl : l < 44) :
    Calls P k_seal_Peek #[lv p l c] w fun e w' => e = .returned (tv [iv 0, iv 0, iv 0, iv 2]) ∧ St w' Fs := by
  refine seal_Peek_of _ _ _ ((seal_split_short hS hl).mono ?_)
  rintro _ w1 ⟨rfl, h1⟩
  refine ⟨0, 0, 0, 0, none, 0, 0, 2, rfl, ?_⟩
  refine al h1 fun b w2 h2 => ?_
  refine stoA (n := 5) (vs := [iv 0, iv 0, iv 0, iv 0, lv none 0 0]) (off := 0) h2 rfl (by simp) (by intro u hu; simp at hu; rcases hu with rfl | rfl <;> rfl) fun w3 h3 => ?_
  refine ⟨fun w => St w (row b t_seal_Note [iv 0, iv 0, iv 0, iv 0, lv none 0 0] :: Fs), h3.dr, _, fun w hw => ld hw rfl, _, fun w hw => ld hw rfl, _, fun w hw => ld hw rfl, rfl, h3.tail.dr⟩

/-- A gate. -/
def gateAt (bg bt bv bm : Nat) (which : Int) (seed : List UInt8) : HP := hex fun q : Option Addr => hex fun c : Nat => star (row bg t_gate_Gate [pv (at0 bt), iv which, lv q seed.length c, pv (at0 bv), pv (at0 bm)]) (bsAt (lv q seed.length c) seed)
theorem gate_New_s {p : Option Addr} {n c bv : Nat} {seed : List UInt8} (which : Int) (hS : St w Fs) (hb : Rd Fs 1 (lv p n c) (by8 seed)) (hl : seed.length ≤ 1073741824) :
    Calls P k_gate_New #[pv (at0 bt), iv which, lv p n c, pv (at0 bv), pv (at0 bm)] w fun e w' => ∃ bg, e = .returned (pv (at0 bg)) ∧ St w' (gateAt bg bt bv bm which seed :: Fs) := by
  refine gate_New_of _ _ _ _ _ _ _ ((bytes_Clone_s hS hb (by omega)).mono ?_)
  rintro _ w1 ⟨q, c1, rfl, h1⟩
  refine ⟨_, _, _, rfl, ?_⟩
  refine bx (l := [pv (at0 bt), iv which, lv q seed.length c1, pv (at0 bv), pv (at0 bm)]) h1 rfl fun bg w2 h2 => ⟨bg, rfl, ?_⟩
  exact h2.unstar.head fun _ hx => ⟨q, c1, hx⟩

theorem gate_open {bg bv : Nat} {which : Int} {seed : List UInt8} (h : St w (gateAt bg bt bv bm which seed :: Fs)) : ∃ q c, St w (row bg t_gate_Gate [pv (at0 bt), iv which, lv q seed.length c, pv (at0 bv), pv (at0 bm)] :: bsAt (lv q seed.length c) seed :: Fs) := by
  obtain ⟨q, h⟩ := h.ex
  obtain ⟨c, h⟩ := h.ex
  exact ⟨q, c, h.star⟩
theorem gate_mk {bg bv : Nat} {which : Int} {seed : List UInt8} {q : Option Addr} {c : Nat} (h : St w (row bg t_gate_Gate [pv (at0 bt), iv which, lv q seed.length c, pv (at0 bv), pv (at0 bm)] :: bsAt (lv q seed.length c) seed :: Fs)) : St w (gateAt bg bt bv bm which seed :: Fs) :=
  h.unstar.head fun _ hx => ⟨q, c, hx⟩
theorem gate_bad_s {bg bv : Nat} {which : Int} {seed : List UInt8} {l : List Int} (er : Int) (hl : l.length = 8) (hS : St w (gateAt bg bt bv bm which seed :: meterAt bm l :: Fs)) :
    Calls P k_gate_Gate_bad #[pv (at0 bg), iv er] w fun e w' => e = .returned (tv [lv none 0 0, iv er]) ∧ St w' (gateAt bg bt bv bm which seed :: meterAt bm (l.set 2 (w64 (l.getD 2 0 + 1))) :: Fs) := by
  obtain ⟨q, c, h⟩ := gate_open hS
  refine gate_Gate_bad_of _ _ ⟨_, ldx (o := 0) h rfl, ?_⟩
  have h2 : St w (meterAt bm l :: row bg t_gate_Gate [pv (at0 bt), iv which, lv q seed.length c, pv (at0 bv), pv (at0 bm)] :: bsAt (lv q seed.length c) seed :: Fs) := h.re
  refine (meter_Add_s 2 1 (by omega) hl h2).mono ?_
  rintro _ w1 ⟨rfl, h3⟩
  exact ⟨_, rfl, rfl, gate_mk (q := q) (c := c) h3.re⟩
theorem gate_Take_short {bg bv : Nat} {which : Int} {seed : List UInt8} {l : List Int} {p : Option Addr} {n c : Nat} (clock : Int) (hl : l.length = 8) (hn : n < 44) (hS : St w (gateAt bg bt bv bm which seed :: meterAt bm l :: Fs)) :
    Calls P k_gate_Gate_Take #[pv (at0 bg), lv p n c, iv clock] w fun e w' => e = .returned (tv [lv none 0 0, iv 2]) ∧ St w' (gateAt bg bt bv bm which seed :: meterAt bm (l.set 2 (w64 (l.getD 2 0 + 1))) :: Fs) := by
  refine gate_Gate_Take_of _ _ _ _ _ ((seal_Peek_short hS hn).mono ?_)
  rintro _ w1 ⟨rfl, h1⟩
  refine ⟨_, _, _, _, rfl, cond_t rfl (gate_Gate_Take_j1003_of _ _ _ _ _ _ _ _ (cond_t rfl ?_))⟩
  refine (gate_bad_s 2 hl h1).mono ?_
  rintro _ w2 ⟨rfl, h2⟩
  exact ⟨_, _, _, _, rfl, rfl, h2⟩
end
end Go.Proofs.Tz
namespace Go.Proofs.Tz
open Go.W
set_option maxRecDepth 20000

section
variable {w : World} {Fs : List HP} {bt bd bj T : Nat} {jl : List Value}
theorem journal_Picture_none (hS : St w (row bj T jl :: Fs)) (h5 : jl[5]? = some (bv false)) (h6 : jl[6]? = some (lv none 0 0)) :
    Calls P k_journal_Journal_Picture #[pv (at0 bj)] w fun e w' => ∃ q c, e = .returned (tv [lv q 0 c, bv false]) ∧ St w' (row bj T jl :: Fs) := by
  refine journal_Journal_Picture_of _ ⟨fun w => St w (row bj T jl :: Fs), hS.dr, _, _, _, fun w hw => ldx (o := 0) hw (by simpa using h6), _, fun w hw => ldx (o := 0) hw (by simpa using h5), ?_⟩
  refine (bytes_Clone_s (bs := []) hS.dr (Rd.nil 0) (by simp)).mono ?_
  rintro _ w1 ⟨q, c, rfl, h1⟩
  exact ⟨_, _, _, rfl, h1.tail, q, c, rfl, h1.tail⟩
theorem journal_Records_none (hS : St w (row bj T jl :: Fs)) (h7 : jl[7]? = some (lv none 0 0)) :
    Calls P k_journal_Journal_Records #[pv (at0 bj)] w fun e w' => w = w' ∧ e = .returned (lv none 0 0) := by
  refine journal_Journal_Records_of _ ⟨_, _, _, ldx (o := 0) hS (by simpa using h7), fun vs w' => w = w' ∧ vs = [lv none 0 0, lv none 0 0, iv 0, iv 0], fun _ _ => 0, ⟨rfl, rfl⟩, ?_⟩
  rintro _ _ ⟨rfl, rfl⟩
  exact journal_Journal_Records_b3_of _ _ _ _ _ _ _ _ (cond_f rfl ⟨rfl, rfl⟩)

abbrev jl0 (bt bd : Nat) : List Value := [pv (at0 bt), pv (at0 bd), bv false, iv 0, iv 0, bv false, lv none 0 0, lv none 0 0, iv 0]
/-- A vault without anything. -/
def vault0At (bw bt bd : Nat) (ll : List (List Int)) (ev : Int) : HP := hex fun bl : Nat => hex fun bj : Nat => hex fun q : Option Addr => hex fun c : Nat =>
  star (row bw t_vault_Vault [pv (at0 bl), pv (at0 bj), lv q ll.length c, bv false, iv 0]) (star (slAt t_vault_last 6 (lv q ll.length c) (initL 6 ll.length [iv 0, iv 0, iv 0, iv 0, lv none 0 0, lv none 0 0])) (star (ledger0At bl bt ll ev) (row bj t_journal_Journal (jl0 bt bd))))

theorem vault_Open_j7_none {R : Ending → World → Prop} {p q : Option Addr} {n c k bw bcf : Nat} {ll : List (List Int)} (ev : Int) (hS : St w (row bcf t_ledger_Conf [lv p n c, iv ev] :: row bw t_vault_Vault [.pointer none, pv (at0 bj), lv q ll.length k, bv false, iv 0] :: row bj t_journal_Journal (jl0 bt bd) :: Fs))
    (h : RdLL Fs (lv p n c) ll) (hl : ll.length ≤ 1073741824) (hl2 : ∀ x ∈ ll, x.length ≤ 1073741824) (hc : confB ll ev = true)
    (hR : ∀ bl w', St w' (row bw t_vault_Vault [pv (at0 bl), pv (at0 bj), lv q ll.length k, bv false, iv 0] :: row bj t_journal_Journal (jl0 bt bd) :: ledger0At bl bt ll ev :: Fs) → R (.returned (tv [pv (at0 bw), iv 0])) w') :
    vault_Open_j7 R [pv (at0 bt), pv (at0 bcf), pv (at0 bw)] w := by
  refine vault_Open_j7_of _ _ _ ⟨_, _, _, _, ldA (b := bcf) (off := 0) (vs := [lv p n c, iv ev]) hS rfl rfl, ?_⟩
  refine (ledger_New_s ev hS (((h.cons _).cons _).cons _) hl hl2).mono ?_
  rintro _ w1 (⟨_, bl, rfl, h1⟩ | ⟨hf, _⟩)
  · refine ⟨_, _, rfl, cond_f rfl ?_⟩
    refine sto h1 (b := bw) (off := 0) (by simp) rfl fun w2 h2 => ⟨_, ldx (o := 0) h2 rfl, ?_⟩
    have h3 : St w2 (row bj t_journal_Journal (jl0 bt bd) :: row bw t_vault_Vault [pv (at0 bl), pv (at0 bj), lv q ll.length k, bv false, iv 0] :: ledger0At bl bt ll ev :: Fs) := by
      have h4 : St w2 (ledger0At bl bt ll ev :: row bcf t_ledger_Conf [lv p n c, iv ev] :: row bw t_vault_Vault [pv (at0 bl), pv (at0 bj), lv q ll.length k, bv false, iv 0] :: row bj t_journal_Journal (jl0 bt bd) :: Fs) := h2
      exact h4.re
    refine (journal_Picture_none h3 rfl rfl).mono ?_
    rintro _ w4 ⟨q4, c4, rfl, h4⟩
    refine ⟨_, _, _, _, rfl, cond_f rfl (vault_Open_j1013_of _ _ (cond_f rfl ⟨_, ldx (o := 0) h4 rfl, ?_⟩))⟩
    refine (journal_Records_none h4 rfl).mono ?_
    rintro _ _ ⟨rfl, rfl⟩
    refine ⟨_, _, _, rfl, fun vs w' => w4 = w' ∧ vs = [pv (at0 bw), lv none 0 0, iv 0, iv 0], fun _ _ => 0, ⟨rfl, rfl⟩, ?_⟩
    rintro _ _ ⟨rfl, rfl⟩
    exact vault_Open_b15_of _ _ _ _ _ _ (cond_f rfl (hR bl _ h4.f1.re))
  · rw [hc] at hf; cases hf

theorem vault_Open_none {p : Option Addr} {n c : Nat} {ll : List (List Int)} {lasts : List (List UInt8)} {pend : List (Int × List UInt8)} {fuse : Int} (ev : Int) (hS : St w (diskAt bd lasts pend fuse false :: Fs))
    (h : RdLL Fs (lv p n c) ll) (hl : ll.length ≤ 1073741824) (hl2 : ∀ x ∈ ll, x.length ≤ 1073741824) (hc : confB ll ev = true) (hn : needOf ll ev ≤ lasts.length)
    (hll : lasts.length ≤ 1048576) (hs1 : ∀ s ∈ lasts, s.length = 64) (hs2 : ∀ p ∈ pend, p.2.length = 64)
    (h0 : liftsOf (secs lasts pend 0 (lasts.length / 2)) 1 = none) (h1 : liftsOf (secs lasts pend (lasts.length / 2) (lasts.length / 2)) 1 = none) :
    Calls P k_vault_Open #[pv (at0 bt), .agg #[lv p n c, iv ev], pv (at0 bd)] w fun e w' => ∃ bw, e = .returned (tv [pv (at0 bw), iv 0]) ∧ St w' (vault0At bw bt bd ll ev :: diskAt bd lasts pend fuse false :: Fs) := by
  have hnl := (h.len hS.tail).1
  subst hnl
  have hcs := confB_spec hc
  refine vault_Open_of _ _ _ _ _ _ ?_
  refine bx (l := [lv p ll.length c, iv ev]) hS rfl fun b w1 g1 => ⟨_, _, _, _, ldA (b := b) (off := 0) (vs := [lv p ll.length c, iv ev]) g1 rfl rfl, ?_⟩
  refine (ledger_Check_s ev g1 ((h.cons _).cons _) hl hl2).mono ?_
  rintro _ w2 ⟨rfl, g2⟩
  refine ⟨_, rfl, cond_f (by rw [hc]; rfl) ⟨fun w => St w (row b t_ledger_Conf [lv p ll.length c, iv ev] :: diskAt bd lasts pend fuse false :: Fs), g2.dr, _, _, _, _, fun w hw => ldA (b := b) (off := 0) (vs := [lv p ll.length c, iv ev]) hw rfl rfl, ?_⟩⟩
  refine (disk_Len_s g2.dr.f1).mono ?_
  rintro _ _ ⟨rfl, rfl⟩
  refine ⟨_, rfl, g2.dr, (vault_Need_s ev g2.dr ((h.cons _).cons _) hl hl2).mono ?_⟩
  rintro _ w3 ⟨rfl, g3⟩
  refine ⟨_, rfl, cond_fd (by omega) ⟨fun w => St w (row b t_ledger_Conf [lv p ll.length c, iv ev] :: diskAt bd lasts pend fuse false :: Fs), g3.dr, _, _, _, fun w hw => ld hw rfl, ?_⟩⟩
  have hend : ∀ (w' : World) (bj bw bl : Nat) (q : Option Addr) (k : Nat), St w' (row bw t_vault_Vault [pv (at0 bl), pv (at0 bj), lv q ll.length k, bv false, iv 0] :: row bj t_journal_Journal (jl0 bt bd) :: ledger0At bl bt ll ev :: diskAt bd lasts pend fuse false :: slAt t_vault_last 6 (lv q ll.length k) (initL 6 ll.length [iv 0, iv 0, iv 0, iv 0, lv none 0 0, lv none 0 0]) :: Fs) →
      St w' (vault0At bw bt bd ll ev :: diskAt bd lasts pend fuse false :: Fs) := by
    intro w' bj bw bl q k g
    have g1 : St w' (row bw t_vault_Vault [pv (at0 bl), pv (at0 bj), lv q ll.length k, bv false, iv 0] :: slAt t_vault_last 6 (lv q ll.length k) (initL 6 ll.length [iv 0, iv 0, iv 0, iv 0, lv none 0 0, lv none 0 0]) :: ledger0At bl bt ll ev :: row bj t_journal_Journal (jl0 bt bd) :: diskAt bd lasts pend fuse false :: Fs) := g.re
    have g2 := (g1.ent (((((Ent.unstar _ _ _).cons _).trans (Ent.unstar _ _ _)).cons _))).unstar
    exact g2.head fun x hx => ⟨bl, bj, q, k, hx⟩
  constructor
  · refine (journal_Open_none g3.dr.f1 hll hs1 hs2 h0 h1).mono ?_
    rintro _ w4 ⟨bj, rfl, g4⟩
    refine ⟨_, rfl, g4.re, ?_⟩
    refine mk_s (n := ll.length) (c := ll.length) g4 (by omega) (by omega) (by omega) fun bs w5 g5 => ?_
    refine bx (l := [.pointer none, pv (at0 bj), lv (some (at0 bs)) ll.length ll.length, bv false, iv 0]) g5 rfl fun bw w6 g6 => ?_
    have g7 := row_sl (sz := 6) (n := ll.length) g6.f1 (by simp [initL])
    have g8 : St w6 (row b t_ledger_Conf [lv p ll.length c, iv ev] :: row bw t_vault_Vault [.pointer none, pv (at0 bj), lv (some (at0 bs)) ll.length ll.length, bv false, iv 0] :: row bj t_journal_Journal (jl0 bt bd) :: diskAt bd lasts pend fuse false :: slAt t_vault_last 6 (lv (some (at0 bs)) ll.length ll.length) (initL 6 ll.length [iv 0, iv 0, iv 0, iv 0, lv none 0 0, lv none 0 0]) :: Fs) := g7.re
    refine vault_Open_j7_none ev g8 ((h.cons _).cons _) hl hl2 hc fun bl w' g => ⟨bw, rfl, hend _ _ _ _ _ _ g⟩
  · refine mk_s (n := ll.length) (c := ll.length) g3.dr (by omega) (by omega) (by omega) fun bs w5 g5 => ?_
    have g5' : St w5 (diskAt bd lasts pend fuse false :: row bs t_vault_last (initL 6 ll.length [iv 0, iv 0, iv 0, iv 0, lv none 0 0, lv none 0 0]) :: row b t_ledger_Conf [lv p ll.length c, iv ev] :: Fs) := g5.re
    refine (journal_Open_none g5' hll hs1 hs2 h0 h1).mono ?_
    rintro _ w4 ⟨bj, rfl, g4⟩
    refine ⟨_, rfl, g4.re, ?_⟩
    refine bx (l := [.pointer none, pv (at0 bj), lv (some (at0 bs)) ll.length ll.length, bv false, iv 0]) g4 rfl fun bw w6 g6 => ?_
    have g6' : St w6 (row bs t_vault_last (initL 6 ll.length [iv 0, iv 0, iv 0, iv 0, lv none 0 0, lv none 0 0]) :: row bw t_vault_Vault [.pointer none, pv (at0 bj), lv (some (at0 bs)) ll.length ll.length, bv false, iv 0] :: row bj t_journal_Journal (jl0 bt bd) :: diskAt bd lasts pend fuse false :: row b t_ledger_Conf [lv p ll.length c, iv ev] :: Fs) := g6.re
    have g7 := row_sl (sz := 6) (n := ll.length) g6' (by simp [initL])
    have g8 : St w6 (row b t_ledger_Conf [lv p ll.length c, iv ev] :: row bw t_vault_Vault [.pointer none, pv (at0 bj), lv (some (at0 bs)) ll.length ll.length, bv false, iv 0] :: row bj t_journal_Journal (jl0 bt bd) :: diskAt bd lasts pend fuse false :: slAt t_vault_last 6 (lv (some (at0 bs)) ll.length ll.length) (initL 6 ll.length [iv 0, iv 0, iv 0, iv 0, lv none 0 0, lv none 0 0]) :: Fs) := g7.re
    refine vault_Open_j7_none ev g8 ((h.cons _).cons _) hl hl2 hc fun bl w' g => ⟨bw, rfl, hend _ _ _ _ _ _ g⟩
end
end Go.Proofs.Tz
namespace Go.Proofs.Tz
open Go.W
set_option maxRecDepth 20000

abbrev LL1 : List (List Int) := [[5], [0]]
theorem conf1 : confB LL1 4 = true := by decide
theorem need1 : needOf LL1 4 = 130 := by decide
theorem zlift (n : Nat) : liftsOf (secs (List.replicate 130 zsec) [] n 65) 1 = none := by
  have hl : ∀ s ∈ List.replicate 130 zsec, s.length = 64 := fun s hs => by rw [List.eq_of_mem_replicate hs]; rfl
  have hz : ∀ i, ∀ x ∈ readD (List.replicate 130 zsec) [] i, x = 0 := by
    intro i x hx
    unfold readD at hx
    simp only [List.find?_nil, Option.map_none, Option.getD_none, List.getD_eq_getElem?_getD, List.getElem?_replicate] at hx
    split at hx
    · exact List.eq_of_mem_replicate hx
    · simp at hx
  unfold liftsOf
  rw [if_neg]
  rintro ⟨h1, h2⟩
  have h3 := List.all_eq_true.1 h2 0 (by simp)
  have h4 : (secs (List.replicate 130 zsec) [] n 65).getD (0 * 64) 0 = 0 := by
    rw [List.getD_eq_getElem?_getD]
    cases hx : (secs (List.replicate 130 zsec) [] n 65)[0 * 64]? with
    | none => rfl
    | some x =>
      have hm := List.mem_of_getElem? hx
      unfold secs at hm
      obtain ⟨l, hl, hxl⟩ := List.mem_flatten.1 hm
      obtain ⟨i, _, rfl⟩ := List.mem_map.1 hl
      exact hz _ x hxl
  unfold markOk at h3
  rw [h4] at h3
  simp at h3

theorem first_s : First k_cfllaw15_first := by
  intro w Fs hS
  refine cfllaw15_first_of ((sha_NewTable_s hS).mono ?_)
  rintro _ w1 ⟨bt, rfl, g1⟩
  refine ⟨_, rfl, ?_⟩
  refine bs (cs := [iv 5]) g1 (filled_of rfl) (by omega) fun b5 w2 g2 => ?_
  refine bs (cs := [iv 0]) g2 (filled_of rfl) (by omega) fun b0 w3 g3 => ?_
  refine bs (cs := [lv (some (at0 b5)) 1 1, lv (some (at0 b0)) 1 1]) g3 (filled_of rfl) (by omega) fun bl w4 g4 => ?_
  refine al g4 fun bc w5 g5 => ?_
  refine stoA (n := 2) (vs := [lv (some (at0 bl)) 2 2, iv 4]) (off := 0) g5 rfl (by simp) (by intro u hu; simp at hu; rcases hu with rfl | rfl <;> rfl) fun w6 g6 => ?_
  have h6 : St w6 (row bc t_ledger_Conf [lv (some (at0 bl)) 2 2, iv 4] :: row bl t_sl_int [lv (some (at0 b5)) 1 1, lv (some (at0 b0)) 1 1] :: row b0 t_int [iv 0] :: row b5 t_int [iv 5] :: tabAt bt :: Fs) := g6
  clear g1 g2 g3 g4 g5 g6
  have hLL : RdLL (row bc t_ledger_Conf [lv (some (at0 bl)) 2 2, iv 4] :: row bl t_sl_int [lv (some (at0 b5)) 1 1, lv (some (at0 b0)) 1 1] :: row b0 t_int [iv 0] :: row b5 t_int [iv 5] :: tabAt bt :: Fs) (lv (some (at0 bl)) 2 2) LL1 := by
    refine ⟨[lv (some (at0 b5)) 1 1, lv (some (at0 b0)) 1 1], rfl, Rd.of_row (b := bl) (o := 0) rfl rfl (by omega), ?_⟩
    intro i x hx
    match i, hx with
    | 0, hx => cases hx; exact ⟨_, rfl, Rd.of_row (b := b5) (o := 0) rfl rfl (by omega)⟩
    | 1, hx => cases hx; exact ⟨_, rfl, Rd.of_row (b := b0) (o := 0) rfl rfl (by omega)⟩
    | i + 2, hx => simp at hx
  have hl2 : ∀ x ∈ LL1, x.length ≤ 1073741824 := by intro x hx; simp at hx; rcases hx with rfl | rfl <;> simp
  refine ⟨_, _, _, _, ldA (b := bc) (off := 0) (vs := [lv (some (at0 bl)) 2 2, iv 4]) h6 rfl rfl, ?_⟩
  refine (vault_Need_s 4 h6 hLL (by simp) hl2).mono ?_
  rintro _ w7 ⟨rfl, h7⟩
  refine ⟨_, rfl, (disk_New_s _ h7).mono ?_⟩
  rw [need1]
  rintro _ w8 (⟨_, _, bd, rfl, h8⟩ | ⟨hn, _⟩)
  · refine ⟨_, _, rfl, _, _, eq_pnil, cond_f rfl (cfllaw15_first_j1005_of _ _ _ _ (cond_f rfl ?_))⟩
    refine ⟨_, _, _, _, ldA (b := bc) (off := 0) (vs := [lv (some (at0 bl)) 2 2, iv 4]) h8 rfl rfl, ?_⟩
    have hl : ∀ s ∈ List.replicate (130 : Int).toNat zsec, s.length = 64 := fun s hs => by rw [List.eq_of_mem_replicate hs]; rfl
    have hlen : (List.replicate (130 : Int).toNat zsec).length = 130 := by rw [List.length_replicate]; rfl
    refine (vault_Open_none (bt := bt) 4 h8 hLL (by simp) hl2 conf1 (by rw [need1, hlen]; decide) (by rw [hlen]; decide) hl (fun p hp => by simp at hp) (by rw [hlen]; exact zlift 0) (by rw [hlen]; exact zlift 65)).mono ?_
    rintro _ w9 ⟨bw, rfl, h9⟩
    refine ⟨_, _, rfl, (meter_New_s h9).mono ?_⟩
    rintro _ w10 ⟨bm, rfl, h10⟩
    refine ⟨_, rfl, _, _, eq_pnil, cond_f rfl ⟨_, _, eq_pnil, cond_f rfl (cfllaw15_first_j1009_of _ _ _ _ (cond_f rfl ?_))⟩⟩
    refine bsv (cs := by8 [115, 101, 101, 100]) h10 (filled_of rfl) (by omega) rfl fun q11 c11 w11 h11 => ?_
    refine (gate_New_s (seed := [115, 101, 101, 100]) 0 h11 (Rd.of_sl (T := t_uint8)) (by simp)).mono ?_
    rintro _ w12 ⟨bg, rfl, h12⟩
    refine ⟨_, rfl, _, _, eq_pnil, cond_f rfl ?_⟩
    refine bsv (cs := by8 [110, 111, 116, 104, 105, 110, 103]) h12 (filled_of rfl) (by omega) rfl fun q13 c13 w13 h13 => ?_
    have h14 : St w13 (gateAt bg bt bw bm 0 [115, 101, 101, 100] :: meterAt bm (List.replicate 8 0) :: Fs) := h13.re
    refine (gate_Take_short 1 rfl (by omega) h14).mono ?_
    rintro _ w15 ⟨rfl, h15⟩
    refine ⟨_, _, _, _, rfl, cond_t rfl ?_⟩
    refine (meter_Get_s 2 (by omega) rfl h15.f1).mono ?_
    rintro _ _ ⟨rfl, rfl⟩
    exact ⟨_, rfl, rfl, h15.tail.tail⟩
  · omega

theorem GateTells_all {w : World} {Fs : List HP} {kp mp : Option Addr} {kn kc mn mc : Nat} {key msg : List UInt8} (party which seq : Int) (hS : St w Fs) (hk : Rd Fs 1 (lv kp kn kc) (by8 key)) (hm : Rd Fs 1 (lv mp mn mc) (by8 msg)) :
    Calls P k_cfllaw15_GateTells #[lv kp kn kc, lv mp mn mc, iv party, iv which, iv seq] w fun e w' => e = .returned (bv true) ∧ St w' Fs :=
  GateTells_s first_s party which seq hS hk hm
end Go.Proofs.Tz
