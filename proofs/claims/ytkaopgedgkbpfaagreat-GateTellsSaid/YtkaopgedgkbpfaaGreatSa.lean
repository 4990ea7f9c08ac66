/- Proved here: what functions of the program compute, each by a contract over its translation (rules of the walk, or contracts function by function). No conditions beyond those that each contract states. -/
import Derived.Test.YtkaopgedgkbpfaaGreatNa
import Derived.Test.YtkaopgedgkbpfaaGreatEa
import Derived.Test.YtkaopgedgkbpfaaGreatWc
import Derived.Test.YtkaopgedgkbpfaaGreatWb
import Derived.Test.YtkaopgedgkbpfaaGreatEb
import Derived.Tactics
import Derived.Tactics2
import Derived.Defers
import Derived.Laws.Pointers
import Derived.RegionTactic
import Derived.RegionCalls
namespace Go.Proofs.Tz
open Go.W
set_option maxRecDepth 20000

/-- A call that only computes. -/
def Pure (k : FuncId) (args : Array Value) (v : Value) : Prop := ∀ w, Calls P k args w fun e w' => w = w' ∧ e = .returned v

theorem Pure.call {k : FuncId} {args : Array Value} {v : Value} (h : Pure k args v) {w : World} {R : Ending → World → Prop} (hR : R (.returned v) w) : Calls P k args w R :=
  (h w).mono (by rintro _ _ ⟨rfl, rfl⟩; exact hR)

theorem cflref1_turn_p (x : Int) (n : Nat) (hn : n ≤ 32) : Pure k_cflref1_turn #[u32v x, .int .u64 n] (u32v (rot x n)) := by
  intro w
  refine cflref1_turn_of x n ?_
  refine ⟨_, w, bin_shr (by omega), ?_⟩
  have : IntKind.u64.wrap (32 - (n : Int)) = ((32 - n : Nat) : Int) := by rw [u64_id (by omega)]; omega
  rw [this]
  exact ⟨_, w, bin_shl (by omega), rfl, rfl⟩

theorem RotateLeft32_p (x : Int) (n : Nat) (hn : 0 < n ∧ n < 32) : Pure k_math_bits_RotateLeft32 #[u32v x, iv (-(n : Int))] (u32v (rot x n)) := by
  intro w
  refine math_bits_RotateLeft32_of x _ ?_
  have h1 : iand .u64 (IntKind.u64.wrap (-(n : Int))) 31 = ((32 - n : Nat) : Int) := by
    have : ∀ m : Fin 32, 0 < m.val → iand .u64 (IntKind.u64.wrap (-(m.val : Int))) 31 = ((32 - m.val : Nat) : Int) := by decide
    exact this ⟨n, hn.2⟩ hn.1
  rw [h1]
  have h2 : IntKind.u64.wrap (32 - ((32 - n : Nat) : Int)) = (n : Int) := by rw [u64_id (by omega)]; omega
  rw [h2]
  refine ⟨_, w, bin_shl (by omega), _, w, bin_shr (by omega), ?_⟩
  refine ⟨rfl, ?_⟩
  unfold rot u32v
  rw [ior_comm]
  rfl

theorem put_next (xs : List Value) (n : Nat) (y z : Value) : (xs ++ List.replicate (n + 1) z).set xs.length y = (xs ++ [y]) ++ List.replicate n z := by
  rw [List.set_append_right _ _ (Nat.le_refl _)]; simp [List.replicate_succ]
theorem wds_step {bs : List UInt8} {i : Nat} (h : i < 64) {x : Int} (hx : x = nxt bs (wds bs i) i) :
    (by32 (wds bs i) ++ List.replicate (64 - i) (u32v 0)).set (0 + i * 1) (u32v x) = by32 (wds bs (i + 1)) ++ List.replicate (64 - (i + 1)) (u32v 0) := by
  rw [show 0 + i * 1 = (by32 (wds bs i)).length by simp [wds_len], show 64 - i = (64 - (i + 1)) + 1 by omega, put_next, hx]
  simp [wds, by32]
theorem wds_at {bs : List UInt8} {i j : Nat} (h : j < i) : (by32 (wds bs i) ++ List.replicate (64 - i) (u32v 0))[0 + j * 1]? = some (u32v (gi (wds bs i) j)) := by
  rw [List.getElem?_append_left (by simp [wds_len]; omega)]
  rw [show 0 + j * 1 = j by omega]
  exact by32_at (by rw [wds_len]; omega)
theorem wds_at64 {bs : List UInt8} {j : Nat} (h : j < 64) : (by32 (wds bs 64))[0 + j * 1]? = some (u32v (gi (wds bs 64) j)) := by
  rw [show 0 + j * 1 = j by omega]
  exact by32_at (by rw [wds_len]; omega)

def mid (v u : V8) (i : Nat) : List Int := u.l.take i ++ v.l.drop i
theorem mid_at {v u : V8} : ∀ i, i < 8 → (by32 (mid v u i))[0 + i * 1]? = some (u32v (gi v.l i))
  | 0, _ => rfl | 1, _ => rfl | 2, _ => rfl | 3, _ => rfl | 4, _ => rfl | 5, _ => rfl | 6, _ => rfl | 7, _ => rfl
theorem mid_set {v u : V8} : ∀ i, i < 8 → (by32 (mid v u i)).set (0 + i * 1) (u32v (gi u.l i)) = by32 (mid v u (i + 1))
  | 0, _ => rfl | 1, _ => rfl | 2, _ => rfl | 3, _ => rfl | 4, _ => rfl | 5, _ => rfl | 6, _ => rfl | 7, _ => rfl
theorem l_at {v : V8} : ∀ i, i < 8 → (by32 v.l)[0 + i * 1]? = some (u32v (gi v.l i))
  | 0, _ => rfl | 1, _ => rfl | 2, _ => rfl | 3, _ => rfl | 4, _ => rfl | 5, _ => rfl | 6, _ => rfl | 7, _ => rfl
theorem comp_at {v : V8} {bs : List UInt8} : ∀ i, i < 8 → wr (gi v.l i + gi (rds bs v 64).l i) = gi (comp v bs).l i
  | 0, _ => rfl | 1, _ => rfl | 2, _ => rfl | 3, _ => rfl | 4, _ => rfl | 5, _ => rfl | 6, _ => rfl | 7, _ => rfl

theorem cflref1_block_s {w : World} {Fs : List HP} {bh T : Nat} {kp bp : Option Addr} {kn kc bn bc : Nat} {v : V8} {bs : List UInt8} (hS : St w (row bh T (by32 v.l) :: Fs))
    (hk : Rd Fs 1 (lv kp kn kc) (by32 K64)) (hb : Rd Fs 1 (lv bp bn bc) (by8 bs)) (hlen : bs.length = 64) :
    Calls P k_cflref1_block #[lv (some (at0 bh)) 8 8, lv kp kn kc, lv bp bn bc] w fun e w' => e = .returned (tv []) ∧ St w' (row bh T (by32 (comp v bs).l) :: Fs) := by
  refine cflref1_block_of _ _ _ _ _ _ _ _ _ ?_
  refine al hS fun bw w1 h1 => ?_
  refine ⟨fun vs w => ∃ i : Nat, i ≤ 16 ∧ vs = [lv (some (at0 bh)) 8 8, lv kp kn kc, lv bp bn bc, pv (at0 bw), iv i] ∧ St w (row bw t_a64_uint32 (by32 (wds bs i) ++ List.replicate (64 - i) (u32v 0)) :: row bh T (by32 v.l) :: Fs),
    fun vs _ => (16 - cnt 4 vs).toNat, ⟨0, by omega, rfl, h1⟩, ?_⟩
  rintro _ w2 ⟨i, hi, rfl, h2⟩
  refine cflref1_block_b2_of _ _ _ _ _ _ _ _ _ _ _ ?_
  by_cases h : i < 16
  · refine cond_t (by simp; omega) ?_
    refine ⟨fun w => St w Fs, h2.dr.tail.tail, ?_⟩
    have e0 : w64 (4 * (i : Int)) = ((4 * i : Nat) : Int) := w64_eq _ (by omega) (by omega)
    have e1 : w64 (((4 * i : Nat) : Int) + 1) = ((4 * i + 1 : Nat) : Int) := w64_eq _ (by omega) (by omega)
    have e2 : w64 (((4 * i : Nat) : Int) + 2) = ((4 * i + 2 : Nat) : Int) := w64_eq _ (by omega) (by omega)
    have e3 : w64 (((4 * i : Nat) : Int) + 3) = ((4 * i + 3 : Nat) : Int) := w64_eq _ (by omega) (by omega)
    have e4 : w64 ((i : Int) + 1) = ((i + 1 : Nat) : Int) := w64_eq _ (by omega) (by omega)
    simp only [e0, e1, e2, e3, e4]
    have hF := h2.dr.tail.tail
    have hl : bs.length = bn := by simpa using (hb.len hF).1
    refine ⟨by omega, rd_ld hb hF (by8_at (i := 4 * i) (by omega)) fun a2 ha2 => ⟨_, ha2, ?_⟩⟩
    refine ⟨by omega, rd_ld hb hF (by8_at (i := 4 * i + 1) (by omega)) fun a3 ha3 => ⟨_, ha3, ?_⟩⟩
    refine ⟨by omega, rd_ld hb hF (by8_at (i := 4 * i + 2) (by omega)) fun a4 ha4 => ⟨_, ha4, ?_⟩⟩
    refine ⟨by omega, rd_ld hb hF (by8_at (i := 4 * i + 3) (by omega)) fun a5 ha5 => ⟨_, ha5, ?_⟩⟩
    refine ⟨by omega, ?_⟩
    rw [be4_four]
    refine stox h2.dr (by simp [wds_len]; omega) rfl fun w3 h3 => ?_
    have hx : be4 bs i = nxt bs (wds bs i) i := by unfold nxt; rw [if_pos h]
    have h4 : St w3 (row bw t_a64_uint32 (by32 (wds bs (i + 1)) ++ List.replicate (64 - (i + 1)) (u32v 0)) :: row bh T (by32 v.l) :: Fs) := by
      rw [← wds_step (by omega) hx]; exact h3
    exact ⟨⟨i + 1, by omega, rfl, h4⟩, by simp [cnt]; omega⟩
  · refine cond_f (by simp; omega) ?_
    have hi16 : i = 16 := by omega
    subst hi16
    clear h1
    refine ⟨fun vs w => ∃ i : Nat, 16 ≤ i ∧ i ≤ 64 ∧ vs = [lv (some (at0 bh)) 8 8, lv kp kn kc, pv (at0 bw), iv i] ∧ St w (row bw t_a64_uint32 (by32 (wds bs i) ++ List.replicate (64 - i) (u32v 0)) :: row bh T (by32 v.l) :: Fs),
      fun vs _ => (64 - cnt 3 vs).toNat, ⟨16, by omega, by omega, rfl, h2⟩, ?_⟩
    clear h2
    rintro _ w2 ⟨i, hi0, hi, rfl, h2⟩
    refine cflref1_block_b6_of _ _ _ _ _ _ _ _ ?_
    by_cases h : i < 64
    · refine cond_t (by simp; omega) ?_
      have e1 : w64 ((i : Int) - 15) = ((i - 15 : Nat) : Int) := w64_eq _ (by omega) (by omega)
      have e2 : w64 ((i : Int) - 2) = ((i - 2 : Nat) : Int) := w64_eq _ (by omega) (by omega)
      have e3 : w64 ((i : Int) - 16) = ((i - 16 : Nat) : Int) := w64_eq _ (by omega) (by omega)
      have e4 : w64 ((i : Int) - 7) = ((i - 7 : Nat) : Int) := w64_eq _ (by omega) (by omega)
      have e5 : w64 ((i : Int) + 1) = ((i + 1 : Nat) : Int) := w64_eq _ (by omega) (by omega)
      simp only [e1, e2, e3, e4, e5]
      refine ⟨fun w => St w (row bw t_a64_uint32 (by32 (wds bs i) ++ List.replicate (64 - i) (u32v 0)) :: row bh T (by32 v.l) :: Fs), h2.dr, ?_⟩
      refine ⟨by omega, _, fun w hw => ldx hw (wds_at (by omega)), ?_⟩
      refine ⟨by omega, _, fun w hw => ldx hw (wds_at (by omega)), ?_⟩
      refine ⟨fun w => St w (row bw t_a64_uint32 (by32 (wds bs i) ++ List.replicate (64 - i) (u32v 0)) :: row bh T (by32 v.l) :: Fs), h2.dr.dr, ?_⟩
      refine ⟨by omega, _, fun w hw => ldx hw (wds_at (by omega)), ?_⟩
      refine ⟨by omega, _, fun w hw => ldx hw (wds_at (by omega)), ?_⟩
      have hd := h2.dr.dr
      refine (cflref1_turn_p _ 7 (by omega)).call ⟨_, rfl, hd, ?_⟩
      refine (cflref1_turn_p _ 18 (by omega)).call ⟨_, rfl, hd, ?_⟩
      refine (cflref1_turn_p _ 17 (by omega)).call ⟨_, rfl, hd, ?_⟩
      refine (cflref1_turn_p _ 19 (by omega)).call ⟨_, rfl, hd, ?_⟩
      refine ⟨by omega, ?_⟩
      refine stox hd (by simp [wds_len]; omega) rfl fun w3 h3 => ?_
      have h4 : St w3 (row bw t_a64_uint32 (by32 (wds bs (i + 1)) ++ List.replicate (64 - (i + 1)) (u32v 0)) :: row bh T (by32 v.l) :: Fs) := by
        rw [← wds_step (by omega) (x := nxt bs (wds bs i) i) rfl]
        unfold nxt; rw [if_neg (by omega)]; exact h3
      exact ⟨⟨i + 1, by omega, by omega, rfl, h4⟩, by simp [cnt]; omega⟩
    · refine cond_f (by simp; omega) ?_
      have hi64 : i = 64 := by omega
      subst hi64
      refine al h2 fun bv w3 h3 => ?_
      refine ⟨_, _, _, slcA (lo := 0) (hi := 8) (by omega) (by omega) (.inr ⟨rfl, rfl⟩) (.inr ⟨rfl, rfl⟩), ?_⟩
      have hR : Rd (row bh T (by32 v.l) :: Fs) 1 (lv (some (at0 bh)) 8 8) (by32 v.l) := Rd.of_row (o := 0) rfl rfl (Nat.le_refl _)
      obtain ⟨w4, hc, h4⟩ := cp_run (P := P) (t := t_sl_uint32) (t2 := t_sl_uint32) (o := 0) (d := 8) (c := 8) (m := 8) h3 (.inl rfl) (hR _ h3.tail.tail) rfl (by omega) (by intro u hu; obtain ⟨x, _, rfl⟩ := List.mem_map.1 hu; rfl) (by simp)
      refine ⟨_, w4, hc, ?_⟩
      have h5 : St w4 (row bv t_a8_uint32 (by32 v.l) :: row bw t_a64_uint32 (by32 (wds bs 64)) :: row bh T (by32 v.l) :: Fs) := by
        have : by32 (wds bs 64) = by32 (wds bs 64) ++ List.replicate (64 - 64) (u32v 0) := by simp
        rw [this]; exact h4
      clear h2 h3 h4 hc
      refine ⟨fun vs w => ∃ i : Nat, i ≤ 64 ∧ vs = [lv (some (at0 bh)) 8 8, lv kp kn kc, pv (at0 bw), pv (at0 bv), iv i] ∧ St w (row bv t_a8_uint32 (by32 (rds bs v i).l) :: row bw t_a64_uint32 (by32 (wds bs 64)) :: row bh T (by32 v.l) :: Fs),
        fun vs _ => (64 - cnt 4 vs).toNat, ⟨0, by omega, rfl, h5⟩, ?_⟩
      clear h5
      rintro _ w2 ⟨i, hi, rfl, h2⟩
      refine cflref1_block_b13_of _ _ _ _ _ _ _ _ _ ?_
      by_cases h : i < 64
      · refine cond_t (by simp; omega) ?_
        have e5 : w64 ((i : Int) + 1) = ((i + 1 : Nat) : Int) := w64_eq _ (by omega) (by omega)
        simp only [e5]
        have hk2 := ((hk.cons (row bh T (by32 v.l))).cons (row bw t_a64_uint32 (by32 (wds bs 64)))).cons (row bv t_a8_uint32 (by32 (rds bs v i).l))
        have hkl : 64 = kn := (hk2.len h2).1
        refine ⟨fun w => St w (row bv t_a8_uint32 (by32 (rds bs v i).l) :: row bw t_a64_uint32 (by32 (wds bs 64)) :: row bh T (by32 v.l) :: Fs), h2.dr, ?_⟩
        refine ⟨by omega, _, fun w hw => ldx hw rfl, ?_⟩
        refine ⟨by omega, _, fun w hw => ldx hw rfl, ?_⟩
        refine ⟨fun w => St w (row bv t_a8_uint32 (by32 (rds bs v i).l) :: row bw t_a64_uint32 (by32 (wds bs 64)) :: row bh T (by32 v.l) :: Fs), h2.dr.dr, ?_⟩
        have hd := h2.dr.dr
        refine ⟨by omega, _, fun w hw => ldx hw rfl, ?_⟩
        refine ⟨by omega, _, fun w hw => ldx hw rfl, ?_⟩
        refine ⟨by omega, _, fun w hw => ldx hw rfl, ?_⟩
        refine ⟨by omega, rd_ld hk2 hd (by32_at (i := i) (by exact h)) fun a2 ha2 => ⟨_, ha2, ?_⟩⟩
        refine ⟨by omega, _, fun w hw => ldx hw (wds_at64 h), ?_⟩
        refine (cflref1_turn_p _ 6 (by omega)).call ⟨_, rfl, hd, ?_⟩
        refine (cflref1_turn_p _ 11 (by omega)).call ⟨_, rfl, hd, ?_⟩
        refine (cflref1_turn_p _ 25 (by omega)).call ⟨_, rfl, hd, ?_⟩
        refine ⟨fun w => St w (row bv t_a8_uint32 (by32 (rds bs v i).l) :: row bw t_a64_uint32 (by32 (wds bs 64)) :: row bh T (by32 v.l) :: Fs), hd.dr, ?_⟩
        refine ⟨by omega, _, fun w hw => ldx hw rfl, ?_⟩
        refine ⟨by omega, _, fun w hw => ldx hw rfl, ?_⟩
        refine ⟨by omega, _, fun w hw => ldx hw rfl, ?_⟩
        refine ⟨by omega, _, fun w hw => ldx hw rfl, ?_⟩
        refine (cflref1_turn_p _ 2 (by omega)).call ⟨_, rfl, hd.dr, ?_⟩
        refine (cflref1_turn_p _ 13 (by omega)).call ⟨_, rfl, hd.dr, ?_⟩
        refine (cflref1_turn_p _ 22 (by omega)).call ⟨_, rfl, hd.dr, ?_⟩
        refine ⟨by omega, _, ldx hd.dr rfl, ?_⟩
        refine ⟨by omega, _, ldx hd.dr rfl, ?_⟩
        refine ⟨by omega, _, ldx hd.dr rfl, ?_⟩
        refine ⟨by omega, _, ldx hd.dr rfl, ?_⟩
        refine ⟨by omega, _, ldx hd.dr rfl, ?_⟩
        refine ⟨by omega, _, ldx hd.dr rfl, ?_⟩
        refine ⟨by omega, _, ldx hd.dr rfl, ?_⟩
        refine stoA hd.dr rfl (Nat.le_refl _) (by intro u hu; simp at hu; rcases hu with rfl | rfl | rfl | rfl | rfl | rfl | rfl | rfl <;> rfl) fun w3 h3 => ?_
        exact ⟨⟨i + 1, by omega, rfl, h3⟩, by simp [cnt]; omega⟩
      · refine cond_f (by simp; omega) ?_
        have hi64 : i = 64 := by omega
        subst hi64
        refine ⟨fun vs w => ∃ i : Nat, i ≤ 8 ∧ vs = [lv (some (at0 bh)) 8 8, pv (at0 bv), iv i] ∧ St w (row bv t_a8_uint32 (by32 (rds bs v 64).l) :: row bw t_a64_uint32 (by32 (wds bs 64)) :: row bh T (by32 (mid v (comp v bs) i)) :: Fs),
          fun vs _ => (8 - cnt 2 vs).toNat, ⟨0, by omega, rfl, h2⟩, ?_⟩
        clear h2
        rintro _ w2 ⟨i, hi, rfl, h2⟩
        refine cflref1_block_b20_of _ _ _ _ _ ?_
        by_cases h : i < 8
        · refine cond_t (by simp; omega) ?_
          have e5 : w64 ((i : Int) + 1) = ((i + 1 : Nat) : Int) := w64_eq _ (by omega) (by omega)
          simp only [e5]
          refine ⟨fun w => St w (row bv t_a8_uint32 (by32 (rds bs v 64).l) :: row bw t_a64_uint32 (by32 (wds bs 64)) :: row bh T (by32 (mid v (comp v bs) i)) :: Fs), h2.dr, ?_⟩
          refine ⟨by omega, _, fun w hw => ldx hw (mid_at i h), ?_⟩
          refine ⟨by omega, _, fun w hw => ldx hw (l_at i h), ?_⟩
          refine ⟨by omega, ?_⟩
          refine stox h2.dr (by simp [mid, V8.l]; omega) rfl fun w3 h3 => ?_
          refine ⟨⟨i + 1, by omega, rfl, ?_⟩, by simp [cnt]; omega⟩
          rw [← mid_set i h, ← comp_at i h]
          exact h3
        · refine cond_f (by simp; omega) ⟨rfl, ?_⟩
          have hi8 : i = 8 := by omega
          subst hi8
          exact h2.tail.tail
end Go.Proofs.Tz
namespace Go.Proofs.Tz
open Go.W
set_option maxRecDepth 20000

/-- Bytes that a slice value owns. -/
abbrev bsAt (v : Value) (bs : List UInt8) : HP := slAt t_uint8 1 v (by8 bs)
/-- A call gives back bytes of its own. -/
def RetB (bs : List UInt8) (Fs : List HP) (e : Ending) (w' : World) : Prop := ∃ q c, e = .returned (lv q bs.length c) ∧ St w' (bsAt (lv q bs.length c) bs :: Fs)

theorem cflref1_words_s (w : World) {Fs : List HP} (hS : St w Fs) : Calls P k_cflref1_words #[] w fun e w' => e = .returned (.agg (by32 K64).toArray) ∧ St w' Fs := by
  refine cflref1_words_of ?_
  refine al hS fun b w1 h1 => ?_
  refine stoA h1 rfl (Nat.le_refl _) (by intro u hu; exact (List.all_eq_true.1 (rfl : List.all _ sc = true)) u hu) fun w2 h2 => ?_
  exact ⟨_, ldA (b := b) (off := 0) (vs := by32 K64) h2 rfl rfl, rfl, h2.tail⟩
theorem cflref1_starts_s (w : World) {Fs : List HP} (hS : St w Fs) : Calls P k_cflref1_starts #[] w fun e w' => e = .returned (.agg (by32 H8.l).toArray) ∧ St w' Fs := by
  refine cflref1_starts_of ?_
  refine al hS fun b w1 h1 => ?_
  refine stoA h1 rfl (Nat.le_refl _) (by intro u hu; exact (List.all_eq_true.1 (rfl : List.all _ sc = true)) u hu) fun w2 h2 => ?_
  exact ⟨_, _, _, _, _, _, _, _, ldA (b := b) (off := 0) (vs := by32 H8.l) h2 rfl rfl, rfl, h2.tail⟩

theorem by8_app (a b : List UInt8) : by8 a ++ by8 b = by8 (a ++ b) := by simp [by8]

theorem cflref_CopyBytes_s {w : World} {Fs : List HP} {p : Option Addr} {n c : Nat} {bs : List UInt8} (hS : St w Fs) (hb : Rd Fs 1 (lv p n c) (by8 bs)) (hl : bs.length ≤ 17179869184) :
    Calls P k_cflref_CopyBytes #[lv p n c] w (RetB bs Fs) := by
  refine cflref_CopyBytes_of _ _ _ ?_
  refine bs0 hS fun b w1 h1 => ?_
  refine ap h1 (hb w1 h1.tail) (by8_sc bs) (by omega) (by simpa using hl) fun q c w2 h2 => ?_
  simp only [List.length_nil, Nat.zero_add, Nat.div_one, List.length_map, List.nil_append] at h2 ⊢
  exact ⟨q, c, rfl, h2⟩

theorem nil_by8 {w : World} {n c : Nat} {bs : List UInt8} (h : VC w 1 (lv none n c) (by8 bs)) : bs = [] := by
  obtain ⟨p, m, c', hv, _, _, h2⟩ := h
  cases bs with
  | nil => rfl
  | cons x l => obtain ⟨b, o, hp, _⟩ := h2 0 _ rfl; cases hv; cases hp

theorem bytes_Clone_s {w : World} {Fs : List HP} {p : Option Addr} {n c : Nat} {bs : List UInt8} (hS : St w Fs) (hb : Rd Fs 1 (lv p n c) (by8 bs)) (hl : bs.length ≤ 17179869184) :
    Calls P k_bytes_Clone #[lv p n c] w (RetB bs Fs) := by
  refine bytes_Clone_of _ _ _ ⟨_, w, eq_nil, ?_⟩
  cases p with
  | none =>
    have := nil_by8 (hb w hS)
    subst this
    exact ⟨none, 0, rfl, mk_slNil hS⟩
  | some a =>
    refine bs0 hS fun b w1 h1 => ?_
    refine ap h1 (hb w1 h1.tail) (by8_sc bs) (by omega) (by simpa using hl) fun q c w2 h2 => ?_
    simp only [List.length_nil, Nat.zero_add, Nat.div_one, List.length_map, List.nil_append] at h2 ⊢
    exact ⟨q, c, rfl, h2⟩

theorem cflref1_Hash_s {w : World} {Fs : List HP} {p : Option Addr} {n c0 : Nat} {bs : List UInt8} (hS : St w Fs) (hb : Rd Fs 1 (lv p n c0) (by8 bs)) (hl : bs.length ≤ 1073741824) :
    Calls P k_cflref1_Hash #[lv p n c0] w (RetB (sha bs) Fs) := by
  refine cflref1_Hash_of _ _ _ ?_
  refine (cflref1_words_s w hS).mono ?_
  rintro _ w1 ⟨rfl, h1⟩
  refine ⟨_, rfl, ?_⟩
  refine (cflref1_starts_s w1 h1).mono ?_
  rintro _ w2 ⟨rfl, h2⟩
  refine ⟨_, _, _, _, _, _, _, _, rfl, ?_⟩
  refine al h2 fun bk w3 h3 => ?_
  refine al h3 fun bh w4 h4 => ?_
  refine stoA h4 rfl (Nat.le_refl _) (by intro u hu; obtain ⟨x, _, rfl⟩ := List.mem_map.1 hu; rfl) fun w5 h5 => ?_
  refine stoA h5 rfl (Nat.le_refl _) (by intro u hu; exact (List.all_eq_true.1 (rfl : List.all _ sc = true)) u hu) fun w6 h6 => ?_
  have h7 : St w6 (row bh t_a8_uint32 (by32 H8.l) :: row bk t_a64_uint32 (by32 K64) :: Fs) := h6
  clear h1 h2 h3 h4 h5 h6
  refine (cflref_CopyBytes_s h7 ((hb.cons _).cons _) (by omega)).mono ?_
  rintro _ w7 ⟨q, c', rfl, h8⟩
  refine ⟨_, _, _, rfl, ?_⟩
  refine app_lit (ys := by8 [0x80]) h8 (filled_of rfl) (by omega) rfl (by8_sc _) (by simp; omega) fun q1 c1 w8 h9 => ?_
  rw [by8_app] at h9
  simp only [List.length_map] at h9 ⊢
  refine ⟨fun vs w => ∃ k q c, k ≤ zerosFor bs.length ∧ vs = [lv p n c0, pv (at0 bk), pv (at0 bh), lv q (bs.length + 1 + k) c] ∧
      St w (bsAt (lv q (bs.length + 1 + k) c) (bs ++ 0x80 :: List.replicate k 0) :: row bh t_a8_uint32 (by32 H8.l) :: row bk t_a64_uint32 (by32 K64) :: Fs),
    fun vs _ => (zerosFor bs.length + bs.length + 1 - cnt 3 vs).toNat, ⟨0, q1, c1, by omega, rfl, h9⟩, ?_⟩
  clear h9 h8 h7
  have hn : bs.length = n := by simpa using (hb.len hS).1
  rintro _ w2 ⟨k, q, c, hk, rfl, h2⟩
  have hz : zerosFor bs.length = (119 - bs.length % 64) % 64 := rfl
  refine cflref1_Hash_b3_of _ _ _ _ _ _ _ _ ?_
  have e1 : Int.tmod (ln (bs.length + 1 + k)) 64 = (((bs.length + 1 + k) % 64 : Nat) : Int) := rfl
  rw [e1]
  by_cases h : k < zerosFor bs.length
  · refine cond_t (by simp; omega) ?_
    refine app_lit (ys := by8 [0]) h2 (filled_of rfl) (by omega) rfl (by8_sc _) (by simp; omega) fun q1 c1 w8 h9 => ?_
    rw [by8_app] at h9
    simp only [List.length_map] at h9 ⊢
    refine ⟨⟨k + 1, q1, c1, by omega, ?_, ?_⟩, ?_⟩
    · simp; omega
    · have e : bs ++ 0x80 :: List.replicate k 0 ++ [0] = bs ++ 0x80 :: List.replicate (k + 1) 0 := by
        simp [List.replicate_succ']
      rw [e] at h9
      have e2 : (bs ++ 0x80 :: List.replicate k (0 : UInt8)).length + 1 = bs.length + 1 + (k + 1) := by simp; omega
      rw [e2] at h9
      exact h9
    · simp [cnt]; omega
  · refine cond_f (by simp; omega) ?_
    have hkz : k = zerosFor bs.length := by omega
    have hN : IntKind.u64.wrap (IntKind.u64.wrap (ln n) * 8) = IntKind.u64.wrap (8 * (bs.length : Int)) := by
      rw [hn, u64_id (n := ln n) (by unfold ln; omega), Int.mul_comm]; rfl
    rw [hN]
    generalize hG : IntKind.u64.wrap (8 * (bs.length : Int)) = N
    refine ⟨fun vs w => ∃ j q c, j ≤ 8 ∧ vs = [pv (at0 bk), pv (at0 bh), lv q (bs.length + 1 + k + j) c, .int .u64 N, iv (7 - (j : Int))] ∧
        St w (bsAt (lv q (bs.length + 1 + k + j) c) (bs ++ 0x80 :: List.replicate k 0 ++ (bytesOf N 8).take j) :: row bh t_a8_uint32 (by32 H8.l) :: row bk t_a64_uint32 (by32 K64) :: Fs),
      fun vs _ => (cnt 4 vs + 1).toNat, ⟨0, q, c, by omega, rfl, by simpa using h2⟩, ?_⟩
    clear h2
    rintro _ w3 ⟨j, q, c, hj, rfl, h3⟩
    refine cflref1_Hash_b7_of _ _ _ _ _ _ _ ?_
    by_cases h : j < 8
    · refine cond_t (by simp; omega) ?_
      have e2 : IntKind.u64.wrap (w64 (8 * (7 - (j : Int)))) = ((8 * (7 - j) : Nat) : Int) := by
        rw [w64_id (by omega), u64_id (by omega)]; omega
      have e3 : w64 (7 - (j : Int) - 1) = 7 - ((j + 1 : Nat) : Int) := by rw [w64_id (by omega)]; omega
      rw [e2, e3]
      refine ⟨_, w3, bin_shr (by omega), ?_⟩
      have e4 : IntKind.u8.wrap (ishr .u64 N (((8 * (7 - j) : Nat) : Int)).toNat) = ((byteAt N (7 - j)).toNat : Int) := by
        have := byteAt_v N (7 - j)
        injection this with _ this
        rw [this, Int.toNat_natCast]
        unfold ishr
        rw [show min (8 * (7 - j)) IntKind.u64.bits = 8 * (7 - j) by simp [IntKind.bits]; omega]
      rw [e4]
      refine app_lit (ys := by8 [byteAt N (7 - j)]) h3 (filled_of rfl) (by omega) rfl (by8_sc _) (by simp; omega) fun q1 c1 w8 h9 => ?_
      rw [by8_app] at h9
      simp only [List.length_map] at h9 ⊢
      refine ⟨⟨j + 1, q1, c1, by omega, ?_, ?_⟩, ?_⟩
      · simp [bytesOf_len]; omega
      · have e : bs ++ 0x80 :: List.replicate k 0 ++ (bytesOf N 8).take j ++ [byteAt N (7 - j)] = bs ++ 0x80 :: List.replicate k 0 ++ (bytesOf N 8).take (j + 1) := by
          rw [bytesOf_take N 8 j h]; simp
        rw [e] at h9
        have e2 : (bs ++ 0x80 :: List.replicate k (0 : UInt8) ++ (bytesOf N 8).take j).length + 1 = bs.length + 1 + k + (j + 1) := by simp [bytesOf_len]; omega
        rw [e2] at h9
        exact h9
      · simp [cnt]; omega
    · refine cond_f (by simp; omega) ?_
      have hj8 : j = 8 := by omega
      subst hj8
      have hall : bs ++ 0x80 :: List.replicate k 0 ++ (bytesOf N 8).take 8 = bs ++ padTail bs.length := by
        rw [List.take_of_length_le (by rw [bytesOf_len]; omega), hkz, ← hG]; simp [padTail]
      have hM := padTail_len bs.length
      rw [hall] at h3
      have hlen : (bs ++ padTail bs.length).length = bs.length + 1 + k + 8 := by rw [← hall]; simp [bytesOf_len]; omega
      have hsha : sha bs = outs (folds H8 (bs ++ padTail bs.length)) := rfl
      rw [hsha]
      have hMl : (bs ++ padTail bs.length).length % 64 = 0 := by simpa using hM
      generalize bs ++ padTail bs.length = all at h3 hlen hMl hall ⊢
      rw [← hlen] at h3 ⊢
      have hb64 : all.length ≤ 1073741824 + 200 := by omega
      clear hall hlen hsha hM hkz h hj
      refine ⟨fun vs w => ∃ j v, 64 * j ≤ all.length ∧ vs = [pv (at0 bk), pv (at0 bh), lv q all.length c, iv ((64 * j : Nat) : Int)] ∧ folds v (all.drop (64 * j)) = folds H8 all ∧
          St w (row bh t_a8_uint32 (by32 v.l) :: bsAt (lv q all.length c) all :: row bk t_a64_uint32 (by32 K64) :: Fs),
        fun vs _ => (all.length - cnt 3 vs).toNat, ⟨0, H8, by omega, rfl, by simp, h3.f1⟩, ?_⟩
      clear h3
      rintro _ w4 ⟨j, v, hj, rfl, hf, h4⟩
      refine cflref1_Hash_b11_of _ _ _ _ _ _ ?_
      by_cases h : 64 * j < all.length
      · refine cond_td (by unfold ln; omega) ?_
        have e5 : w64 (((64 * j : Nat) : Int) + 64) = ((64 * (j + 1) : Nat) : Int) := w64_eq _ (by omega) (by omega)
        rw [e5]
        refine ⟨fun w => St w (row bh t_a8_uint32 (by32 v.l) :: bsAt (lv q all.length c) all :: row bk t_a64_uint32 (by32 K64) :: Fs), h4.dr, ?_⟩
        have hRa : Rd (bsAt (lv q all.length c) all :: row bk t_a64_uint32 (by32 K64) :: Fs) 1 (lv q all.length c) (by8 all) := Rd.of_sl (T := t_uint8)
        have hc := (hRa.len h4.tail).2
        refine ⟨_, _, _, fun w _ => slcA (lo := 0) (hi := 8) (by omega) (by omega) (.inr ⟨rfl, rfl⟩) (.inr ⟨rfl, rfl⟩), ?_⟩
        refine ⟨_, _, _, fun w _ => slcA (lo := 0) (hi := 64) (by omega) (by omega) (.inr ⟨rfl, rfl⟩) (.inr ⟨rfl, rfl⟩), ?_⟩
        refine ⟨_, _, _, fun w _ => slc_run (lo := 64 * j) (hi := 64 * (j + 1)) (by omega) (by omega) (.inl rfl) (.inl rfl), ?_⟩
        have hRs := hRa.slice (lo := 64 * j) (hi := 64 * (j + 1)) (by omega) (by omega)
        have hblk : ((by8 all).drop (64 * j * 1)).take ((64 * (j + 1) - 64 * j) * 1) = by8 ((all.drop (64 * j)).take 64) := by
          simp only [by8, List.map_take, List.map_drop, Nat.mul_one]; congr 1; omega
        rw [hblk] at hRs
        have hRk : Rd (bsAt (lv q all.length c) all :: row bk t_a64_uint32 (by32 K64) :: Fs) 1 (lv (some (at0 bk)) 64 64) (by32 K64) := Rd.of_row (o := 0) rfl rfl (Nat.le_refl _)
        refine (cflref1_block_s h4.dr hRk hRs (by simp; omega)).mono ?_
        rintro _ w5 ⟨rfl, h5⟩
        refine ⟨rfl, ⟨j + 1, _, by omega, rfl, ?_, h5⟩, ?_⟩
        · rw [← hf, folds_ge (l := all.drop (64 * j)) (by simp; omega), List.drop_drop]
          congr 1
        · simp [cnt]; omega
      · refine cond_fd (by unfold ln; omega) ?_
        have hv : v = folds H8 all := by
          rw [← hf, folds_lt]
          simp; omega
        rw [← hv]
        have h5 := h4.ent (((Ent.drop _ _).trans (Ent.drop _ _)).cons _)
        clear h4 hf hv h
        refine ⟨fun vs w => ∃ i q c, i ≤ 8 ∧ vs = [pv (at0 bh), lv q (4 * i) c, iv i] ∧ St w (bsAt (lv q (4 * i) c) (outT v i) :: row bh t_a8_uint32 (by32 v.l) :: Fs),
          fun vs _ => (8 - cnt 2 vs).toNat, ⟨0, none, 0, by omega, rfl, mk_slNil h5⟩, ?_⟩
        clear h5
        rintro _ w5 ⟨i, q, c, hi, rfl, h5⟩
        refine cflref1_Hash_b16_of _ _ _ _ _ ?_
        by_cases h : i < 8
        · refine cond_td (by omega) ?_
          have e5 : w64 ((i : Int) + 1) = ((i + 1 : Nat) : Int) := w64_eq _ (by omega) (by omega)
          rw [e5]
          refine ⟨fun w => St w (bsAt (lv q (4 * i) c) (outT v i) :: row bh t_a8_uint32 (by32 v.l) :: Fs), h5.dr, ?_⟩
          refine ⟨by omega, _, fun w hw => ldx hw (l_at i h), ?_⟩
          refine ⟨by omega, _, fun w hw => ldx hw (l_at i h), ?_⟩
          refine ⟨by omega, _, fun w hw => ldx hw (l_at i h), ?_⟩
          refine ⟨by omega, _, fun w hw => ldx hw (l_at i h), ?_⟩
          refine app_lit (ys := by8 (bytesOf (gi v.l i) 4)) h5.dr (filled_of (by rw [← bytes4]; rfl)) (by omega) rfl (by8_sc _) (by simp [outT_len i hi]; omega) fun q1 c1 w8 h9 => ?_
          rw [by8_app] at h9
          have e6 := outT_step (v := v) i h
          have e7 := outT_len (v := v) i hi
          simp only [List.length_map] at h9 ⊢
          rw [e6, e7, show 4 * i + 4 = 4 * (i + 1) by omega] at h9
          rw [e7, show 4 * i + 4 = 4 * (i + 1) by omega]
          refine ⟨⟨i + 1, q1, c1, by omega, rfl, h9⟩, by simp [cnt]; omega⟩
        · refine cond_fd (by omega) ?_
          have hi8 : i = 8 := by omega
          subst hi8
          exact ⟨q, c, by rw [outs_len], by rw [outs_len]; exact h5.ent ((Ent.drop _ _).cons _)⟩
end Go.Proofs.Tz
namespace Go.Proofs.Tz
open Go.W
set_option maxRecDepth 20000

theorem RetB.drop {bs : List UInt8} {Fs : List HP} {A : HP} {e : Ending} {w : World} (h : RetB bs (A :: Fs) e w) : RetB bs Fs e w := by
  obtain ⟨q, c, h1, h2⟩ := h
  exact ⟨q, c, h1, h2.ent ((Ent.drop _ _).cons _)⟩

theorem shr_byte {k : IntKind} {n : Int} {i : Nat} (hi : i < 8) (hk : k = .i64 ∨ k = .u64) : IntKind.u8.wrap (ishr k n (((8 * i : Nat) : Int)).toNat) = ((byteAt n i).toNat : Int) := by
  have := byteAt_v n i
  injection this with _ this
  rw [this, Int.toNat_natCast]
  unfold ishr
  rw [show min (8 * i) k.bits = 8 * i by rcases hk with rfl | rfl <;> simp [IntKind.bits] <;> omega]

theorem cflref1_Put_s {w : World} {Fs : List HP} (n : Int) {size : Nat} (hs : size ≤ 8) (hS : St w Fs) :
    Calls P k_cflref1_Put #[iv n, iv size] w (RetB (bytesOf n size) Fs) := by
  refine cflref1_Put_of _ _ ?_
  refine ⟨fun vs w => ∃ j q c, j ≤ size ∧ vs = [iv n, lv q j c, iv ((size : Int) - 1 - (j : Int))] ∧ St w (bsAt (lv q j c) ((bytesOf n size).take j) :: Fs),
    fun vs _ => (cnt 2 vs + 1).toNat, ⟨0, none, 0, by omega, by rw [w64_id (by omega)]; simp, mk_slNil hS⟩, ?_⟩
  rintro _ w3 ⟨j, q, c, hj, rfl, h3⟩
  refine cflref1_Put_b3_of _ _ _ _ _ ?_
  by_cases h : j < size
  · refine cond_td (by omega) ?_
    have e2 : IntKind.u64.wrap (w64 (8 * ((size : Int) - 1 - (j : Int)))) = ((8 * (size - 1 - j) : Nat) : Int) := by
      rw [w64_id (by omega), u64_id (by omega)]; omega
    have e3 : w64 ((size : Int) - 1 - (j : Int) - 1) = (size : Int) - 1 - ((j + 1 : Nat) : Int) := by rw [w64_id (by omega)]; omega
    rw [e2, e3]
    refine ⟨_, w3, bin_shr (by omega), ?_⟩
    rw [shr_byte (by omega) (.inl rfl)]
    refine app_lit (ys := by8 [byteAt n (size - 1 - j)]) h3 (filled_of rfl) (by omega) rfl (by8_sc _) (by simp; omega) fun q1 c1 w8 h9 => ?_
    rw [by8_app, ← bytesOf_take n size j h] at h9
    have e5 : (by8 ((bytesOf n size).take j)).length + 1 = j + 1 := by simp [bytesOf_len]; omega
    rw [e5] at h9 ⊢
    exact ⟨⟨j + 1, q1, c1, by omega, rfl, h9⟩, by simp [cnt]; omega⟩
  · refine cond_fd (by omega) ?_
    have hj8 : j = size := by omega
    subst hj8
    rw [List.take_of_length_le (by rw [bytesOf_len]; omega)] at h3
    exact ⟨q, c, by rw [bytesOf_len], by rw [bytesOf_len]; exact h3⟩

theorem mac_loop {w : World} {Fs : List HP} {kp mp : Option Addr} {kn kc mn mc : Nat} {key msg : List UInt8} {R : Ending → World → Prop} (hS : St w Fs) (hk : Rd Fs 1 (lv kp kn kc) (by8 key)) (hm : Rd Fs 1 (lv mp mn mc) (by8 msg))
    (hml : msg.length ≤ 536870912) (hR : ∀ e w', RetB (mac1 key msg) Fs e w' → R e w') : cflref1_Mac_j3 R [lv kp kn kc, lv mp mn mc] w := by
  refine cflref1_Mac_j3_of _ _ _ _ _ _ ?_
  have hkl : key.length = kn := by simpa using (hk.len hS).1
  refine ⟨fun vs w => ∃ i q c q2 c2, i ≤ 64 ∧ vs = [lv kp kn kc, lv mp mn mc, lv q i c, lv q2 i c2, iv i] ∧ St w (bsAt (lv q i c) (padK 0x36 key i) :: bsAt (lv q2 i c2) (padK 0x5c key i) :: Fs),
    fun vs _ => (64 - cnt 4 vs).toNat, ⟨0, none, 0, none, 0, by omega, rfl, mk_slNil (mk_slNil hS)⟩, ?_⟩
  clear hS
  rintro _ w1 ⟨i, q, c, q2, c2, hi, rfl, h1⟩
  refine cflref1_Mac_b5_of _ _ _ _ _ _ _ _ _ _ _ _ _ ?_
  by_cases h : i < 64
  · refine cond_td (by omega) ?_
    have hj : ∀ (x0 : List Value → World → Prop), (∀ q c q2 c2 w', St w' (bsAt (lv q (i + 1) c) (padK 0x36 key (i + 1)) :: bsAt (lv q2 (i + 1) c2) (padK 0x5c key (i + 1)) :: Fs) → x0 [lv kp kn kc, lv mp mn mc, lv q (i + 1) c, lv q2 (i + 1) c2, iv ((i + 1 : Nat) : Int)] w') →
        cflref1_Mac_j10 R x0 [lv kp kn kc, lv mp mn mc, lv q i c, lv q2 i c2, iv i, u8v (key.getD i 0)] w1 := by
      intro x0 hx
      refine cflref1_Mac_j10_of _ _ _ _ _ _ _ _ _ _ _ _ _ _ ?_
      have e5 : w64 ((i : Int) + 1) = ((i + 1 : Nat) : Int) := w64_eq _ (by omega) (by omega)
      rw [e5]
      have x1 : ixor .u8 ((key.getD i 0).toNat : Int) 54 = ((key.getD i 0 ^^^ 0x36).toNat : Int) := ixor8 _ 0x36
      have x2 : ixor .u8 ((key.getD i 0).toNat : Int) 92 = ((key.getD i 0 ^^^ 0x5c).toNat : Int) := ixor8 _ 0x5c
      rw [x1, x2]
      refine app_lit (ys := by8 [key.getD i 0 ^^^ 0x36]) h1 (filled_of rfl) (by omega) rfl (by8_sc _) (by simp [padK_len]; omega) fun q3 c3 w3 h3 => ?_
      rw [by8_app, padK_step] at h3
      have e6 : (by8 (padK 0x36 key i)).length + 1 = i + 1 := by simp [padK_len]
      rw [e6] at h3 ⊢
      refine app_lit (ys := by8 [key.getD i 0 ^^^ 0x5c]) h3.f1 (filled_of rfl) (by omega) rfl (by8_sc _) (by simp [padK_len]; omega) fun q4 c4 w4 h4 => ?_
      rw [by8_app, padK_step] at h4
      have e7 : (by8 (padK 0x5c key i)).length + 1 = i + 1 := by simp [padK_len]
      rw [e7] at h4 ⊢
      exact hx q3 c3 q4 c4 w4 h4.f1
    have hx : ∀ q c q2 c2 w', St w' (bsAt (lv q (i + 1) c) (padK 0x36 key (i + 1)) :: bsAt (lv q2 (i + 1) c2) (padK 0x5c key (i + 1)) :: Fs) →
        (∃ i q c q2 c2, i ≤ 64 ∧ [lv kp kn kc, lv mp mn mc, lv q (i + 1) c, lv q2 (i + 1) c2, iv ((i + 1 : Nat) : Int)] = [lv kp kn kc, lv mp mn mc, lv q i c, lv q2 i c2, iv i] ∧ St w' (bsAt (lv q i c) (padK 0x36 key i) :: bsAt (lv q2 i c2) (padK 0x5c key i) :: Fs)) → True := fun _ _ _ _ _ _ _ => trivial
    clear hx
    by_cases hk2 : i < key.length
    · refine cond_td (by unfold ln; omega) ?_
      have hg : (key.getD i 0).toNat = gb key i := rfl
      refine ⟨by omega, rd_ld ((hk.cons _).cons _) h1 (by8_at hk2) fun a ha => ⟨_, ha w1 h1, ?_⟩⟩
      refine hj _ fun q c q2 c2 w' h' => ⟨⟨i + 1, q, c, q2, c2, by omega, rfl, h'⟩, by simp [cnt]; omega⟩
    · refine cond_fd (by unfold ln; omega) ?_
      have hg : key.getD i 0 = 0 := by simp [List.getD_eq_getElem?_getD, List.getElem?_eq_none (show key.length ≤ i by omega)]
      have := hj (fun vs' w' => (∃ i q c q2 c2, i ≤ 64 ∧ vs' = [lv kp kn kc, lv mp mn mc, lv q i c, lv q2 i c2, iv i] ∧ St w' (bsAt (lv q i c) (padK 0x36 key i) :: bsAt (lv q2 i c2) (padK 0x5c key i) :: Fs)) ∧ (64 - cnt 4 vs').toNat < (64 - cnt 4 [lv kp kn kc, lv mp mn mc, lv q i c, lv q2 i c2, iv i]).toNat) fun q c q2 c2 w' h' => ⟨⟨i + 1, q, c, q2, c2, by omega, rfl, h'⟩, by simp [cnt]; omega⟩
      rw [hg] at this
      exact this
  · refine cond_fd (by omega) ?_
    have hi8 : i = 64 := by omega
    subst hi8
    refine ap h1 (((hm.cons _).cons _) w1 h1) (by8_sc _) (by omega) (by simp [padK_len]; omega) fun q3 c3 w3 h3 => ?_
    rw [by8_app] at h3
    have e6 : ((by8 (padK 0x36 key 64)).length + (by8 msg).length) / 1 = (padK 0x36 key 64 ++ msg).length := by rw [Nat.div_one, List.length_append, List.length_map, List.length_map]
    rw [e6] at h3 ⊢
    refine (cflref1_Hash_s (bs := padK 0x36 key 64 ++ msg) h3 (Rd.of_sl (T := t_uint8)) (by simp [padK_len]; omega)).mono ?_
    rintro _ w4 ⟨q4, c4, rfl, h4⟩
    refine ⟨_, _, _, rfl, ?_⟩
    have h5 := h4.f2
    have hr : VC w4 1 (lv q4 (sha (padK 0x36 key 64 ++ msg)).length c4) (by8 (sha (padK 0x36 key 64 ++ msg))) := vc_sl h4
    refine ap h5 hr (by8_sc _) (by omega) (by simp [padK_len, sha_len]) fun q6 c6 w6 h6 => ?_
    rw [by8_app] at h6
    have e7 : ((by8 (padK 0x5c key 64)).length + (by8 (sha (padK 0x36 key 64 ++ msg))).length) / 1 = (padK 0x5c key 64 ++ sha (padK 0x36 key 64 ++ msg)).length := by rw [Nat.div_one, List.length_append, List.length_map, List.length_map]
    rw [e7] at h6 ⊢
    refine (cflref1_Hash_s (bs := padK 0x5c key 64 ++ sha (padK 0x36 key 64 ++ msg)) h6 (Rd.of_sl (T := t_uint8)) (by simp [padK_len, sha_len])).mono ?_
    rintro _ w7 ⟨q7, c7, rfl, h7⟩
    refine ⟨_, _, _, rfl, hR _ _ ⟨q7, c7, rfl, ?_⟩⟩
    exact h7.ent ((((Ent.drop _ _).trans (Ent.drop _ _)).trans (Ent.drop _ _)).cons _)

theorem cflref1_Mac_s {w : World} {Fs : List HP} {kp mp : Option Addr} {kn kc mn mc : Nat} {key msg : List UInt8} (hS : St w Fs) (hk : Rd Fs 1 (lv kp kn kc) (by8 key)) (hm : Rd Fs 1 (lv mp mn mc) (by8 msg))
    (hkl : key.length ≤ 536870912) (hml : msg.length ≤ 536870912) : Calls P k_cflref1_Mac #[lv kp kn kc, lv mp mn mc] w (RetB (mac key msg) Fs) := by
  refine cflref1_Mac_of _ _ _ _ _ _ ?_
  have hl : key.length = kn := by simpa using (hk.len hS).1
  by_cases h : key.length > 64
  · refine cond_td (by unfold ln; omega) ?_
    refine (cflref1_Hash_s hS hk (by omega)).mono ?_
    rintro _ w1 ⟨q, c, rfl, h1⟩
    refine ⟨_, _, _, rfl, mac_loop (key := sha key) h1 (Rd.of_sl (T := t_uint8)) (hm.cons _) hml fun e w' hr => ?_⟩
    unfold mac shortK; rw [if_pos h]
    exact hr.drop
  · refine cond_fd (by unfold ln; omega) ?_
    refine mac_loop hS hk hm hml fun e w' hr => ?_
    unfold mac shortK; rw [if_neg h]
    exact hr
end Go.Proofs.Tz
namespace Go.Proofs.Tz
open Go.W
set_option maxRecDepth 20000

theorem RetB.mono {bs : List UInt8} {Fs Gs : List HP} {e : Ending} {w : World} (h : RetB bs Fs e w) (he : Ent Fs Gs) : RetB bs Gs e w := by
  obtain ⟨q, c, h1, h2⟩ := h
  exact ⟨q, c, h1, h2.ent (he.cons _)⟩
theorem RetB.val {bs : List UInt8} {Fs : List HP} {e : Ending} {w : World} (h : RetB bs Fs e w) {R : Ending → World → Prop} (hR : ∀ q c, St w (bsAt (lv q bs.length c) bs :: Fs) → R (.returned (lv q bs.length c)) w) : R e w := by
  obtain ⟨q, c, rfl, h2⟩ := h
  exact hR q c h2

section
variable {w : World} {Fs : List HP} {kp mp : Option Addr} {kn kc mn mc : Nat} {key msg bs : List UInt8}

theorem cflref1_Key_s (a b : Int) (hS : St w Fs) (hk : Rd Fs 1 (lv kp kn kc) (by8 key)) (hkl : key.length ≤ 536870912) :
    Calls P k_cflref1_Key #[lv kp kn kc, iv a, iv b] w (RetB (keyOf key a b) Fs) := by
  refine cflref1_Key_of _ _ _ _ _ ?_
  refine bs (cs := by8 [b8 a, b8 b]) hS (filled_of (by rw [show by8 [b8 a, b8 b] = [.int .u8 (IntKind.u8.wrap a), .int .u8 (IntKind.u8.wrap b)] by simp only [by8, List.map_cons, List.map_nil, b8_v]]; rfl)) (by omega) fun b1 w1 h1 => ?_
  refine (cflref1_Mac_s (msg := [b8 a, b8 b]) h1 (hk.cons _) (Rd.of_row (o := 0) rfl rfl (Nat.le_refl _)) hkl (by simp)).mono ?_
  intro e w2 hr
  obtain ⟨q, c, rfl, h2⟩ := hr.drop
  exact ⟨_, _, _, rfl, q, c, rfl, h2⟩
theorem cflref13_Keys_s (a b : Int) (hS : St w Fs) (hk : Rd Fs 1 (lv kp kn kc) (by8 key)) (hkl : key.length ≤ 536870912) :
    Calls P k_cflref13_Keys #[lv kp kn kc, iv a, iv b] w (RetB (keyOf key a b) Fs) := by
  refine cflref13_Keys_of _ _ _ _ _ ?_
  refine (cflref1_Key_s a b hS hk hkl).mono ?_
  rintro _ w2 ⟨q, c, rfl, h2⟩
  exact ⟨_, _, _, rfl, q, c, rfl, h2⟩
theorem cflref13_Stamp_s (b : Int) (hS : St w Fs) (hk : Rd Fs 1 (lv kp kn kc) (by8 key)) (hkl : key.length ≤ 536870912) :
    Calls P k_cflref13_Stamp #[lv kp kn kc, iv b] w (RetB (keyOf key 255 b) Fs) := by
  refine cflref13_Stamp_of _ _ _ _ ?_
  refine (cflref1_Key_s 255 b hS hk hkl).mono ?_
  rintro _ w2 ⟨q, c, rfl, h2⟩
  exact ⟨_, _, _, rfl, q, c, rfl, h2⟩

theorem two_by8 (a b : Int) : by8 [b8 a, b8 b] = [.int .u8 (IntKind.u8.wrap a), .int .u8 (IntKind.u8.wrap b)] := by simp only [by8, List.map_cons, List.map_nil, b8_v]

theorem cflref13_Receipt_s (party which seq : Int) (hS : St w Fs) (hk : Rd Fs 1 (lv kp kn kc) (by8 key)) (hm : Rd Fs 1 (lv mp mn mc) (by8 msg)) (hkl : key.length ≤ 268435456) (hml : msg.length ≤ 268435456) :
    Calls P k_cflref13_Receipt #[lv kp kn kc, iv party, iv which, iv seq, lv mp mn mc] w (RetB (receiptOf key party which seq msg) Fs) := by
  refine cflref13_Receipt_of _ _ _ _ _ _ _ _ _ ?_
  refine bs (cs := by8 [b8 party, b8 which]) hS (filled_of (by rw [two_by8]; rfl)) (by omega) fun b1 w1 h1 => ?_
  refine (cflref1_Put_s seq (size := 4) (by omega) h1).mono ?_
  rintro _ w2 ⟨q, c, rfl, h2⟩
  refine ⟨_, _, _, rfl, ?_⟩
  have h3 : St w2 (bsAt (lv (some (at0 b1)) 2 2) [b8 party, b8 which] :: bsAt (lv q (bytesOf seq 4).length c) (bytesOf seq 4) :: Fs) := row_sl h2.f1 rfl
  refine ap h3 (vc_sl h3.f1) (by8_sc _) (by omega) (by simp [bytesOf_len]) fun q1 c1 w3 h4 => ?_
  rw [by8_app] at h4
  refine ap h4 (((hm.cons _).cons _) w3 h4) (by8_sc _) (by omega) (by simp [bytesOf_len]; omega) fun q2 c2 w4 h5 => ?_
  rw [by8_app] at h5
  generalize hx : [b8 party, b8 which] ++ bytesOf seq 4 ++ msg = text at h5
  refine (cflref1_Mac_s (msg := text) h5 ((hk.cons _).cons _) (Rd.of_sl (T := t_uint8)) (by omega) (by rw [← hx]; simp [bytesOf_len]; omega)).mono ?_
  intro e w5 hr
  obtain ⟨q, c, rfl, h2⟩ := hr.drop.drop
  refine ⟨_, _, _, rfl, q, c, ?_, ?_⟩
  · rw [← hx]; rfl
  · rw [← hx] at h2; exact h2

theorem cflref_Bytes_s (hS : St w Fs) (hk : Rd Fs 1 (lv kp kn kc) (by8 key)) (hm : Rd Fs 1 (lv mp mn mc) (by8 msg)) :
    Calls P k_cflref_Bytes #[lv kp kn kc, lv mp mn mc] w fun e w' => w = w' ∧ e = .returned (bv (key == msg)) := by
  refine cflref_Bytes_of _ _ _ _ _ _ ?_
  refine ⟨_, w, cv_str (hk w hS), _, w, cv_str (hm w hS), rfl, ?_⟩
  rw [seq_mk]

def headOf (bs : List UInt8) : List UInt8 := if bs.length < 32 then [] else bs.take (bs.length - 32)
def tailOf (bs : List UInt8) : List UInt8 := if bs.length < 32 then [] else bs.drop (bs.length - 32)
def RetSplit (bs : List UInt8) (Fs : List HP) (e : Ending) (w' : World) : Prop :=
  ∃ qa na ca qb nb cb, e = .returned (tv [lv qa na ca, lv qb nb cb, iv (if bs.length < 32 then 2 else 0)]) ∧ St w' (bsAt (lv qb nb cb) (tailOf bs) :: bsAt (lv qa na ca) (headOf bs) :: Fs)

theorem cflref13_Split_s (hS : St w Fs) (hk : Rd Fs 1 (lv kp kn kc) (by8 bs)) (hl : bs.length ≤ 268435456) :
    Calls P k_cflref13_Split #[lv kp kn kc] w (RetSplit bs Fs) := by
  refine cflref13_Split_of _ _ _ ?_
  have hn : bs.length = kn := by simpa using (hk.len hS).1
  have hc := (hk.len hS).2
  by_cases h : bs.length < 32
  · refine cond_td (by unfold ln; omega) ?_
    refine ⟨none, 0, 0, none, 0, 0, ?_, ?_⟩
    · rw [if_pos h]
    · unfold headOf tailOf; rw [if_pos h, if_pos h]
      exact mk_slNil (mk_slNil hS)
  · refine cond_fd (by unfold ln; omega) ?_
    have e1 : w64 (ln kn - 32) = ((kn - 32 : Nat) : Int) := w64_eq _ (by unfold ln; omega) (by omega)
    rw [e1]
    refine ⟨fun w => St w Fs, hS.dr, ?_⟩
    refine ⟨_, _, _, fun w _ => slc_run (lo := 0) (hi := kn - 32) (by omega) (by omega) (.inr ⟨rfl, rfl⟩) (.inl rfl), ?_⟩
    refine ⟨_, _, _, fun w _ => slc_run (lo := kn - 32) (hi := kn) (by omega) (by omega) (.inl rfl) (.inr ⟨rfl, rfl⟩), ?_⟩
    have r1 := hk.slice (lo := 0) (hi := kn - 32) (by omega) (by omega)
    have r2 := hk.slice (lo := kn - 32) (hi := kn) (by omega) (by omega)
    have e2 : ((by8 bs).drop (0 * 1)).take ((kn - 32 - 0) * 1) = by8 (headOf bs) := by
      unfold headOf; rw [if_neg h, hn]; simp [by8, List.map_take]
    have e3 : ((by8 bs).drop ((kn - 32) * 1)).take ((kn - (kn - 32)) * 1) = by8 (tailOf bs) := by
      unfold tailOf; rw [if_neg h, hn]; simp only [by8, Nat.mul_one, ← List.map_drop]
      rw [List.take_of_length_le (by simp; omega)]
    rw [e2] at r1; rw [e3] at r2
    have l1 : (headOf bs).length ≤ 268435456 := by unfold headOf; rw [if_neg h]; simp; omega
    have l2 : (tailOf bs).length ≤ 268435456 := by unfold tailOf; rw [if_neg h]; simp; omega
    refine (cflref_CopyBytes_s hS.dr r1 (by omega)).mono ?_
    rintro _ w2 ⟨q, c, rfl, h2⟩
    refine ⟨_, _, _, rfl, ?_⟩
    refine ⟨h2.tail, ?_⟩
    refine (cflref_CopyBytes_s h2 (r2.cons _) (by omega)).mono ?_
    rintro _ w3 ⟨q2, c2, rfl, h3⟩
    refine ⟨_, _, _, rfl, ?_⟩
    refine ⟨_, _, _, _, _, _, ?_, h3⟩
    rw [if_neg h]
end
end Go.Proofs.Tz
namespace Go.Proofs.Tz
open Go.W
set_option maxRecDepth 20000

section
variable {w : World} {L R Fs : List HP} {F : Obj → List HP} {b off : Nat} {l : List Value} {T : TypeId}

theorem atomic_Bool_Load_s {x : Int} (hS : St w L) [Find b L (.cells l.toArray T (0, 0)) R F] (h : l[off]? = some (u32v x)) :
    Calls P k_sync_atomic_Bool_Load #[pv ⟨b, off, none⟩] w fun e w' => w = w' ∧ e = .returned (bv (x != 0)) := by
  refine sync_atomic_Bool_Load_of _ ⟨x, w, x_sync_atomic_LoadUint32 (by rw [cell_look hS]; exact h), rfl, rfl⟩
theorem imutex_Lock_s (hS : St w L) [Find b L (.cells l.toArray T (0, 0)) R F] (h : l[off]? = some (.int .i32 0)) :
    Calls P k_internal_sync_Mutex_Lock #[pv ⟨b, off, none⟩] w fun e w' => e = .returned (tv []) ∧ St w' (F (.cells (l.set off (.int .i32 1)).toArray T (0, 0))) := by
  have hS1 : St (w.setCell ⟨b, off, none⟩ (.int .i32 1)) (F (.cells (l.set off (.int .i32 1)).toArray T (0, 0))) := hS.setCell (b := b) off _
  have hc : (w.setCell ⟨b, off, none⟩ (.int .i32 1)).cell? ⟨b, off, none⟩ = some (.int .i32 1) := World.cell?_setCell_same w _ _ (by rw [cell_look hS]; exact h)
  refine internal_sync_Mutex_Lock_of _ ⟨w, x_internal_race_Disable w, _, _, x_sync_atomic_CompareAndSwapInt32 (by rw [cell_look hS]; exact h) (by rw [frozen_look hS]; simp), ?_⟩
  refine ⟨_, x_internal_race_Enable _, _, _, cv_unsafe hc, _, x_internal_race_Acquire _ _, rfl, hS1⟩
theorem mutex_Lock_s (hS : St w L) [Find b L (.cells l.toArray T (0, 0)) R F] (h : l[off]? = some (.int .i32 0)) :
    Calls P k_sync_Mutex_Lock #[pv ⟨b, off, none⟩] w fun e w' => e = .returned (tv []) ∧ St w' (F (.cells (l.set off (.int .i32 1)).toArray T (0, 0))) := by
  refine sync_Mutex_Lock_of _ ((imutex_Lock_s hS h).mono ?_)
  rintro _ w' ⟨rfl, h1⟩
  exact ⟨rfl, rfl, h1⟩
theorem imutex_Unlock_s (hS : St w L) [Find b L (.cells l.toArray T (0, 0)) R F] (h : l[off]? = some (.int .i32 1)) :
    Calls P k_internal_sync_Mutex_Unlock #[pv ⟨b, off, none⟩] w fun e w' => e = .returned (tv []) ∧ St w' (F (.cells (l.set off (.int .i32 0)).toArray T (0, 0))) := by
  have hS1 : St (w.setCell ⟨b, off, none⟩ (.int .i32 0)) (F (.cells (l.set off (.int .i32 0)).toArray T (0, 0))) := hS.setCell (b := b) off _
  refine internal_sync_Mutex_Unlock_of _ ⟨_, ld hS h, _, w, cv_unsafe (by rw [cell_look hS]; exact h), _, x_internal_race_ReleaseMerge _ _, _, x_internal_race_Disable _, _, _, x_sync_atomic_AddInt32 (by rw [cell_look hS]; exact h) (by rw [frozen_look hS]; simp), ?_⟩
  exact internal_sync_Mutex_Unlock_j6_of ⟨_, x_internal_race_Enable _, rfl, hS1⟩
end
end Go.Proofs.Tz
namespace Go.Proofs.Tz
open Go.W
set_option maxRecDepth 100000
set_option maxHeartbeats 1600000

theorem atomic_Bool_Store_d {u : FrameMode} {w : World} {L R : List HP} {F : Obj → List HP} {b off T : Nat} {l : List Value} {x : Value} (hS : St w L) [Find b L (.cells l.toArray T (0, 0)) R F] (h : l[off]? = some x) :
    CallsD P k_sync_atomic_Bool_Store #[pv ⟨b, off, none⟩, bv true] u w fun e u' w' => u' = u ∧ (e = .returned (tv []) ∧ St w' (F (.cells (l.set off (u32v 1)).toArray T (0, 0)))) := by
  refine sync_atomic_Bool_Store_ofD _ _ ⟨fun w => St w L, hS.dr, ?_⟩
  refine sync_atomic_b32_of true ?_
  refine ⟨1, rfl, ?_⟩
  exact ⟨_, x_sync_atomic_StoreUint32 (by rw [cell_look hS.dr]; exact h) (by rw [frozen_look hS.dr]; simp), rfl, hS.dr.setCell (b := b) off _⟩
theorem mutex_Unlock_d {u : FrameMode} {w : World} {L R : List HP} {F : Obj → List HP} {b off T : Nat} {l : List Value} (hS : St w L) [Find b L (.cells l.toArray T (0, 0)) R F] (h : l[off]? = some (.int .i32 1)) :
    CallsD P k_sync_Mutex_Unlock #[pv ⟨b, off, none⟩] u w fun e u' w' => u' = u ∧ (e = .returned (tv []) ∧ St w' (F (.cells (l.set off (.int .i32 0)).toArray T (0, 0)))) := by
  refine sync_Mutex_Unlock_ofD _ ((imutex_Unlock_s hS h).mono ?_)
  rintro _ w' ⟨rfl, h1⟩
  exact ⟨rfl, rfl, h1⟩

theorem once_doSlow_s {w : World} {Fs : List HP} {b T : Nat} {l l2 : List Value} (hS : St w (row b T l :: Fs)) (h0 : l[0]? = some (u32v 0)) (h1 : l[1]? = some (.int .i32 0))
    (hf : ∀ w1, St w1 (row b T (l.set 1 (.int .i32 1)) :: Fs) → Calls P k_sha_Table_reckon #[pv (at0 b)] w1 fun e w' => e = .returned (tv []) ∧ St w' (row b T l2 :: Fs)) (h2 : 1 < l2.length) (h3 : l2[1]? = some (.int .i32 1)) :
    Calls P k_sync_Once_doSlow #[pv (at0 b), .func (.func k_sha_Table_reckon) #[pv (at0 b)] #[]] w fun e w' => e = .returned (tv []) ∧ St w' (row b T ((l2.set 0 (u32v 1)).set 1 (.int .i32 0)) :: Fs) := by
  have hnot : ∀ (x : Bool) (w : World), (Op.unary .not (.bool x)).run P w = .ok (.bool (!x)) w := fun _ _ => rfl
  go_enter_defers Tryz.func224, Tryz.ntmps224
  go_wp2_with (go_at_call 244; refine (mutex_Lock_s (off := 1) hS h1).mono ?_; rintro e w' ⟨rfl, hw1⟩)
  have h0' : (l.set 1 (.int .i32 1))[0]? = some (u32v 0) := by rw [List.getElem?_set_ne (by omega)]; exact h0
  refine (atomic_Bool_Load_s (off := 0) hw1 h0').mono ?_
  rintro e _ ⟨rfl, rfl⟩
  go_wp2
  refine (hf _ hw1).mono ?_
  rintro e w2 ⟨rfl, hw2⟩
  go_wp2
  refine leaves_cons (f := k_sync_atomic_Bool_Store) (args := #[pv (at0 b), bv true]) (by simp) (by simp [go_sem]) ?_
  refine (atomic_Bool_Store_d (off := 0) (u := .returning) hw2 (List.getElem?_eq_getElem (by omega))).mono ?_
  rintro e u' w3 ⟨rfl, rfl, hw3⟩
  refine leaves_cons (f := k_sync_Mutex_Unlock) (args := #[pv ⟨b, 1, none⟩]) (by simp [settle]) (by simp [go_sem]) ?_
  have h3' : (l2.set 0 (u32v 1))[1]? = some (.int .i32 1) := by rw [List.getElem?_set_ne (by omega)]; exact h3
  refine (mutex_Unlock_d (off := 1) hw3 h3').mono ?_
  rintro e u' w4 ⟨rfl, rfl, hw4⟩
  simp only [Leaves, settle]
  exact ⟨tv [], results_none rfl _ _ _, rfl, hw4⟩

/-- Done before: nothing is done. -/
theorem once_Do_done {w : World} {Fs : List HP} {b T : Nat} {l : List Value} {f : Value} (hS : St w (row b T l :: Fs)) (h0 : l[0]? = some (u32v 1)) :
    Calls P k_sync_Once_Do #[pv (at0 b), f] w fun e w' => w = w' ∧ e = .returned (tv []) := by
  refine sync_Once_Do_of _ _ ((atomic_Bool_Load_s (off := 0) hS h0).mono ?_)
  rintro e _ ⟨rfl, rfl⟩
  exact ⟨_, rfl, rfl, rfl⟩
theorem once_Do_first {w : World} {Fs : List HP} {b T : Nat} {l l2 : List Value} (hS : St w (row b T l :: Fs)) (h0 : l[0]? = some (u32v 0)) (h1 : l[1]? = some (.int .i32 0))
    (hf : ∀ w1, St w1 (row b T (l.set 1 (.int .i32 1)) :: Fs) → Calls P k_sha_Table_reckon #[pv (at0 b)] w1 fun e w' => e = .returned (tv []) ∧ St w' (row b T l2 :: Fs)) (h2 : 1 < l2.length) (h3 : l2[1]? = some (.int .i32 1)) :
    Calls P k_sync_Once_Do #[pv (at0 b), .func (.func k_sha_Table_reckon) #[pv (at0 b)] #[]] w fun e w' => e = .returned (tv []) ∧ St w' (row b T ((l2.set 0 (u32v 1)).set 1 (.int .i32 0)) :: Fs) := by
  refine sync_Once_Do_of _ _ ((atomic_Bool_Load_s (off := 0) hS h0).mono ?_)
  rintro e _ ⟨rfl, rfl⟩
  refine ⟨_, rfl, ?_⟩
  refine (once_doSlow_s hS h0 h1 hf h2 h3).mono ?_
  rintro e w' ⟨rfl, h4⟩
  exact ⟨rfl, rfl, h4⟩
end Go.Proofs.Tz
namespace Go.Proofs.Tz
open Go.W
set_option maxRecDepth 20000

theorem Mul64_p (a b : Nat) (ha : a < 18446744073709551616) (hb : b < 18446744073709551616) :
    Pure k_math_bits_Mul64 #[.int .u64 a, .int .u64 b] (tv [.int .u64 (a * b / 18446744073709551616 : Nat), .int .u64 (a * b % 18446744073709551616 : Nat)]) := by
  intro w
  refine math_bits_Mul64_of _ _ ?_
  refine ⟨rfl, ?_⟩
  have h1 := mul_bound (show a % 4294967296 < 4294967296 by omega) (show b % 4294967296 < 4294967296 by omega)
  have h2 := mul_bound (show a / 4294967296 < 4294967296 by omega) (show b % 4294967296 < 4294967296 by omega)
  have h3 := mul_bound (show a % 4294967296 < 4294967296 by omega) (show b / 4294967296 < 4294967296 by omega)
  have h4 := mul_bound (show a / 4294967296 < 4294967296 by omega) (show b / 4294967296 < 4294967296 by omega)
  have e := mul_hi ha hb
  have hlt : a * b / 18446744073709551616 < 18446744073709551616 := by
    rw [← e]
    generalize a % 4294967296 * (b % 4294967296) = A at *
    generalize a / 4294967296 * (b % 4294967296) = B at *
    generalize a % 4294967296 * (b / 4294967296) = C at *
    generalize a / 4294967296 * (b / 4294967296) = E at *
    omega
  simp only [shr_nat _ 32 (by omega), and_nat _ ha, and_nat _ hb, ← Int.natCast_mul, ← Int.natCast_add, wrap_nat, Nat.reducePow]
  rw [← e] at hlt ⊢
  generalize a * b = M at *
  generalize a % 4294967296 * (b % 4294967296) = A at *
  generalize a / 4294967296 * (b % 4294967296) = B at *
  generalize a % 4294967296 * (b / 4294967296) = C at *
  generalize a / 4294967296 * (b / 4294967296) = E at *
  have hA : A % 18446744073709551616 = A := Nat.mod_eq_of_lt (by omega)
  have hB : B % 18446744073709551616 = B := Nat.mod_eq_of_lt (by omega)
  have hC : C % 18446744073709551616 = C := Nat.mod_eq_of_lt (by omega)
  have hE : E % 18446744073709551616 = E := Nat.mod_eq_of_lt (by omega)
  have hT : (B + A / 4294967296) % 18446744073709551616 = B + A / 4294967296 := Nat.mod_eq_of_lt (by omega)
  simp only [hA, hB, hC, hE, hT]
  rw [and_nat _ (show B + A / 4294967296 < 18446744073709551616 by omega)]
  simp only [← Int.natCast_add, wrap_nat, shr_nat _ 32 (by omega : 32 ≤ 64), Nat.reducePow]
  have h5 : (E + (B + A / 4294967296) / 4294967296) % 18446744073709551616 = E + (B + A / 4294967296) / 4294967296 := Nat.mod_eq_of_lt (by omega)
  have h6 : ((B + A / 4294967296) % 4294967296 + C) % 18446744073709551616 = (B + A / 4294967296) % 4294967296 + C := Nat.mod_eq_of_lt (by omega)
  rw [h5, h6, Nat.mod_eq_of_lt hlt]

theorem sha_square_p (x p : Nat) (hx : x < 2199023255552) : Pure k_sha_square #[.int .u64 x, .int .u64 p] (bv (squareF x p)) := by
  intro w
  refine sha_square_of _ _ ?_
  refine (Mul64_p x x (by omega) (by omega)).call ⟨_, _, rfl, ?_⟩
  unfold squareF
  generalize x * x = X
  by_cases h1 : X / 18446744073709551616 < p
  · refine cond_td (by omega) ⟨rfl, ?_⟩
    rw [decide_eq_true (by omega)]
  · refine cond_fd (by omega) ?_
    by_cases h2 : X / 18446744073709551616 = p
    · refine cond_t (by simp; omega) ⟨rfl, ?_⟩
      congr 3
      by_cases h3 : X % 18446744073709551616 = 0
      · rw [h3, decide_eq_true (by omega)]; rfl
      · rw [decide_eq_false (by omega)]; simp; omega
    · refine cond_f (by simp; omega) ⟨rfl, ?_⟩
      rw [decide_eq_false (by omega)]

theorem sha_cube_p (x p : Nat) (hx : x < 2199023255552) (hp : p ≤ 65535) : Pure k_sha_cube #[.int .u64 x, .int .u64 p] (bv (cubeF x p)) := by
  intro w
  refine sha_cube_of _ _ ?_
  have hX : x * x ≤ 2199023255551 * 2199023255551 := Nat.mul_le_mul (by omega) (by omega)
  have hlo : x * x % 18446744073709551616 * x ≤ 18446744073709551615 * 2199023255551 := Nat.mul_le_mul (by omega) (by omega)
  have hhi : x * x / 18446744073709551616 * x ≤ 262144 * 2199023255551 := Nat.mul_le_mul (by omega) (by omega)
  have hc : x * x * x = x * x / 18446744073709551616 * x * 18446744073709551616 + x * x % 18446744073709551616 * x := by
    have : x * x = x * x / 18446744073709551616 * 18446744073709551616 + x * x % 18446744073709551616 := by omega
    generalize x * x / 18446744073709551616 = q at *
    generalize x * x % 18446744073709551616 = r at *
    rw [this]; grind
  refine (Mul64_p x x (by omega) (by omega)).call ⟨_, _, rfl, ?_⟩
  refine (Mul64_p _ x (by omega) (by omega)).call ⟨_, _, rfl, ?_⟩
  refine (Mul64_p _ x (by omega) (by omega)).call ⟨_, _, rfl, ?_⟩
  refine ⟨_, _, _, x_math_bits_Add64 _ _ 0 (by omega) w, ?_⟩
  have hs : ishl .u64 (p : Int) 32 = ((p * 4294967296 : Nat) : Int) := by
    unfold ishl
    rw [show ((p : Int) * 2 ^ (min 32 IntKind.u64.bits)) = ((p * 4294967296 : Nat) : Int) by simp [IntKind.bits], wrap_nat, Nat.mod_eq_of_lt (by omega)]
  rw [hs, ← Int.natCast_add, wrap_nat]
  unfold cubeF
  rw [hc]
  generalize x * x / 18446744073709551616 * x = M at *
  generalize x * x % 18446744073709551616 * x = N at *
  by_cases h0 : (M / 18446744073709551616 + (M % 18446744073709551616 + N / 18446744073709551616 + 0) / 18446744073709551616) % 18446744073709551616 = 0
  · refine cond_t (by simp; omega) ?_
    by_cases h1 : (M % 18446744073709551616 + N / 18446744073709551616 + 0) % 18446744073709551616 < p * 4294967296
    · refine cond_td (by omega) ⟨rfl, ?_⟩
      rw [decide_eq_true (by omega)]
    · refine cond_fd (by omega) ?_
      by_cases h2 : (M % 18446744073709551616 + N / 18446744073709551616 + 0) % 18446744073709551616 = p * 4294967296
      · refine cond_t (by simp; omega) ⟨rfl, ?_⟩
        congr 3
        by_cases h3 : N % 18446744073709551616 = 0
        · rw [h3, decide_eq_true (by omega)]; rfl
        · rw [decide_eq_false (by omega)]; simp; omega
      · refine cond_f (by simp; omega) ⟨rfl, ?_⟩
        rw [decide_eq_false (by omega)]
  · refine cond_f (by simp; omega) ⟨rfl, ?_⟩
    rw [decide_eq_false (by omega)]

theorem sha_prime_p (n : Nat) (hn : n ≤ 400) : Pure k_sha_prime #[.int .u64 n] (bv (primeF n)) := by
  intro w
  refine sha_prime_of _ ?_
  refine ⟨fun vs w' => w = w' ∧ ∃ d f : Nat, d + f = 30 ∧ 2 ≤ d ∧ 1 ≤ f ∧ vs = [.int .u64 n, .int .u64 d] ∧ primeL n f d = primeF n, fun vs _ => (40 - cnt 1 vs).toNat, ⟨rfl, 2, 28, rfl, by omega, by omega, rfl, rfl⟩, ?_⟩
  rintro _ w' ⟨rfl, d, f, hdf, hd, hf, rfl, hp⟩
  refine sha_prime_b2_of _ _ ?_
  have hdd : d * d ≤ 900 := Nat.mul_le_mul (show d ≤ 30 by omega) (show d ≤ 30 by omega)
  rw [← Int.natCast_mul, wrap_nat, Nat.mod_eq_of_lt (by omega)]
  obtain ⟨f, rfl⟩ : ∃ g, f = g + 1 := ⟨f - 1, by omega⟩
  unfold primeL at hp
  by_cases h : d * d ≤ n
  · rw [if_pos h] at hp
    refine cond_td (by omega) ?_
    refine ⟨_, w, bin_rem (by omega), ?_⟩
    have hr : Int.tmod (n : Int) (d : Int) = ((n % d : Nat) : Int) := rfl
    rw [hr]
    by_cases h2 : n % d = 0
    · rw [if_pos h2] at hp
      refine cond_t (by simp; omega) ⟨rfl, ?_⟩
      rw [← hp]
    · rw [if_neg h2] at hp
      refine cond_f (by simp; omega) ?_
      have e : IntKind.u64.wrap ((d : Int) + 1) = ((d + 1 : Nat) : Int) := by rw [u64_id (by omega)]; omega
      rw [e]
      have hd20 : d ≤ 20 := by
        by_cases hh : d ≤ 20
        · exact hh
        · have := Nat.mul_le_mul (show 21 ≤ d by omega) (show 21 ≤ d by omega); omega
      exact ⟨⟨rfl, d + 1, f, by omega, by omega, by omega, rfl, hp⟩, by simp [cnt]; omega⟩
  · rw [if_neg h] at hp
    refine cond_fd (by omega) ⟨rfl, ?_⟩
    rw [← hp]

theorem sha_root_p (p k : Nat) (f : Nat → Nat → Bool) (hf : ∀ x, x < 2199023255552 → ∀ (w : World) (R : Ending → World → Prop), R (.returned (bv (f x p))) w → callV P true (.func (.func k) #[] #[]) #[.int .u64 x, .int .u64 p] w R) :
    Pure k_sha_root #[.int .u64 p, .func (.func k) #[] #[]] (.int .u32 (rootL f p 41 0 % 4294967296 : Nat)) := by
  intro w
  refine sha_root_of _ _ ?_
  refine ⟨fun vs w' => w = w' ∧ ∃ j x : Nat, j ≤ 41 ∧ x < 2199023255552 ∧ vs = [.int .u64 p, .func (.func k) #[] #[], .int .u64 x, .int .u64 (2 ^ j / 2 : Nat)] ∧ rootL f p j x = rootL f p 41 0, fun vs _ => (cnt 3 vs).toNat, ⟨rfl, 41, 0, by omega, by omega, rfl, rfl⟩, ?_⟩
  rintro _ w' ⟨rfl, j, x, hj, hx, rfl, hr⟩
  refine sha_root_b3_of _ _ _ _ ?_
  cases j with
  | zero =>
    refine cond_fd (by omega) ⟨rfl, ?_⟩
    have : x = rootL f p 41 0 := hr
    rw [← this]
    congr 2
  | succ j =>
    have e1 : 2 ^ (j + 1) / 2 = 2 ^ j := by rw [Nat.pow_succ]; omega
    have h2 : 0 < 2 ^ j := Nat.pos_of_ne_zero (by simp)
    have h3 : 2 ^ j ≤ 2 ^ 40 := Nat.pow_le_pow_right (by omega) (by omega)
    rw [e1]
    refine cond_td (by omega) ?_
    have e2 := ior_nat64 hx (show 2 ^ j < 2199023255552 by omega)
    rw [e2]
    have hx2 : x ||| 2 ^ j < 2 ^ 41 := Nat.or_lt_two_pow (by omega) (by omega)
    refine hf _ (by omega) w _ ⟨_, rfl, ?_⟩
    have e3 : ishr .u64 ((2 ^ j : Nat) : Int) 1 = ((2 ^ j / 2 : Nat) : Int) := shr_nat _ 1 (by omega)
    have hr' : rootL f p j (if f (x ||| 2 ^ j) p then x ||| 2 ^ j else x) = rootL f p 41 0 := hr
    cases hb : f (x ||| 2 ^ j) p with
    | true =>
      rw [hb] at hr'
      refine cond_t rfl (sha_root_j4_of _ _ _ _ ?_)
      rw [e3]
      exact ⟨⟨rfl, j, _, by omega, by omega, rfl, hr'⟩, by show (((2 ^ j / 2 : Nat)) : Int).toNat < (((2 ^ j : Nat)) : Int).toNat; rw [Int.toNat_natCast, Int.toNat_natCast]; omega⟩
    | false =>
      rw [hb] at hr'
      refine cond_f rfl (sha_root_j4_of _ _ _ _ ?_)
      rw [e3]
      exact ⟨⟨rfl, j, _, by omega, by omega, rfl, hr'⟩, by show (((2 ^ j / 2 : Nat)) : Int).toNat < (((2 ^ j : Nat)) : Int).toNat; rw [Int.toNat_natCast, Int.toNat_natCast]; omega⟩
end Go.Proofs.Tz
namespace Go.Proofs.Tz
open Go.W
set_option maxRecDepth 20000

theorem callV_of {k : FuncId} {y : Bool} {first cap args : Array Value} {w : World} {R : Ending → World → Prop} (hf : ((P.funcs[k]?).bind (·.body)).isSome = true) (h : Calls P k (first ++ args ++ cap) w R) :
    callV P y (.func (.func k) first cap) args w R := by
  unfold callV
  simp only
  cases hb : (P.funcs[k]?).bind (·.body) with
  | none => rw [hb] at hf; cases hf
  | some c => exact h

/-- A table's cells. -/
def tabL (d st : Int) (K H : List Value) : List Value := [u32v d, .int .i32 st, u32v 0] ++ K ++ H
def part (l : List Int) (n i : Nat) : List Value := by32 (l.take i) ++ List.replicate (n - i) (u32v 0)
theorem part_len {l : List Int} {n i : Nat} (h : l.length = n) : (part l n i).length = n := by simp [part]; omega
theorem part_set {l : List Int} {n i : Nat} (h : l.length = n) (hi : i < n) : (part l n i).set i (u32v (gi l i)) = part l n (i + 1) := by
  have h1 : (by32 (l.take i)).length = i := by simp; omega
  unfold part
  rw [show n - i = (n - (i + 1)) + 1 by omega]
  have := put_next (by32 (l.take i)) (n - (i + 1)) (u32v (gi l i)) (u32v 0)
  rw [h1] at this
  rw [this]
  have e : l.take (i + 1) = l.take i ++ [gi l i] := by
    rw [List.take_succ_eq_append_getElem (by omega)]
    simp [gi, List.getD_eq_getElem?_getD, show i < l.length by omega]
  rw [e, by32, by32, List.map_append]
  rfl
theorem K64_len : K64.length = 64 := rfl
theorem H8_len : H8.l.length = 8 := rfl
theorem part_full {l : List Int} {n i : Nat} (h : l.length = n) (hi : n ≤ i) : part l n i = by32 l := by
  unfold part; rw [List.take_of_length_le (by omega), show n - i = 0 by omega]; simp
theorem tab_setK {d st : Int} {K H : List Value} {i : Nat} {y : Value} (h : i < K.length) : (tabL d st K H).set (3 + i * 1) y = tabL d st (K.set i y) H := by
  unfold tabL
  rw [show 3 + i * 1 = 3 + i by omega, List.append_assoc, List.set_append_right _ _ (by simp), List.set_append_left _ _ (by simp; omega)]
  simp
theorem tab_setH {d st : Int} {K H : List Value} {i : Nat} {y : Value} (h : K.length = 64) : (tabL d st K H).set (67 + i * 1) y = tabL d st K (H.set i y) := by
  unfold tabL
  rw [show 67 + i * 1 = 67 + i by omega, List.set_append_right _ _ (by simp; omega)]
  simp [h]

theorem sha_Table_reckon_s {w : World} {Fs : List HP} {b T : Nat} (hS : St w (row b T (tabL 0 1 (part K64 64 0) (part H8.l 8 0)) :: Fs)) :
    Calls P k_sha_Table_reckon #[pv (at0 b)] w fun e w' => e = .returned (tv []) ∧ St w' (row b T (tabL 0 1 (by32 K64) (by32 H8.l)) :: Fs) := by
  refine sha_Table_reckon_of _ ?_
  refine ⟨fun vs w => ∃ i : Nat, i ≤ 64 ∧ vs = [pv (at0 b), .int .u64 (from' i), iv i] ∧ St w (row b T (tabL 0 1 (part K64 64 i) (part H8.l 8 i)) :: Fs), fun vs _ => (64 - cnt 2 vs).toNat, ⟨0, by omega, rfl, hS⟩, ?_⟩
  clear hS
  rintro _ w1 ⟨i, hi, rfl, h1⟩
  refine sha_Table_reckon_b2_of _ _ _ ?_
  by_cases h : i < 64
  · refine cond_td (by omega) ?_
    have hpr := pr_le h
    refine ⟨fun vs w => ∃ p : Nat, from' i ≤ p ∧ p ≤ pr i ∧ vs = [pv (at0 b), .int .u64 p, iv i, iv i] ∧ St w (row b T (tabL 0 1 (part K64 64 i) (part H8.l 8 i)) :: Fs), fun vs _ => (400 - cnt 1 vs).toNat, ⟨_, Nat.le_refl _, hpr.2.1, rfl, h1⟩, ?_⟩
    clear h1
    rintro _ w2 ⟨p, hp1, hp2, rfl, h2⟩
    refine sha_Table_reckon_b4_of _ _ _ _ ?_
    refine (sha_prime_p p (by omega)).call ⟨_, rfl, ?_⟩
    rw [prime_ok h hp1 hp2 (by omega)]
    by_cases hp : p = pr i
    · refine cond_f (by simp [hp]) ?_
      subst hp
      refine ⟨fun _ => True, trivial, ?_⟩
      refine (sha_root_p (pr i) k_sha_cube cubeF fun x hx w R hR => callV_of (by kernel_rfl) ((sha_cube_p x (pr i) hx (by omega)).call hR)).call ⟨_, rfl, by omega, ?_⟩
      rw [word_ok h]
      refine stox (o := 3) h2.dr (by simp only [tabL, List.length_append, part_len K64_len, part_len H8_len, List.length_cons, List.length_nil]; omega) rfl fun w3 h3 => ?_
      have h4 : St w3 (row b T (tabL 0 1 (part K64 64 (i + 1)) (part H8.l 8 i)) :: Fs) := by
        rw [← part_set K64_len h, ← tab_setK (by rw [part_len K64_len]; exact h)]; exact h3
      have e1 : IntKind.u64.wrap (((pr i : Nat) : Int) + 1) = ((from' (i + 1) : Nat) : Int) := by
        rw [u64_id (by omega)]; unfold from'; rw [if_neg (by omega)]; rfl
      have e2 : w64 ((i : Int) + 1) = ((i + 1 : Nat) : Int) := w64_eq _ (by omega) (by omega)
      by_cases h8 : i < 8
      · refine cond_td (by omega) ?_
        refine ⟨fun _ => True, trivial, ?_⟩
        refine (sha_root_p (pr i) k_sha_square squareF fun x hx w R hR => callV_of (by kernel_rfl) ((sha_square_p x (pr i) hx).call hR)).call ⟨_, rfl, by omega, ?_⟩
        rw [start_ok h8]
        refine stox (o := 67) h4.dr (by simp only [tabL, List.length_append, part_len K64_len, part_len H8_len, List.length_cons, List.length_nil]; omega) rfl fun w5 h5 => ?_
        have h6 : St w5 (row b T (tabL 0 1 (part K64 64 (i + 1)) (part H8.l 8 (i + 1))) :: Fs) := by
          rw [← part_set H8_len h8, ← tab_setH (by rw [part_len K64_len])]; exact h5
        refine sha_Table_reckon_j9_of _ _ _ ?_
        rw [e1, e2]
        exact ⟨⟨i + 1, by omega, rfl, h6⟩, by simp [cnt]; omega⟩
      · refine cond_fd (by omega) ?_
        refine sha_Table_reckon_j9_of _ _ _ ?_
        rw [e1, e2]
        rw [part_full H8_len (by omega), ← part_full (i := i + 1) H8_len (by omega)] at h4
        exact ⟨⟨i + 1, by omega, rfl, h4⟩, by simp [cnt]; omega⟩
    · refine cond_t (by simp [hp]) ?_
      have e1 : IntKind.u64.wrap ((p : Int) + 1) = ((p + 1 : Nat) : Int) := by rw [u64_id (by omega)]; omega
      rw [e1]
      exact ⟨⟨p + 1, by omega, by omega, rfl, h2⟩, by simp [cnt]; omega⟩
  · refine cond_fd (by omega) ⟨rfl, ?_⟩
    rw [part_full K64_len (by omega), part_full H8_len (by omega)] at h1
    exact h1

/-- A table: fresh, or reckoned. -/
def tabAt (b : Nat) : HP := fun h => row b t_sha_Table (tabL 0 0 (part K64 64 0) (part H8.l 8 0)) h ∨ row b t_sha_Table (tabL 1 0 (by32 K64) (by32 H8.l)) h
theorem tab_open {w : World} {b : Nat} {L : List HP} (h : St w (tabAt b :: L)) : St w (row b t_sha_Table (tabL 0 0 (part K64 64 0) (part H8.l 8 0)) :: L) ∨ St w (row b t_sha_Table (tabL 1 0 (by32 K64) (by32 H8.l)) :: L) := by
  obtain ⟨x, h1, a, c, hd, rfl, hp, hl⟩ := h
  rcases hp with hp | hp
  · exact .inl ⟨_, h1, a, c, hd, rfl, hp, hl⟩
  · exact .inr ⟨_, h1, a, c, hd, rfl, hp, hl⟩
theorem tab_ready {w : World} {b : Nat} {L : List HP} (h : St w (row b t_sha_Table (tabL 1 0 (by32 K64) (by32 H8.l)) :: L)) : St w (tabAt b :: L) := h.head fun _ hp => .inr hp
theorem tab_fresh {w : World} {b : Nat} {L : List HP} (h : St w (row b t_sha_Table (tabL 0 0 (part K64 64 0) (part H8.l 8 0)) :: L)) : St w (tabAt b :: L) := h.head fun _ hp => .inl hp

theorem sha_NewTable_s {w : World} {Fs : List HP} (hS : St w Fs) : Calls P k_sha_NewTable #[] w fun e w' => ∃ b, e = .returned (pv (at0 b)) ∧ St w' (tabAt b :: Fs) := by
  refine sha_NewTable_of ?_
  refine bx (l := tabL 0 0 (part K64 64 0) (part H8.l 8 0)) hS rfl fun b w1 h1 => ?_
  exact ⟨b, rfl, tab_fresh h1⟩

theorem once_Table {w : World} {Fs : List HP} {b : Nat} (hS : St w (tabAt b :: Fs)) :
    Calls P k_sync_Once_Do #[pv (at0 b), .func (.func k_sha_Table_reckon) #[pv (at0 b)] #[]] w fun e w' => e = .returned (tv []) ∧ St w' (row b t_sha_Table (tabL 1 0 (by32 K64) (by32 H8.l)) :: Fs) := by
  rcases tab_open hS with h | h
  · refine once_Do_first (l2 := tabL 0 1 (by32 K64) (by32 H8.l)) h rfl rfl (fun w1 h1 => ?_) (by simp [tabL]) rfl
    exact sha_Table_reckon_s h1
  · refine (once_Do_done h rfl).mono ?_
    rintro _ _ ⟨rfl, rfl⟩
    exact ⟨rfl, h⟩

theorem sha_Table_Word_s {w : World} {Fs : List HP} {b i : Nat} (hi : i < 64) (hS : St w (tabAt b :: Fs)) :
    Calls P k_sha_Table_Word #[pv (at0 b), iv i] w fun e w' => e = .returned (u32v (gi K64 i)) ∧ St w' (tabAt b :: Fs) := by
  refine sha_Table_Word_of _ _ ((once_Table hS).mono ?_)
  rintro _ w1 ⟨rfl, h1⟩
  refine ⟨rfl, cond_fd (by omega) (sha_Table_Word_j1003_of _ _ _ ?_)⟩
  refine cond_f (decide_eq_false (by omega)) ⟨by omega, _, ldx (o := 3) h1 ?_, rfl, tab_ready h1⟩
  unfold tabL
  rw [show 3 + (i : Int).toNat * 1 = 3 + i by omega, List.append_assoc, List.getElem?_append_right (by simp), List.getElem?_append_left (by simp; exact hi)]
  simp only [List.length_cons, List.length_nil, Nat.zero_add, Nat.reduceAdd, Nat.add_sub_cancel_left]
  exact by32_at hi
theorem sha_Table_Start_s {w : World} {Fs : List HP} {b i : Nat} (hi : i < 8) (hS : St w (tabAt b :: Fs)) :
    Calls P k_sha_Table_Start #[pv (at0 b), iv i] w fun e w' => e = .returned (u32v (gi H8.l i)) ∧ St w' (tabAt b :: Fs) := by
  refine sha_Table_Start_of _ _ ((once_Table hS).mono ?_)
  rintro _ w1 ⟨rfl, h1⟩
  refine ⟨rfl, cond_fd (by omega) (sha_Table_Start_j1003_of _ _ _ ?_)⟩
  refine cond_f (decide_eq_false (by omega)) ⟨by omega, _, ldx (o := 67) h1 ?_, rfl, tab_ready h1⟩
  unfold tabL
  rw [show 67 + (i : Int).toNat * 1 = 67 + i by omega, List.getElem?_append_right (by simp [K64])]
  have : 67 + i - ([u32v 1, Value.int .i32 0, u32v 0] ++ by32 K64).length = i := by simp [K64]
  rw [this]
  exact by32_at hi
end Go.Proofs.Tz
namespace Go.Proofs.Tz
open Go.W
set_option maxRecDepth 20000

/-- The first bytes of a word. -/
def acc4 (b : List UInt8) (i : Nat) : Nat → Nat
  | 0 => 0
  | k + 1 => acc4 b i k * 256 + (b.getD (4 * i + k) 0).toNat
theorem acc4_lt (b : List UInt8) (i : Nat) : acc4 b i 1 < 256 ∧ acc4 b i 2 < 65536 ∧ acc4 b i 3 < 16777216 := by
  have h0 := UInt8.toNat_lt (b.getD (4 * i + 0) 0)
  have h1 := UInt8.toNat_lt (b.getD (4 * i + 1) 0)
  have h2 := UInt8.toNat_lt (b.getD (4 * i + 2) 0)
  simp only [acc4]; omega
theorem acc4_be4 (b : List UInt8) (i : Nat) : ((acc4 b i 4 : Nat) : Int) = be4 b i := by
  simp only [acc4, be4, gb, Nat.add_zero]; push_cast; omega

def mid3 (A B : List Value) (l : List Value) : List Value := A ++ l ++ B
theorem mid3_at {A B l : List Value} {off i : Nat} {x : Value} (hA : A.length = off) (h : l[0 + i * 1]? = some x) : (mid3 A B l)[off + i * 1]? = some x := by
  have hi := (List.getElem?_eq_some_iff.1 h).1
  unfold mid3
  rw [List.append_assoc, List.getElem?_append_right (by omega), List.getElem?_append_left (by omega)]
  rw [← h]; congr 1; omega
theorem mid3_set {A B l : List Value} {off i : Nat} {x : Value} (hA : A.length = off) (h : i < l.length) : (mid3 A B l).set (off + i * 1) x = mid3 A B (l.set (0 + i * 1) x) := by
  unfold mid3
  rw [List.append_assoc, List.set_append_right _ _ (by omega), List.set_append_left _ _ (by omega), List.append_assoc]
  congr 3; omega
theorem mid3_len {A B l : List Value} : (mid3 A B l).length = A.length + l.length + B.length := by simp [mid3]; omega
theorem mid_len (v u : V8) (i : Nat) : (by32 (mid v u i)).length = 8 - i + min i 8 := by simp [mid, V8.l]; omega

theorem sha_mix_s {w : World} {Fs : List HP} {bt bh off T : Nat} {bp : Option Addr} {bn bc : Nat} {v : V8} {bs : List UInt8} {A B : List Value} (hA : A.length = off) (hS : St w (row bh T (mid3 A B (by32 v.l)) :: tabAt bt :: Fs))
    (hb : Rd Fs 1 (lv bp bn bc) (by8 bs)) (hlen : bs.length = 64) :
    Calls P k_sha_mix #[pv (at0 bt), pv ⟨bh, off, none⟩, lv bp bn bc] w fun e w' => e = .returned (tv []) ∧ St w' (row bh T (mid3 A B (by32 (comp v bs).l)) :: tabAt bt :: Fs) := by
  refine sha_mix_of _ _ _ _ _ ?_
  refine al hS fun bw w1 h1 => ?_
  refine ⟨fun vs w => ∃ i : Nat, i ≤ 64 ∧ vs = [pv (at0 bt), pv ⟨bh, off, none⟩, lv bp bn bc, pv (at0 bw), iv i] ∧ St w (row bw t_a64_uint32 (by32 (wds bs i) ++ List.replicate (64 - i) (u32v 0)) :: row bh T (mid3 A B (by32 v.l)) :: tabAt bt :: Fs),
    fun vs _ => (64 - cnt 4 vs).toNat, ⟨0, by omega, rfl, h1⟩, ?_⟩
  clear h1 hS
  rintro _ w2 ⟨i, hi, rfl, h2⟩
  refine sha_mix_b2_of _ _ _ _ _ _ _ ?_
  have e5 : w64 ((i : Int) + 1) = ((i + 1 : Nat) : Int) := w64_eq _ (by omega) (by omega)
  have hbl := hb.len h2.tail.tail.tail
  simp only [List.length_map] at hbl
  by_cases h : i < 64
  · refine cond_td (by omega) ?_
    by_cases h16 : i < 16
    · refine cond_td (by omega) ?_
      have e0 : w64 (4 * (i : Int)) = ((4 * i : Nat) : Int) := w64_eq _ (by omega) (by omega)
      have e1 : w64 (((4 * i : Nat) : Int) + 4) = ((4 * i + 4 : Nat) : Int) := w64_eq _ (by omega) (by omega)
      rw [e0, e1]
      refine ⟨_, _, _, slc_run (lo := 4 * i) (hi := 4 * i + 4) (by omega) (by omega) (.inl rfl) (.inl rfl), ?_⟩
      have hR := hb.slice (lo := 4 * i) (hi := 4 * i + 4) (by omega) (by omega)
      have hblk : ((by8 bs).drop (4 * i * 1)).take ((4 * i + 4 - 4 * i) * 1) = by8 ((bs.drop (4 * i)).take 4) := by
        simp only [by8, List.map_take, List.map_drop, Nat.mul_one]; congr 1; omega
      rw [hblk] at hR
      generalize (if bc = 4 * i then bp else bp.map (·.add (4 * i * 1))) = sp at hR ⊢
      rw [show 4 * i + 4 - 4 * i = 4 by omega] at hR ⊢
      generalize bc - 4 * i = sc at hR ⊢
      refine ⟨fun vs w => ∃ k : Nat, k ≤ 4 ∧ vs = [pv (at0 bt), pv ⟨bh, off, none⟩, lv bp bn bc, pv (at0 bw), iv i, iv i, lv sp 4 sc, iv 4, iv k] ∧ St w (row bw t_a64_uint32 ((by32 (wds bs i) ++ List.replicate (64 - i) (u32v 0)).set (0 + i * 1) (u32v (acc4 bs i k : Nat))) :: row bh T (mid3 A B (by32 v.l)) :: tabAt bt :: Fs),
        fun vs _ => (4 - cnt 8 vs).toNat, ⟨0, by omega, rfl, ?_⟩, ?_⟩
      · have : (by32 (wds bs i) ++ List.replicate (64 - i) (u32v 0)).set (0 + i * 1) (u32v (acc4 bs i 0 : Nat)) = by32 (wds bs i) ++ List.replicate (64 - i) (u32v 0) := by
          rw [show 64 - i = 63 - i + 1 by omega, show 0 + i * 1 = (by32 (wds bs i)).length by simp [wds_len], put_next]
          simp [acc4, List.replicate_succ]
        rw [this]; exact h2
      clear h2
      rintro _ w3 ⟨k, hk, rfl, h3⟩
      refine sha_mix_b6_of _ _ _ _ _ _ _ _ _ _ _ _ _ ?_
      by_cases hk4 : k < 4
      · refine cond_td (by omega) ?_
        have hg : (by8 ((bs.drop (4 * i)).take 4))[k]? = some (.int .u8 (gb bs (4 * i + k))) := by
          have : ((bs.drop (4 * i)).take 4)[k]? = some (bs.getD (4 * i + k) 0) := by
            rw [List.getElem?_take_of_lt hk4, List.getElem?_drop, List.getElem?_eq_getElem (by omega)]
            simp [List.getD_eq_getElem?_getD, show 4 * i + k < bs.length by omega]
          simp only [by8, List.getElem?_map, this, Option.map_some]; rfl
        refine ⟨by omega, rd_ld (((hR.cons _).cons _).cons _) h3 hg fun a ha => ⟨_, ha _ h3, ?_⟩⟩
        refine ⟨by omega, _, ldx h3 (List.getElem?_set_self (by simp [wds_len]; omega)), ?_⟩
        refine ⟨by omega, ?_⟩
        obtain ⟨c, hc, hc2⟩ := gb_lt bs (4 * i + k)
        have ha3 : acc4 bs i k < 16777216 := by
          have := acc4_lt bs i
          rcases (show k = 0 ∨ k = 1 ∨ k = 2 ∨ k = 3 by omega) with rfl | rfl | rfl | rfl
          · simp [acc4]
          · omega
          · omega
          · omega
        rw [hc, step_ior ha3 hc2]
        have hacc : acc4 bs i k * 256 + c = acc4 bs i (k + 1) := by
          have : c = (bs.getD (4 * i + k) 0).toNat := by
            have : ((bs.getD (4 * i + k) 0).toNat : Int) = (c : Int) := hc
            omega
          rw [this]; rfl
        rw [hacc]
        refine stox h3 (by simp [wds_len]; omega) rfl fun w4 h4 => ?_
        have e6 : w64 ((k : Int) + 1) = ((k + 1 : Nat) : Int) := w64_eq _ (by omega) (by omega)
        rw [e6]
        have h4' : St w4 (row bw t_a64_uint32 (((by32 (wds bs i) ++ List.replicate (64 - i) (u32v 0)).set (0 + i * 1) (u32v (acc4 bs i k : Nat))).set (0 + i * 1) (u32v (acc4 bs i (k + 1) : Nat))) :: row bh T (mid3 A B (by32 v.l)) :: tabAt bt :: Fs) := h4
        rw [List.set_set] at h4'
        exact ⟨⟨k + 1, by omega, rfl, h4'⟩, by simp [cnt]; omega⟩
      · refine cond_fd (by omega) ?_
        refine sha_mix_j14_of _ _ _ _ _ _ _ ?_
        rw [e5]
        have hk4 : k = 4 := by omega
        subst hk4
        rw [acc4_be4, wds_step h (x := be4 bs i) (by unfold nxt; rw [if_pos h16])] at h3
        exact ⟨⟨i + 1, by omega, rfl, h3⟩, by simp [cnt]; omega⟩
    · refine cond_fd (by omega) ?_
      have e1 : w64 ((i : Int) - 15) = ((i - 15 : Nat) : Int) := w64_eq _ (by omega) (by omega)
      have e2 : w64 ((i : Int) - 2) = ((i - 2 : Nat) : Int) := w64_eq _ (by omega) (by omega)
      have e3 : w64 ((i : Int) - 16) = ((i - 16 : Nat) : Int) := w64_eq _ (by omega) (by omega)
      have e4 : w64 ((i : Int) - 7) = ((i - 7 : Nat) : Int) := w64_eq _ (by omega) (by omega)
      simp only [e1, e2, e3, e4]
      refine ⟨fun w => St w (row bw t_a64_uint32 (by32 (wds bs i) ++ List.replicate (64 - i) (u32v 0)) :: Fs), h2.dr.ent (((Ent.drop _ _).trans (Ent.drop _ _)).cons _), ?_⟩
      refine ⟨by omega, _, fun w hw => ldx hw (wds_at (by omega)), ?_⟩
      refine ⟨by omega, _, fun w hw => ldx hw (wds_at (by omega)), ?_⟩
      refine (RotateLeft32_p _ 7 (by omega)).call ⟨_, rfl, ?_⟩
      refine (RotateLeft32_p _ 18 (by omega)).call ⟨_, rfl, ?_⟩
      refine (RotateLeft32_p _ 17 (by omega)).call ⟨_, rfl, ?_⟩
      refine (RotateLeft32_p _ 19 (by omega)).call ⟨_, rfl, ?_⟩
      refine ⟨fun w => St w (row bw t_a64_uint32 (by32 (wds bs i) ++ List.replicate (64 - i) (u32v 0)) :: Fs), h2.dr.dr.ent (((Ent.drop _ _).trans (Ent.drop _ _)).cons _), ?_⟩
      refine ⟨by omega, _, fun w hw => ldx hw (wds_at (by omega)), ?_⟩
      refine ⟨by omega, _, fun w hw => ldx hw (wds_at (by omega)), ?_⟩
      refine ⟨by omega, ?_⟩
      refine stox h2.dr.dr (by simp [wds_len]; omega) rfl fun w3 h3 => ?_
      have h4 : St w3 (row bw t_a64_uint32 (by32 (wds bs (i + 1)) ++ List.replicate (64 - (i + 1)) (u32v 0)) :: row bh T (mid3 A B (by32 v.l)) :: tabAt bt :: Fs) := by
        rw [← wds_step (by omega) (x := nxt bs (wds bs i) i) rfl]
        unfold nxt; rw [if_neg (by omega)]; exact h3
      refine sha_mix_j14_of _ _ _ _ _ _ _ ?_
      rw [e5]
      exact ⟨⟨i + 1, by omega, rfl, h4⟩, by simp [cnt]; omega⟩
  · refine cond_fd (by omega) ?_
    have hi64 : i = 64 := by omega
    subst hi64
    refine ⟨_, _, _, _, _, _, _, _, ldA (b := bh) (off := off) (vs := by32 v.l) h2 ?_ rfl, ?_⟩
    · unfold mid3
      rw [List.append_assoc, List.drop_append_of_le_length (by omega), List.drop_of_length_le (by omega), List.nil_append, List.take_append_of_le_length (by simp [V8.l])]
      rfl
    refine al h2 fun bv w3 h3 => ?_
    refine stoA h3 rfl (Nat.le_refl _) (by intro u hu; obtain ⟨x, _, rfl⟩ := List.mem_map.1 (show u ∈ by32 v.l from hu); rfl) fun w4 h4 => ?_
    have h5 : St w4 (tabAt bt :: row bv t_a8_uint32 (by32 v.l) :: row bw t_a64_uint32 (by32 (wds bs 64)) :: row bh T (mid3 A B (by32 v.l)) :: Fs) := by
      have : by32 (wds bs 64) = by32 (wds bs 64) ++ List.replicate (64 - 64) (u32v 0) := by simp
      rw [this]; exact (show St w4 (row bv t_a8_uint32 (by32 v.l) :: row bw t_a64_uint32 (by32 (wds bs 64) ++ List.replicate (64 - 64) (u32v 0)) :: row bh T (mid3 A B (by32 v.l)) :: tabAt bt :: Fs) from h4).f3
    clear h2 h3 h4
    refine ⟨fun vs w => ∃ i : Nat, i ≤ 64 ∧ vs = [pv (at0 bt), pv ⟨bh, off, none⟩, pv (at0 bw), pv (at0 bv), iv i] ∧ St w (tabAt bt :: row bv t_a8_uint32 (by32 (rds bs v i).l) :: row bw t_a64_uint32 (by32 (wds bs 64)) :: row bh T (mid3 A B (by32 v.l)) :: Fs),
      fun vs _ => (64 - cnt 4 vs).toNat, ⟨0, by omega, rfl, h5⟩, ?_⟩
    clear h5
    rintro _ w2 ⟨i, hi, rfl, h2⟩
    refine sha_mix_b17_of _ _ _ _ _ ?_
    by_cases h : i < 64
    · refine cond_td (by omega) ?_
      have e5 : w64 ((i : Int) + 1) = ((i + 1 : Nat) : Int) := w64_eq _ (by omega) (by omega)
      rw [e5]
      refine ⟨fun w => St w (tabAt bt :: row bv t_a8_uint32 (by32 (rds bs v i).l) :: row bw t_a64_uint32 (by32 (wds bs 64)) :: row bh T (mid3 A B (by32 v.l)) :: Fs), h2.dr, ?_⟩
      refine ⟨by omega, _, fun w hw => ldx hw rfl, ?_⟩
      refine ⟨by omega, _, fun w hw => ldx hw rfl, ?_⟩
      refine (RotateLeft32_p _ 6 (by omega)).call ⟨_, rfl, ?_⟩
      refine (RotateLeft32_p _ 11 (by omega)).call ⟨_, rfl, ?_⟩
      refine (RotateLeft32_p _ 25 (by omega)).call ⟨_, rfl, ?_⟩
      refine ⟨fun w => St w (tabAt bt :: row bv t_a8_uint32 (by32 (rds bs v i).l) :: row bw t_a64_uint32 (by32 (wds bs 64)) :: row bh T (mid3 A B (by32 v.l)) :: Fs), h2.dr.dr, ?_⟩
      refine ⟨by omega, _, fun w hw => ldx hw rfl, ?_⟩
      refine ⟨by omega, _, fun w hw => ldx hw rfl, ?_⟩
      refine ⟨by omega, _, fun w hw => ldx hw rfl, ?_⟩
      refine ⟨by omega, _, fun w hw => ldx hw (wds_at64 h), ?_⟩
      refine (sha_Table_Word_s h h2.dr.dr).mono ?_
      rintro _ w3 ⟨rfl, h3⟩
      refine ⟨_, rfl, h3, ?_⟩
      refine (RotateLeft32_p _ 2 (by omega)).call ⟨_, rfl, ?_⟩
      refine (RotateLeft32_p _ 13 (by omega)).call ⟨_, rfl, ?_⟩
      refine (RotateLeft32_p _ 22 (by omega)).call ⟨_, rfl, ?_⟩
      refine ⟨by omega, _, ldx h3 rfl, ?_⟩
      refine ⟨by omega, _, ldx h3 rfl, ?_⟩
      refine ⟨by omega, _, ldx h3 rfl, ?_⟩
      refine ⟨by omega, _, ldx h3 rfl, ?_⟩
      refine ⟨fun _ => True, trivial, ?_⟩
      refine ⟨_, _, _, fun w _ => slcA (lo := 1) (hi := 8) (by omega) (by omega) (.inl rfl) (.inr ⟨rfl, rfl⟩), ?_⟩
      refine ⟨_, _, _, fun w _ => slcA (lo := 0) (hi := 7) (by omega) (by omega) (.inr ⟨rfl, rfl⟩) (.inl rfl), ?_⟩
      have hR : Rd (row bv t_a8_uint32 (by32 (rds bs v i).l) :: tabAt bt :: row bw t_a64_uint32 (by32 (wds bs 64)) :: row bh T (mid3 A B (by32 v.l)) :: Fs) 1 (lv (some (at0 bv)) 7 8) (by32 ((rds bs v i).l.take 7)) := Rd.of_row (o := 0) rfl rfl (by omega)
      have h4 := h3.dr.f1
      obtain ⟨w4, hc, h5⟩ := cp_run (P := P) (t := t_sl_uint32) (t2 := t_sl_uint32) (o := 1) (d := 7) (c := 7) (m := 7) h4 (.inl rfl) (hR _ h4) rfl (by omega) (by intro u hu; obtain ⟨x, _, rfl⟩ := List.mem_map.1 hu; rfl) (Nat.le_refl _)
      refine ⟨_, w4, hc, ?_⟩
      have h6 : St w4 (tabAt bt :: row bv t_a8_uint32 (by32 [(rds bs v i).a, (rds bs v i).a, (rds bs v i).b, (rds bs v i).c, (rds bs v i).d, (rds bs v i).e, (rds bs v i).f, (rds bs v i).g]) :: row bw t_a64_uint32 (by32 (wds bs 64)) :: row bh T (mid3 A B (by32 v.l)) :: Fs) := h5.f1
      refine ⟨by omega, _, ldx h6 rfl, by omega, ?_⟩
      refine stox h6 (by simp) rfl fun w5 h7 => ⟨by omega, ?_⟩
      refine stox h7 (by simp) rfl fun w6 h8 => ?_
      exact ⟨⟨i + 1, by omega, rfl, h8⟩, by simp [cnt]; omega⟩
    · refine cond_fd (by omega) ?_
      have hi64 : i = 64 := by omega
      subst hi64
      refine ⟨fun vs w => ∃ i : Nat, i ≤ 8 ∧ vs = [pv ⟨bh, off, none⟩, pv (at0 bv), iv i] ∧ St w (tabAt bt :: row bv t_a8_uint32 (by32 (rds bs v 64).l) :: row bw t_a64_uint32 (by32 (wds bs 64)) :: row bh T (mid3 A B (by32 (mid v (comp v bs) i))) :: Fs),
        fun vs _ => (8 - cnt 2 vs).toNat, ⟨0, by omega, rfl, h2⟩, ?_⟩
      clear h2
      rintro _ w2 ⟨i, hi, rfl, h2⟩
      refine sha_mix_b29_of _ _ _ ?_
      by_cases h : i < 8
      · refine cond_td (by omega) ?_
        have e5 : w64 ((i : Int) + 1) = ((i + 1 : Nat) : Int) := w64_eq _ (by omega) (by omega)
        rw [e5]
        refine ⟨fun w => St w (tabAt bt :: row bv t_a8_uint32 (by32 (rds bs v 64).l) :: row bw t_a64_uint32 (by32 (wds bs 64)) :: row bh T (mid3 A B (by32 (mid v (comp v bs) i))) :: Fs), h2.dr, ?_⟩
        refine ⟨by omega, _, fun w hw => ldx hw (mid3_at hA (mid_at i h)), ?_⟩
        refine ⟨by omega, _, fun w hw => ldx hw (l_at i h), ?_⟩
        refine ⟨by omega, ?_⟩
        refine stox h2.dr (by rw [mid3_len, hA, mid_len]; omega) rfl fun w3 h3 => ?_
        refine ⟨⟨i + 1, by omega, rfl, ?_⟩, by simp [cnt]; omega⟩
        rw [← mid_set i h, ← comp_at i h, ← mid3_set hA (by rw [mid_len]; omega)]
        exact h3
      · refine cond_fd (by omega) ⟨rfl, ?_⟩
        have hi8 : i = 8 := by omega
        subst hi8
        exact h2.f3.ent (((Ent.swap _ _ _).trans (Ent.drop _ _)).trans (Ent.swap _ _ _) |>.cons _ |>.trans ((Ent.drop _ _).cons _))
end Go.Proofs.Tz
namespace Go.Proofs.Tz
open Go.W
set_option maxRecDepth 20000

theorem slices_Clone_bytes {w : World} {Fs : List HP} {p : Option Addr} {n c : Nat} {bs : List UInt8} (hS : St w Fs) (hb : Rd Fs 1 (lv p n c) (by8 bs)) (hl : bs.length ≤ 17179869184) :
    Calls P k_slices_Clone_Sbyte_byte #[lv p n c] w (RetB bs Fs) := by
  refine slices_Clone_Sbyte_byte_of _ _ _ ⟨_, w, eq_nil, ?_⟩
  cases p with
  | none =>
    have := nil_by8 (hb w hS)
    subst this
    exact ⟨none, 0, rfl, mk_slNil hS⟩
  | some a =>
    refine bs0 hS fun b w1 h1 => ?_
    refine ap h1 (hb w1 h1.tail) (by8_sc bs) (by omega) (by simpa using hl) fun q c w2 h2 => ?_
    simp only [List.length_nil, Nat.zero_add, Nat.div_one, List.length_map, List.nil_append] at h2 ⊢
    exact ⟨q, c, rfl, h2⟩

theorem sha_lays_s {w : World} {Fs : List HP} {p : Option Addr} {c : Nat} {xs : List UInt8} (n : Int) {size : Nat} (hs : size ≤ 8) (hx : xs.length ≤ 8589934592) (hS : St w (bsAt (lv p xs.length c) xs :: Fs)) :
    Calls P k_sha_lays #[lv p xs.length c, .int .u64 n, iv size] w (RetB (xs ++ bytesOf n size) Fs) := by
  refine sha_lays_of _ _ _ _ _ ?_
  refine ⟨fun vs w => ∃ j q c, j ≤ size ∧ vs = [lv q (xs.length + j) c, .int .u64 n, iv ((size : Int) - 1 - (j : Int))] ∧ St w (bsAt (lv q (xs.length + j) c) (xs ++ (bytesOf n size).take j) :: Fs),
    fun vs _ => (cnt 2 vs + 1).toNat, ⟨0, p, c, by omega, by rw [w64_id (by omega)]; simp, by simpa using hS⟩, ?_⟩
  clear hS
  rintro _ w3 ⟨j, q, c, hj, rfl, h3⟩
  refine sha_lays_b2_of _ _ _ _ _ ?_
  by_cases h : j < size
  · refine cond_td (by omega) ?_
    have e2 : w64 (8 * ((size : Int) - 1 - (j : Int))) = ((8 * (size - 1 - j) : Nat) : Int) := by
      rw [w64_id (by omega)]; omega
    have e3 : w64 ((size : Int) - 1 - (j : Int) - 1) = (size : Int) - 1 - ((j + 1 : Nat) : Int) := by rw [w64_id (by omega)]; omega
    rw [e2, e3]
    refine ⟨_, w3, bin_shr (by omega), ?_⟩
    rw [shr_byte (by omega) (.inr rfl)]
    refine app_lit (ys := by8 [byteAt n (size - 1 - j)]) h3 (filled_of rfl) (by omega) rfl (by8_sc _) (by simp [bytesOf_len]; omega) fun q1 c1 w8 h9 => ?_
    rw [by8_app, List.append_assoc, ← bytesOf_take n size j h] at h9
    have e5 : (by8 (xs ++ (bytesOf n size).take j)).length + 1 = xs.length + (j + 1) := by simp [bytesOf_len]; omega
    rw [e5] at h9 ⊢
    exact ⟨⟨j + 1, q1, c1, by omega, rfl, h9⟩, by simp [cnt]; omega⟩
  · refine cond_fd (by omega) ?_
    have hj8 : j = size := by omega
    subst hj8
    rw [List.take_of_length_le (by rw [bytesOf_len]; omega)] at h3
    have e : (xs ++ bytesOf n j).length = xs.length + j := by simp [bytesOf_len]
    exact ⟨q, c, by rw [e], by rw [e]; exact h3⟩

/-- The cells of a text that is hashed. -/
def hashL (bt : Nat) (v : List Value) (q : Option Addr) (l c n : Nat) : List Value := mid3 [pv (at0 bt)] [lv q l c, .int .u64 n] v
/-- A text that is hashed: what was written is 'm'. -/
def hashAt (bh bt : Nat) (m : List UInt8) : HP := hex fun q => hex fun c =>
  star (row bh t_sha_Hash (hashL bt (by32 (folds H8 m).l) q (lefts m).length c m.length)) (bsAt (lv q (lefts m).length c) (lefts m))
theorem hash_open {w : World} {L : List HP} {bh bt : Nat} {m : List UInt8} (h : St w (hashAt bh bt m :: L)) :
    ∃ q c, St w (row bh t_sha_Hash (hashL bt (by32 (folds H8 m).l) q (lefts m).length c m.length) :: bsAt (lv q (lefts m).length c) (lefts m) :: L) := by
  obtain ⟨q, h⟩ := h.ex
  obtain ⟨c, h⟩ := h.ex
  exact ⟨q, c, h.star⟩
theorem hash_mk {w : World} {L : List HP} {bh bt : Nat} {m : List UInt8} {q : Option Addr} {c : Nat} (h : St w (row bh t_sha_Hash (hashL bt (by32 (folds H8 m).l) q (lefts m).length c m.length) :: bsAt (lv q (lefts m).length c) (lefts m) :: L)) :
    St w (hashAt bh bt m :: L) := (h.unstar.intro (P := fun c => star (row bh t_sha_Hash (hashL bt (by32 (folds H8 m).l) q (lefts m).length c m.length)) (bsAt (lv q (lefts m).length c) (lefts m))) c).intro (P := fun q => hex fun c =>
  star (row bh t_sha_Hash (hashL bt (by32 (folds H8 m).l) q (lefts m).length c m.length)) (bsAt (lv q (lefts m).length c) (lefts m))) q

theorem sha_New_s {w : World} {Fs : List HP} {bt : Nat} (hS : St w (tabAt bt :: Fs)) :
    Calls P k_sha_New #[pv (at0 bt)] w fun e w' => ∃ bh, e = .returned (pv (at0 bh)) ∧ St w' (hashAt bh bt [] :: tabAt bt :: Fs) := by
  refine sha_New_of _ ?_
  refine bx (l := mid3 [pv (at0 bt)] [lv none 0 0, .int .u64 0] (part H8.l 8 0)) hS rfl fun bh w1 h1 => ?_
  refine ⟨fun vs w => ∃ i : Nat, i ≤ 8 ∧ vs = [pv (at0 bt), pv (at0 bh), iv i] ∧ St w (tabAt bt :: row bh t_sha_Hash (mid3 [pv (at0 bt)] [lv none 0 0, .int .u64 0] (part H8.l 8 i)) :: Fs), fun vs _ => (8 - cnt 2 vs).toNat, ⟨0, by omega, rfl, h1.f1⟩, ?_⟩
  clear h1
  rintro _ w2 ⟨i, hi, rfl, h2⟩
  refine sha_New_b3_of _ _ _ ?_
  by_cases h : i < 8
  · refine cond_td (by omega) ?_
    have e5 : w64 ((i : Int) + 1) = ((i + 1 : Nat) : Int) := w64_eq _ (by omega) (by omega)
    rw [e5]
    refine ⟨fun _ => True, trivial, ?_⟩
    refine (sha_Table_Start_s h h2.dr).mono ?_
    rintro _ w3 ⟨rfl, h3⟩
    refine ⟨_, rfl, by omega, ?_⟩
    refine stox (o := 1) h3 (by rw [mid3_len, part_len H8_len]; simp; omega) rfl fun w4 h4 => ?_
    refine ⟨⟨i + 1, by omega, rfl, ?_⟩, by simp [cnt]; omega⟩
    rw [← part_set H8_len h]
    have hh := mid3_set (A := [pv (at0 bt)]) (B := [lv none 0 0, .int .u64 0]) (l := part H8.l 8 i) (off := 1) (i := i) (x := u32v (gi H8.l i)) rfl (by rw [part_len H8_len]; exact h)
    rw [show 0 + i * 1 = i by omega] at hh
    rw [← hh]
    exact h4
  · refine cond_fd (by omega) ?_
    have hi8 : i = 8 := by omega
    subst hi8
    rw [part_full H8_len (by omega)] at h2
    refine ⟨bh, rfl, hash_mk (q := none) (c := 0) ?_⟩
    rw [lefts_lt (by simp), folds_lt (by simp)]
    exact (mk_slNil (h2.f1)).f1

theorem sha_Hash_Write_s {w : World} {Fs : List HP} {bh bt : Nat} {m bs : List UInt8} {p : Option Addr} {n c0 : Nat} (hS : St w (hashAt bh bt m :: tabAt bt :: Fs)) (hb : Rd Fs 1 (lv p n c0) (by8 bs)) (hl : m.length + bs.length ≤ 1073741824) :
    Calls P k_sha_Hash_Write #[pv (at0 bh), lv p n c0] w fun e w' => e = .returned (tv []) ∧ St w' (hashAt bh bt (m ++ bs) :: tabAt bt :: Fs) := by
  obtain ⟨q, c, h1⟩ := hash_open hS
  clear hS
  have hn : bs.length = n := by simpa using (hb.len h1.tail.tail.tail).1
  have hll := lefts_len _ m (Nat.le_refl _)
  refine sha_Hash_Write_of _ _ _ _ ⟨_, ldx (o := 0) h1 rfl, ?_⟩
  have e1 : IntKind.u64.wrap ((m.length : Int) + IntKind.u64.wrap (ln n)) = (((m ++ bs).length : Nat) : Int) := by
    rw [u64_id (n := ln n) (by unfold ln; omega), u64_id (by unfold ln; omega), List.length_append, hn]; unfold ln; omega
  rw [e1]
  refine stox (o := 0) h1 (by simp [hashL, mid3, V8.l]) rfl fun w2 h2 => ?_
  have h3 : St w2 (row bh t_sha_Hash (hashL bt (by32 (folds H8 m).l) q (lefts m).length c (m ++ bs).length) :: bsAt (lv q (lefts m).length c) (lefts m) :: tabAt bt :: Fs) := h2
  refine ⟨_, _, _, ldx (o := 0) h3 rfl, ?_⟩
  refine ap h3.f1 (((hb.cons _).cons _).cons _ w2 h3.f1) (by8_sc _) (by omega) (by simp; omega) fun q4 c4 w4 h4 => ?_
  rw [by8_app] at h4
  have e2 : ((by8 (lefts m)).length + (by8 bs).length) / 1 = (lefts m ++ bs).length := by rw [Nat.div_one, List.length_append, List.length_map, List.length_map]
  rw [e2] at h4 ⊢
  refine stox (o := 0) h4.f1 (by simp [hashL, mid3, V8.l]) rfl fun w5 h5 => ?_
  have h6 : St w5 (row bh t_sha_Hash (hashL bt (by32 (folds H8 m).l) q4 (lefts m ++ bs).length c4 (m ++ bs).length) :: bsAt (lv q4 (lefts m ++ bs).length c4) (lefts m ++ bs) :: tabAt bt :: Fs) := h5
  clear h1 h2 h3 h4 h5
  refine ⟨fun vs w => vs = [pv (at0 bh)] ∧ ∃ v r q c, r.length ≤ 1073741824 ∧ folds v r = folds H8 (m ++ bs) ∧ lefts r = lefts (m ++ bs) ∧
      St w (row bh t_sha_Hash (hashL bt (by32 v.l) q r.length c (m ++ bs).length) :: bsAt (lv q r.length c) r :: tabAt bt :: Fs),
    fun _ w => match w.cell? ⟨bh, 9, none⟩ with | some (.slice _ n _) => n | _ => 0,
    ⟨rfl, folds H8 m, lefts m ++ bs, q4, c4, by simp; omega, (folds_app _ _ _ _ (Nat.le_refl _)).symm, (lefts_app _ _ _ (Nat.le_refl _)).symm, h6⟩, ?_⟩
  clear h6
  rintro _ w7 ⟨rfl, v, r, q, c, hr, hf, hlf, h7⟩
  refine sha_Hash_Write_b2_of _ ⟨_, _, _, ldx (o := 0) h7 rfl, ?_⟩
  by_cases h : 64 ≤ r.length
  · refine cond_td (by unfold ln; omega) ?_
    refine ⟨fun w => St w (row bh t_sha_Hash (hashL bt (by32 v.l) q r.length c (m ++ bs).length) :: bsAt (lv q r.length c) r :: tabAt bt :: Fs), h7.dr, ?_⟩
    refine ⟨_, fun w hw => ld hw rfl, _, _, _, fun w hw => ldx (o := 0) hw rfl, ?_⟩
    have hR : Rd (bsAt (lv q r.length c) r :: Fs) 1 (lv q r.length c) (by8 r) := Rd.of_sl (T := t_uint8)
    have hc := (hR.len (h7.dr.tail.ent ((Ent.drop _ _).cons _))).2
    refine ⟨_, _, _, fun w _ => slc_run (lo := 0) (hi := 64) (by omega) (by omega) (.inr ⟨rfl, rfl⟩) (.inl rfl), ?_⟩
    have hRs := hR.slice (lo := 0) (hi := 64) (by omega) (by omega)
    have hblk : ((by8 r).drop (0 * 1)).take ((64 - 0) * 1) = by8 (r.take 64) := by simp [by8, List.map_take]
    rw [hblk] at hRs
    refine (sha_mix_s (A := [pv (at0 bt)]) (B := [lv q r.length c, .int .u64 (m ++ bs).length]) (v := v) rfl (h7.dr.ent ((Ent.swap _ _ _).cons _)) hRs (by simp; omega)).mono ?_
    rintro _ w8 ⟨rfl, h8⟩
    have h9 : St w8 (row bh t_sha_Hash (hashL bt (by32 (comp v (r.take 64)).l) q r.length c (m ++ bs).length) :: bsAt (lv q r.length c) r :: tabAt bt :: Fs) := h8.ent ((Ent.swap _ _ _).cons _)
    refine ⟨rfl, _, _, _, ldx (o := 0) h9 rfl, ?_⟩
    refine ⟨_, _, _, slc_run (lo := 64) (hi := r.length) (by omega) (by omega) (.inl rfl) (.inr ⟨rfl, rfl⟩), ?_⟩
    have h10 := sl_drop (lo := 64) h9.f1 (by omega)
    have e3 : (by8 r).drop (64 * 1) = by8 (r.drop 64) := by simp [by8, List.map_drop]
    rw [e3] at h10
    generalize (if c = 64 then q else q.map (·.add (64 * 1))) = q2 at h10 ⊢
    generalize c - 64 = c2 at h10 ⊢
    refine stox (o := 0) h10.f1 (by simp [hashL, mid3, V8.l]) rfl fun w9 h11 => ?_
    have e4 : r.length - 64 = (r.drop 64).length := by simp
    rw [e4] at h11
    have h12 : St w9 (row bh t_sha_Hash (hashL bt (by32 (comp v (r.take 64)).l) q2 (r.drop 64).length c2 (m ++ bs).length) :: bsAt (lv q2 (r.drop 64).length c2) (r.drop 64) :: tabAt bt :: Fs) := h11
    refine ⟨⟨rfl, _, _, q2, c2, by simp; omega, ?_, ?_, h12⟩, ?_⟩
    · rw [← hf, folds_ge (l := r) (by omega)]
    · rw [← hlf, lefts_ge (l := r) (by omega)]
    · have e5 : w9.cell? ⟨bh, 9, none⟩ = some (lv q2 (r.drop 64).length c2) := by rw [cell_look h12]; rfl
      have e6 : w7.cell? ⟨bh, 9, none⟩ = some (lv q r.length c) := by rw [cell_look h7]; rfl
      simp only [e5, e6]
      simp; omega
  · refine cond_fd (by unfold ln; omega) ?_
    refine ⟨_, _, _, ldx (o := 0) h7 rfl, ?_⟩
    have hR : Rd (row bh t_sha_Hash (hashL bt (by32 v.l) q r.length c (m ++ bs).length) :: bsAt (lv q r.length c) r :: tabAt bt :: Fs) 1 (lv q r.length c) (by8 r) := Rd.of_sl (T := t_uint8)
    refine (slices_Clone_bytes h7 hR (by omega)).mono ?_
    rintro _ w8 ⟨q8, c8, rfl, h8⟩
    refine ⟨_, _, _, rfl, ?_⟩
    refine stox (o := 0) h8 (by simp [hashL, mid3, V8.l]) rfl fun w9 h9 => ⟨rfl, ?_⟩
    rw [folds_lt (by omega)] at hf
    rw [lefts_lt (by omega)] at hlf
    subst hf
    refine hash_mk (q := q8) (c := c8) ?_
    rw [← hlf]
    exact h9.f1.ent ((Ent.swap _ _ _).trans (Ent.drop _ _) |>.cons _ |>.trans (((Ent.refl _).cons _).cons _))
end Go.Proofs.Tz
namespace Go.W
/-- A list of assertions out of another: in another order, or less. -/
class Sub (L M : List HP) : Prop where
  out : Ent L M
instance (priority := 50) Sub.drop (Q : HP) (L M : List HP) [h : Sub L M] : Sub (Q :: L) M := ⟨(Ent.drop _ _).trans h.out⟩
instance (priority := 200) Sub.refl (L : List HP) : Sub L L := ⟨Ent.refl _⟩
instance (priority := 100) Sub.cons (P : HP) (L R M : List HP) [h : Sel P L R] [k : Sub R M] : Sub L (P :: M) := ⟨h.out.trans (k.out.cons P)⟩
theorem St.re {w : World} {L M : List HP} (h : St w L) [s : Sub L M] : St w M := h.ent s.out
theorem St.put {w : World} {l : Nat} {o : Obj} (o' : Obj) {L : List HP} (h : St w (W.pt l o :: L)) : St (w.putObj l o') (W.pt l o' :: L) := by
  have h1 := h.pt
  have hlt := (Array.getElem?_eq_some_iff.1 h1).1
  exact h.pt_upd (World.putObj_heap_same hlt) (fun n hn => World.putObj_heap_other hn) rfl rfl
theorem begin_s {P : Program} {w : World} {l : Nat} {r : Loop} {L : List HP} (h : St w (pt l (.loop r) :: L)) (hr : r.state = .ready) :
    ∃ w', Is P (Instr.beginRound l) w () w' ∧ St w' (pt l (.loop { r with state := .busy }) :: L) := ⟨_, run_beginRound h.pt hr, h.put _⟩
theorem end_s {P : Program} {w : World} {l : Nat} {r : Loop} {L : List HP} (h : St w (pt l (.loop { r with state := .busy }) :: L)) (hr : r.state = .ready) (hp : r.pending = none) :
    ∃ w', Is P (Instr.endRound l none) w (.bool true) w' ∧ St w' (pt l (.loop r) :: L) := by
  refine ⟨_, run_endRound none h.pt, ?_⟩
  have h2 := h.put (.loop r)
  have e : ({ { r with state := .busy } with state := if (none : Option Code).isNone then .ready else .done, pending := none } : Loop) = r := by
    cases r; simp at hr hp; subst hr hp; rfl
  rw [e]; exact h2
theorem leave_s {P : Program} {w : World} {l : Nat} {r : Loop} {L : List HP} (h : St w (pt l (.loop r) :: L)) (hr : r.state = .ready) (hp : r.pending = none) :
    ∃ w', Is P (Instr.endLoop l) w none w' ∧ St w' L := by
  have h1 := run_endLoop (P := P) h.pt (by rw [hr]; simp)
  rw [hp] at h1
  exact ⟨_, h1, (h.put _).tail⟩
theorem take_s {P : Program} {w : World} {l : Nat} {L : List HP} (h : St w (pt l (.deferred (some [])) :: L)) : ∃ w', Is P (Instr.takeDeferred l) w [] w' ∧ St w' L := ⟨_, run_takeDeferred h.pt, (h.put _).tail⟩
/-- A slice expression with three indices. -/
theorem slc3_run {P : Program} {t e : TypeId} {sz : Nat} {w : World} [he : El P t e sz] {p : Option Addr} {n c lo hi mx : Nat} (h1 : lo ≤ hi) (h2 : hi ≤ mx) (h3 : mx ≤ c) :
    Is P (Instr.sliceAt t (.slice p n c) (some (.int .i64 (lo : Int))) (some (.int .i64 (hi : Int))) (some (.int .i64 (mx : Int)))) w (.slice (if mx = lo then p else p.map (·.add (lo * sz))) (hi - lo) (mx - lo)) w := by
  unfold Is Instr.sliceAt
  rw [run_bind_ok (run_und he.out w)]
  show (Instr.slice t (.slice p n c) _ _ _).run P w = _
  unfold Instr.slice
  rw [run_bind_ok (run_und he.out w)]
  have hb : (Instr.sliceBounds true n c (some (.int .i64 (lo : Int))) (some (.int .i64 (hi : Int))) (some (.int .i64 (mx : Int)))).run P w = .ok (lo, hi, mx) w := by
    unfold Instr.sliceBounds
    have k0 : ∀ code, (Instr.sliceBound (.int .i64 (mx : Int)) c code).run P w = .ok mx w := fun code => run_bound (by omega) (by omega)
    have k1 : ∀ code, (Instr.sliceBound (.int .i64 (hi : Int)) mx code).run P w = .ok hi w := fun code => run_bound (by omega) (by omega)
    have k2 : ∀ code, (Instr.sliceBound (.int .i64 (lo : Int)) hi code).run P w = .ok lo w := fun code => run_bound (by omega) (by omega)
    simp [Sem.run_bind, Result.andThen, k0, k1, k2]
  simp only
  rw [run_bind_ok hb]
  simp only
  rw [run_bind_ok (he.size w)]
  rfl
theorem YieldW.mono {P : Program} {l : Nat} {args : Array Value} {w : World} {R R' : Ending → World → Prop} (h : YieldW P l args w R) (hr : ∀ e w, R e w → R' e w) : YieldW P l args w R' := by
  obtain ⟨fn, tmps, assign, body, h1, h2⟩ := h
  exact ⟨fn, tmps, assign, body, h1, h2.mono hr⟩
end Go.W
namespace Go.Proofs.Tz
open Go.W
set_option maxRecDepth 20000

theorem slices_Chunk_s {w : World} {Fs : List HP} {p : Option Addr} {n c : Nat} {m : Int} (hm : 1 ≤ m) (hS : St w Fs) :
    Calls P k_slices_Chunk_Sbyte_byte #[lv p n c, iv m] w fun e w' => ∃ b1 b3, e = .returned (.func (.func k_slices_Chunk_Sbyte_byte_1) #[] #[pv (at0 b1), pv (at0 b3)]) ∧ St w' (row b3 t_int [iv m] :: row b1 t_sl_uint8 [lv p n c] :: Fs) := by
  refine slices_Chunk_Sbyte_byte_of _ _ _ _ ?_
  refine bx (l := [lv p n c]) hS rfl fun b1 w1 h1 => ?_
  refine bx (l := [iv m]) h1 rfl fun b3 w3 h3 => ?_
  exact ⟨_, ld h3 rfl, cond_fd (by omega) ⟨b1, b3, rfl, h3⟩⟩

/-- The iterator over a text's blocks. A: what the rounds have done. -/
theorem slices_Chunk1_s {w : World} {l b1 b3 n c : Nat} {p : Option Addr} {A : Nat → List HP}
    (hY : ∀ k w, 64 * (k + 1) ≤ n → St w (row b3 t_int [iv 64] :: row b1 t_sl_uint8 [lv p n c] :: A k) → YieldW P l #[.slice (p.map (·.add (64 * k * 1))) 64 64] w fun e w' => e = .returned (.bool true) ∧ St w' (row b3 t_int [iv 64] :: row b1 t_sl_uint8 [lv p n c] :: A (k + 1)))
    (hn : n % 64 = 0) (hc : n ≤ c) (hb : n ≤ 4611686018427387904) (hS : St w (row b3 t_int [iv 64] :: row b1 t_sl_uint8 [lv p n c] :: A 0)) :
    Calls P k_slices_Chunk_Sbyte_byte_1 #[.func (.yield l) #[] #[], pv (at0 b1), pv (at0 b3)] w fun e w' => (∃ v, e = .returned v) ∧ St w' (row b3 t_int [iv 64] :: row b1 t_sl_uint8 [lv p n c] :: A (n / 64)) := by
  refine slices_Chunk_Sbyte_byte_1_of _ _ _ ?_
  refine ⟨fun vs w => ∃ k, 64 * k ≤ n ∧ vs = [.func (.yield l) #[] #[], pv (at0 b1), pv (at0 b3), iv ((64 * k : Nat) : Int)] ∧ St w (row b3 t_int [iv 64] :: row b1 t_sl_uint8 [lv p n c] :: A k),
    fun vs _ => (n - cnt 3 vs).toNat, ⟨0, by omega, rfl, hS⟩, ?_⟩
  clear hS
  rintro _ w1 ⟨k, hk, rfl, h1⟩
  refine slices_Chunk_Sbyte_byte_1_b1_of _ _ _ _ ⟨_, _, _, ld h1 rfl, ?_⟩
  by_cases h : 64 * k < n
  · refine cond_td (by unfold ln; omega) ?_
    refine ⟨fun w => St w (row b3 t_int [iv 64] :: row b1 t_sl_uint8 [lv p n c] :: A k), h1.dr, ?_⟩
    refine ⟨_, fun w hw => ld hw rfl, _, _, _, fun w hw => ld hw rfl, ?_⟩
    refine ⟨_, _, _, fun w _ => slc_run (lo := 64 * k) (hi := n) (by omega) (by omega) (.inl rfl) (.inr ⟨rfl, rfl⟩), ?_⟩
    refine ⟨_, _, _, ld h1.dr rfl, ?_⟩
    have e1 : imin 64 (ln (n - 64 * k)) = 64 := by unfold imin ln; rw [if_neg (by omega)]
    rw [e1]
    have e2 : w64 (((64 * k : Nat) : Int) + 64) = ((64 * (k + 1) : Nat) : Int) := w64_eq _ (by omega) (by omega)
    simp only [e2]
    refine ⟨p.map (·.add (64 * k * 1)), 64, 64, ?_, ?_⟩
    · have h5 := slc3_run (P := P) (t := t_sl_uint8) (w := dr w1) (p := p) (n := n) (c := c) (lo := 64 * k) (hi := 64 * (k + 1)) (mx := 64 * (k + 1)) (by omega) (by omega) (by omega)
      rw [if_neg (by omega), show 64 * (k + 1) - 64 * k = 64 by omega] at h5
      exact h5
    · show YieldW P l _ _ _
      refine (hY k _ (by omega) h1.dr).mono ?_
      rintro _ w2 ⟨rfl, h2⟩
      refine ⟨true, rfl, _, ld h2 rfl, ?_⟩
      rw [e2]
      exact ⟨⟨k + 1, by omega, rfl, h2⟩, by simp [cnt]; omega⟩
  · refine cond_fd (by unfold ln; omega) ⟨⟨_, rfl⟩, ?_⟩
    have : n / 64 = k := by omega
    rw [this]; exact h1
end Go.Proofs.Tz
namespace Go.W
theorem Rd.cap {Fs : List HP} {sz n c : Nat} {p : Option Addr} {xs : List Value} (h : Rd Fs sz (.slice p n c) xs) {c' : Nat} (hc : n ≤ c') : Rd Fs sz (.slice p n c') xs := by
  intro w hS
  obtain ⟨p', n', c0, hv, h2, _, h4⟩ := h w hS
  cases hv
  exact ⟨_, _, _, rfl, h2, hc, h4⟩
theorem idx_agg {P : Program} {t n e sz : Nat} {w : World} [ha : Ar P t n e sz] [hs : Sc P e] {l : List Value} {i : Nat} {v : Value} (hi : i < n) (hv : l[i]? = some v) (hsz : sz = 1) :
    Is P (Instr.index t (.agg l.toArray) (.int .i64 (i : Int))) w v w := by
  subst hsz
  unfold Is Instr.index
  rw [run_bind_ok (a := (IntKind.i64, (i : Int))) (w' := w) rfl]
  simp only
  rw [run_bind_ok (run_und ha.out w)]
  simp only
  rw [if_pos ⟨by omega, by omega⟩, run_bind_ok (ha.size w)]
  unfold Go.part
  rw [run_bind_ok (hs.out w)]
  simp [hv, Sem.run_pure]
end Go.W
namespace Go.Proofs.Tz
open Go.W
set_option maxRecDepth 20000

theorem zerosFor_lefts (m : List UInt8) : zerosFor (lefts m).length = zerosFor m.length := by
  have := (lefts_len _ m (Nat.le_refl _)).2
  unfold zerosFor; omega
theorem folds_full (m : List UInt8) : folds H8 (m ++ padTail m.length) = folds (folds H8 m) (lefts m ++ padTail m.length) := folds_app _ _ _ _ (Nat.le_refl _)

theorem lefts_nil {l : List UInt8} (h : l.length % 64 = 0) : lefts l = [] := by
  have := lefts_len _ l (Nat.le_refl _)
  exact List.length_eq_zero_iff.1 (by omega)
theorem folds_next {v : V8} {l : List UInt8} {k : Nat} (h : 64 * (k + 1) ≤ l.length) : comp (folds v (l.take (64 * k))) ((l.drop (64 * k)).take 64) = folds v (l.take (64 * (k + 1))) := by
  have e : l.take (64 * (k + 1)) = l.take (64 * k) ++ (l.drop (64 * k)).take 64 := by
    rw [show 64 * (k + 1) = 64 * k + 64 by omega, List.take_add]
  rw [e, folds_app _ _ _ _ (Nat.le_refl _), lefts_nil (l := l.take (64 * k)) (by rw [List.length_take, Nat.min_eq_left (by omega)]; omega), List.nil_append]
  have hb : ((l.drop (64 * k)).take 64).length = 64 := by simp; omega
  generalize folds v (l.take (64 * k)) = u
  generalize (l.drop (64 * k)).take 64 = blk at hb ⊢
  rw [folds_ge (by omega), List.take_of_length_le (by omega), List.drop_of_length_le (by omega), folds_lt (by simp)]
theorem byteAt_wrap (n : Int) (k : Nat) (hk : k < 4) : byteAt (IntKind.u64.wrap n) k = byteAt n k := by
  have hw : IntKind.u64.wrap n = n % 18446744073709551616 := by unfold IntKind.wrap; simp [IntKind.signed, IntKind.bits]
  unfold byteAt
  rw [hw]
  congr 2
  unfold IntKind.wrap
  simp only [IntKind.signed, IntKind.bits]
  have h : (n % 18446744073709551616).fdiv (2 ^ (8 * k)) % 2 ^ 8 = n.fdiv (2 ^ (8 * k)) % 2 ^ 8 := by
    rcases (show k = 0 ∨ k = 1 ∨ k = 2 ∨ k = 3 by omega) with rfl | rfl | rfl | rfl
    · rw [Int.fdiv_eq_ediv_of_nonneg _ (by decide), Int.fdiv_eq_ediv_of_nonneg _ (by decide)]; omega
    · rw [Int.fdiv_eq_ediv_of_nonneg _ (by decide), Int.fdiv_eq_ediv_of_nonneg _ (by decide)]; omega
    · rw [Int.fdiv_eq_ediv_of_nonneg _ (by decide), Int.fdiv_eq_ediv_of_nonneg _ (by decide)]; omega
    · rw [Int.fdiv_eq_ediv_of_nonneg _ (by decide), Int.fdiv_eq_ediv_of_nonneg _ (by decide)]; omega
  simpa using h
theorem bytesOf_wrap (n : Int) : bytesOf (IntKind.u64.wrap n) 4 = bytesOf n 4 := by
  simp only [bytesOf, byteAt_wrap n 3 (by omega), byteAt_wrap n 2 (by omega), byteAt_wrap n 1 (by omega), byteAt_wrap n 0 (by omega)]
theorem mid3_nil (l : List Value) : mid3 [] [] l = l := by simp [mid3]

theorem sha_Hash_Sum_s {w : World} {Fs : List HP} {bh bt : Nat} {m : List UInt8} (hS : St w (hashAt bh bt m :: tabAt bt :: Fs)) :
    Calls P k_sha_Hash_Sum #[pv (at0 bh)] w (RetB (sha m) (hashAt bh bt m :: tabAt bt :: Fs)) := by
  obtain ⟨q, c, h1⟩ := hash_open hS
  clear hS
  have hll := lefts_len _ m (Nat.le_refl _)
  refine sha_Hash_Sum_of _ ?_
  refine bx (l := [pv (at0 bh)]) h1 rfl fun b1 w1 h2 => ?_
  refine ⟨_, ld h2 rfl, ?_⟩
  refine ⟨_, _, _, _, _, _, _, _, ldA (b := bh) (off := 1) (vs := by32 (folds H8 m).l) h2 rfl rfl, ?_⟩
  refine al h2 fun bst w2 h3 => ?_
  refine stoA h3 rfl (Nat.le_refl _) (by intro u hu; obtain ⟨x, _, rfl⟩ := List.mem_map.1 (show u ∈ by32 (folds H8 m).l from hu); rfl) fun w3 h4 => ?_
  have h5 : St w3 (row bst t_a8_uint32 (by32 (folds H8 m).l) :: row b1 t_p_sha_Hash [pv (at0 bh)] :: row bh t_sha_Hash (hashL bt (by32 (folds H8 m).l) q (lefts m).length c m.length) :: bsAt (lv q (lefts m).length c) (lefts m) :: tabAt bt :: Fs) := h4
  clear h2 h3 h4
  refine ⟨_, ld h5 rfl, ?_⟩
  refine ⟨_, _, _, ldx (o := 0) h5 rfl, ?_⟩
  have hR : Rd (row bst t_a8_uint32 (by32 (folds H8 m).l) :: row b1 t_p_sha_Hash [pv (at0 bh)] :: row bh t_sha_Hash (hashL bt (by32 (folds H8 m).l) q (lefts m).length c m.length) :: bsAt (lv q (lefts m).length c) (lefts m) :: tabAt bt :: Fs) 1 (lv q (lefts m).length c) (by8 (lefts m)) := Rd.of_sl (T := t_uint8)
  refine (slices_Clone_bytes h5 hR (by omega)).mono ?_
  rintro _ w4 ⟨q1, c1, rfl, h6⟩
  refine ⟨_, _, _, rfl, ?_⟩
  refine app_lit (ys := by8 [0x80]) h6 (filled_of rfl) (by omega) rfl (by8_sc _) (by simp; omega) fun q2 c2 w5 h7 => ?_
  rw [by8_app] at h7
  simp only [List.length_map] at h7 ⊢
  generalize hFF : (row bst t_a8_uint32 (by32 (folds H8 m).l) :: row b1 t_p_sha_Hash [pv (at0 bh)] :: row bh t_sha_Hash (hashL bt (by32 (folds H8 m).l) q (lefts m).length c m.length) :: bsAt (lv q (lefts m).length c) (lefts m) :: tabAt bt :: Fs) = FF at h7
  clear h6 h5 hR
  refine ⟨fun vs w => ∃ k q c, k ≤ zerosFor m.length ∧ vs = [pv (at0 b1), pv (at0 bst), lv q ((lefts m).length + 1 + k) c] ∧
      St w (bsAt (lv q ((lefts m).length + 1 + k) c) (lefts m ++ 0x80 :: List.replicate k 0) :: FF),
    fun vs _ => (zerosFor m.length + (lefts m).length + 1 - cnt 2 vs).toNat, ⟨0, q2, c2, by omega, rfl, h7⟩, ?_⟩
  clear h7
  rintro _ w2 ⟨k, q3, c3, hk, rfl, h2⟩
  have hz : zerosFor m.length = (119 - m.length % 64) % 64 := rfl
  refine sha_Hash_Sum_b3_of _ _ _ _ _ ?_
  have e1 : Int.tmod (ln ((lefts m).length + 1 + k)) 64 = ((((lefts m).length + 1 + k) % 64 : Nat) : Int) := rfl
  rw [e1]
  by_cases h : k < zerosFor m.length
  · refine cond_t (by simp; omega) ?_
    refine app_lit (ys := by8 [0]) h2 (filled_of rfl) (by omega) rfl (by8_sc _) (by simp; omega) fun q1 c1 w8 h9 => ?_
    rw [by8_app] at h9
    simp only [List.length_map] at h9 ⊢
    have e : lefts m ++ 0x80 :: List.replicate k 0 ++ [0] = lefts m ++ 0x80 :: List.replicate (k + 1) 0 := by
      simp [List.replicate_succ']
    have e2 : (lefts m ++ 0x80 :: List.replicate k (0 : UInt8)).length + 1 = (lefts m).length + 1 + (k + 1) := by simp; omega
    rw [e, e2] at h9
    rw [e2]
    exact ⟨⟨k + 1, q1, c1, by omega, rfl, h9⟩, by simp [cnt]; omega⟩
  · refine cond_f (by simp; omega) ?_
    have hkz : k = zerosFor m.length := by omega
    subst hFF
    refine ⟨_, ld h2 rfl, ?_⟩
    refine ⟨_, ldx (o := 0) h2 rfl, ?_⟩
    generalize hN : IntKind.u64.wrap (8 * (m.length : Int)) = N
    have e2 : (lefts m).length + 1 + k = (lefts m ++ 0x80 :: List.replicate k (0 : UInt8)).length := by simp; omega
    rw [e2] at h2 ⊢
    refine (sha_lays_s N (size := 8) (by omega) (by simp; omega) h2).mono ?_
    rintro _ w6 ⟨q6, c6, rfl, h6⟩
    refine ⟨_, _, _, rfl, ?_⟩
    have hall : lefts m ++ 0x80 :: List.replicate k 0 ++ bytesOf N 8 = lefts m ++ padTail m.length := by
      rw [hkz, ← hN]; simp [padTail]
    rw [hall] at h6 ⊢
    have hmod : (lefts m ++ padTail m.length).length % 64 = 0 := by
      have := padTail_len m.length
      simp only [List.length_append]; omega
    have hle : (lefts m ++ padTail m.length).length ≤ 300 := by
      rw [← hall]; simp [bytesOf_len]; omega
    rw [sha, folds_full]
    generalize lefts m ++ padTail m.length = all at h6 hmod hle ⊢
    clear h2 hall e1 e2 h hk
    refine (slices_Chunk_s (by omega) h6).mono ?_
    rintro _ w7 ⟨bc1, bc3, rfl, h7⟩
    refine ⟨_, rfl, ?_⟩
    intro r w8 db hdb hr hp hw8 hY
    have h8 : St w8 (pt (db + 1) (.loop r) :: pt db (.deferred (some [])) :: row bc3 t_int [iv 64] :: row bc1 t_sl_uint8 [lv q6 all.length c6] :: bsAt (lv q6 all.length c6) all :: row bst t_a8_uint32 (by32 (folds H8 m).l) :: row b1 t_p_sha_Hash [pv (at0 bh)] ::
        row bh t_sha_Hash (hashL bt (by32 (folds H8 m).l) q (lefts m).length c m.length) :: bsAt (lv q (lefts m).length c) (lefts m) :: tabAt bt :: Fs) := by
      subst hw8 hdb
      have h9 := (h7.alloc (o := .deferred (some []))).alloc (o := .loop r)
      rw [Array.size_push] at h9
      exact h9
    refine callV_of (by kernel_rfl) ?_
    have hcl := (vc_sl h6).len.2
    refine (slices_Chunk1_s (w := w8) (l := db + 1) (b1 := bc1) (b3 := bc3) (n := all.length) (c := c6) (p := q6) (A := fun k => row bst t_a8_uint32 (by32 (folds (folds H8 m) (all.take (64 * k))).l) :: tabAt bt :: bsAt (lv q6 all.length c6) all :: pt (db + 1) (.loop r) :: pt db (.deferred (some [])) ::
        row b1 t_p_sha_Hash [pv (at0 bh)] :: row bh t_sha_Hash (hashL bt (by32 (folds H8 m).l) q (lefts m).length c m.length) :: bsAt (lv q (lefts m).length c) (lefts m) :: Fs) ?_ hmod hcl (by omega) ?_).mono ?_
    · intro k w9 hk h9
      have h10 : St w9 (pt (db + 1) (.loop r) :: row bst t_a8_uint32 (by32 (folds (folds H8 m) (all.take (64 * k))).l) :: tabAt bt :: bsAt (lv q6 all.length c6) all :: pt db (.deferred (some [])) :: row b1 t_p_sha_Hash [pv (at0 bh)] ::
        row bh t_sha_Hash (hashL bt (by32 (folds H8 m).l) q (lefts m).length c m.length) :: bsAt (lv q (lefts m).length c) (lefts m) :: row bc3 t_int [iv 64] :: row bc1 t_sl_uint8 [lv q6 all.length c6] :: Fs) := h9.re
      refine hY [_] w9 _ rfl h10.pt ?_
      refine sha_Hash_Sum_rnd_of _ _ _ _ _ ?_
      obtain ⟨w10, hb1, h11⟩ := begin_s (P := P) h10 hr
      refine ⟨w10, hb1, _, ld h11 rfl, ?_⟩
      refine ⟨_, ld h11 rfl, ?_⟩
      have h12 : St w10 (row bst t_a8_uint32 (mid3 [] [] (by32 (folds (folds H8 m) (all.take (64 * k))).l)) :: tabAt bt :: bsAt (lv q6 all.length c6) all :: pt (db + 1) (.loop { r with state := .busy }) :: pt db (.deferred (some [])) :: row b1 t_p_sha_Hash [pv (at0 bh)] ::
        row bh t_sha_Hash (hashL bt (by32 (folds H8 m).l) q (lefts m).length c m.length) :: bsAt (lv q (lefts m).length c) (lefts m) :: row bc3 t_int [iv 64] :: row bc1 t_sl_uint8 [lv q6 all.length c6] :: Fs) := by rw [mid3_nil]; exact h11.re
      have hR : Rd (bsAt (lv q6 all.length c6) all :: pt (db + 1) (.loop { r with state := .busy }) :: pt db (.deferred (some [])) :: row b1 t_p_sha_Hash [pv (at0 bh)] ::
        row bh t_sha_Hash (hashL bt (by32 (folds H8 m).l) q (lefts m).length c m.length) :: bsAt (lv q (lefts m).length c) (lefts m) :: row bc3 t_int [iv 64] :: row bc1 t_sl_uint8 [lv q6 all.length c6] :: Fs) 1 (lv q6 all.length c6) (by8 all) := Rd.of_sl (T := t_uint8)
      have hRs := hR.slice (lo := 64 * k) (hi := 64 * (k + 1)) (by omega) (by omega)
      rw [if_neg (by omega), show 64 * (k + 1) - 64 * k = 64 by omega] at hRs
      have hblk : ((by8 all).drop (64 * k * 1)).take (64 * 1) = by8 ((all.drop (64 * k)).take 64) := by simp [by8, List.map_take, List.map_drop]
      rw [hblk] at hRs
      refine (sha_mix_s (A := []) (B := []) rfl h12 (hRs.cap (c' := 64) (Nat.le_refl _)) (by simp; omega)).mono ?_
      rintro _ w11 ⟨rfl, h13⟩
      rw [mid3_nil, folds_next hk] at h13
      obtain ⟨w12, hb2, h14⟩ := end_s (P := P) (r := r) (w := w11) (l := db + 1) (L := row bst t_a8_uint32 (by32 (folds (folds H8 m) (all.take (64 * (k + 1)))).l) :: tabAt bt :: bsAt (lv q6 all.length c6) all :: pt db (.deferred (some [])) :: row b1 t_p_sha_Hash [pv (at0 bh)] ::
        row bh t_sha_Hash (hashL bt (by32 (folds H8 m).l) q (lefts m).length c m.length) :: bsAt (lv q (lefts m).length c) (lefts m) :: row bc3 t_int [iv 64] :: row bc1 t_sl_uint8 [lv q6 all.length c6] :: Fs) h13.re hr hp
      exact ⟨rfl, w12, hb2, h14.re⟩
    · have e0 : folds (folds H8 m) (all.take (64 * 0)) = folds H8 m := by rw [Nat.mul_zero, List.take_zero, folds_lt (by simp)]
      show St w8 (_ :: _ :: row bst t_a8_uint32 (by32 (folds (folds H8 m) (all.take (64 * 0))).l) :: _)
      rw [e0]; exact h8.re
    · rintro _ w9 ⟨⟨v, rfl⟩, h9⟩
      obtain ⟨w10, he, h10⟩ := leave_s (P := P) (r := r) (w := w9) (l := db + 1) (L := row bst t_a8_uint32 (by32 (folds (folds H8 m) (all.take (64 * (all.length / 64)))).l) :: tabAt bt :: pt db (.deferred (some [])) ::
        row bh t_sha_Hash (hashL bt (by32 (folds H8 m).l) q (lefts m).length c m.length) :: bsAt (lv q (lefts m).length c) (lefts m) :: Fs) h9.re hr hp
      refine ⟨⟨_, rfl⟩, w10, he, ?_⟩
      rw [show 64 * (all.length / 64) = all.length by omega, List.take_length] at h10
      generalize folds (folds H8 m) all = u at h10 ⊢
      refine sha_Hash_Sum_j9_of _ _ ?_
      refine ⟨_, _, _, _, _, _, _, _, ldA (b := bst) (off := 0) (vs := by32 u.l) h10 rfl rfl, ?_⟩
      refine ⟨fun vs w => ∃ i q7 c7, i ≤ 8 ∧ vs = [lv q7 (4 * i) c7, .agg (by32 u.l).toArray, iv i] ∧ St w (bsAt (lv q7 (4 * i) c7) (outT u i) :: tabAt bt :: pt db (.deferred (some [])) ::
        row bh t_sha_Hash (hashL bt (by32 (folds H8 m).l) q (lefts m).length c m.length) :: bsAt (lv q (lefts m).length c) (lefts m) :: Fs),
        fun vs _ => (8 - cnt 2 vs).toNat, ⟨0, none, 0, by omega, rfl, mk_slNil h10.tail⟩, ?_⟩
      rintro _ w11 ⟨i, q7, c7, hi, rfl, h11⟩
      refine sha_Hash_Sum_b11_of _ _ _ _ _ _ _ _ _ _ _ _ ?_
      by_cases h : i < 8
      · refine cond_td (by omega) ?_
        refine ⟨_, w11, idx_agg (l := by32 u.l) h (by32_at h) rfl, ?_⟩
        have e7 := outT_len (v := u) i hi
        have h12 := h11
        rw [← e7] at h12 ⊢
        refine (sha_lays_s (IntKind.u64.wrap (gi u.l i)) (size := 4) (by omega) (by omega) h12).mono ?_
        rintro _ w12 ⟨q8, c8, rfl, h13⟩
        rw [bytesOf_wrap, outT_step i h] at h13 ⊢
        have e8 := outT_len (v := u) (i + 1) (by omega)
        rw [e8] at h13 ⊢
        have e5 : w64 ((i : Int) + 1) = ((i + 1 : Nat) : Int) := w64_eq _ (by omega) (by omega)
        refine ⟨_, _, _, rfl, ?_⟩
        rw [e5]
        exact ⟨⟨i + 1, q8, c8, by omega, rfl, h13⟩, by simp [cnt]; omega⟩
      · refine cond_fd (by omega) ?_
        have hi8 : i = 8 := by omega
        subst hi8
        obtain ⟨w12, ht, h12⟩ := take_s (P := P) (w := w11) (l := db) (L := bsAt (lv q7 (4 * 8) c7) (outT u 8) :: row bh t_sha_Hash (hashL bt (by32 (folds H8 m).l) q (lefts m).length c m.length) :: bsAt (lv q (lefts m).length c) (lefts m) :: tabAt bt :: Fs) h11.re
        refine ⟨w12, ht, q7, c7, by rw [outs_len], ?_⟩
        rw [outs_len]
        have h13 : St w12 (row bh t_sha_Hash (hashL bt (by32 (folds H8 m).l) q (lefts m).length c m.length) :: bsAt (lv q (lefts m).length c) (lefts m) :: bsAt (lv q7 32 c7) (outs u) :: tabAt bt :: Fs) :=
          (show St w12 (bsAt (lv q7 32 c7) (outs u) :: row bh t_sha_Hash (hashL bt (by32 (folds H8 m).l) q (lefts m).length c m.length) :: bsAt (lv q (lefts m).length c) (lefts m) :: tabAt bt :: Fs) from h12).re
        exact (hash_mk h13).f1
end Go.Proofs.Tz
namespace Go.W
section
variable {P : Program} {w : World} {L : List HP} {t e : TypeId} {sz n c : Nat} {z : List Value}
theorem mk_s {K : Option Addr → Nat → Nat → World → Prop} [he : El P t e sz] [hz : Zr P e z] (hS : St w L) (hn : n ≤ c) (hc : c ≤ 17179869184) (hp : 0 < c * sz)
    (h : ∀ b w1, St w1 (row b e (initL sz c z) :: L) → K (some (at0 b)) n c w1) : ∃ p m k, ∃ w1, Mk P t (.int .i64 (n : Int)) (.int .i64 (c : Int)) w (.slice p m k) w1 ∧ K p m k w1 := by
  obtain ⟨i0, hi0, hby⟩ := he.tinfo w
  obtain ⟨zv, hz1, hz2⟩ := hz.out w
  refine ⟨_, _, _, _, ?_, h w.heap.size _ hS.alloc⟩
  unfold Mk Is Instr.makeSlice
  rw [run_bind_ok (run_und he.out w)]
  simp only
  rw [run_bind_ok (a := (n : Int)) (w' := w) rfl, run_bind_ok (a := (c : Int)) (w' := w) rfl, run_bind_ok hi0]
  have hw1 : IntKind.i64.wrap (n : Int) = n := w64_id (by omega)
  have hw2 : IntKind.i64.wrap (c : Int) = c := w64_id (by omega)
  rw [hw1, hw2]
  have hbig : ∀ m : Nat, m ≤ c → (i0.bytes : Int) * (m : Int) ≤ 2 ^ 48 := by
    intro m hm
    have : i0.bytes * m ≤ 1024 * 17179869184 := Nat.mul_le_mul hby (by omega)
    rw [← Int.natCast_mul]
    exact Int.le_trans (Int.ofNat_le.2 this) (by decide)
  have t1 : (decide ((c : Int) < 0) || decide ((i0.bytes : Int) * (c : Int) > 2 ^ 48)) = false := by
    have := hbig c (Nat.le_refl _)
    simp only [Bool.or_eq_false_iff, decide_eq_false_iff_not]; omega
  have t2 : (decide ((n : Int) < 0) || decide ((n : Int) > (c : Int))) = false := by
    simp only [Bool.or_eq_false_iff, decide_eq_false_iff_not]; omega
  rw [Bool.or_assoc, t1, t2]
  simp only [Bool.or_self, Bool.false_eq_true, if_false, Int.toNat_natCast]
  rw [run_bind_ok (a := ()) (w' := w) (by unfold askRoom; split <;> rfl), run_bind_ok (he.size w), if_neg (by omega), run_bind_ok hz1, run_bind_ok (a := z.toArray) (w' := w) (by rw [hz2]; rfl)]
  have hq : (Array.range (c * sz)).map (z.toArray[· % z.toArray.size]!) = (initL sz c z).toArray := by
    unfold initL
    apply Array.ext'
    simp
  rw [hq]
  rfl
end
end Go.W
namespace Go.Proofs.Tz
open Go.W
set_option maxRecDepth 20000

section
variable {w : World} {Fs : List HP} {bt : Nat} {kp mp : Option Addr} {kn kc mn mc : Nat} {key msg : List UInt8}

theorem sha_One_s (hS : St w (tabAt bt :: Fs)) (hm : Rd Fs 1 (lv mp mn mc) (by8 msg)) (hl : msg.length ≤ 1073741824) :
    Calls P k_sha_One #[pv (at0 bt), lv mp mn mc] w (RetB (sha msg) (tabAt bt :: Fs)) := by
  refine sha_One_of _ _ _ _ ((sha_New_s hS).mono ?_)
  rintro _ w1 ⟨bh, rfl, h1⟩
  refine ⟨_, rfl, (sha_Hash_Write_s h1 hm (by simpa using hl)).mono ?_⟩
  rintro _ w2 ⟨rfl, h2⟩
  rw [List.nil_append] at h2
  refine ⟨rfl, (sha_Hash_Sum_s h2).mono ?_⟩
  rintro _ w3 ⟨q, c, rfl, h3⟩
  exact ⟨_, _, _, rfl, q, c, rfl, h3.re⟩

theorem mac_padded_s (x : UInt8) (hS : St w Fs) (hk : Rd Fs 1 (lv kp kn kc) (by8 key)) (hl : key.length ≤ 64) :
    Calls P k_mac_padded #[lv kp kn kc, u8v x] w (RetB (padK x key 64) Fs) := by
  refine mac_padded_of _ _ _ _ ?_
  refine mk_s (n := 64) (c := 64) hS (by omega) (by omega) (by omega) fun b w1 h1 => ?_
  have h2 : St w1 (row b t_uint8 (by8 (List.replicate 64 0)) :: Fs) := h1
  obtain ⟨w2, hc, h3⟩ := cp_run (P := P) (t := t_sl_uint8) (t2 := t_sl_uint8) (o := 0) (d := 64) (c := 64) (m := key.length) h2 (.inl rfl) (hk w1 h2.tail) (by simp) (by omega) (by8_sc _) (by simp)
  refine ⟨_, w2, hc, ?_⟩
  have hmin : min key.length 64 = key.length := by omega
  rw [hmin] at h3
  have h4 : St w2 (row b t_uint8 (by8 (key ++ List.replicate (64 - key.length) 0)) :: Fs) := by
    have e : (by8 (List.replicate 64 0)).take 0 ++ (by8 key).take (key.length * 1) ++ (by8 (List.replicate 64 0)).drop (0 + key.length * 1) = by8 (key ++ List.replicate (64 - key.length) 0) := by
      rw [List.take_zero, List.nil_append, Nat.mul_one, List.take_of_length_le (by simp), Nat.zero_add]
      simp only [by8, List.map_append, ← List.map_drop, List.drop_replicate]
    rw [← e]; exact h3
  have hg : ∀ i, i < 64 → (key ++ List.replicate (64 - key.length) 0).getD i 0 = key.getD i 0 := by
    intro i hi
    simp only [List.getD_eq_getElem?_getD]
    by_cases h : i < key.length
    · rw [List.getElem?_append_left h]
    · rw [List.getElem?_append_right (by omega), List.getElem?_eq_none (l := key) (by omega), List.getElem?_replicate, if_pos (by omega)]
      rfl
  have hlen : (key ++ List.replicate (64 - key.length) (0 : UInt8)).length = 64 := by simp; omega
  generalize key ++ List.replicate (64 - key.length) 0 = kk at h4 hg hlen
  refine ⟨fun vs w => ∃ i : Nat, i ≤ 64 ∧ vs = [u8v x, lv (some (at0 b)) 64 64, iv 64, iv i] ∧ St w (row b t_uint8 (by8 (padK x kk i ++ kk.drop i)) :: Fs), fun vs _ => (64 - cnt 3 vs).toNat, ⟨0, by omega, rfl, h4⟩, ?_⟩
  clear h4 h3 h2 h1
  rintro _ w3 ⟨i, hi, rfl, h5⟩
  refine mac_padded_b4_of _ _ _ _ _ _ ?_
  by_cases h : i < 64
  · refine cond_td (by omega) ?_
    have e5 : w64 ((i : Int) + 1) = ((i + 1 : Nat) : Int) := w64_eq _ (by omega) (by omega)
    rw [e5]
    have hd : kk.drop i = kk.getD i 0 :: kk.drop (i + 1) := by
      rw [List.drop_eq_getElem_cons (by omega)]
      simp [List.getD_eq_getElem?_getD, show i < kk.length by omega]
    have hat : (by8 (padK x kk i ++ kk.drop i))[0 + i * 1]? = some (u8v (kk.getD i 0)) := by
      rw [hd]; simp [by8, padK_len]
    refine ⟨by omega, _, ldx h5 hat, by omega, ?_⟩
    refine stox h5 (by simp [padK_len]; omega) rfl fun w4 h6 => ?_
    refine ⟨⟨i + 1, by omega, rfl, ?_⟩, by simp [cnt]; omega⟩
    have e : by8 (padK x kk (i + 1) ++ kk.drop (i + 1)) = (by8 (padK x kk i ++ kk.drop i)).set (0 + i * 1) (u8v (kk.getD i 0 ^^^ x)) := by
      rw [hd, ← padK_step]
      simp only [by8, List.map_append, List.map_cons, List.map_nil]
      rw [List.set_append_right _ _ (by simp [padK_len])]
      simp [padK_len]
    rw [e]
    have hx : u8v (kk.getD i 0 ^^^ x) = .int .u8 (ixor .u8 ((kk.getD i 0).toNat : Int) (x.toNat : Int)) := by rw [ixor8]
    rw [hx]
    exact h6
  · refine cond_fd (by omega) ?_
    have hi64 : i = 64 := by omega
    subst hi64
    have e : padK x kk 64 ++ kk.drop 64 = padK x key 64 := by
      rw [List.drop_of_length_le (by omega), List.append_nil]
      unfold padK
      exact List.map_congr_left fun i hi => by rw [hg i (by simpa using hi)]
    rw [e] at h5
    refine ⟨some (at0 b), 64, by rw [padK_len], ?_⟩
    rw [padK_len]
    exact row_sl h5 (by simp [padK_len])
end
end Go.Proofs.Tz
namespace Go.Proofs.Tz
open Go.W
set_option maxRecDepth 20000

/-- A text that gets a tag: the key is 'k', short; what was written is 'm'. -/
def macAt (bm bt : Nat) (k m : List UInt8) : HP := hex fun q => hex fun c => hex fun bh =>
  star (row bm t_mac_Mac [pv (at0 bt), lv q 64 c, pv (at0 bh)]) (star (bsAt (lv q 64 c) (padK 0x5c k 64)) (hashAt bh bt (padK 0x36 k 64 ++ m)))
theorem mac_open {w : World} {L : List HP} {bm bt : Nat} {k m : List UInt8} (h : St w (macAt bm bt k m :: L)) :
    ∃ q c bh, St w (row bm t_mac_Mac [pv (at0 bt), lv q 64 c, pv (at0 bh)] :: bsAt (lv q 64 c) (padK 0x5c k 64) :: hashAt bh bt (padK 0x36 k 64 ++ m) :: L) := by
  obtain ⟨q, h⟩ := h.ex
  obtain ⟨c, h⟩ := h.ex
  obtain ⟨bh, h⟩ := h.ex
  exact ⟨q, c, bh, h.star.f1.star.f2⟩
theorem mac_mk {w : World} {L : List HP} {bm bt bh : Nat} {k m : List UInt8} {q : Option Addr} {c : Nat} (h : St w (row bm t_mac_Mac [pv (at0 bt), lv q 64 c, pv (at0 bh)] :: bsAt (lv q 64 c) (padK 0x5c k 64) :: hashAt bh bt (padK 0x36 k 64 ++ m) :: L)) :
    St w (macAt bm bt k m :: L) := by
  have h1 := (h.f2.f2.unstar).f1.unstar
  exact h1.head fun _ hx => ⟨q, c, bh, hx⟩

section
variable {w : World} {Fs : List HP} {bt bm : Nat} {kp mp : Option Addr} {kn kc mn mc : Nat} {key msg m : List UInt8}

theorem mac_New_j3_s {R : Ending → World → Prop} (hS : St w (tabAt bt :: Fs)) (hk : Rd Fs 1 (lv kp kn kc) (by8 key)) (hl : key.length ≤ 64)
    (hR : ∀ bm w', St w' (macAt bm bt key [] :: tabAt bt :: Fs) → R (.returned (pv (at0 bm))) w') : mac_New_j3 R [pv (at0 bt), lv kp kn kc] w := by
  refine mac_New_j3_of _ _ _ _ ?_
  refine (mac_padded_s 0x5c hS (hk.cons _) hl).mono ?_
  rintro _ w1 ⟨q, c, rfl, h1⟩
  rw [padK_len] at h1 ⊢
  refine ⟨_, _, _, rfl, (sha_New_s h1.f1).mono ?_⟩
  rintro _ w2 ⟨bh, rfl, h2⟩
  refine ⟨_, rfl, ?_⟩
  refine bx (l := [pv (at0 bt), lv q 64 c, pv (at0 bh)]) h2 rfl fun bm w3 h3 => ?_
  refine ⟨fun w => St w (row bm t_mac_Mac [pv (at0 bt), lv q 64 c, pv (at0 bh)] :: hashAt bh bt [] :: tabAt bt :: bsAt (lv q 64 c) (padK 0x5c key 64) :: Fs), h3.dr, _, fun w hw => ld hw rfl, ?_⟩
  refine (mac_padded_s 0x36 h3.dr ((((hk.cons _).cons _).cons _).cons _) hl).mono ?_
  rintro _ w4 ⟨q4, c4, rfl, h4⟩
  rw [padK_len] at h4 ⊢
  refine ⟨_, _, _, rfl, h4.re, ?_⟩
  have h5 : St w4 (hashAt bh bt [] :: tabAt bt :: bsAt (lv q4 64 c4) (padK 0x36 key 64) :: row bm t_mac_Mac [pv (at0 bt), lv q 64 c, pv (at0 bh)] :: bsAt (lv q 64 c) (padK 0x5c key 64) :: Fs) := h4.re
  refine (sha_Hash_Write_s (bs := padK 0x36 key 64) h5 (Rd.of_sl (T := t_uint8)) (by simp [padK_len])).mono ?_
  rintro _ w5 ⟨rfl, h6⟩
  rw [List.nil_append] at h6
  refine ⟨rfl, hR bm w5 (mac_mk (q := q) (c := c) (bh := bh) ?_)⟩
  rw [List.append_nil]
  exact h6.re

theorem mac_New_s (hS : St w (tabAt bt :: Fs)) (hk : Rd Fs 1 (lv kp kn kc) (by8 key)) (hl : key.length ≤ 1073741824) :
    Calls P k_mac_New #[pv (at0 bt), lv kp kn kc] w fun e w' => ∃ bm, e = .returned (pv (at0 bm)) ∧ St w' (macAt bm bt (shortK key) [] :: tabAt bt :: Fs) := by
  refine mac_New_of _ _ _ _ ?_
  have hn : key.length = kn := by simpa using (hk.len hS.tail).1
  by_cases h : key.length > 64
  · refine cond_td (by unfold ln; omega) ?_
    refine (sha_One_s hS hk hl).mono ?_
    rintro _ w1 ⟨q, c, rfl, h1⟩
    refine ⟨_, _, _, rfl, mac_New_j3_s (key := sha key) h1.f1 (Rd.of_sl (T := t_uint8)) (by rw [sha_len]; omega) fun bm w' h2 => ⟨bm, rfl, ?_⟩⟩
    unfold shortK; rw [if_pos h]
    exact h2.re
  · refine cond_fd (by unfold ln; omega) ?_
    refine mac_New_j3_s hS hk (by omega) fun bm w' h2 => ⟨bm, rfl, ?_⟩
    unfold shortK; rw [if_neg h]
    exact h2

theorem mac_Write_s (hS : St w (macAt bm bt key m :: tabAt bt :: Fs)) (hm : Rd Fs 1 (lv mp mn mc) (by8 msg)) (hl : m.length + msg.length ≤ 1073741000) :
    Calls P k_mac_Mac_Write #[pv (at0 bm), lv mp mn mc] w fun e w' => e = .returned (tv []) ∧ St w' (macAt bm bt key (m ++ msg) :: tabAt bt :: Fs) := by
  obtain ⟨q, c, bh, h1⟩ := mac_open hS
  refine mac_Mac_Write_of _ _ _ _ ⟨_, ldx (o := 0) h1 rfl, ?_⟩
  have h2 : St w (hashAt bh bt (padK 0x36 key 64 ++ m) :: tabAt bt :: row bm t_mac_Mac [pv (at0 bt), lv q 64 c, pv (at0 bh)] :: bsAt (lv q 64 c) (padK 0x5c key 64) :: Fs) := h1.re
  refine (sha_Hash_Write_s h2 ((hm.cons _).cons _) (by simp [padK_len]; omega)).mono ?_
  rintro _ w5 ⟨rfl, h6⟩
  rw [List.append_assoc] at h6
  exact ⟨rfl, rfl, mac_mk (q := q) (c := c) (bh := bh) h6.re⟩

theorem mac_Sum_s (hS : St w (macAt bm bt key m :: tabAt bt :: Fs)) : Calls P k_mac_Mac_Sum #[pv (at0 bm)] w (RetB (mac1 key m) (macAt bm bt key m :: tabAt bt :: Fs)) := by
  obtain ⟨q, c, bh, h1⟩ := mac_open hS
  refine mac_Mac_Sum_of _ ⟨_, ld h1 rfl, ?_⟩
  have h2 : St w (tabAt bt :: row bm t_mac_Mac [pv (at0 bt), lv q 64 c, pv (at0 bh)] :: bsAt (lv q 64 c) (padK 0x5c key 64) :: hashAt bh bt (padK 0x36 key 64 ++ m) :: Fs) := h1.re
  refine (sha_New_s h2).mono ?_
  rintro _ w2 ⟨bg, rfl, h3⟩
  refine ⟨_, rfl, _, _, _, ldx (o := 0) h3 rfl, ?_⟩
  refine (sha_Hash_Write_s (bs := padK 0x5c key 64) h3 (Rd.of_sl (T := t_uint8)) (by simp [padK_len])).mono ?_
  rintro _ w4 ⟨rfl, h4⟩
  rw [List.nil_append] at h4
  refine ⟨rfl, _, ldx (o := 0) h4 rfl, ?_⟩
  have h5 : St w4 (hashAt bh bt (padK 0x36 key 64 ++ m) :: tabAt bt :: hashAt bg bt (padK 0x5c key 64) :: row bm t_mac_Mac [pv (at0 bt), lv q 64 c, pv (at0 bh)] :: bsAt (lv q 64 c) (padK 0x5c key 64) :: Fs) := h4.re
  refine (sha_Hash_Sum_s h5).mono ?_
  rintro _ w6 ⟨q6, c6, rfl, h6⟩
  refine ⟨_, _, _, rfl, ?_⟩
  have h7 : St w6 (hashAt bg bt (padK 0x5c key 64) :: tabAt bt :: bsAt (lv q6 (sha (padK 0x36 key 64 ++ m)).length c6) (sha (padK 0x36 key 64 ++ m)) :: hashAt bh bt (padK 0x36 key 64 ++ m) :: row bm t_mac_Mac [pv (at0 bt), lv q 64 c, pv (at0 bh)] :: bsAt (lv q 64 c) (padK 0x5c key 64) :: Fs) := h6.re
  refine (sha_Hash_Write_s (bs := sha (padK 0x36 key 64 ++ m)) h7 (Rd.of_sl (T := t_uint8)) (by simp [padK_len, sha_len])).mono ?_
  rintro _ w8 ⟨rfl, h8⟩
  refine ⟨rfl, (sha_Hash_Sum_s h8).mono ?_⟩
  rintro _ w9 ⟨q9, c9, rfl, h9⟩
  refine ⟨_, _, _, rfl, q9, c9, rfl, ?_⟩
  have h10 : St w9 (row bm t_mac_Mac [pv (at0 bt), lv q 64 c, pv (at0 bh)] :: bsAt (lv q 64 c) (padK 0x5c key 64) :: hashAt bh bt (padK 0x36 key 64 ++ m) :: tabAt bt :: bsAt (lv q9 (sha (padK 0x5c key 64 ++ sha (padK 0x36 key 64 ++ m))).length c9) (sha (padK 0x5c key 64 ++ sha (padK 0x36 key 64 ++ m))) :: Fs) := h9.re
  unfold mac1
  exact (mac_mk h10).re

theorem mac_One_s (hS : St w (tabAt bt :: Fs)) (hk : Rd Fs 1 (lv kp kn kc) (by8 key)) (hm : Rd Fs 1 (lv mp mn mc) (by8 msg)) (hkl : key.length ≤ 1073741000) (hml : msg.length ≤ 1073741000) :
    Calls P k_mac_One #[pv (at0 bt), lv kp kn kc, lv mp mn mc] w (RetB (mac key msg) (tabAt bt :: Fs)) := by
  refine mac_One_of _ _ _ _ _ _ _ ((mac_New_s hS hk (by omega)).mono ?_)
  rintro _ w1 ⟨bm, rfl, h1⟩
  refine ⟨_, rfl, (mac_Write_s h1 hm (by simpa using hml)).mono ?_⟩
  rintro _ w2 ⟨rfl, h2⟩
  rw [List.nil_append] at h2
  refine ⟨rfl, (mac_Sum_s h2).mono ?_⟩
  rintro _ w3 ⟨q, c, rfl, h3⟩
  unfold mac
  exact ⟨_, _, _, rfl, q, c, rfl, h3.re⟩

theorem mac_Key_s (a b : Int) (hS : St w (tabAt bt :: Fs)) (hk : Rd Fs 1 (lv kp kn kc) (by8 key)) (hkl : key.length ≤ 1073741000) :
    Calls P k_mac_Key #[pv (at0 bt), lv kp kn kc, iv a, iv b] w (RetB (keyOf key a b) (tabAt bt :: Fs)) := by
  refine mac_Key_of _ _ _ _ _ _ ?_
  refine bs (cs := by8 [b8 a, b8 b]) hS (filled_of (by rw [two_by8]; rfl)) (by omega) fun b1 w1 h1 => ?_
  refine (mac_One_s (msg := [b8 a, b8 b]) h1.f1 (hk.cons _) (Rd.of_row (o := 0) rfl rfl (Nat.le_refl _)) hkl (by simp)).mono ?_
  rintro _ w2 ⟨q, c, rfl, h2⟩
  unfold keyOf
  exact ⟨_, _, _, rfl, q, c, rfl, h2.re⟩
theorem gate_Keys_s (a b : Int) (hS : St w (tabAt bt :: Fs)) (hk : Rd Fs 1 (lv kp kn kc) (by8 key)) (hkl : key.length ≤ 1073741000) :
    Calls P k_gate_Keys #[pv (at0 bt), lv kp kn kc, iv a, iv b] w (RetB (keyOf key a b) (tabAt bt :: Fs)) := by
  refine gate_Keys_of _ _ _ _ _ _ ((mac_Key_s a b hS hk hkl).mono ?_)
  rintro _ w2 ⟨q, c, rfl, h2⟩
  exact ⟨_, _, _, rfl, q, c, rfl, h2⟩
theorem gate_Stamp_s (b : Int) (hS : St w (tabAt bt :: Fs)) (hk : Rd Fs 1 (lv kp kn kc) (by8 key)) (hkl : key.length ≤ 1073741000) :
    Calls P k_gate_Stamp #[pv (at0 bt), lv kp kn kc, iv b] w (RetB (keyOf key 255 b) (tabAt bt :: Fs)) := by
  refine gate_Stamp_of _ _ _ _ _ ((mac_Key_s 255 b hS hk hkl).mono ?_)
  rintro _ w2 ⟨q, c, rfl, h2⟩
  exact ⟨_, _, _, rfl, q, c, rfl, h2⟩
theorem six_by8 (a b n : Int) : by8 ([b8 a, b8 b] ++ bytesOf n 4) = [.int .u8 (IntKind.u8.wrap a), .int .u8 (IntKind.u8.wrap b), .int .u8 (IntKind.u8.wrap (ishr .i64 n 24)), .int .u8 (IntKind.u8.wrap (ishr .i64 n 16)), .int .u8 (IntKind.u8.wrap (ishr .i64 n 8)), .int .u8 (IntKind.u8.wrap n)] := by
  rw [← by8_app, two_by8]
  have h := byteAt_v n
  simp only [bytesOf, by8, List.map_cons, List.map_nil, h]
  simp [ishr, IntKind.bits]
theorem gate_Receipt_s (party which seq : Int) (hS : St w (tabAt bt :: Fs)) (hk : Rd Fs 1 (lv kp kn kc) (by8 key)) (hm : Rd Fs 1 (lv mp mn mc) (by8 msg)) (hkl : key.length ≤ 268435456) (hml : msg.length ≤ 268435456) :
    Calls P k_gate_Receipt #[pv (at0 bt), lv kp kn kc, iv party, iv which, iv seq, lv mp mn mc] w (RetB (receiptOf key party which seq msg) (tabAt bt :: Fs)) := by
  refine gate_Receipt_of _ _ _ _ _ _ _ _ _ _ ?_
  refine bs (cs := by8 ([b8 party, b8 which] ++ bytesOf seq 4)) hS (filled_of (by rw [six_by8]; rfl)) (by omega) fun b1 w1 h1 => ?_
  have h2 : St w1 (bsAt (lv (some (at0 b1)) 6 6) ([b8 party, b8 which] ++ bytesOf seq 4) :: tabAt bt :: Fs) := row_sl h1 (by simp [bytesOf_len])
  refine ap h2 (((hm.cons _).cons _) w1 h2) (by8_sc _) (by omega) (by simp [bytesOf_len]; omega) fun q2 c2 w4 h5 => ?_
  rw [by8_app] at h5
  generalize hx : [b8 party, b8 which] ++ bytesOf seq 4 ++ msg = text at h5
  have h6 := h5.f1
  refine (mac_One_s (msg := text) h6 (hk.cons _) (Rd.of_sl (T := t_uint8)) (by omega) (by rw [← hx]; simp [bytesOf_len]; omega)).mono ?_
  rintro _ w5 ⟨q, c, rfl, h7⟩
  unfold receiptOf
  rw [hx]
  exact ⟨_, _, _, rfl, q, c, rfl, h7.re⟩

theorem gate_Split_s {bs : List UInt8} (hS : St w Fs) (hk : Rd Fs 1 (lv kp kn kc) (by8 bs)) (hl : bs.length ≤ 268435456) :
    Calls P k_gate_Split #[lv kp kn kc] w (RetSplit bs Fs) := by
  refine gate_Split_of _ _ _ ?_
  have hn : bs.length = kn := by simpa using (hk.len hS).1
  have hc := (hk.len hS).2
  have e0 : w64 (ln kn - 32) = (kn : Int) - 32 := by unfold ln; rw [w64_id (by omega)]
  rw [e0]
  by_cases h : bs.length < 32
  · refine cond_td (by omega) ?_
    refine ⟨none, 0, 0, none, 0, 0, ?_, ?_⟩
    · rw [if_pos h]
    · unfold headOf tailOf; rw [if_pos h, if_pos h]
      exact mk_slNil (mk_slNil hS)
  · refine cond_fd (by omega) ?_
    have e1 : (kn : Int) - 32 = ((kn - 32 : Nat) : Int) := by omega
    rw [e1]
    refine ⟨fun w => St w Fs, hS.dr, ?_⟩
    refine ⟨_, _, _, fun w _ => slc_run (lo := 0) (hi := kn - 32) (by omega) (by omega) (.inr ⟨rfl, rfl⟩) (.inl rfl), ?_⟩
    refine ⟨_, _, _, fun w _ => slc_run (lo := kn - 32) (hi := kn) (by omega) (by omega) (.inl rfl) (.inr ⟨rfl, rfl⟩), ?_⟩
    have r1 := hk.slice (lo := 0) (hi := kn - 32) (by omega) (by omega)
    have r2 := hk.slice (lo := kn - 32) (hi := kn) (by omega) (by omega)
    have e2 : ((by8 bs).drop (0 * 1)).take ((kn - 32 - 0) * 1) = by8 (headOf bs) := by
      unfold headOf; rw [if_neg h, hn]; simp [by8, List.map_take]
    have e3 : ((by8 bs).drop ((kn - 32) * 1)).take ((kn - (kn - 32)) * 1) = by8 (tailOf bs) := by
      unfold tailOf; rw [if_neg h, hn]; simp only [by8, Nat.mul_one, ← List.map_drop]
      rw [List.take_of_length_le (by simp; omega)]
    rw [e2] at r1; rw [e3] at r2
    have l1 : (headOf bs).length ≤ 268435456 := by unfold headOf; rw [if_neg h]; simp; omega
    have l2 : (tailOf bs).length ≤ 268435456 := by unfold tailOf; rw [if_neg h]; simp; omega
    refine (bytes_Clone_s hS.dr r1 (by omega)).mono ?_
    rintro _ w2 ⟨q, c, rfl, h2⟩
    refine ⟨_, _, _, rfl, ?_⟩
    refine ⟨h2.tail, ?_⟩
    refine (bytes_Clone_s h2 (r2.cons _) (by omega)).mono ?_
    rintro _ w3 ⟨q2, c2, rfl, h3⟩
    refine ⟨_, _, _, rfl, ?_⟩
    refine ⟨_, _, _, _, _, _, ?_, h3⟩
    rw [if_neg h]
end
end Go.Proofs.Tz
namespace Go.Proofs.Tz
open Go.W
set_option maxRecDepth 20000

/-- What the examples fix comes out. -/
def First (k : FuncId) : Prop := ∀ (w : World) (Fs : List HP), St w Fs → Calls P k #[] w fun e w' => e = .returned (bv true) ∧ St w' Fs

section
variable {w : World} {Fs : List HP} {bt : Nat} {kp mp : Option Addr} {kn kc mn mc : Nat} {key msg : List UInt8}

theorem GateTells_j1011_s (hF : First k_cfllaw15_first) (party which seq : Int) (t : Bool) (hS : St w (tabAt bt :: Fs)) (hk : Rd Fs 1 (lv kp kn kc) (by8 key)) (hm : Rd Fs 1 (lv mp mn mc) (by8 msg)) (hkl : key.length ≤ 1000) (hml : msg.length ≤ 1000)
    {R : Ending → World → Prop} (hR : ∀ w', St w' Fs → R (.returned (bv true)) w') : cfllaw15_GateTells_j1011 R [lv kp kn kc, lv mp mn mc, iv party, iv which, iv seq, pv (at0 bt), bv t] w := by
  refine cfllaw15_GateTells_j1011_of _ _ _ _ _ _ _ _ _ _ _ ?_
  cases t with
  | true =>
    refine (hF w _ hS).mono ?_
    rintro _ w1 ⟨rfl, h1⟩
    exact ⟨_, rfl, hR _ h1.tail⟩
  | false =>
    refine (hF w _ hS).mono ?_
    rintro _ w1 ⟨rfl, h1⟩
    refine ⟨true, rfl, ?_⟩
    refine (gate_Keys_s party which h1 hk (by omega)).mono ?_
    rintro _ w2 ⟨q2, c2, rfl, h2⟩
    refine ⟨_, _, _, rfl, ?_⟩
    refine (cflref13_Keys_s party which h2 ((hk.cons _).cons _) (by omega)).mono ?_
    rintro _ w3 ⟨q3, c3, rfl, h3⟩
    refine ⟨_, _, _, rfl, ?_⟩
    refine (cflref_Bytes_s (key := keyOf key party which) (msg := keyOf key party which) h3 (Rd.of_sl (T := t_uint8)) (Rd.of_sl (T := t_uint8))).mono ?_
    rintro _ _ ⟨rfl, rfl⟩
    refine ⟨_, rfl, cond_t (beq_self_eq_true _) ?_⟩
    have h4 : St w3 (tabAt bt :: Fs) := h3.re
    refine (gate_Stamp_s which h4 hk (by omega)).mono ?_
    rintro _ w5 ⟨q5, c5, rfl, h5⟩
    refine ⟨_, _, _, rfl, ?_⟩
    refine (cflref13_Stamp_s which h5 ((hk.cons _).cons _) (by omega)).mono ?_
    rintro _ w6 ⟨q6, c6, rfl, h6⟩
    refine ⟨_, _, _, rfl, ?_⟩
    refine (cflref_Bytes_s (key := keyOf key 255 which) (msg := keyOf key 255 which) h6 (Rd.of_sl (T := t_uint8)) (Rd.of_sl (T := t_uint8))).mono ?_
    rintro _ _ ⟨rfl, rfl⟩
    refine ⟨_, rfl, cond_t (beq_self_eq_true _) ?_⟩
    have h7 : St w6 (tabAt bt :: Fs) := h6.re
    refine (gate_Receipt_s party which seq h7 hk hm (by omega) (by omega)).mono ?_
    rintro _ w8 ⟨q8, c8, rfl, h8⟩
    refine ⟨_, _, _, rfl, ?_⟩
    refine (cflref13_Receipt_s party which seq h8 ((hk.cons _).cons _) ((hm.cons _).cons _) (by omega) (by omega)).mono ?_
    rintro _ w9 ⟨q9, c9, rfl, h9⟩
    refine ⟨_, _, _, rfl, ?_⟩
    refine (cflref_Bytes_s (key := receiptOf key party which seq msg) (msg := receiptOf key party which seq msg) h9 (Rd.of_sl (T := t_uint8)) (Rd.of_sl (T := t_uint8))).mono ?_
    rintro _ _ ⟨rfl, rfl⟩
    refine ⟨_, rfl, ?_⟩
    rw [beq_self_eq_true]
    exact hR _ h9.re

theorem GateTells_j1009_s (hF : First k_cfllaw15_first) (party which seq : Int) (hS : St w (tabAt bt :: Fs)) (hk : Rd Fs 1 (lv kp kn kc) (by8 key)) (hm : Rd Fs 1 (lv mp mn mc) (by8 msg)) (hkl : key.length ≤ 1000) (hml : msg.length ≤ 1000)
    {R : Ending → World → Prop} (hR : ∀ w', St w' Fs → R (.returned (bv true)) w') : cfllaw15_GateTells_j1009 R [lv kp kn kc, lv mp mn mc, iv party, iv which, iv seq, pv (at0 bt), bv false] w := by
  refine cfllaw15_GateTells_j1009_of _ _ _ _ _ _ _ _ _ _ _ ?_
  have h := fun t => GateTells_j1011_s hF party which seq t hS hk hm hkl hml hR
  refine cond_f rfl ?_
  cases decide (party < 0)
  · cases decide (party > 255)
    · cases decide (which < 0)
      · cases decide (which > 255)
        · cases decide (seq < 0)
          · exact h _
          · exact h true
        · exact h true
      · exact h true
    · exact h true
  · exact h true

theorem GateTells_s (hF : First k_cfllaw15_first) (party which seq : Int) (hS : St w Fs) (hk : Rd Fs 1 (lv kp kn kc) (by8 key)) (hm : Rd Fs 1 (lv mp mn mc) (by8 msg)) :
    Calls P k_cfllaw15_GateTells #[lv kp kn kc, lv mp mn mc, iv party, iv which, iv seq] w fun e w' => e = .returned (bv true) ∧ St w' Fs := by
  refine cfllaw15_GateTells_of _ _ _ _ _ _ _ _ _ ((hF w Fs hS).mono ?_)
  rintro _ w1 ⟨rfl, h1⟩
  refine ⟨true, rfl, ?_⟩
  have hkn : key.length = kn := by simpa using (hk.len h1).1
  have hmn : msg.length = mn := by simpa using (hm.len h1).1
  have hj : ∀ t, (t = true ∨ (key.length ≤ 1000 ∧ msg.length ≤ 1000)) → cfllaw15_GateTells_j1004 (fun e w' => e = .returned (bv true) ∧ St w' Fs) [lv kp kn kc, lv mp mn mc, iv party, iv which, iv seq, bv t] w1 := by
    intro t ht
    refine cfllaw15_GateTells_j1004_of _ _ _ _ _ _ _ _ _ _ ?_
    cases t with
    | true =>
      refine (hF w1 Fs h1).mono ?_
      rintro _ w2 ⟨rfl, h2⟩
      exact ⟨_, rfl, rfl, h2⟩
    | false =>
      obtain ⟨hkl, hml⟩ := ht.resolve_left (by simp)
      refine (sha_NewTable_s h1).mono ?_
      rintro _ w2 ⟨bt, rfl, h2⟩
      refine ⟨_, rfl, ?_⟩
      refine (gate_Split_s h2 (hm.cons _) (by omega)).mono ?_
      rintro _ w3 ⟨qa, na, ca, qb, nb, cb, rfl, h3⟩
      refine ⟨_, _, _, _, _, _, _, rfl, ?_⟩
      refine (cflref13_Split_s h3 (((hm.cons _).cons _).cons _) (by omega)).mono ?_
      rintro _ w4 ⟨qc, nc, cc, qd, nd, cd, rfl, h4⟩
      refine ⟨_, _, _, _, _, _, _, rfl, ?_⟩
      refine (cflref_Bytes_s (key := headOf msg) (msg := headOf msg) h4 (Rd.of_sl (T := t_uint8)) (Rd.of_sl (T := t_uint8))).mono ?_
      rintro _ _ ⟨rfl, rfl⟩
      refine ⟨_, rfl, cond_f (by rw [beq_self_eq_true]; rfl) ?_⟩
      refine (cflref_Bytes_s (key := tailOf msg) (msg := tailOf msg) h4 (Rd.of_sl (T := t_uint8)) (Rd.of_sl (T := t_uint8))).mono ?_
      rintro _ _ ⟨rfl, rfl⟩
      refine ⟨_, rfl, cond_f (by rw [beq_self_eq_true]; rfl) ?_⟩
      have hne : ((if msg.length < 32 then (2 : Int) else 0) != (if msg.length < 32 then (2 : Int) else 0)) = false := by simp
      rw [hne]
      exact GateTells_j1009_s hF party which seq (St.re (M := tabAt bt :: Fs) h4) hk hm hkl hml fun w' h' => ⟨rfl, h'⟩
  refine cond_f rfl ?_
  by_cases h0 : key.length ≤ 1000
  · refine cond_fd (by unfold ln; omega) (hj _ ?_)
    by_cases h2 : msg.length ≤ 1000
    · exact .inr ⟨h0, h2⟩
    · exact .inl (decide_eq_true (by unfold ln; omega))
  · exact cond_td (by unfold ln; omega) (hj true (.inl rfl))
end
end Go.Proofs.Tz
