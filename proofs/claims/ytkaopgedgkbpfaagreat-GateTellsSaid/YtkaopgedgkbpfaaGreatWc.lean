/- Proved here: what functions of the program compute, each by a contract over its translation (rules of the walk, or contracts function by function). No conditions beyond those that each contract states. -/
import Derived.Test.YtkaopgedgkbpfaaGreatWb
namespace Go.W

/-! SHA-256 over integers, as both programs reckon it. -/

def wr (n : Int) : Int := IntKind.u32.wrap n
def rot (x : Int) (n : Nat) : Int := ior .u32 (ishr .u32 x n) (ishl .u32 x (32 - n))
def gi (l : List Int) (i : Nat) : Int := l.getD i 0
def gb (l : List UInt8) (i : Nat) : Int := (((l.getD i 0).toNat : Nat) : Int)
def sg0 (x : Int) : Int := ixor .u32 (ixor .u32 (rot x 7) (rot x 18)) (ishr .u32 x 3)
def sg1 (x : Int) : Int := ixor .u32 (ixor .u32 (rot x 17) (rot x 19)) (ishr .u32 x 10)
def be4 (b : List UInt8) (i : Nat) : Int := gb b (4 * i) * 16777216 + gb b (4 * i + 1) * 65536 + gb b (4 * i + 2) * 256 + gb b (4 * i + 3)
def nxt (b : List UInt8) (l : List Int) (k : Nat) : Int :=
  if k < 16 then be4 b k else wr (wr (wr (gi l (k - 16) + sg0 (gi l (k - 15))) + gi l (k - 7)) + sg1 (gi l (k - 2)))
def wds (b : List UInt8) : Nat → List Int
  | 0 => []
  | k + 1 => wds b k ++ [nxt b (wds b k) k]
structure V8 where
  (a b c d e f g h : Int)
def V8.l (v : V8) : List Int := [v.a, v.b, v.c, v.d, v.e, v.f, v.g, v.h]
def oneOf (v : V8) (k w : Int) : Int :=
  wr (wr (wr (wr (v.h + ixor .u32 (ixor .u32 (rot v.e 6) (rot v.e 11)) (rot v.e 25)) + ixor .u32 (iand .u32 v.e v.f) (iand .u32 (ixor .u32 IntKind.u32.max v.e) v.g)) + k) + w)
def twoOf (v : V8) : Int :=
  wr (ixor .u32 (ixor .u32 (rot v.a 2) (rot v.a 13)) (rot v.a 22) + ixor .u32 (ixor .u32 (iand .u32 v.a v.b) (iand .u32 v.a v.c)) (iand .u32 v.b v.c))
def rd (v : V8) (k w : Int) : V8 := ⟨wr (oneOf v k w + twoOf v), v.a, v.b, v.c, wr (v.d + oneOf v k w), v.e, v.f, v.g⟩
def K64 : List Int := [
  0x428a2f98, 0x71374491, 0xb5c0fbcf, 0xe9b5dba5, 0x3956c25b, 0x59f111f1, 0x923f82a4, 0xab1c5ed5,
  0xd807aa98, 0x12835b01, 0x243185be, 0x550c7dc3, 0x72be5d74, 0x80deb1fe, 0x9bdc06a7, 0xc19bf174,
  0xe49b69c1, 0xefbe4786, 0x0fc19dc6, 0x240ca1cc, 0x2de92c6f, 0x4a7484aa, 0x5cb0a9dc, 0x76f988da,
  0x983e5152, 0xa831c66d, 0xb00327c8, 0xbf597fc7, 0xc6e00bf3, 0xd5a79147, 0x06ca6351, 0x14292967,
  0x27b70a85, 0x2e1b2138, 0x4d2c6dfc, 0x53380d13, 0x650a7354, 0x766a0abb, 0x81c2c92e, 0x92722c85,
  0xa2bfe8a1, 0xa81a664b, 0xc24b8b70, 0xc76c51a3, 0xd192e819, 0xd6990624, 0xf40e3585, 0x106aa070,
  0x19a4c116, 0x1e376c08, 0x2748774c, 0x34b0bcb5, 0x391c0cb3, 0x4ed8aa4a, 0x5b9cca4f, 0x682e6ff3,
  0x748f82ee, 0x78a5636f, 0x84c87814, 0x8cc70208, 0x90befffa, 0xa4506ceb, 0xbef9a3f7, 0xc67178f2]
def H8 : V8 := ⟨0x6a09e667, 0xbb67ae85, 0x3c6ef372, 0xa54ff53a, 0x510e527f, 0x9b05688c, 0x1f83d9ab, 0x5be0cd19⟩
def rds (b : List UInt8) (v : V8) : Nat → V8
  | 0 => v
  | k + 1 => rd (rds b v k) (gi K64 k) (gi (wds b 64) k)
def comp (v : V8) (b : List UInt8) : V8 :=
  let u := rds b v 64
  ⟨wr (v.a + u.a), wr (v.b + u.b), wr (v.c + u.c), wr (v.d + u.d), wr (v.e + u.e), wr (v.f + u.f), wr (v.g + u.g), wr (v.h + u.h)⟩

theorem wds_len (b : List UInt8) : ∀ k, (wds b k).length = k
  | 0 => rfl
  | k + 1 => by simp [wds, wds_len b k]
theorem wds_get (b : List UInt8) : ∀ k j, j < k → gi (wds b k) j = nxt b (wds b j) j
  | k + 1, j, h => by
    have hl := wds_len b k
    by_cases hj : j < k
    · have := wds_get b k j hj
      rw [← this]
      simp [gi, wds, List.getD_eq_getElem?_getD, List.getElem?_append_left (show j < (wds b k).length by omega)]
    · have : j = k := by omega
      subst this
      simp [gi, wds, List.getD_eq_getElem?_getD, hl]

abbrev u32v (x : Int) : Value := .int .u32 x
abbrev by32 (l : List Int) : List Value := l.map u32v
theorem by32_at {l : List Int} {i : Nat} (h : i < l.length) : (by32 l)[i]? = some (u32v (gi l i)) := by
  simp [by32, gi, List.getD_eq_getElem?_getD, h]
theorem by8_at {l : List UInt8} {i : Nat} (h : i < l.length) : (by8 l)[i]? = some (.int .u8 (gb l i)) := by
  simp [by8, gb, List.getD_eq_getElem?_getD, h]

/-! The bytes of words. -/

theorem ior_nat {a b : Nat} (ha : a < 4294967296) (hb : b < 4294967296) : ior .u32 (a : Int) (b : Int) = ((a ||| b : Nat) : Int) := by
  have h : (a ||| b) < 2 ^ 32 := Nat.or_lt_two_pow ha hb
  have h0 : ior .u32 (a : Int) (b : Int) = IntKind.u32.wrap ((BitVec.ofInt 32 (a : Int) ||| BitVec.ofInt 32 (b : Int)).toNat : Int) := rfl
  rw [h0]
  unfold IntKind.wrap
  simp only [IntKind.signed, IntKind.bits]
  simp only [BitVec.ofInt_natCast, BitVec.toNat_or, BitVec.toNat_ofNat]
  rw [Nat.mod_eq_of_lt ha, Nat.mod_eq_of_lt hb]
  have h2 : ((a ||| b : Nat) : Int) % 2 ^ 32 = ((a ||| b : Nat) : Int) := Int.emod_eq_of_lt (by omega) (by exact_mod_cast h)
  simpa using h2
theorem ior_comm (k : IntKind) (a b : Int) : ior k a b = ior k b a := by unfold ior; rw [BitVec.or_comm]
theorem ishl_nat {a n : Nat} (hn : n ≤ 32) (h : a * 2 ^ n < 4294967296) : ishl .u32 (a : Int) n = ((a * 2 ^ n : Nat) : Int) := by
  unfold ishl IntKind.wrap
  simp only [IntKind.signed, IntKind.bits, Nat.min_eq_left hn]
  have h2 : ((a * 2 ^ n : Nat) : Int) % 2 ^ 32 = ((a * 2 ^ n : Nat) : Int) := Int.emod_eq_of_lt (by omega) (by exact_mod_cast h)
  have h3 : (a : Int) * 2 ^ n = ((a * 2 ^ n : Nat) : Int) := by push_cast; rfl
  rw [h3]; simpa using h2
theorem or_add {a n c : Nat} (h : c < 2 ^ n) : (a * 2 ^ n) ||| c = a * 2 ^ n + c := by
  have := Nat.shiftLeft_add_eq_or_of_lt h a
  rw [Nat.shiftLeft_eq] at this; exact this.symm
theorem wrap_byte {a : Nat} (h : a < 4294967296) : IntKind.u32.wrap (a : Int) = (a : Int) := by
  unfold IntKind.wrap
  simp only [IntKind.signed, IntKind.bits]
  have h2 : (a : Int) % 2 ^ 32 = (a : Int) := Int.emod_eq_of_lt (by omega) (by exact_mod_cast h)
  simpa using h2
theorem gb_lt (l : List UInt8) (i : Nat) : ∃ n : Nat, gb l i = (n : Int) ∧ n < 256 := ⟨_, rfl, UInt8.toNat_lt _⟩

theorem step_ior {a c : Nat} (ha : a < 16777216) (hc : c < 256) : ior .u32 (ishl .u32 (a : Int) 8) (IntKind.u32.wrap (c : Int)) = ((a * 256 + c : Nat) : Int) := by
  rw [ishl_nat (by omega) (by omega), wrap_byte (by omega), ior_nat (by omega) (by omega), or_add (by omega)]
theorem four_ior {a b c d : Nat} (ha : a < 256) (hb : b < 256) (hc : c < 256) (hd : d < 256) :
    ior .u32 (ior .u32 (ior .u32 (ishl .u32 (IntKind.u32.wrap (a : Int)) 24) (ishl .u32 (IntKind.u32.wrap (b : Int)) 16)) (ishl .u32 (IntKind.u32.wrap (c : Int)) 8)) (IntKind.u32.wrap (d : Int)) =
      ((a * 16777216 + b * 65536 + c * 256 + d : Nat) : Int) := by
  rw [wrap_byte (by omega), wrap_byte (by omega), wrap_byte (by omega), wrap_byte (by omega)]
  rw [ishl_nat (by omega) (by omega), ishl_nat (by omega) (by omega), ishl_nat (by omega) (by omega)]
  rw [ior_nat (by omega) (by omega), or_add (by omega)]
  rw [show a * 2 ^ 24 + b * 2 ^ 16 = (a * 256 + b) * 2 ^ 16 by omega]
  rw [ior_nat (by omega) (by omega), or_add (by omega)]
  rw [show (a * 256 + b) * 2 ^ 16 + c * 2 ^ 8 = (a * 65536 + b * 256 + c) * 2 ^ 8 by omega]
  rw [ior_nat (by omega) (by omega), or_add (by omega)]
theorem be4_four (l : List UInt8) (i : Nat) : ior .u32 (ior .u32 (ior .u32 (ishl .u32 (IntKind.u32.wrap (gb l (4 * i))) 24) (ishl .u32 (IntKind.u32.wrap (gb l (4 * i + 1))) 16)) (ishl .u32 (IntKind.u32.wrap (gb l (4 * i + 2))) 8)) (IntKind.u32.wrap (gb l (4 * i + 3))) = be4 l i := by
  obtain ⟨a, ha, ha2⟩ := gb_lt l (4 * i)
  obtain ⟨b, hb, hb2⟩ := gb_lt l (4 * i + 1)
  obtain ⟨c, hc, hc2⟩ := gb_lt l (4 * i + 2)
  obtain ⟨d, hd, hd2⟩ := gb_lt l (4 * i + 3)
  unfold be4
  rw [ha, hb, hc, hd, four_ior ha2 hb2 hc2 hd2]
  omega

/-! Blocks. -/

def folds (v : V8) (l : List UInt8) : V8 := if _h : l.length < 64 then v else folds (comp v (l.take 64)) (l.drop 64)
termination_by l.length
decreasing_by simp; omega
def lefts (l : List UInt8) : List UInt8 := if _h : l.length < 64 then l else lefts (l.drop 64)
termination_by l.length
decreasing_by simp; omega
theorem folds_lt {v : V8} {l : List UInt8} (h : l.length < 64) : folds v l = v := by rw [folds, dif_pos h]
theorem folds_ge {v : V8} {l : List UInt8} (h : ¬ l.length < 64) : folds v l = folds (comp v (l.take 64)) (l.drop 64) := by rw [folds, dif_neg h]
theorem lefts_lt {l : List UInt8} (h : l.length < 64) : lefts l = l := by rw [lefts, dif_pos h]
theorem lefts_ge {l : List UInt8} (h : ¬ l.length < 64) : lefts l = lefts (l.drop 64) := by rw [lefts, dif_neg h]
theorem lefts_len (n : Nat) : ∀ l : List UInt8, l.length ≤ n → (lefts l).length < 64 ∧ (lefts l).length % 64 = l.length % 64 := by
  induction n with
  | zero => intro l h; rw [lefts_lt (by omega)]; omega
  | succ n ih =>
    intro l h
    by_cases hl : l.length < 64
    · rw [lefts_lt hl]; omega
    · rw [lefts_ge hl]
      have := ih (l.drop 64) (by simp; omega)
      simp at this; omega
theorem folds_app (n : Nat) : ∀ (v : V8) (a b : List UInt8), a.length ≤ n → folds v (a ++ b) = folds (folds v a) (lefts a ++ b) := by
  induction n with
  | zero => intro v a b h; rw [folds_lt (l := a) (by omega), lefts_lt (by omega)]
  | succ n ih =>
    intro v a b h
    by_cases hl : a.length < 64
    · rw [folds_lt (l := a) hl, lefts_lt hl]
    · rw [folds_ge (l := a ++ b) (by simp; omega), folds_ge (l := a) hl, lefts_ge hl, List.take_append_of_le_length (by omega), List.drop_append_of_le_length (by omega)]
      exact ih _ _ _ (by simp; omega)
theorem lefts_app (n : Nat) : ∀ (a b : List UInt8), a.length ≤ n → lefts (a ++ b) = lefts (lefts a ++ b) := by
  induction n with
  | zero => intro a b h; rw [lefts_lt (l := a) (by omega)]
  | succ n ih =>
    intro a b h
    by_cases hl : a.length < 64
    · rw [lefts_lt (l := a) hl]
    · rw [lefts_ge (l := a ++ b) (by simp; omega), lefts_ge (l := a) hl, List.drop_append_of_le_length (by omega)]
      exact ih _ _ (by simp; omega)

/-- The bytes of a number, the greatest first. -/
def byteAt (n : Int) (k : Nat) : UInt8 := UInt8.ofNat (IntKind.u8.wrap (n.fdiv (2 ^ (8 * k)))).toNat
def bytesOf (n : Int) : Nat → List UInt8
  | 0 => []
  | k + 1 => byteAt n k :: bytesOf n k
theorem byteAt_v (n : Int) (k : Nat) : u8v (byteAt n k) = .int .u8 (IntKind.u8.wrap (n.fdiv (2 ^ (8 * k)))) := by
  unfold u8v byteAt
  congr 1
  unfold IntKind.wrap
  simp only [IntKind.signed, IntKind.bits]
  have h1 := Int.emod_nonneg (n.fdiv (2 ^ (8 * k))) (b := 2 ^ 8) (by omega)
  have h2 := Int.emod_lt_of_pos (n.fdiv (2 ^ (8 * k))) (b := 2 ^ 8) (by omega)
  simp [UInt8.toNat_ofNat']
  omega
theorem bytesOf_len (n : Int) : ∀ k, (bytesOf n k).length = k
  | 0 => rfl
  | k + 1 => by simp [bytesOf, bytesOf_len n k]
theorem bytesOf_take (n : Int) : ∀ k m, m < k → (bytesOf n k).take (m + 1) = (bytesOf n k).take m ++ [byteAt n (k - 1 - m)]
  | k + 1, 0, _ => by simp [bytesOf]
  | k + 1, m + 1, h => by
    have := bytesOf_take n k m (by omega)
    simp only [bytesOf, List.take_succ_cons, this, List.cons_append]
    congr 4; omega
theorem bytes4 (x : Int) : [.int .u8 (IntKind.u8.wrap (ishr .u32 x 24)), .int .u8 (IntKind.u8.wrap (ishr .u32 x 16)), .int .u8 (IntKind.u8.wrap (ishr .u32 x 8)), .int .u8 (IntKind.u8.wrap x)] = by8 (bytesOf x 4) := by
  have h := byteAt_v x
  simp only [bytesOf, by8, List.map_cons, List.map_nil, h]
  simp [ishr, IntKind.bits]
theorem tmod_nat (a b : Nat) : Int.tmod (a : Int) (b : Int) = ((a % b : Nat) : Int) := rfl
/-- Padding: a bit, zeros, the length. -/
def zerosFor (n : Nat) : Nat := (119 - n % 64) % 64
def padTail (n : Nat) : List UInt8 := 0x80 :: (List.replicate (zerosFor n) 0 ++ bytesOf (IntKind.u64.wrap (8 * (n : Int))) 8)
def outs (v : V8) : List UInt8 := v.l.flatMap fun x => bytesOf x 4
def sha (m : List UInt8) : List UInt8 := outs (folds H8 (m ++ padTail m.length))
theorem padTail_len (n : Nat) : (n + (padTail n).length) % 64 = 0 := by
  simp [padTail, bytesOf_len, zerosFor]; omega
def outT (v : V8) (i : Nat) : List UInt8 := (v.l.take i).flatMap fun x => bytesOf x 4
theorem outT_len {v : V8} : ∀ i, i ≤ 8 → (outT v i).length = 4 * i
  | 0, _ => rfl | 1, _ => rfl | 2, _ => rfl | 3, _ => rfl | 4, _ => rfl | 5, _ => rfl | 6, _ => rfl | 7, _ => rfl | 8, _ => rfl
theorem outT_step {v : V8} : ∀ i, i < 8 → outT v i ++ bytesOf (gi v.l i) 4 = outT v (i + 1)
  | 0, _ => rfl | 1, _ => rfl | 2, _ => rfl | 3, _ => rfl | 4, _ => rfl | 5, _ => rfl | 6, _ => rfl | 7, _ => rfl
theorem outs_len (v : V8) : (outs v).length = 32 := by simp [outs, V8.l, bytesOf_len]
theorem sha_len (m : List UInt8) : (sha m).length = 32 := outs_len _

/-! HMAC. -/

theorem ixor8 (a b : UInt8) : ixor .u8 (a.toNat : Int) (b.toNat : Int) = ((a ^^^ b).toNat : Int) := by
  have h0 : ixor .u8 (a.toNat : Int) (b.toNat : Int) = IntKind.u8.wrap ((BitVec.ofInt 8 (a.toNat : Int) ^^^ BitVec.ofInt 8 (b.toNat : Int)).toNat : Int) := rfl
  rw [h0]
  have ha := UInt8.toNat_lt a
  have hb := UInt8.toNat_lt b
  have h : (a.toNat ^^^ b.toNat) < 2 ^ 8 := Nat.xor_lt_two_pow ha hb
  unfold IntKind.wrap
  simp only [IntKind.signed, IntKind.bits]
  simp only [BitVec.ofInt_natCast, BitVec.toNat_xor, BitVec.toNat_ofNat, UInt8.toNat_xor]
  rw [Nat.mod_eq_of_lt ha, Nat.mod_eq_of_lt hb]
  have h2 : ((a.toNat ^^^ b.toNat : Nat) : Int) % 2 ^ 8 = ((a.toNat ^^^ b.toNat : Nat) : Int) := Int.emod_eq_of_lt (by omega) (by exact_mod_cast h)
  simpa using h2
/-- The byte of a number. -/
def b8 (n : Int) : UInt8 := byteAt n 0
theorem b8_v (n : Int) : u8v (b8 n) = .int .u8 (IntKind.u8.wrap n) := by
  have := byteAt_v n 0
  unfold b8; rw [this]; simp
def padK (x : UInt8) (k : List UInt8) (n : Nat) : List UInt8 := (List.range n).map fun i => k.getD i 0 ^^^ x
theorem padK_len (x : UInt8) (k : List UInt8) (n : Nat) : (padK x k n).length = n := by simp [padK]
theorem padK_step (x : UInt8) (k : List UInt8) (n : Nat) : padK x k n ++ [k.getD n 0 ^^^ x] = padK x k (n + 1) := by simp [padK, List.range_succ]
def shortK (k : List UInt8) : List UInt8 := if k.length > 64 then sha k else k
def mac1 (k m : List UInt8) : List UInt8 := sha (padK 0x5c k 64 ++ sha (padK 0x36 k 64 ++ m))
def mac (k m : List UInt8) : List UInt8 := mac1 (shortK k) m
theorem mac1_len (k m : List UInt8) : (mac1 k m).length = 32 := sha_len _
theorem mac_len (k m : List UInt8) : (mac k m).length = 32 := sha_len _
def keyOf (seed : List UInt8) (a b : Int) : List UInt8 := mac seed [b8 a, b8 b]
def receiptOf (stamp : List UInt8) (party which seq : Int) (answer : List UInt8) : List UInt8 := mac stamp ([b8 party, b8 which] ++ bytesOf seq 4 ++ answer)
theorem toList_loop (bs : ByteArray) (n : Nat) : ∀ i r, bs.size - i ≤ n → ByteArray.toList.loop bs i r = r.reverse ++ bs.data.toList.drop i := by
  induction n with
  | zero =>
    intro i r h
    have hs : bs.size = bs.data.toList.length := (Array.length_toList).symm
    rw [ByteArray.toList.loop, if_neg (by omega), List.drop_of_length_le (by omega)]; simp
  | succ n ih =>
    intro i r h
    have hs : bs.size = bs.data.toList.length := (Array.length_toList).symm
    rw [ByteArray.toList.loop]
    split
    · rename_i hlt
      rw [ih _ _ (by omega)]
      rw [List.drop_eq_getElem_cons (show i < bs.data.toList.length by omega)]
      have hi : i < bs.data.size := hlt
      have : bs.get! i = bs.data.toList[i]'(by omega) := by
        rw [Array.getElem_toList]
        exact getElem!_pos bs.data i hi
      rw [this]; simp
    · rw [List.drop_of_length_le (by omega)]; simp
theorem toList_eq (bs : ByteArray) : bs.toList = bs.data.toList := by
  unfold ByteArray.toList; rw [toList_loop bs _ 0 [] (Nat.le_refl _)]; simp
theorem seq_mk (a b : List UInt8) : seq ⟨a.toArray⟩ ⟨b.toArray⟩ = (a == b) := by
  unfold seq; rw [toList_eq, toList_eq]
end Go.W
namespace Go.W

/-! The table's words, reckoned. -/

def primeL (n : Nat) : Nat → Nat → Bool
  | 0, _ => true
  | f + 1, d => if d * d ≤ n then (if n % d = 0 then false else primeL n f (d + 1)) else true
def primeF (n : Nat) : Bool := primeL n 28 2
def squareF (x p : Nat) : Bool := decide (x * x ≤ p * 18446744073709551616)
def cubeF (x p : Nat) : Bool := decide (x * x * x ≤ p * 79228162514264337593543950336)
def rootL (f : Nat → Nat → Bool) (p : Nat) : Nat → Nat → Nat
  | 0, x => x
  | j + 1, x => rootL f p j (if f (x ||| 2 ^ j) p then x ||| 2 ^ j else x)
def PR : List Nat := [2, 3, 5, 7, 11, 13, 17, 19, 23, 29, 31, 37, 41, 43, 47, 53, 59, 61, 67, 71, 73, 79, 83, 89, 97, 101, 103, 107, 109, 113, 127, 131, 137, 139, 149, 151, 157, 163, 167, 173, 179, 181, 191, 193, 197, 199, 211, 223, 227, 229, 233, 239, 241, 251, 257, 263, 269, 271, 277, 281, 283, 293, 307, 311]
def pr (i : Nat) : Nat := PR.getD i 0
def from' (i : Nat) : Nat := if i = 0 then 2 else pr (i - 1) + 1
theorem words_ok : (List.range 64).all (fun i => decide (((rootL cubeF (pr i) 41 0 % 4294967296 : Nat) : Int) = gi K64 i)) = true := by kernel_rfl
theorem starts_ok : (List.range 8).all (fun i => decide (((rootL squareF (pr i) 41 0 % 4294967296 : Nat) : Int) = gi H8.l i)) = true := by kernel_rfl
theorem primes_ok : (List.range 64).all (fun i => (List.range 312).all fun p => !(decide (from' i ≤ p) && decide (p ≤ pr i)) || (primeF p == (p == pr i))) = true := by kernel_rfl
theorem pr_ok : (List.range 64).all (fun i => decide (pr i ≤ 311) && decide (from' i ≤ pr i) && decide (2 ≤ from' i)) = true := by kernel_rfl
theorem word_ok {i : Nat} (h : i < 64) : ((rootL cubeF (pr i) 41 0 % 4294967296 : Nat) : Int) = gi K64 i := by simpa using List.all_eq_true.1 words_ok i (by simpa using h)
theorem start_ok {i : Nat} (h : i < 8) : ((rootL squareF (pr i) 41 0 % 4294967296 : Nat) : Int) = gi H8.l i := by simpa using List.all_eq_true.1 starts_ok i (by simpa using h)
theorem prime_ok {i p : Nat} (h : i < 64) (h1 : from' i ≤ p) (h2 : p ≤ pr i) (h3 : p ≤ 311) : primeF p = (p == pr i) := by
  have := List.all_eq_true.1 (List.all_eq_true.1 primes_ok i (by simpa using h)) p (by simp; omega)
  simpa [h1, h2] using this
theorem pr_le {i : Nat} (h : i < 64) : pr i ≤ 311 ∧ from' i ≤ pr i ∧ 2 ≤ from' i := by
  have := List.all_eq_true.1 pr_ok i (by simpa using h)
  simp at this; omega

theorem shr_nat (a n : Nat) (h : n ≤ 64) : ishr .u64 (a : Int) n = ((a / 2 ^ n : Nat) : Int) := by
  unfold ishr
  rw [show min n IntKind.u64.bits = n by simp [IntKind.bits]; omega]
  rw [show ((2 : Int) ^ n) = ((2 ^ n : Nat) : Int) by push_cast; rfl, Int.fdiv_eq_ediv_of_nonneg _ (Int.natCast_nonneg _)]
  rfl
theorem wrap_nat (a : Nat) : IntKind.u64.wrap (a : Int) = ((a % 18446744073709551616 : Nat) : Int) := by
  unfold IntKind.wrap
  simp only [IntKind.signed, IntKind.bits]
  simp
theorem and_nat (a : Nat) (h : a < 18446744073709551616) : iand .u64 (a : Int) 4294967295 = ((a % 4294967296 : Nat) : Int) := by
  have h0 : iand .u64 (a : Int) 4294967295 = IntKind.u64.wrap ((BitVec.ofInt 64 (a : Int) &&& BitVec.ofInt 64 ((4294967295 : Nat) : Int)).toNat : Int) := rfl
  rw [h0, wrap_nat]
  simp only [BitVec.ofInt_natCast, BitVec.toNat_and, BitVec.toNat_ofNat]
  rw [Nat.mod_eq_of_lt (a := a) (by omega), Nat.mod_eq_of_lt (a := 4294967295) (by omega)]
  have : a &&& 4294967295 = a % 4294967296 := Nat.and_two_pow_sub_one_eq_mod a 32
  rw [this, Nat.mod_eq_of_lt (by omega)]
theorem ior_nat64 {a b : Nat} (ha : a < 2199023255552) (hb : b < 2199023255552) : ior .u64 (a : Int) (b : Int) = ((a ||| b : Nat) : Int) := by
  have h : (a ||| b) < 2 ^ 41 := Nat.or_lt_two_pow ha hb
  have h0 : ior .u64 (a : Int) (b : Int) = IntKind.u64.wrap ((BitVec.ofInt 64 (a : Int) ||| BitVec.ofInt 64 (b : Int)).toNat : Int) := rfl
  rw [h0, wrap_nat]
  simp only [BitVec.ofInt_natCast, BitVec.toNat_or, BitVec.toNat_ofNat]
  rw [Nat.mod_eq_of_lt (a := a) (by omega), Nat.mod_eq_of_lt (a := b) (by omega), Nat.mod_eq_of_lt (by omega)]

theorem mul_split (a b : Nat) : a * b = a % 4294967296 * (b % 4294967296) + (a / 4294967296 * (b % 4294967296) + a % 4294967296 * (b / 4294967296)) * 4294967296 + a / 4294967296 * (b / 4294967296) * 18446744073709551616 := by
  have ha : a = a / 4294967296 * 4294967296 + a % 4294967296 := by omega
  have hb : b = b / 4294967296 * 4294967296 + b % 4294967296 := by omega
  generalize a / 4294967296 = x1 at *
  generalize a % 4294967296 = x0 at *
  generalize b / 4294967296 = y1 at *
  generalize b % 4294967296 = y0 at *
  subst ha hb
  grind
theorem mul_bound {x y : Nat} (hx : x < 4294967296) (hy : y < 4294967296) : x * y ≤ 18446744065119617025 := by
  have := Nat.mul_le_mul (show x ≤ 4294967295 by omega) (show y ≤ 4294967295 by omega)
  simpa using this
theorem mul_hi {a b : Nat} (ha : a < 18446744073709551616) (hb : b < 18446744073709551616) :
    (a / 4294967296 * (b / 4294967296) + (a / 4294967296 * (b % 4294967296) + a % 4294967296 * (b % 4294967296) / 4294967296) / 4294967296 +
      ((a / 4294967296 * (b % 4294967296) + a % 4294967296 * (b % 4294967296) / 4294967296) % 4294967296 + a % 4294967296 * (b / 4294967296)) / 4294967296) = a * b / 18446744073709551616 := by
  rw [mul_split a b]
  have h1 := mul_bound (show a % 4294967296 < 4294967296 by omega) (show b % 4294967296 < 4294967296 by omega)
  have h2 := mul_bound (show a / 4294967296 < 4294967296 by omega) (show b % 4294967296 < 4294967296 by omega)
  have h3 := mul_bound (show a % 4294967296 < 4294967296 by omega) (show b / 4294967296 < 4294967296 by omega)
  have h4 := mul_bound (show a / 4294967296 < 4294967296 by omega) (show b / 4294967296 < 4294967296 by omega)
  generalize a % 4294967296 * (b % 4294967296) = A at *
  generalize a / 4294967296 * (b % 4294967296) = B at *
  generalize a % 4294967296 * (b / 4294967296) = C at *
  generalize a / 4294967296 * (b / 4294967296) = E at *
  omega
end Go.W
