/- What the functions of package octets come to, in plain Lean: lists of bytes and natural numbers. No condition. -/
import Derived.Test.YtpjjledbmfmbiaaPW
namespace Go.PBYtpjjledbmfmbiaa
open Go Go.RowKit

/-! ### cells that are filled one by one -/
theorem splice_fill (xs : List Value) (z v : Value) (m k : Nat) (hk : xs.length = k) (hm : 0 < m) : splice (xs ++ List.replicate m z) k [v] = (xs ++ [v]) ++ List.replicate (m - 1) z := by
  subst hk
  obtain ⟨m, rfl⟩ : ∃ j, m = j + 1 := ⟨m - 1, by omega⟩
  unfold splice
  simp [List.replicate_succ, List.drop_append]
theorem splice_back (xs : List Value) (z v : Value) (m k : Nat) (hm : k + 1 = m) : splice (List.replicate m z ++ xs) k [v] = List.replicate k z ++ v :: xs := by
  subst hm
  unfold splice
  have e : List.replicate (k + 1) z = List.replicate k z ++ [z] := by rw [List.replicate_succ']
  rw [e, List.append_assoc]
  simp [List.drop_append]

/-! ### a number's bytes -/
def lowAt (n : Nat) (i : Nat) : UInt8 := UInt8.ofNat (n / 2 ^ (8 * i))
def lowB (n : Nat) (k : Nat) : List UInt8 := (List.range k).map (lowAt n)
theorem lowB_length (n k : Nat) : (lowB n k).length = k := by simp [lowB]
theorem lowB_succ (n k : Nat) : lowB n (k + 1) = lowB n k ++ [lowAt n k] := by simp [lowB, List.range_succ]
theorem lowAt_val (n i : Nat) : (n : Int) / 2 ^ (8 * i) % 256 = ((lowAt n i).toNat : Int) := by
  unfold lowAt
  rw [UInt8.toNat_ofNat']
  simp
def highB (n k : Nat) : List UInt8 := (lowB n k).reverse
theorem highB_length (n k : Nat) : (highB n k).length = k := by simp [highB, lowB_length]

/-! ### the number of bytes -/
def ofHigh (l : List UInt8) : Nat := l.foldl (fun n c => n * 256 + c.toNat) 0
theorem ofHigh_nil : ofHigh [] = 0 := rfl
theorem ofHigh_snoc (l : List UInt8) (c : UInt8) : ofHigh (l ++ [c]) = ofHigh l * 256 + c.toNat := by simp [ofHigh]
theorem ofHigh_from (l : List UInt8) : ∀ n, l.foldl (fun n c => n * 256 + c.toNat) n < (n + 1) * 256 ^ l.length := by
  induction l with
  | nil => intro n; simp
  | cons c l ih =>
    intro n
    have h := ih (n * 256 + c.toNat)
    have hc := c.toNat_lt
    have h2 : (n * 256 + c.toNat + 1) * 256 ^ l.length ≤ ((n + 1) * 256) * 256 ^ l.length := Nat.mul_le_mul_right _ (by omega)
    rw [List.foldl_cons, List.length_cons, Nat.pow_succ, Nat.mul_comm (256 ^ l.length) 256, ← Nat.mul_assoc]
    omega
theorem ofHigh_lt (l : List UInt8) : ofHigh l < 256 ^ l.length := by
  have := ofHigh_from l 0
  simpa [ofHigh] using this
theorem ofHigh_lt8 (l : List UInt8) (h : l.length ≤ 8) : ofHigh l < 18446744073709551616 := by
  have h1 := ofHigh_lt l
  have h2 : 256 ^ l.length ≤ 256 ^ 8 := Nat.pow_le_pow_right (by omega) h
  have h3 : 256 ^ 8 = 18446744073709551616 := by decide
  omega
theorem ofHigh_lt7 (l : List UInt8) (h : l.length ≤ 7) : ofHigh l < 72057594037927936 := by
  have h1 := ofHigh_lt l
  have h2 : 256 ^ l.length ≤ 256 ^ 7 := Nat.pow_le_pow_right (by omega) h
  have h3 : 256 ^ 7 = 72057594037927936 := by decide
  omega

theorem u64_byte (c : UInt8) : IntKind.u64.wrap (c.toNat : Int) = (c.toNat : Int) := by rw [IntKind.wrap_u64]; have := c.toNat_lt; omega
theorem shl_byte (m : Nat) (c : UInt8) (h : m < 72057594037927936) : IntKind.u64.wrap (IntKind.u64.wrap ((m : Int) * 256) + IntKind.u64.wrap (c.toNat : Int)) = ((m * 256 + c.toNat : Nat) : Int) := by
  have := c.toNat_lt
  rw [IntKind.wrap_u64, IntKind.wrap_u64, IntKind.wrap_u64]
  omega
theorem shl_byte' (m : Nat) (c : UInt8) (h : m < 72057594037927936) : IntKind.u64.wrap (IntKind.u64.wrap ((m : Int) * 256) + (c.toNat : Int)) = ((m * 256 + c.toNat : Nat) : Int) := by
  rw [← u64_byte c]
  rw [shl_byte m c h]
theorem u8_lt (c : UInt8) : (c.toNat : Int) < 256 := by have := c.toNat_lt; omega


/-- x shifted by a byte, and a byte: the one beside the other. -/
theorem or_byte (x : Nat) (c : UInt8) (hx : x < 72057594037927936) : bits .or .u64 ((x : Int) * 256) (c.toNat : Int) = ((x * 256 + c.toNat : Nat) : Int) := by
  have hc := c.toNat_lt
  have h1 : (BitVec.ofInt 64 ((x : Int) * 256)).toNat = x * 256 := by
    rw [BitVec.toNat_ofInt]; omega
  have h2 : (BitVec.ofInt 64 (c.toNat : Int)).toNat = c.toNat := by
    rw [BitVec.toNat_ofInt]; omega
  have h3 : x * 256 ||| c.toNat = x * 256 + c.toNat := by
    have := Nat.shiftLeft_add_eq_or_of_lt (show c.toNat < 2 ^ 8 by omega) x
    simp only [Nat.shiftLeft_eq, show (2 : Nat) ^ 8 = 256 from rfl] at this
    omega
  show IntKind.u64.wrap ((BitVec.ofInt 64 ((x : Int) * 256) ||| BitVec.ofInt 64 (c.toNat : Int)).toNat : Int) = _
  rw [BitVec.toNat_or, h1, h2, h3]
  have : IntKind.u64.wrap ((x * 256 + c.toNat : Nat) : Int) = ((x * 256 + c.toNat : Nat) : Int) := by
    rw [IntKind.wrap_u64]; omega
  exact this

/-! ### bits of bytes and of words -/
theorem ofInt_u8 (x : UInt8) : BitVec.ofInt 8 (x.toNat : Int) = x.toBitVec := by
  apply BitVec.eq_of_toNat_eq
  rw [BitVec.toNat_ofInt]
  have := x.toNat_lt
  show _ = x.toNat
  omega
theorem wrap_u8 (v : BitVec 8) : IntKind.u8.wrap (v.toNat : Int) = (v.toNat : Int) := by
  rw [IntKind.wrap_u8]
  have := v.isLt
  omega
theorem bits_xor_u8 (x y : UInt8) : bits .xor .u8 (x.toNat : Int) (y.toNat : Int) = ((x ^^^ y).toNat : Int) := by
  show IntKind.u8.wrap ((BitVec.ofInt 8 (x.toNat : Int) ^^^ BitVec.ofInt 8 (y.toNat : Int)).toNat : Int) = _
  rw [wrap_u8, ofInt_u8, ofInt_u8]
  rfl
theorem bits_or_u8 (x y : UInt8) : bits .or .u8 (x.toNat : Int) (y.toNat : Int) = ((x ||| y).toNat : Int) := by
  show IntKind.u8.wrap ((BitVec.ofInt 8 (x.toNat : Int) ||| BitVec.ofInt 8 (y.toNat : Int)).toNat : Int) = _
  rw [wrap_u8, ofInt_u8, ofInt_u8]
  rfl
theorem bits_and_u8 (x y : UInt8) : bits .and .u8 (x.toNat : Int) (y.toNat : Int) = ((x &&& y).toNat : Int) := by
  show IntKind.u8.wrap ((BitVec.ofInt 8 (x.toNat : Int) &&& BitVec.ofInt 8 (y.toNat : Int)).toNat : Int) = _
  rw [wrap_u8, ofInt_u8, ofInt_u8]
  rfl
theorem u8_or_zero (a b : UInt8) : a ||| b = 0 ↔ a = 0 ∧ b = 0 := by
  constructor
  · intro h
    have h' : a.toNat ||| b.toNat = 0 := by rw [← UInt8.toNat_or, h]; rfl
    have := Nat.or_eq_zero_iff.1 h'
    exact ⟨UInt8.toNat_inj.1 this.1, UInt8.toNat_inj.1 this.2⟩
  · rintro ⟨rfl, rfl⟩; rfl
theorem u8_xor_zero (a b : UInt8) : a ^^^ b = 0 ↔ a = b := UInt8.xor_eq_zero_iff

/-! ### rows of bytes -/
/-- v is a slice of just these bytes. -/
def BsAt (w : World) (v : Value) (l : List UInt8) : Prop := ∃ A c, v = .slice A l.length c ∧ l.length ≤ c ∧ SlAt w A (bys l)
theorem BsAt.keep {w w' : World} {v : Value} {l : List UInt8} (h : BsAt w v l) (hK : Kept [] w w') : BsAt w' v l := by
  obtain ⟨A, c, rfl, hc, h⟩ := h
  exact ⟨A, c, rfl, hc, h.keep hK⟩
theorem Row.bs {w : World} {T : TypeId} {v : Value} {n : Nat} {l : List UInt8} (h : Row w T 1 v n (bys l)) : BsAt w v l := by
  have hn : n = l.length := by have := h.1; rw [bys_length] at this; omega
  subst hn
  obtain ⟨A, cap, rfl, h1, h2, h3⟩ := h.slice
  exact ⟨A, cap, rfl, h1, h3⟩
/-- v is a slice of slices of bytes. -/
def RowsAt (w : World) (v : Value) (ls : List (List UInt8)) : Prop := ∃ A c vs, v = .slice A ls.length c ∧ ls.length ≤ c ∧ SlAt w A vs ∧ vs.length = ls.length ∧ ∀ (i : Nat) (u : Value) (l : List UInt8), vs[i]? = some u → ls[i]? = some l → BsAt w u l
theorem RowsAt.keep {w w' : World} {v : Value} {ls : List (List UInt8)} (h : RowsAt w v ls) (hK : Kept [] w w') : RowsAt w' v ls := by
  obtain ⟨A, c, vs, rfl, hc, h, hl, hb⟩ := h
  exact ⟨A, c, vs, rfl, hc, h.keep hK, hl, fun i u l hu hl' => (hb i u l hu hl').keep hK⟩

/-- rows of bytes, each with its length ahead -/
def joinB : List (List UInt8) → List UInt8
  | [] => []
  | b :: r => highB b.length 4 ++ b ++ joinB r
theorem joinB_snoc (l : List (List UInt8)) (b : List UInt8) : joinB (l ++ [b]) = joinB l ++ highB b.length 4 ++ b := by
  induction l with
  | nil => simp [joinB]
  | cons x l ih => simp [joinB, ih]

/-- the rows of bytes; none: they end too early -/
def partO : Nat → List UInt8 → Option (List (List UInt8))
  | 0, _ => some []
  | k + 1, b =>
    if b = [] then some []
    else if b.length < 4 then none
    else if b.length - 4 < ofHigh (b.take 4) then none
    else (partO k ((b.drop 4).drop (ofHigh (b.take 4)))).map (((b.drop 4).take (ofHigh (b.take 4))) :: ·)
theorem partO_fuel : ∀ (k : Nat) (b : List UInt8) (j : Nat), b.length < k → b.length < j → partO k b = partO j b
  | 0, b, j, h, _ => by omega
  | k + 1, b, 0, _, h => by omega
  | k + 1, b, j + 1, h1, h2 => by
    simp only [partO]
    by_cases h0 : b = []
    · rw [if_pos h0, if_pos h0]
    · rw [if_neg h0, if_neg h0]
      have : 0 < b.length := List.length_pos_iff.2 h0
      split
      · rfl
      · split
        · rfl
        · rw [partO_fuel k _ j (by simp; omega) (by simp; omega)]
def partOf (b : List UInt8) : Option (List (List UInt8)) := partO (b.length + 1) b
theorem partOf_nil : partOf [] = some [] := rfl
theorem partOf_short {b : List UInt8} (h0 : b ≠ []) (h : b.length < 4) : partOf b = none := by
  simp only [partOf, partO]
  rw [if_neg h0, if_pos h]
theorem partOf_far {b : List UInt8} (h : 4 ≤ b.length) (h2 : b.length - 4 < ofHigh (b.take 4)) : partOf b = none := by
  have h0 : b ≠ [] := by rintro rfl; simp at h
  simp only [partOf, partO]
  rw [if_neg h0, if_neg (by omega), if_pos h2]
theorem partOf_step {b : List UInt8} (h : 4 ≤ b.length) (h2 : ofHigh (b.take 4) ≤ b.length - 4) : partOf b = (partOf ((b.drop 4).drop (ofHigh (b.take 4)))).map (((b.drop 4).take (ofHigh (b.take 4))) :: ·) := by
  have h0 : b ≠ [] := by rintro rfl; simp at h
  have e : partOf b = (partO b.length ((b.drop 4).drop (ofHigh (b.take 4)))).map (((b.drop 4).take (ofHigh (b.take 4))) :: ·) := by
    simp only [partOf, partO]
    rw [if_neg h0, if_neg (by omega), if_neg (by omega)]
  rw [e]
  congr 1
  exact partO_fuel _ _ _ (by simp; omega) (by simp)

def xorB (a b : List UInt8) : List UInt8 := List.zipWith (· ^^^ ·) a b

/-- how much rows bear, as Light reckons it -/
def weight : List (List UInt8) → Nat
  | [] => 0
  | b :: r => min b.length 10000 + weight r
theorem weight_snoc (l : List (List UInt8)) (b : List UInt8) : weight (l ++ [b]) = weight l + min b.length 10000 := by
  induction l with
  | nil => simp [weight]
  | cons x l ih => simp [weight, ih]; omega
theorem weight_le (l : List (List UInt8)) : weight l ≤ l.length * 10000 := by
  induction l with
  | nil => simp [weight]
  | cons x l ih => simp [weight]; omega
def lightB (l : List (List UInt8)) : Bool := decide (l.length ≤ 60) && decide (weight (l.take 100) < 10000)
theorem light_len {l : List (List UInt8)} (h : lightB l = true) : l.length ≤ 60 ∧ weight l < 10000 := by
  simp only [lightB, Bool.and_eq_true, decide_eq_true_eq] at h
  rw [List.take_of_length_le (by omega)] at h
  exact h
theorem joinB_len (l : List (List UInt8)) (h : weight l < 10000) : (joinB l).length = 4 * l.length + weight l ∧ ∀ b ∈ l, b.length < 10000 := by
  induction l with
  | nil => simp [joinB, weight]
  | cons x l ih =>
    simp only [weight] at h
    have hx : x.length < 10000 := by omega
    have := ih (by omega)
    refine ⟨?_, ?_⟩
    · simp [joinB, weight, highB_length, this.1]; omega
    · intro b hb
      rcases List.mem_cons.1 hb with rfl | hb
      · exact hx
      · exact this.2 b hb
end Go.PBYtpjjledbmfmbiaa
