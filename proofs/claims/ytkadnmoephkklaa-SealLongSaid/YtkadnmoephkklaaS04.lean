/- Turning words, as plain lists of numbers: no program in sight. No condition. -/
import Derived.Test.YtkadnmoephkklaaVO
import Derived.Test.YtkadnmoephkklaaS01
import Derived.Test.YtkadnmoephkklaaS03
namespace Go.PBYtkadnmoephkklaa
open Go Go.RowKit
set_option linter.unusedVariables false

def qr2 (l : List UInt32) (a b c d r s : Nat) : List UInt32 :=
  let l1 := l.set a (l.getD a 0 + l.getD b 0)
  let l2 := l1.set d (rotl (l1.getD d 0 ^^^ l1.getD a 0) r)
  let l3 := l2.set c (l2.getD c 0 + l2.getD d 0)
  l3.set b (rotl (l3.getD b 0 ^^^ l3.getD c 0) s)
theorem qr2_length (l : List UInt32) (a b c d r s : Nat) : (qr2 l a b c d r s).length = l.length := by simp [qr2]
def ra (k : Nat) : Nat := if k = 0 then 16 else 8
def rb (k : Nat) : Nat := if k = 0 then 12 else 7
def qit (l : List UInt32) (a b c d : Nat) : Nat → List UInt32
  | 0 => l
  | k + 1 => qr2 (qit l a b c d k) a b c d (ra k) (rb k)
theorem qit_length (l : List UInt32) (a b c d : Nat) : ∀ k, (qit l a b c d k).length = l.length
  | 0 => rfl
  | k + 1 => by rw [qit, qr2_length, qit_length]
def quarter (l : List UInt32) (a b c d : Nat) : List UInt32 := qit l a b c d 2
theorem quarter_length (l : List UInt32) (a b c d : Nat) : (quarter l a b c d).length = l.length := qit_length ..
/-! ### the words at first -/
def begZ (n : UInt32) : List UInt32 := [1634760805, 857760878, 2036477234, 1797285236, 0, 0, 0, 0, 0, 0, 0, 0, n, 0, 0, 0]
def begK (k : List UInt8) (n : UInt32) : Nat → List UInt32
  | 0 => begZ n
  | i + 1 => (begK k n i).set (4 + i) (word32 (k.drop (4 * i)))
def begN (k nn : List UInt8) (n : UInt32) : Nat → List UInt32
  | 0 => begK k n 8
  | i + 1 => (begN k nn n i).set (13 + i) (word32 (nn.drop (4 * i)))
def beg (k nn : List UInt8) (n : UInt32) : List UInt32 := begN k nn n 3
theorem begK_length (k : List UInt8) (n : UInt32) : ∀ i, (begK k n i).length = 16
  | 0 => rfl
  | i + 1 => by rw [begK, List.length_set, begK_length]
theorem begN_length (k nn : List UInt8) (n : UInt32) : ∀ i, (begN k nn n i).length = 16
  | 0 => begK_length ..
  | i + 1 => by rw [begN, List.length_set, begN_length]
theorem beg_length (k nn : List UInt8) (n : UInt32) : (beg k nn n).length = 16 := begN_length ..
/-! ### the rounds -/
def cols (l : List UInt32) : Nat → List UInt32
  | 0 => l
  | i + 1 => quarter (cols l i) i (4 + i) (8 + i) (12 + i)
def diags (l : List UInt32) : Nat → List UInt32
  | 0 => l
  | i + 1 => quarter (diags l i) i (4 + (i + 1) % 4) (8 + (i + 2) % 4) (12 + (i + 3) % 4)
theorem cols_length (l : List UInt32) : ∀ i, (cols l i).length = l.length
  | 0 => rfl
  | i + 1 => by rw [cols, quarter_length, cols_length]
theorem diags_length (l : List UInt32) : ∀ i, (diags l i).length = l.length
  | 0 => rfl
  | i + 1 => by rw [diags, quarter_length, diags_length]
def rnd (l : List UInt32) : Nat → List UInt32
  | 0 => l
  | k + 1 => diags (cols (rnd l k) 4) 4
theorem rnd_length (l : List UInt32) : ∀ k, (rnd l k).length = l.length
  | 0 => rfl
  | k + 1 => by rw [rnd, diags_length, cols_length, rnd_length]
/-! ### the bytes -/
def outP (v w : List UInt32) : Nat → List UInt8
  | 0 => []
  | i + 1 => outP v w i ++ lowB (v.getD i 0 + w.getD i 0).toNat 4
theorem outP_length (v w : List UInt32) : ∀ i, (outP v w i).length = 4 * i
  | 0 => rfl
  | i + 1 => by rw [outP, List.length_append, outP_length, lowB_length]; omega
def block (k nn : List UInt8) (n : UInt32) : List UInt8 := outP (beg k nn n) (rnd (beg k nn n) 10) 16
theorem block_length (k nn : List UInt8) (n : UInt32) : (block k nn n).length = 64 := outP_length ..
theorem outP_step (v w : List UInt32) (i : Nat) (hi : i < 16) : splice (bys (outP v w i ++ List.replicate (64 - 4 * i) 0)) (4 * i) (bys (lowB (v.getD i 0 + w.getD i 0).toNat 4)) = bys (outP v w (i + 1) ++ List.replicate (64 - 4 * (i + 1)) 0) := by
  have h1 := outP_length v w i
  simp only [splice, outP, bys_take, bys_drop, bys_length, lowB_length, ← bys_append]
  congr 1
  rw [List.take_left' h1]
  simp only [List.append_assoc]
  congr 2
  rw [List.drop_append, List.drop_eq_nil_of_le (by omega), List.nil_append, h1, List.drop_replicate]
  congr 1
  omega
/-! ### turning -/
def ks (k nn : List UInt8) (n : UInt32) (j : Nat) : List UInt8 := block k nn (n + UInt32.ofNat j)
theorem ks_length (k nn : List UInt8) (n : UInt32) (j : Nat) : (ks k nn n j).length = 64 := block_length ..
def tat (B : Nat → List UInt8) (b : List UInt8) (i : Nat) : UInt8 := b.getD i 0 ^^^ (B (i / 64)).getD (i % 64) 0
def tb (B : Nat → List UInt8) (b : List UInt8) (i : Nat) : List UInt8 := (List.range i).map (tat B b)
def turnB (k nn : List UInt8) (n : UInt32) (b : List UInt8) : List UInt8 := tb (ks k nn n) b b.length
theorem tb_length (B : Nat → List UInt8) (b : List UInt8) (i : Nat) : (tb B b i).length = i := by simp [tb]
theorem turnB_length (k nn : List UInt8) (n : UInt32) (b : List UInt8) : (turnB k nn n b).length = b.length := tb_length ..
theorem tb_succ (B : Nat → List UInt8) (b : List UInt8) (i : Nat) : tb B b (i + 1) = tb B b i ++ [tat B b i] := by simp [tb, List.range_succ]
theorem tb_at {B : Nat → List UInt8} {b : List UInt8} {i n : Nat} (h : i < n) : (tb B b n)[i]? = some (tat B b i) := by simp [tb, h]
theorem tb_chunk (B : Nat → List UInt8) (hB : ∀ j, (B j).length = 64) (b : List UInt8) (j m : Nat) (hm : m ≤ 64) (hb : 64 * j + m ≤ b.length) :
    tb B b (64 * j) ++ xorB ((b.drop (64 * j)).take m) ((B j).take m) = tb B b (64 * j + m) := by
  have hl := hB j
  apply List.ext_getElem?
  intro i
  by_cases h0 : i < 64 * j + m
  · rw [tb_at h0]
    by_cases h : i < 64 * j
    · rw [List.getElem?_append_left (by rw [tb_length]; exact h), tb_at h]
    · rw [List.getElem?_append_right (by rw [tb_length]; omega), tb_length]
      have e1 : i / 64 = j := by omega
      have e2 : i % 64 = i - 64 * j := by omega
      have e3 : 64 * j + (i - 64 * j) = i := by omega
      unfold xorB tat
      rw [List.getElem?_zipWith, List.getElem?_take, List.getElem?_take, if_pos (by omega), if_pos (by omega), List.getElem?_drop, e3, e1, e2]
      rw [List.getElem?_eq_getElem (by omega), List.getElem?_eq_getElem (by omega), List.getD_eq_getElem?_getD, List.getD_eq_getElem?_getD, List.getElem?_eq_getElem (by omega), List.getElem?_eq_getElem (by omega)]
      rfl
  · rw [List.getElem?_eq_none (by rw [List.length_append, tb_length]; simp [xorB]; omega), List.getElem?_eq_none (by rw [tb_length]; omega)]
theorem outP_copy (v w : List UInt32) (i : Nat) (hi : i < 16) : splice (bys (outP v w i ++ List.replicate (64 - 4 * i) 0)) (4 * i) ((bys (lowB (v.getD i 0 + w.getD i 0).toNat 4)).take (min 4 (64 - 4 * i))) = bys (outP v w (i + 1) ++ List.replicate (64 - 4 * (i + 1)) 0) := by
  rw [List.take_of_length_le (by rw [bys_length, lowB_length]; omega)]
  exact outP_step v w i hi
theorem tb_step (B : Nat → List UInt8) (b : List UInt8) (i : Nat) : tb B b i ++ [b.getD i 0 ^^^ (B (i / 64)).getD (i % 64) 0] = tb B b (i + 1) := (tb_succ B b i).symm
/-! ### the reference's way -/
def rkW (k : List UInt8) : Nat → List UInt32
  | 0 => [1634760805, 857760878, 2036477234, 1797285236]
  | i + 1 => rkW k i ++ [word32 (k.drop (4 * i))]
theorem rkW_length (k : List UInt8) : ∀ i, (rkW k i).length = 4 + i
  | 0 => rfl
  | i + 1 => by rw [rkW, List.length_append, rkW_length]; rfl
def rnW (k nn : List UInt8) (n : UInt32) : Nat → List UInt32
  | 0 => rkW k 8 ++ [n]
  | i + 1 => rnW k nn n i ++ [word32 (nn.drop (4 * i))]
theorem rnW_length (k nn : List UInt8) (n : UInt32) : ∀ i, (rnW k nn n i).length = 13 + i
  | 0 => by rw [rnW, List.length_append, rkW_length]; rfl
  | i + 1 => by rw [rnW, List.length_append, rnW_length]; rfl
theorem rnW_beg (k nn : List UInt8) (n : UInt32) : rnW k nn n 3 = beg k nn n := rfl
def roF (v w : List UInt32) (i : Nat) : UInt8 := UInt8.ofNat (UInt32.ofNat ((v.getD (i / 4) 0 + w.getD (i / 4) 0).toNat / 2 ^ (min (8 * (i % 4)) 32))).toNat
def roP (v w : List UInt32) : Nat → List UInt8
  | 0 => List.replicate 64 0
  | i + 1 => (roP v w i).set i (roF v w i)
theorem roP_length (v w : List UInt32) : ∀ i, (roP v w i).length = 64
  | 0 => rfl
  | i + 1 => by rw [roP, List.length_set, roP_length]
theorem roP_at (v w : List UInt32) : ∀ (n i : Nat), i < n → n ≤ 64 → (roP v w n)[i]? = some (roF v w i)
  | 0, i, h, _ => by omega
  | n + 1, i, h, hn => by
    rw [roP, List.getElem?_set]
    by_cases e : n = i
    · subst e
      rw [if_pos rfl, if_pos (by rw [roP_length]; omega)]
    · rw [if_neg e]
      exact roP_at v w n i (by omega) (by omega)
theorem roF_low (v w : List UInt32) (i : Nat) : roF v w i = lowAt (v.getD (i / 4) 0 + w.getD (i / 4) 0).toNat (i % 4) := by
  unfold roF lowAt
  rw [show min (8 * (i % 4)) 32 = 8 * (i % 4) by omega]
  generalize v.getD (i / 4) 0 + w.getD (i / 4) 0 = x
  rw [UInt32.toNat_ofNat', Nat.mod_eq_of_lt (Nat.lt_of_le_of_lt (Nat.div_le_self _ _) (UInt32.toNat_lt x))]
theorem outP_at (v w : List UInt32) : ∀ (n i : Nat), i < 4 * n → (outP v w n)[i]? = some (lowAt (v.getD (i / 4) 0 + w.getD (i / 4) 0).toNat (i % 4))
  | 0, i, h => by omega
  | n + 1, i, h => by
    rw [outP]
    by_cases h1 : i < 4 * n
    · rw [List.getElem?_append_left (by rw [outP_length]; exact h1)]
      exact outP_at v w n i h1
    · rw [List.getElem?_append_right (by rw [outP_length]; omega), outP_length]
      have e1 : i / 4 = n := by omega
      have e2 : i - 4 * n = i % 4 := by omega
      rw [e1, e2]
      have h4 : i % 4 < 4 := Nat.mod_lt _ (by omega)
      simp [lowB, h4]
theorem roP_block (k nn : List UInt8) (n : UInt32) : roP (beg k nn n) (rnd (beg k nn n) 10) 64 = block k nn n := by
  unfold block
  apply List.ext_getElem?
  intro i
  by_cases h : i < 64
  · rw [roP_at _ _ 64 i h (Nat.le_refl _), outP_at _ _ 16 i (by omega), roF_low]
  · rw [List.getElem?_eq_none (by rw [roP_length]; omega), List.getElem?_eq_none (by rw [outP_length]; omega)]
/-! ### laws of turning -/
theorem tb_getD {B : Nat → List UInt8} {b : List UInt8} {i n : Nat} (h : i < n) : (tb B b n).getD i 0 = tat B b i := by rw [List.getD_eq_getElem?_getD, tb_at h]; rfl
theorem tat_tat (B : Nat → List UInt8) (b : List UInt8) (n i : Nat) (h : i < n) : tat B (tb B b n) i = b.getD i 0 := by
  show (tb B b n).getD i 0 ^^^ _ = _
  rw [tb_getD h]
  unfold tat
  rw [UInt8.xor_assoc, UInt8.xor_self, UInt8.xor_zero]
theorem turn_twice (k nn : List UInt8) (n : UInt32) (b : List UInt8) : turnB k nn n (turnB k nn n b) = b := by
  apply List.ext_getElem?
  intro i
  by_cases h : i < b.length
  · have h1 : i < (turnB k nn n b).length := by rw [turnB_length]; exact h
    rw [turnB, tb_at h1]
    unfold turnB
    rw [tat_tat _ _ _ _ h, List.getElem?_eq_getElem h, List.getD_eq_getElem?_getD, List.getElem?_eq_getElem h]
    rfl
  · rw [List.getElem?_eq_none (by rw [turnB_length, turnB_length]; omega), List.getElem?_eq_none (by omega)]
theorem turn_parts (k nn : List UInt8) (n : UInt32) (b : List UInt8) (q : Nat) (hq : 64 * q ≤ b.length) : turnB k nn n b = turnB k nn n (b.take (64 * q)) ++ turnB k nn (n + UInt32.ofNat q) (b.drop (64 * q)) := by
  apply List.ext_getElem?
  intro i
  have hl1 : (turnB k nn n (b.take (64 * q))).length = 64 * q := by rw [turnB_length, List.length_take]; omega
  by_cases h : i < b.length
  · by_cases h1 : i < 64 * q
    · rw [List.getElem?_append_left (by omega), turnB, turnB, tb_at h, tb_at (by rw [List.length_take]; omega)]
      unfold tat
      congr 2
      rw [List.getD_eq_getElem?_getD, List.getD_eq_getElem?_getD, List.getElem?_take, if_pos h1]
    · rw [List.getElem?_append_right (by omega), hl1, turnB, turnB, tb_at h, tb_at (by rw [List.length_drop]; omega)]
      unfold tat ks
      have e1 : 64 * q + (i - 64 * q) = i := by omega
      have e2 : (i - 64 * q) % 64 = i % 64 := by omega
      have e3 : n + UInt32.ofNat q + UInt32.ofNat ((i - 64 * q) / 64) = n + UInt32.ofNat (i / 64) := by
        rw [UInt32.add_assoc, ← UInt32.ofNat_add, show q + (i - 64 * q) / 64 = i / 64 by omega]
      rw [e2, e3]
      congr 2
      rw [List.getD_eq_getElem?_getD, List.getD_eq_getElem?_getD, List.getElem?_drop, e1]
  · rw [List.getElem?_eq_none (by rw [turnB_length]; omega), List.getElem?_eq_none (by rw [List.length_append, hl1, turnB_length, List.length_drop]; omega)]
theorem turn_zero (k nn : List UInt8) (n : UInt32) : turnB k nn n (List.replicate 64 0) = block k nn n := by
  have hb := block_length k nn n
  apply List.ext_getElem?
  intro i
  by_cases h : i < 64
  · rw [turnB, tb_at (by simpa using h)]
    unfold tat ks
    rw [show i / 64 = 0 by omega, show i % 64 = i by omega, show n + UInt32.ofNat 0 = n from UInt32.add_zero n, List.getElem?_eq_getElem (by omega), List.getD_eq_getElem?_getD, List.getD_eq_getElem?_getD, List.getElem?_eq_getElem (l := block k nn n) (by omega)]
    have hz : ((List.replicate 64 (0 : UInt8))[i]?).getD 0 = 0 := by rw [List.getElem?_replicate, if_pos h]; rfl
    rw [hz, UInt8.zero_xor]
    rfl
  · rw [List.getElem?_eq_none (by rw [turnB_length]; simpa using h), List.getElem?_eq_none (by omega)]
end Go.PBYtkadnmoephkklaa
