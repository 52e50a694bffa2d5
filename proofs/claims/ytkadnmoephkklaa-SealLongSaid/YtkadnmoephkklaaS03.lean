/- Hashing bytes, as plain lists of numbers: no program in sight. No condition. -/
import Derived.Test.YtkadnmoephkklaaVO
import Derived.Test.YtkadnmoephkklaaS01
namespace Go.PBYtkadnmoephkklaa
open Go Go.RowKit
set_option linter.unusedVariables false

def rotl (x : UInt32) (m : Nat) : UInt32 := UInt32.ofNat (x.toNat * 2 ^ (min m 32)) ||| UInt32.ofNat (x.toNat / 2 ^ (min (32 - m) 32))
def word32 (l : List UInt8) : UInt32 := UInt32.ofNat (ofHigh (l.take 4).reverse)
/-! ### mixing -/
def mixL (l : List UInt32) (a b c d : Nat) (x y : UInt32) : List UInt32 :=
  let l1 := l.set a (l.getD a 0 + (l.getD b 0 + x))
  let l2 := l1.set d (rotl (l1.getD d 0 ^^^ l1.getD a 0) 16)
  let l3 := l2.set c (l2.getD c 0 + l2.getD d 0)
  let l4 := l3.set b (rotl (l3.getD b 0 ^^^ l3.getD c 0) 20)
  let l5 := l4.set a (l4.getD a 0 + (l4.getD b 0 + y))
  let l6 := l5.set d (rotl (l5.getD d 0 ^^^ l5.getD a 0) 24)
  let l7 := l6.set c (l6.getD c 0 + l6.getD d 0)
  l7.set b (rotl (l7.getD b 0 ^^^ l7.getD c 0) 25)
theorem mixL_length (l : List UInt32) (a b c d : Nat) (x y : UInt32) : (mixL l a b c d x y).length = l.length := by simp [mixL]
def sRows : List (List UInt8) := [
  [0, 1, 2, 3, 4, 5, 6, 7, 8, 9, 10, 11, 12, 13, 14, 15],
  [14, 10, 4, 8, 9, 15, 13, 6, 1, 12, 0, 2, 11, 7, 5, 3],
  [11, 8, 12, 0, 5, 2, 15, 13, 10, 14, 3, 6, 7, 1, 9, 4],
  [7, 9, 3, 1, 13, 12, 11, 14, 2, 6, 5, 10, 4, 0, 15, 8],
  [9, 0, 5, 7, 2, 4, 10, 15, 14, 1, 11, 12, 6, 8, 3, 13],
  [2, 12, 6, 10, 0, 11, 8, 3, 4, 13, 7, 5, 15, 14, 1, 9],
  [12, 5, 1, 15, 14, 13, 4, 10, 0, 7, 6, 3, 9, 2, 8, 11],
  [13, 11, 7, 14, 12, 1, 3, 9, 5, 0, 15, 4, 8, 6, 2, 10],
  [6, 15, 14, 9, 11, 3, 0, 8, 12, 2, 13, 7, 1, 4, 10, 5],
  [10, 2, 8, 4, 7, 6, 1, 5, 15, 11, 9, 14, 3, 12, 13, 0]]
def sRow (r : Nat) : List UInt8 := sRows.getD r []
def sg (r i : Nat) : Nat := ((sRow r).getD i 0).toNat
theorem sRow_length {r : Nat} (h : r < 10) : (sRow r).length = 16 := by
  have : ∀ r : Fin 10, (sRow r.val).length = 16 := by decide
  exact this ⟨r, h⟩
theorem sg_lt {r i : Nat} (h : r < 10) (hi : i < 16) : sg r i < 16 := by
  have : ∀ r : Fin 10, ∀ i : Fin 16, sg r.val i.val < 16 := by decide
  exact this ⟨r, h⟩ ⟨i, hi⟩
def colsM (v m : List UInt32) (r : Nat) : Nat → List UInt32
  | 0 => v
  | k + 1 => mixL (colsM v m r k) k (4 + k) (8 + k) (12 + k) (m.getD (sg r (2 * k)) 0) (m.getD (sg r (2 * k + 1)) 0)
def diagsM (v m : List UInt32) (r : Nat) : Nat → List UInt32
  | 0 => v
  | k + 1 => mixL (diagsM v m r k) k (4 + (k + 1) % 4) (8 + (k + 2) % 4) (12 + (k + 3) % 4) (m.getD (sg r (8 + 2 * k)) 0) (m.getD (sg r (9 + 2 * k)) 0)
theorem colsM_length (v m : List UInt32) (r : Nat) : ∀ k, (colsM v m r k).length = v.length
  | 0 => rfl
  | k + 1 => by rw [colsM, mixL_length, colsM_length]
theorem diagsM_length (v m : List UInt32) (r : Nat) : ∀ k, (diagsM v m r k).length = v.length
  | 0 => rfl
  | k + 1 => by rw [diagsM, mixL_length, diagsM_length]
def rndsM (v m : List UInt32) : Nat → List UInt32
  | 0 => v
  | r + 1 => diagsM (colsM (rndsM v m r) m r 4) m r 4
theorem rndsM_length (v m : List UInt32) : ∀ r, (rndsM v m r).length = v.length
  | 0 => rfl
  | r + 1 => by rw [rndsM, diagsM_length, colsM_length, rndsM_length]
/-! ### a block goes into the words -/
def iv : List UInt32 := [0x6a09e667, 0xbb67ae85, 0x3c6ef372, 0xa54ff53a, 0x510e527f, 0x9b05688c, 0x1f83d9ab, 0x5be0cd19]
def wordsB (b : List UInt8) : Nat → List UInt32
  | 0 => List.replicate 16 0
  | i + 1 => (wordsB b i).set i (word32 (b.drop (4 * i)))
theorem wordsB_length (b : List UInt8) : ∀ i, (wordsB b i).length = 16
  | 0 => rfl
  | i + 1 => by rw [wordsB, List.length_set, wordsB_length]
def v12 (h : List UInt32) (t : UInt64) : List UInt32 :=
  let v := h ++ iv
  let v1 := v.set 12 (v.getD 12 0 ^^^ UInt32.ofNat t.toNat)
  v1.set 13 (v1.getD 13 0 ^^^ UInt32.ofNat (t.toNat / 2 ^ 32))
def vBeg (h : List UInt32) (t : UInt64) (last : Bool) : List UInt32 := if last then (v12 h t).set 14 (4294967295 ^^^ (v12 h t).getD 14 0) else v12 h t
theorem v12_length (h : List UInt32) (t : UInt64) : (v12 h t).length = h.length + 8 := by simp [v12, iv]
theorem vBeg_length (h : List UInt32) (t : UInt64) (last : Bool) : (vBeg h t last).length = h.length + 8 := by
  unfold vBeg
  split
  · rw [List.length_set, v12_length]
  · rw [v12_length]
def xorV (h v : List UInt32) : Nat → List UInt32
  | 0 => h
  | i + 1 => (xorV h v i).set i ((xorV h v i).getD i 0 ^^^ (v.getD i 0 ^^^ v.getD (i + 8) 0))
theorem xorV_length (h v : List UInt32) : ∀ i, (xorV h v i).length = h.length
  | 0 => rfl
  | i + 1 => by rw [xorV, List.length_set, xorV_length]
def into (h : List UInt32) (b : List UInt8) (t : UInt64) (last : Bool) : List UInt32 := xorV h (rndsM (vBeg h t last) (wordsB b 16) 10) 8
theorem into_length (h : List UInt32) (b : List UInt8) (t : UInt64) (last : Bool) : (into h b t last).length = h.length := xorV_length ..
theorem cp1 (h : List UInt32) (hh : h.length = 8) : splice (u32s (List.replicate 16 0)) 0 ((u32s h).take (min 8 8)) = u32s (h ++ List.replicate 8 0) := by
  rw [List.take_of_length_le (by rw [u32s_length, hh]; decide)]
  simp only [splice, List.take_zero, List.nil_append, Nat.zero_add, u32s_length, hh, u32s_append]
  congr 1
theorem cp2 (h : List UInt32) (hh : h.length = 8) : splice (u32s (h ++ List.replicate 8 0)) 8 ((u32s iv).take (min 8 8)) = u32s (h ++ iv) := by
  have h8 : (u32s h).length = 8 := by rw [u32s_length, hh]
  rw [u32s_append, u32s_append, List.take_of_length_le (by rw [u32s_length]; decide)]
  simp only [splice]
  rw [List.take_left' h8, List.drop_of_length_le (by rw [List.length_append, h8, u32s_length, u32s_length]; decide), List.append_nil]
theorem rowPart {r : Nat} (h : r < 10) : ((bys sRows.flatten).drop (0 + r * 16)).take 16 = bys (sRow r) := by
  have key : ∀ r : Fin 10, (sRows.flatten.drop (0 + r.val * 16)).take 16 = sRow r.val := by decide
  rw [bys_drop, bys_take, key ⟨r, h⟩]
theorem blkPart {c : List Value} {blk : List UInt8} {o : Nat} (hc : (c.drop o).take 64 = bys blk) (hl : blk.length = 64) {i : Nat} (hi : i < 16) : (c.drop (o + 4 * i)).take 4 = bys ((blk.drop (4 * i)).take 4) := by
  rw [← bys_take, ← bys_drop, ← hc, List.drop_take, List.take_take, List.drop_drop]
  congr 1
  omega
/-! ### the tag -/
def hKey (n : Nat) : List UInt32 := iv.set 0 (iv.getD 0 0 ^^^ (UInt32.ofNat 16842784 ^^^ UInt32.ofNat ((UInt32.ofNat n).toNat * 2 ^ (min 8 32))))
theorem hKey_length (n : Nat) : (hKey n).length = 8 := by simp [hKey, iv]
def padB (l : List UInt8) : List UInt8 := l ++ List.replicate (64 - l.length) 0
theorem padB_length {l : List UInt8} (h : l.length ≤ 64) : (padB l).length = 64 := by simp [padB]; omega
def allK (key b : List UInt8) : List UInt8 := (if key = [] then [] else padB key) ++ b
theorem allK_eq {key : List UInt8} (b : List UInt8) (h : 0 < key.length) : allK key b = padB key ++ b := by
  unfold allK
  rw [if_neg (by rintro rfl; simp at h)]
theorem allK_length {key : List UInt8} (b : List UInt8) (h : 0 < key.length) (h2 : key.length ≤ 32) : (allK key b).length = 64 + b.length := by
  rw [allK_eq b h, List.length_append, padB_length (by omega)]
def hs (h0 : List UInt32) (all : List UInt8) : Nat → List UInt32
  | 0 => h0
  | j + 1 => into (hs h0 all j) ((all.drop (64 * j)).take 64) (UInt64.ofNat (64 * (j + 1))) false
theorem hs_length (h0 : List UInt32) (all : List UInt8) : ∀ j, (hs h0 all j).length = h0.length
  | 0 => rfl
  | j + 1 => by rw [hs, into_length, hs_length]
def hOut (h : List UInt32) : Nat → List UInt8
  | 0 => List.replicate 32 0
  | i + 1 => (hOut h i).set i (UInt8.ofNat (UInt32.ofNat ((h.getD (i / 4) 0).toNat / 2 ^ (min (i % 4 * 8) 32))).toNat)
theorem hOut_length (h : List UInt32) : ∀ i, (hOut h i).length = 32
  | 0 => rfl
  | i + 1 => by rw [hOut, List.length_set, hOut_length]
def hEnd (h0 : List UInt32) (all : List UInt8) : List UInt32 :=
  into (hs h0 all ((all.length - 1) / 64)) (padB (all.drop (64 * ((all.length - 1) / 64)))) (UInt64.ofNat all.length) true
theorem hEnd_length (h0 : List UInt32) (all : List UInt8) : (hEnd h0 all).length = h0.length := by rw [hEnd, into_length, hs_length]
def macB (key b : List UInt8) : List UInt8 := hOut (hEnd (hKey key.length) (allK key b)) 32
theorem macB_length (key b : List UInt8) : (macB key b).length = 32 := hOut_length ..
theorem cp3 (l : List UInt8) (h : l.length ≤ 64) : splice (bys (List.replicate 64 0)) 0 ((bys l).take (min l.length 64)) = bys (padB l) := by
  rw [List.take_of_length_le (by rw [bys_length]; omega)]
  simp only [splice, List.take_zero, List.nil_append, Nat.zero_add, bys_length, padB, bys_append, bys_drop]
  congr 1
  rw [List.drop_replicate]
theorem restPart {all : List UInt8} {more : List Value} {o : Nat} (h : o ≤ all.length) : ((bys all ++ more).drop o).take (all.length - o) = bys (all.drop o) := by
  rw [List.drop_append, bys_length, bys_drop, List.take_append_of_le_length (by rw [bys_length, List.length_drop]; omega), bys_take, List.take_of_length_le (by rw [List.length_drop]; omega)]
theorem chunkPart {all : List UInt8} {more : List Value} {o : Nat} (h : o + 64 ≤ all.length) : ((bys all ++ more).drop o).take 64 = bys ((all.drop o).take 64) := by
  rw [List.drop_append, bys_length, bys_drop, List.take_append_of_le_length (by rw [bys_length, List.length_drop]; omega), bys_take]
theorem ofNat64_add (a b : Nat) : UInt64.ofNat a + UInt64.ofNat b = UInt64.ofNat (a + b) := (UInt64.ofNat_add a b).symm
end Go.PBYtkadnmoephkklaa
