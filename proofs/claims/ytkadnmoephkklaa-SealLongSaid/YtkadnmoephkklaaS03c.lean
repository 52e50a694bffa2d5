/- The document's blake, as lists: its words come one behind the other. No condition. -/
import Derived.Test.YtkadnmoephkklaaS03b
namespace Go.PBYtkadnmoephkklaa
open Go Go.RowKit
set_option linter.unusedVariables false

def rwW (b : List UInt8) : Nat → List UInt32
  | 0 => []
  | i + 1 => rwW b i ++ [word32 (b.drop (4 * i))]
theorem rwW_length (b : List UInt8) : ∀ i, (rwW b i).length = i
  | 0 => rfl
  | i + 1 => by rw [rwW, List.length_append, rwW_length]; rfl
theorem rwW_pad (b : List UInt8) : ∀ i, i ≤ 16 → wordsB b i = rwW b i ++ List.replicate (16 - i) 0
  | 0, _ => rfl
  | i + 1, h => by
    rw [wordsB, rwW_pad b i (by omega), show 16 - i = (16 - (i + 1)) + 1 by omega, List.replicate_succ, rwW, List.append_assoc, List.set_append_right _ _ (by rw [rwW_length]; exact Nat.le_refl _), rwW_length, Nat.sub_self]
    rfl
theorem rwW_words (b : List UInt8) : rwW b 16 = wordsB b 16 := by rw [rwW_pad b 16 (Nat.le_refl _)]; simp
def rxor (h v : List UInt32) : Nat → List UInt32
  | 0 => []
  | i + 1 => rxor h v i ++ [h.getD i 0 ^^^ v.getD i 0 ^^^ v.getD (i + 8) 0]
theorem rxor_length (h v : List UInt32) : ∀ i, (rxor h v i).length = i
  | 0 => rfl
  | i + 1 => by rw [rxor, List.length_append, rxor_length]; rfl
theorem rxor_rest (h v : List UInt32) : ∀ i, i ≤ h.length → xorV h v i = rxor h v i ++ h.drop i
  | 0, _ => rfl
  | i + 1, hi => by
    have hl := rxor_length h v i
    have hd : h.drop i = h.getD i 0 :: h.drop (i + 1) := by
      rw [List.drop_eq_getElem_cons (by omega)]
      simp [List.getD_eq_getElem?_getD, List.getElem?_eq_getElem (show i < h.length by omega)]
    rw [xorV, rxor_rest h v i (by omega), rxor, hd, List.append_assoc, List.set_append_right _ _ (by omega), hl, Nat.sub_self]
    have : (rxor h v i ++ h.getD i 0 :: h.drop (i + 1)).getD i 0 = h.getD i 0 := by
      rw [List.getD_eq_getElem?_getD, List.getElem?_append_right (by omega), hl, Nat.sub_self]
      rfl
    rw [this, List.set_cons_zero, UInt32.xor_assoc]
    rfl
theorem rxor_all (h v : List UInt32) (hh : h.length = 8) : rxor h v 8 = xorV h v 8 := by
  rw [rxor_rest h v 8 (by omega), List.drop_of_length_le (by omega), List.append_nil]
def rints (r : Nat) : List Int := (sRow r).map fun x => (x.toNat : Int)
theorem rints_length {r : Nat} (h : r < 10) : (rints r).length = 16 := by rw [rints, List.length_map, sRow_length h]
theorem rints_at {r j : Nat} (h : r < 10) (hj : j < 16) : (i64s (rints r))[j]? = some (vN (sg r j)) := by
  have hl := sRow_length h
  rw [i64s_at (by rw [rints_length h]; exact hj), rints, List.getD_eq_getElem?_getD, List.getElem?_map, List.getElem?_eq_getElem (by omega)]
  rw [sg, List.getD_eq_getElem?_getD, List.getElem?_eq_getElem (by omega)]
  rfl
end Go.PBYtkadnmoephkklaa
