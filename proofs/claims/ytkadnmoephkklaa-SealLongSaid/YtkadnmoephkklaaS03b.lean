/- Spread bytes of a key, as lists. No condition. -/
import Derived.Test.YtkadnmoephkklaaS03
namespace Go.PBYtkadnmoephkklaa
open Go Go.RowKit
set_option linter.unusedVariables false

def sprLast (k p : List UInt8) : Nat → List UInt8
  | 0 => []
  | j + 1 => macB k (sprLast k p j ++ p ++ [UInt8.ofNat (j + 1)])
def sprOut (k p : List UInt8) : Nat → List UInt8
  | 0 => []
  | j + 1 => sprOut k p j ++ sprLast k p (j + 1)
theorem sprLast_length (k p : List UInt8) : ∀ j, (sprLast k p j).length = if j = 0 then 0 else 32
  | 0 => rfl
  | j + 1 => by rw [sprLast, macB_length, if_neg (by omega)]
theorem sprLast_le (k p : List UInt8) (j : Nat) : (sprLast k p j).length ≤ 32 := by rw [sprLast_length]; split <;> omega
theorem sprOut_length (k p : List UInt8) : ∀ j, (sprOut k p j).length = 32 * j
  | 0 => rfl
  | j + 1 => by rw [sprOut, List.length_append, sprOut_length, sprLast_length, if_neg (by omega)]; omega
def spread (k p : List UInt8) (m : Nat) : List UInt8 := (sprOut k p ((m + 31) / 32)).take m
theorem spread_length (k p : List UInt8) (m : Nat) : (spread k p m).length = m := by
  rw [spread, List.length_take, sprOut_length]; omega
theorem ofNat8_succ (j : Nat) : UInt8.ofNat j + 1 = UInt8.ofNat (j + 1) := (UInt8.ofNat_add j 1).symm
end Go.PBYtkadnmoephkklaa
