/- The words of chapter 12: heads and envelopes, and their bytes. No condition. -/
import Derived.Test.YtpjjledbmfmbiaaVW
import Derived.Test.YtpjjledbmfmbiaaS01
namespace Go.PBYtpjjledbmfmbiaa
open Go Go.RowKit
set_option linter.unusedVariables false

/-- a head's cells -/
def headC (pub : List UInt8) (p q : Int) : List Value := bys pub ++ [vI p, vI q]
theorem headC_length {pub : List UInt8} (h : pub.length = 32) (p q : Int) : (headC pub p q).length = 34 := by simp [headC, h, bys]
def zHeadC : List Value := headC (List.replicate 32 0) 0 0
def rightB (p q : Int) : Bool := decide (0 ≤ min p q) && decide (max p q ≤ 1000000)
theorem rightB_iff {p q : Int} : rightB p q = true ↔ 0 ≤ p ∧ p ≤ 1000000 ∧ 0 ≤ q ∧ q ≤ 1000000 := by
  unfold rightB
  rw [Bool.and_eq_true, decide_eq_true_iff, decide_eq_true_iff]
  omega
theorem rightB_nat {p q : Int} (h : rightB p q = true) : ∃ m n : Nat, p = (m : Int) ∧ q = (n : Int) ∧ m ≤ 1000000 ∧ n ≤ 1000000 := by
  have := rightB_iff.1 h
  exact ⟨p.toNat, q.toNat, by omega, by omega, by omega, by omega⟩
/-- a head's bytes -/
def headB (pub : List UInt8) (m n : Nat) : List UInt8 := pub ++ highB m 4 ++ highB n 4
theorem headB_length {pub : List UInt8} (h : pub.length = 32) (m n : Nat) : (headB pub m n).length = 40 := by simp [headB, highB_length, h]
/-- what is read of 40 bytes -/
def rdP (b : List UInt8) : List UInt8 := b.take 32
def rdM (b : List UInt8) : Nat := ofHigh ((b.drop 32).take 4)
def rdN (b : List UInt8) : Nat := ofHigh ((b.drop 36).take 4)
theorem ofHigh4 (l : List UInt8) (h : l.length ≤ 4) : ofHigh l < 4294967296 := by
  have h1 := ofHigh_lt l
  have h2 : 256 ^ l.length ≤ 256 ^ 4 := Nat.pow_le_pow_right (by omega) h
  omega
theorem rdM_lt (b : List UInt8) : rdM b < 4294967296 := ofHigh4 _ (by simp; omega)
theorem rdN_lt (b : List UInt8) : rdN b < 4294967296 := ofHigh4 _ (by simp; omega)
/-- what is told of any bytes: the cells of a head, and what it was given up for -/
def rdOk (b : List UInt8) : Bool := rightB (rdM b : Nat) (rdN b : Nat) && decide (b.length = 40)
def rdC (b : List UInt8) : List Value := if b.length < 40 then zHeadC else if rdOk b then headC (rdP b) (rdM b : Nat) (rdN b : Nat) else zHeadC
def rdE (b : List UInt8) : Nat := if b.length < 40 then 3 else if rdOk b then 0 else 2
end Go.PBYtpjjledbmfmbiaa
