/- The words of chapter 12, second part: envelopes. No condition. -/
import Derived.Test.YtpjjledbmfmbiaaS12
namespace Go.PBYtpjjledbmfmbiaa
open Go Go.RowKit
set_option linter.unusedVariables false
set_option linter.unusedSimpArgs false

/-- an envelope's cells -/
def envC (f t : Int) (cm pub : List UInt8) (p q : Int) (sl : Value) : List Value := [vI f, vI t] ++ (bys cm ++ (headC pub p q ++ [sl]))
structure EnvF (c : List Value) (f t : Int) (cm pub : List UInt8) (p q : Int) (sl : Value) : Prop where
  len : c.length = 69
  g0 : c[0]? = some (vI f)
  g1 : c[1]? = some (vI t)
  g2 : (c.drop 2).take 32 = bys cm
  g3 : (c.drop 34).take 34 = headC pub p q
  g4 : c[68]? = some sl
theorem envC_f {f t : Int} {cm pub : List UInt8} {p q : Int} {sl : Value} (hc : cm.length = 32) (hp : pub.length = 32) : EnvF (envC f t cm pub p q sl) f t cm pub p q sl := by
  have h1 : (bys cm).length = 32 := by simp [bys, hc]
  have h2 := headC_length hp p q
  refine ⟨?_, rfl, rfl, ?_, ?_, ?_⟩
  · simp [envC, h1, h2]
  · show (bys cm ++ (headC pub p q ++ [sl])).take 32 = _
    rw [List.take_left' h1]
  · show ((bys cm ++ (headC pub p q ++ [sl])).drop 32).take 34 = _
    rw [List.drop_left' h1, List.take_left' h2]
  · show (bys cm ++ (headC pub p q ++ [sl]))[66]? = _
    rw [List.getElem?_append_right (by omega), h1, List.getElem?_append_right (by omega), h2]
    rfl
def rightEB (f t p q : Int) (n : Nat) : Bool := decide (0 ≤ min f t) && decide (max f t < 8) && rightB p q && decide (n ≤ 600)
theorem rightEB_iff {f t p q : Int} {n : Nat} : rightEB f t p q n = true ↔ (0 ≤ f ∧ f ≤ 7 ∧ 0 ≤ t ∧ t ≤ 7) ∧ rightB p q = true ∧ n ≤ 600 := by
  unfold rightEB
  rw [Bool.and_eq_true, Bool.and_eq_true, Bool.and_eq_true, decide_eq_true_iff, decide_eq_true_iff, decide_eq_true_iff]
  constructor
  · rintro ⟨⟨⟨h1, h2⟩, h3⟩, h4⟩; exact ⟨by omega, h3, h4⟩
  · rintro ⟨h1, h2, h3⟩; exact ⟨⟨⟨by omega, by omega⟩, h2⟩, h3⟩
/-- an envelope's bytes -/
def envB (f t : Nat) (cm pub : List UInt8) (x y : Nat) (body : List UInt8) : List UInt8 := [UInt8.ofNat f, UInt8.ofNat t] ++ cm ++ headB pub x y ++ highB body.length 2 ++ body
theorem envB_length {f t : Nat} {cm pub : List UInt8} {x y : Nat} {body : List UInt8} (hc : cm.length = 32) (hp : pub.length = 32) : (envB f t cm pub x y body).length = 76 + body.length := by
  simp only [envB, List.length_append, List.length_cons, List.length_nil, hc, headB_length hp, highB_length]
end Go.PBYtpjjledbmfmbiaa
