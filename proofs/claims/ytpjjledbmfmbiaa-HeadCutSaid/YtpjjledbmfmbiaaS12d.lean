/- The words of chapter 12, fourth part: what is read of an envelope's bytes. No condition. -/
import Derived.Test.YtpjjledbmfmbiaaS12c
namespace Go.PBYtpjjledbmfmbiaa
open Go Go.RowKit
set_option linter.unusedVariables false
set_option linter.unusedSimpArgs false

theorem envC_set0 {f f' t : Int} {cm pub : List UInt8} {p q : Int} {sl : Value} : (envC f t cm pub p q sl).set 0 (vI f') = envC f' t cm pub p q sl := rfl
theorem envC_set1 {f t t' : Int} {cm pub : List UInt8} {p q : Int} {sl : Value} : (envC f t cm pub p q sl).set 1 (vI t') = envC f t' cm pub p q sl := rfl
theorem splice_mid (a b c v : List Value) (j : Nat) (ha : a.length = j) (hv : v.length = b.length) : splice (a ++ (b ++ c)) j v = a ++ (v ++ c) := by
  subst ha
  unfold splice
  simp [hv]
theorem envC_spl2 {f t : Int} {cm cm' pub : List UInt8} {p q : Int} {sl : Value} (hc : cm.length = 32) (hc' : cm'.length = 32) : splice (envC f t cm pub p q sl) 2 (bys cm') = envC f t cm' pub p q sl :=
  splice_mid [vI f, vI t] (bys cm) (headC pub p q ++ [sl]) (bys cm') 2 rfl (by simp [bys, hc, hc'])
theorem envC_spl34 {f t : Int} {cm pub pub' : List UInt8} {p q p' q' : Int} {sl : Value} (hc : cm.length = 32) (hp : pub.length = 32) (hp' : pub'.length = 32) : splice (envC f t cm pub p q sl) 34 (headC pub' p' q') = envC f t cm pub' p' q' sl := by
  have h := splice_mid ([vI f, vI t] ++ bys cm) (headC pub p q) [sl] (headC pub' p' q') 34 (by simp [bys, hc]) (by rw [headC_length hp, headC_length hp'])
  simpa [envC, List.append_assoc] using h
theorem envC_set68 {f t : Int} {cm pub : List UInt8} {p q : Int} {sl sl' : Value} (hc : cm.length = 32) (hp : pub.length = 32) : (envC f t cm pub p q sl).set 68 sl' = envC f t cm pub p q sl' := by
  have h1 : ([vI f, vI t] ++ (bys cm ++ headC pub p q)).length = 68 := by simp [bys, hc, headC_length hp]
  have e : ∀ s : Value, envC f t cm pub p q s = ([vI f, vI t] ++ (bys cm ++ headC pub p q)) ++ [s] := by intro s; simp [envC, List.append_assoc]
  rw [e sl, e sl', List.set_append_right _ _ (by omega), h1]
  rfl
theorem envC_len {f t : Int} {cm pub : List UInt8} {p q : Int} {sl : Value} (hc : cm.length = 32) (hp : pub.length = 32) : (envC f t cm pub p q sl).length = 69 := (envC_f (f := f) (t := t) (p := p) (q := q) (sl := sl) hc hp).len
theorem envC_one {f t : Int} {cm pub : List UInt8} {p q : Int} {sl : Value} (hs : sl.oneCell' = true) : ∀ u ∈ envC f t cm pub p q sl, u.oneCell' = true := by
  intro u hu
  unfold envC at hu
  rcases List.mem_append.1 hu with h | h
  · exact one_all rfl u h
  rcases List.mem_append.1 h with h | h
  · exact bys_one _ u h
  rcases List.mem_append.1 h with h | h
  · exact app_one (bys_one _) (one_all rfl) u h
  · rw [List.mem_singleton] at h; exact h ▸ hs
def zEnvC : List Value := envC 0 0 (List.replicate 32 0) (List.replicate 32 0) 0 0 (.slice none 0 0)
theorem zEnvC_length : zEnvC.length = 69 := envC_len (by simp) (by simp)
theorem zEnvC_one : ∀ u ∈ zEnvC, u.oneCell' = true := envC_one rfl
/-- what is read of an envelope's bytes -/
def reF (l : List UInt8) : Nat := ofHigh (l.take 1)
def reT (l : List UInt8) : Nat := ofHigh ((l.drop 1).take 1)
def reC (l : List UInt8) : List UInt8 := (l.drop 2).take 32
def reN (l : List UInt8) : Nat := ofHigh ((l.drop 74).take 2)
theorem reF_lt (l : List UInt8) : reF l < 256 := by
  have h1 := ofHigh_lt (l.take 1)
  have h2 : 256 ^ (l.take 1).length ≤ 256 ^ 1 := Nat.pow_le_pow_right (by omega) (by simp; omega)
  unfold reF; omega
theorem reT_lt (l : List UInt8) : reT l < 256 := by
  have h1 := ofHigh_lt ((l.drop 1).take 1)
  have h2 : 256 ^ ((l.drop 1).take 1).length ≤ 256 ^ 1 := Nat.pow_le_pow_right (by omega) (by simp; omega)
  unfold reT; omega
theorem reN_lt (l : List UInt8) : reN l < 65536 := by
  have h1 := ofHigh_lt ((l.drop 74).take 2)
  have h2 : 256 ^ ((l.drop 74).take 2).length ≤ 256 ^ 2 := Nat.pow_le_pow_right (by omega) (by simp; omega)
  unfold reN; omega
/-- may what is read be? -/
def reR (l : List UInt8) (n : Nat) : Bool := rightEB (reF l) (reT l) (rdM (l.drop 34)) (rdN (l.drop 34)) n
def reOk (l : List UInt8) : Bool := reR l (reN l) && decide (l.length = 76 + reN l)
/-- what it is given up for -/
def reE (l : List UInt8) : Nat := if l.length < 76 then 3 else if l.length < 76 + reN l then 3 else if reOk l then 0 else 2
end Go.PBYtpjjledbmfmbiaa
