/- Plain laws of octets: what is joined is parted, bytes of numbers are read back. No program in sight. No condition. -/
import Derived.Test.YtpjjledbmfmbiaaS01
namespace Go.PBYtpjjledbmfmbiaa
open Go Go.RowKit
set_option linter.unusedVariables false
set_option linter.unusedSimpArgs false

theorem highB_succ (n k : Nat) : highB n (k + 1) = lowAt n k :: highB n k := by
  simp [highB, lowB_succ]
theorem lowAt_toNat (n k : Nat) : (lowAt n k).toNat = n / 2 ^ (8 * k) % 256 := by
  simp [lowAt, UInt8.toNat_ofNat']
theorem ofHigh_start (l : List UInt8) : ∀ n, l.foldl (fun n c => n * 256 + c.toNat) n = n * 256 ^ l.length + ofHigh l := by
  induction l with
  | nil => intro n; simp [ofHigh]
  | cons x l ih =>
    intro n
    have h0 : ofHigh (x :: l) = l.foldl (fun n c => n * 256 + c.toNat) (0 * 256 + x.toNat) := rfl
    rw [List.foldl_cons, h0, ih, ih (0 * 256 + x.toNat), List.length_cons, Nat.pow_succ, Nat.add_mul, Nat.mul_assoc, Nat.mul_comm 256 (256 ^ l.length)]
    simp
    omega
theorem ofHigh_cons (x : UInt8) (l : List UInt8) : ofHigh (x :: l) = x.toNat * 256 ^ l.length + ofHigh l := by
  show l.foldl (fun n c => n * 256 + c.toNat) (0 * 256 + x.toNat) = _
  rw [ofHigh_start]
  simp
theorem ofHigh_highB (n k : Nat) : ofHigh (highB n k) = n % 256 ^ k := by
  induction k with
  | zero => simp [highB, lowB, ofHigh, Nat.mod_one]
  | succ k ih =>
    rw [highB_succ, ofHigh_cons, highB_length, ih, lowAt_toNat]
    have e : (2 : Nat) ^ (8 * k) = 256 ^ k := by rw [Nat.pow_mul]
    rw [e, Nat.pow_succ, Nat.mod_mul, Nat.mul_comm (n / 256 ^ k % 256) _]
    omega
theorem highB_add (n m k : Nat) : highB (n + m * 256 ^ k) k = highB n k := by
  induction k with
  | zero => rfl
  | succ k ih =>
    rw [highB_succ, highB_succ]
    have e : (2 : Nat) ^ (8 * k) = 256 ^ k := by rw [Nat.pow_mul]
    congr 1
    · unfold lowAt
      apply UInt8.toNat_inj.1
      rw [UInt8.toNat_ofNat', UInt8.toNat_ofNat', e, Nat.pow_succ, show n + m * (256 ^ k * 256) = n + 256 ^ k * (m * 256) by rw [← Nat.mul_assoc, Nat.mul_comm m, Nat.mul_assoc], Nat.add_mul_div_left _ _ (Nat.pow_pos (by omega))]
      omega
    · rw [Nat.pow_succ, show m * (256 ^ k * 256) = (m * 256) * 256 ^ k by rw [Nat.mul_comm (256 ^ k), Nat.mul_assoc]]
      clear ih
      generalize m * 256 = q
      unfold highB lowB
      congr 1
      apply List.map_congr_left
      intro i hi
      have hi' := List.mem_range.1 hi
      unfold lowAt
      apply UInt8.toNat_inj.1
      have e2 : (256 : Nat) ^ k = 2 ^ (8 * i) * (256 * 256 ^ (k - 1 - i)) := by
        rw [Nat.pow_mul, show (2 : Nat) ^ 8 = 256 from rfl, ← Nat.mul_assoc, ← Nat.pow_succ, ← Nat.pow_add]
        congr 1
        omega
      rw [UInt8.toNat_ofNat', UInt8.toNat_ofNat', e2, show q * (2 ^ (8 * i) * (256 * 256 ^ (k - 1 - i))) = 2 ^ (8 * i) * (256 * (q * 256 ^ (k - 1 - i))) by
        rw [Nat.mul_left_comm q, Nat.mul_left_comm q], Nat.add_mul_div_left _ _ (Nat.pow_pos (by omega))]
      show _ % 256 = _ % 256
      omega
theorem highB_ofHigh : ∀ (l : List UInt8), highB (ofHigh l) l.length = l
  | [] => rfl
  | x :: l => by
    rw [List.length_cons, highB_succ, ofHigh_cons, Nat.add_comm, highB_add, highB_ofHigh l]
    congr 1
    unfold lowAt
    have e : (2 : Nat) ^ (8 * l.length) = 256 ^ l.length := by rw [Nat.pow_mul]
    rw [e, Nat.mul_comm, Nat.add_mul_div_left _ _ (Nat.pow_pos (by omega)), Nat.div_eq_of_lt (ofHigh_lt l)]
    simp

theorem partOf_join : ∀ (ls : List (List UInt8)), (∀ b ∈ ls, b.length < 4294967296) → partOf (joinB ls) = some ls
  | [], _ => rfl
  | x :: r, h => by
    have hx : x.length < 4294967296 := h x (by simp)
    have ih := partOf_join r (fun b hb => h b (by simp [hb]))
    have e : joinB (x :: r) = highB x.length 4 ++ (x ++ joinB r) := by simp [joinB]
    have et : (joinB (x :: r)).take 4 = highB x.length 4 := by rw [e]; exact List.take_left' (highB_length _ _)
    have ed : (joinB (x :: r)).drop 4 = x ++ joinB r := by rw [e]; exact List.drop_left' (highB_length _ _)
    have en : ofHigh (highB x.length 4) = x.length := by rw [ofHigh_highB]; exact Nat.mod_eq_of_lt (by simpa using hx)
    have el : (joinB (x :: r)).length = 4 + (x.length + (joinB r).length) := by rw [e]; simp [highB_length]
    rw [partOf_step (by omega) (by rw [et, en]; omega), et, ed, en, List.drop_left, List.take_left, ih]
    rfl
theorem joinB_inj {a b : List (List UInt8)} (ha : ∀ x ∈ a, x.length < 4294967296) (hb : ∀ x ∈ b, x.length < 4294967296) : (joinB a == joinB b) = decide (a = b) := by
  rw [Bool.eq_iff_iff, beq_iff_eq, decide_eq_true_iff]
  constructor
  · intro h
    have h1 := partOf_join a ha
    rw [h, partOf_join b hb] at h1
    exact (Option.some.inj h1).symm
  · rintro rfl; rfl
theorem join_part : ∀ (n : Nat) (b : List UInt8) (ls : List (List UInt8)), b.length ≤ n → partOf b = some ls → joinB ls = b := by
  intro n
  induction n with
  | zero =>
    intro b ls hb h
    have : b = [] := List.eq_nil_of_length_eq_zero (by omega)
    subst this
    rw [partOf_nil] at h
    obtain rfl := Option.some.inj h
    rfl
  | succ n ih =>
    intro b ls hb h
    by_cases h0 : b = []
    · subst h0
      rw [partOf_nil] at h
      obtain rfl := Option.some.inj h
      rfl
    · by_cases h4 : b.length < 4
      · rw [partOf_short h0 h4] at h; simp at h
      · by_cases h5 : b.length - 4 < ofHigh (b.take 4)
        · rw [partOf_far (by omega) h5] at h; simp at h
        · rw [partOf_step (by omega) (by omega)] at h
          cases hr : partOf ((b.drop 4).drop (ofHigh (b.take 4))) with
          | none => rw [hr] at h; simp at h
          | some r =>
            rw [hr] at h
            simp only [Option.map_some, Option.some.injEq] at h
            subst h
            have hi := ih _ r (by simp; omega) hr
            have hl : ((b.drop 4).take (ofHigh (b.take 4))).length = ofHigh (b.take 4) := by simp; omega
            have hh : highB (ofHigh (b.take 4)) 4 = b.take 4 := by
              have := highB_ofHigh (b.take 4)
              rwa [List.length_take, Nat.min_eq_left (by omega)] at this
            simp only [joinB]
            rw [hl, hh, hi, List.append_assoc, List.take_append_drop, List.take_append_drop]
theorem joinB_append (x y : List (List UInt8)) : joinB (x ++ y) = joinB x ++ joinB y := by
  induction x with
  | nil => rfl
  | cons b r ih => simp [joinB, ih]
theorem xorB_length (a b : List UInt8) (h : a.length = b.length) : (xorB a b).length = a.length := by simp [xorB, h]
theorem xorB_twice : ∀ (a b : List UInt8), a.length = b.length → xorB (xorB a b) b = a
  | [], [], _ => rfl
  | [], _ :: _, h => by simp at h
  | _ :: _, [], h => by simp at h
  | x :: a, y :: b, h => by
    have ih := xorB_twice a b (by simpa using h)
    simp only [xorB, List.zipWith_cons_cons] at ih ⊢
    rw [ih]
    congr 1
    rw [UInt8.xor_assoc, UInt8.xor_self, UInt8.xor_zero]
theorem light_join {l : List (List UInt8)} (h : lightB l = true) : l.length ≤ 60 ∧ (joinB l).length ≤ 20000 ∧ ∀ b ∈ l, b.length < 4294967296 := by
  have h1 := light_len h
  have h2 := joinB_len l h1.2
  exact ⟨h1.1, by omega, fun b hb => by have := h2.2 b hb; omega⟩
end Go.PBYtpjjledbmfmbiaa
