/- Numbers modulo 2^255 - 19: bytes of a number, numbers of bytes, and the least number that stands for one. No condition. -/
import Derived.Test.YtjllcdgnmdieoaaS06
namespace Go.PBYtjllcdgnmdieoaa
open Go Go.RowKit
set_option linter.unusedVariables false

/-! ### bytes -/
def leZ : List UInt8 → Int
  | [] => 0
  | x :: r => (x.toNat : Int) + 256 * leZ r
theorem leZ_nonneg : ∀ l : List UInt8, 0 ≤ leZ l
  | [] => by simp [leZ]
  | x :: r => by have := leZ_nonneg r; rw [leZ]; omega
theorem leZ_lt : ∀ l : List UInt8, leZ l < 256 ^ l.length
  | [] => by simp [leZ]
  | x :: r => by
    have := leZ_lt r
    have hx := UInt8.toNat_lt x
    rw [leZ, List.length_cons, Int.pow_succ]
    omega
theorem leZ_set : ∀ (l : List UInt8) (i : Nat) (x : UInt8), i < l.length → leZ (l.set i x) = leZ l + ((x.toNat : Int) - ((l.getD i 0).toNat : Int)) * 256 ^ i
  | [], i, x, h => by simp at h
  | y :: l, 0, x, h => by simp [leZ]; omega
  | y :: l, i + 1, x, h => by
    have ih := leZ_set l i x (by simpa using h)
    rw [List.set_cons_succ, leZ, ih, leZ]
    have e : (y :: l).getD (i + 1) 0 = l.getD i 0 := by simp
    rw [e, Int.pow_succ 256 i, Int.mul_add]
    have : 256 * (((x.toNat : Int) - ((l.getD i 0).toNat : Int)) * 256 ^ i) = ((x.toNat : Int) - ((l.getD i 0).toNat : Int)) * (256 ^ i * 256) := by
      rw [Int.mul_comm 256, Int.mul_assoc]
    omega
theorem leZ_inj : ∀ {a b : List UInt8}, a.length = b.length → leZ a = leZ b → a = b
  | [], [], _, _ => rfl
  | [], y :: b, h, _ => by simp at h
  | x :: a, [], h, _ => by simp at h
  | x :: a, y :: b, h, e => by
    rw [leZ, leZ] at e
    have hx := UInt8.toNat_lt x
    have hy := UInt8.toNat_lt y
    have h1 : x.toNat = y.toNat := by omega
    have h2 : leZ a = leZ b := by omega
    rw [UInt8.toNat_inj.1 h1, leZ_inj (by simpa using h) h2]
/-- m bytes of a number -/
def bN : Nat → Nat → List UInt8
  | 0, _ => []
  | m + 1, x => UInt8.ofNat x :: bN m (x / 256)
theorem bN_length : ∀ m x, (bN m x).length = m
  | 0, _ => rfl
  | m + 1, x => by rw [bN, List.length_cons, bN_length m]
theorem leZ_bN : ∀ m x, x < 256 ^ m → leZ (bN m x) = (x : Int)
  | 0, x, h => by simp only [Nat.pow_zero] at h; rw [bN, leZ]; omega
  | m + 1, x, h => by
    rw [bN, leZ, leZ_bN m (x / 256) (by rw [Nat.pow_succ] at h; omega), UInt8.toNat_ofNat']
    omega
theorem bN_leZ {l : List UInt8} {m : Nat} (hl : l.length = m) : bN m (leZ l).toNat = l := by
  have h1 := leZ_nonneg l
  have h2 := leZ_lt l
  rw [hl] at h2
  refine leZ_inj ((bN_length m _).trans hl.symm) ?_
  rw [leZ_bN]
  · omega
  · have : ((256 ^ m : Nat) : Int) = 256 ^ m := Int.natCast_pow 256 m
    omega
/-! ### the number of bytes -/
def ofSt (k : List UInt8) : Nat → List Int
  | 0 => List.replicate 16 0
  | i + 1 => (ofSt k i).set i (((k.getD (2 * i) 0).toNat + 256 * (k.getD (2 * i + 1) 0).toNat : Nat) : Int)
def ofL (k : List UInt8) : List Int := (ofSt k 16).set 15 ((ofSt k 16).getD 15 0 % 2 ^ 15)
theorem ofSt_length (k : List UInt8) : ∀ i, (ofSt k i).length = 16
  | 0 => rfl
  | i + 1 => by rw [ofSt, List.length_set, ofSt_length]
theorem ofSt_get {k : List UInt8} : ∀ i, i ≤ 16 → ∀ j, j < 16 → (ofSt k i).getD j 0 = if j < i then (((k.getD (2 * j) 0).toNat + 256 * (k.getD (2 * j + 1) 0).toNat : Nat) : Int) else 0
  | 0, _, j, hj => by rw [ofSt, rep0, if_neg (Nat.not_lt_zero j)]
  | i + 1, hi, j, hj => by
    have ih := ofSt_get (k := k) i (by omega)
    rw [ofSt, getD_set _ _ _ _ _ (by rw [ofSt_length]; omega), ih j hj]
    by_cases h : i = j
    · subst h; rw [if_pos rfl, if_pos (by omega)]
    · rw [if_neg h]
      by_cases h2 : j < i
      · rw [if_pos h2, if_pos (by omega)]
      · rw [if_neg h2, if_neg (by omega)]
theorem leZ_snoc : ∀ (l : List UInt8) (i : Nat), i < l.length → leZ (l.take (i + 1)) = leZ (l.take i) + ((l.getD i 0).toNat : Int) * 256 ^ i
  | [], i, h => by simp at h
  | x :: l, 0, h => by simp [leZ]
  | x :: l, i + 1, h => by
    have ih := leZ_snoc l i (by simpa using h)
    rw [List.take_succ_cons, List.take_succ_cons, leZ, leZ, ih]
    have e : (x :: l).getD (i + 1) 0 = l.getD i 0 := by simp
    rw [e, Int.mul_add, Int.pow_succ 256 i]
    have : 256 * (((l.getD i 0).toNat : Int) * 256 ^ i) = ((l.getD i 0).toNat : Int) * (256 ^ i * 256) := by rw [Int.mul_comm 256, Int.mul_assoc]
    omega
theorem p2 (i : Nat) : (256 : Int) ^ (2 * i) = 65536 ^ i := by
  rw [Int.pow_mul]
  rfl
theorem valI_rep : ∀ n, valI (List.replicate n 0) = 0
  | 0 => rfl
  | n + 1 => by rw [List.replicate_succ, valI, valI_rep n]; rfl
theorem ofSt_val {k : List UInt8} (hk : k.length = 32) : ∀ i, i ≤ 16 → valI (ofSt k i) = leZ (k.take (2 * i))
  | 0, _ => by rw [ofSt, valI_rep]; simp [leZ]
  | i + 1, hi => by
    have ih := ofSt_val hk i (by omega)
    rw [ofSt, valI_set _ _ _ (by rw [ofSt_length]; omega), ih, ofSt_get i (by omega) i (by omega), if_neg (by omega), show 2 * (i + 1) = 2 * i + 1 + 1 by omega, leZ_snoc k (2 * i + 1) (by omega), leZ_snoc k (2 * i) (by omega), Int.pow_succ 256 (2 * i), p2, Int.sub_zero, Int.natCast_add, Int.add_mul, Int.natCast_mul]
    have : ((256 : Nat) : Int) * ((k.getD (2 * i + 1) 0).toNat : Int) * 65536 ^ i = ((k.getD (2 * i + 1) 0).toNat : Int) * (65536 ^ i * 256) := by
      rw [Int.mul_comm ((256 : Nat) : Int), Int.mul_assoc, Int.mul_comm ((256 : Nat) : Int)]
      rfl
    omega
theorem ofL_dig {k : List UInt8} (hk : k.length = 32) : (ofL k).length = 16 ∧ ∀ j, j < 16 → 0 ≤ (ofL k).getD j 0 ∧ (ofL k).getD j 0 ≤ 65535 := by
  refine ⟨by rw [ofL, List.length_set, ofSt_length], fun j hj => ?_⟩
  rw [ofL, getD_set _ _ _ _ _ (by rw [ofSt_length]; omega), ofSt_get 16 (by omega) j hj, if_pos hj]
  have h1 := UInt8.toNat_lt (k.getD (2 * j) 0)
  have h2 := UInt8.toNat_lt (k.getD (2 * j + 1) 0)
  split <;> omega
theorem ofL_okE {k : List UInt8} (hk : k.length = 32) : okE (ofL k) := by
  obtain ⟨h1, h2⟩ := ofL_dig hk
  exact ⟨h1, by have := h2 0 (by omega); omega, fun j _ hj => h2 j hj⟩
/-- digits -/
def dig (e : List Int) : Prop := e.length = 16 ∧ ∀ j, j < 16 → 0 ≤ e.getD j 0 ∧ e.getD j 0 ≤ 65535
theorem valI_bound : ∀ (l : List Int), (∀ j, j < l.length → 0 ≤ l.getD j 0 ∧ l.getD j 0 ≤ 65535) → 0 ≤ valI l ∧ valI l < 65536 ^ l.length
  | [], _ => by simp [valI]
  | x :: l, h => by
    have ih := valI_bound l (fun j hj => by have := h (j + 1) (by simpa using hj); simpa using this)
    have h0 := h 0 (by simp)
    simp only [List.getD_cons_zero] at h0
    rw [valI, List.length_cons, Int.pow_succ]
    omega
theorem p16 : (65536 : Int) ^ 16 = 115792089237316195423570985008687907853269984665640564039457584007913129639936 := by decide
theorem dig.bound {e : List Int} (h : dig e) : 0 ≤ valI e ∧ valI e < 115792089237316195423570985008687907853269984665640564039457584007913129639936 := by
  have := valI_bound e (fun j hj => h.2 j (by rw [h.1] at hj; exact hj))
  rw [h.1, p16] at this
  exact this
theorem ofL_val {k : List UInt8} (hk : k.length = 32) : valI (ofL k) = leZ k % 57896044618658097711785492504343953926634992332820282019728792003956564819968 := by
  have hl := ofSt_length k 16
  have hv := ofSt_val hk 16 (by omega)
  rw [List.take_of_length_le (by omega)] at hv
  have h15 : valI (ofSt k 16) = valI ((ofSt k 16).take 15) + (ofSt k 16).getD 15 0 * 65536 ^ 15 := by
    have := valI_snoc (ofSt k 16) 15 (by omega)
    rw [List.take_of_length_le (by omega)] at this
    exact this
  have hb := valI_bound ((ofSt k 16).take 15) (fun j hj => by
    rw [List.length_take] at hj
    have e : ((ofSt k 16).take 15).getD j 0 = (ofSt k 16).getD j 0 := by rw [List.getD_eq_getElem?_getD, List.getElem?_take, if_pos (by omega), List.getD_eq_getElem?_getD]
    rw [e, ofSt_get 16 (by omega) j (by omega), if_pos (by omega)]
    have h1 := UInt8.toNat_lt (k.getD (2 * j) 0)
    have h2 := UInt8.toNat_lt (k.getD (2 * j + 1) 0)
    omega)
  rw [List.length_take, hl, show min 15 16 = 15 by decide, show (65536 : Int) ^ 15 = 1766847064778384329583297500742918515827483896875618958121606201292619776 by decide] at hb
  rw [ofL, valI_set _ _ _ (by omega), ← hv, h15, show (65536 : Int) ^ 15 = 1766847064778384329583297500742918515827483896875618958121606201292619776 by decide]
  generalize (ofSt k 16).getD 15 0 = x
  generalize valI ((ofSt k 16).take 15) = y at hb
  omega
/-! ### carrying brings digits -/
theorem carry_dig {v : List Int} (hv : v.length = 16) : 0 ≤ valI v - 115792089237316195423570985008687907853269984665640564039457584007913129639936 * cOut v 16 ∧ valI v - 115792089237316195423570985008687907853269984665640564039457584007913129639936 * cOut v 16 < 115792089237316195423570985008687907853269984665640564039457584007913129639936 := by
  have hl := (carryL_length v).trans hv
  have hd : dig ((carryL v).set 0 ((v.getD 0 0) % 65536)) := by
    refine ⟨by rw [List.length_set, hl], fun j hj => ?_⟩
    rw [getD_set _ _ _ _ _ (by omega), carryL_get hv j hj]
    by_cases h : 0 = j
    · rw [if_pos h]; omega
    · rw [if_neg h, if_neg (by omega)]; omega
  have hb := hd.bound
  rw [valI_set _ _ _ (by omega), carryL_val hv, carryL_get hv 0 (by omega), if_pos rfl] at hb
  simp only [pZ] at hb
  omega
theorem carry_small {v : List Int} (hv : v.length = 16) (h0 : 0 ≤ valI v) (h1 : valI v < 115792089237316195423570985008687907853269984665640564039457584007913129639936) : dig (carryL v) ∧ valI (carryL v) = valI v := by
  have hc := carry_dig hv
  have hc0 : cOut v 16 = 0 := by omega
  refine ⟨⟨(carryL_length v).trans hv, fun j hj => ?_⟩, ?_⟩
  · rw [carryL_get hv j hj, hc0]
    split <;> omega
  · rw [carryL_val hv, hc0]; omega
theorem okE.bound {v : List Int} (h : okE v) : -131072 ≤ valI v ∧ valI v < 115792089237316195423570985008687907853269984665640564039457584007913129771008 := by
  have hd : dig (v.set 0 0) := by
    refine ⟨by rw [List.length_set, h.1], fun j hj => ?_⟩
    rw [getD_set _ _ _ _ _ (by rw [h.1]; omega)]
    by_cases h0 : 0 = j
    · rw [if_pos h0]; omega
    · rw [if_neg h0]; exact h.2.2 j (by omega) hj
  have hb := hd.bound
  rw [valI_set _ _ _ (by rw [h.1]; omega)] at hb
  have h2 := h.2.1
  omega
def carryN (v : List Int) : Nat → List Int
  | 0 => v
  | i + 1 => carryL (carryN v i)
theorem carryN_okE {v : List Int} (h : okE v) : ∀ i, okE (carryN v i)
  | 0 => h
  | i + 1 => by
    have ih := carryN_okE h i
    exact carryL_okE ih.1 (fun j hj => by have := ih.all j hj; omega)
theorem carry3 {v : List Int} (h : okE v) : dig (carryN v 3) ∧ valI (carryN v 3) % pZ = valI v % pZ := by
  have hb := h.bound
  have hc := carry_dig h.1
  have hl1 := (carryL_length v).trans h.1
  have hv1 := carryL_val h.1
  have h1 : 0 ≤ valI (carryL v) ∧ valI (carryL v) < 115792089237316195423570985008687907853269984665640564039457584007913129639936 := by
    rw [hv1]
    simp only [pZ]
    have : cOut v 16 = -1 ∨ cOut v 16 = 0 ∨ cOut v 16 = 1 := by omega
    rcases this with e | e | e <;> rw [e] at hc ⊢ <;> omega
  obtain ⟨d2, v2⟩ := carry_small hl1 h1.1 h1.2
  obtain ⟨d3, v3⟩ := carry_small d2.1 (by omega) (by omega)
  refine ⟨d3, ?_⟩
  show valI (carryL (carryL (carryL v))) % pZ = _
  rw [v3, v2, hv1, sub_p]
/-! ### less p -/
def pD (i : Nat) : Int := if i = 0 then 65517 else if i = 15 then 32767 else 65535
def lessSt (e : List Int) : Nat → List Int × Int
  | 0 => (List.replicate 16 0, 0)
  | i + 1 => ((lessSt e i).1.set i ((e.getD i 0 - (pD i + (lessSt e i).2)) % 2 ^ 16), (e.getD i 0 - (pD i + (lessSt e i).2)) / 2 ^ 16 % 2 ^ 1)
theorem lessSt_length (e : List Int) : ∀ i, (lessSt e i).1.length = 16
  | 0 => rfl
  | i + 1 => by rw [lessSt, List.length_set, lessSt_length]
theorem lessSt_owed (e : List Int) : ∀ i, (lessSt e i).2 = 0 ∨ (lessSt e i).2 = 1
  | 0 => .inl rfl
  | i + 1 => by rw [lessSt]; omega
def pS : Nat → Int
  | 0 => 0
  | i + 1 => pS i + pD i * 65536 ^ i
theorem pS_all : pS 16 = pZ := by decide +kernel
theorem lessSt_get (e : List Int) : ∀ i, i ≤ 16 → ∀ j, j < 16 → (0 ≤ (lessSt e i).1.getD j 0 ∧ (lessSt e i).1.getD j 0 ≤ 65535) ∧ (i ≤ j → (lessSt e i).1.getD j 0 = 0)
  | 0, _, j, hj => by
    rw [lessSt, rep0]
    omega
  | i + 1, hi, j, hj => by
    have ih := lessSt_get e i (by omega) j hj
    rw [lessSt, getD_set _ _ _ _ _ (by rw [lessSt_length]; omega)]
    by_cases h : i = j
    · rw [if_pos h]; omega
    · rw [if_neg h]; omega
theorem lessSt_val {e : List Int} (he : dig e) : ∀ i, i ≤ 16 → valI (lessSt e i).1 = valI (e.take i) - pS i + (lessSt e i).2 * 65536 ^ i
  | 0, _ => by rw [lessSt, valI_rep]; simp [valI, pS]
  | i + 1, hi => by
    have ih := lessSt_val he i (by omega)
    have hg := (lessSt_get e i (by omega) i (by omega)).2 (Nat.le_refl _)
    have ho := lessSt_owed e i
    have hei := he.2 i (by omega)
    rw [lessSt, valI_set _ _ _ (by rw [lessSt_length]; omega), ih, hg, valI_snoc e i (by rw [he.1]; omega), pS, Int.sub_zero, Int.pow_succ 65536 i]
    generalize (lessSt e i).2 = c at ho
    have hp : 0 ≤ pD i ∧ pD i ≤ 65535 := by unfold pD; split <;> (try split) <;> omega
    have key : (e.getD i 0 - (pD i + c)) % 2 ^ 16 = e.getD i 0 - pD i - c + ((e.getD i 0 - (pD i + c)) / 2 ^ 16 % 2 ^ 1) * 65536 := by omega
    dsimp only
    rw [key, Int.add_mul, Int.sub_mul, Int.sub_mul, Int.mul_assoc, Int.mul_comm 65536 (65536 ^ i)]
    omega
theorem lessSt_dig (e : List Int) : dig (lessSt e 16).1 := ⟨lessSt_length e 16, fun j hj => (lessSt_get e 16 (by omega) j hj).1⟩
theorem less_val {e : List Int} (he : dig e) : ((lessSt e 16).2 = 1 ∧ valI e < pZ) ∨ ((lessSt e 16).2 = 0 ∧ pZ ≤ valI e ∧ valI (lessSt e 16).1 = valI e - pZ) := by
  have hv := lessSt_val he 16 (by omega)
  rw [List.take_of_length_le (by rw [he.1]; omega), pS_all, p16] at hv
  have hb := (lessSt_dig e).bound
  have hbe := he.bound
  rcases lessSt_owed e 16 with h | h
  · right; rw [h] at hv; simp only [pZ] at *; exact ⟨h, by omega, by omega⟩
  · left; rw [h] at hv; simp only [pZ] at *; exact ⟨h, by omega⟩
def subN (a : List Int) : Nat → List Int
  | 0 => a
  | i + 1 => if (lessSt (subN a i) 16).2 = 1 then subN a i else (lessSt (subN a i) 16).1
theorem subN_dig {a : List Int} (h : dig a) : ∀ i, dig (subN a i)
  | 0 => h
  | i + 1 => by
    rw [subN]
    split
    · exact subN_dig h i
    · exact lessSt_dig _
theorem sub2 {a : List Int} (h : dig a) : valI (subN a 2) = valI a % pZ := by
  have hb := h.bound
  have h1 := less_val h
  have hd1 := subN_dig h 1
  have h2 := less_val hd1
  rw [subN]
  have e1 : subN a 1 = if (lessSt a 16).2 = 1 then a else (lessSt a 16).1 := rfl
  simp only [pZ] at *
  rcases h1 with ⟨a1, a2⟩ | ⟨a1, a2, a3⟩
  · rw [if_pos a1] at e1
    rw [e1] at h2 ⊢
    rcases h2 with ⟨b1, b2⟩ | ⟨b1, b2, b3⟩
    · rw [if_pos b1]; omega
    · omega
  · rw [if_neg (by omega)] at e1
    rw [e1] at h2 ⊢
    rcases h2 with ⟨b1, b2⟩ | ⟨b1, b2, b3⟩
    · rw [if_pos b1, a3]; omega
    · rw [if_neg (by omega), b3, a3]; omega
/-! ### a number's bytes -/
def keySt (e : List Int) : Nat → List UInt8
  | 0 => List.replicate 32 0
  | i + 1 => ((keySt e i).set (2 * i) (UInt8.ofNat (e.getD i 0 % 256).toNat)).set (2 * i + 1) (UInt8.ofNat (e.getD i 0 / 2 ^ 8 % 256).toNat)
theorem keySt_length (e : List Int) : ∀ i, (keySt e i).length = 32
  | 0 => rfl
  | i + 1 => by rw [keySt, List.length_set, List.length_set, keySt_length]
theorem keySt_rest (e : List Int) : ∀ i, i ≤ 16 → ∀ j, 2 * i ≤ j → j < 32 → (keySt e i).getD j 0 = 0
  | 0, _, j, _, hj => by
    rw [keySt, List.getD_eq_getElem?_getD, List.getElem?_replicate]
    split <;> rfl
  | i + 1, hi, j, h1, h2 => by
    have ih := keySt_rest e i (by omega) j (by omega) h2
    rw [keySt, getD_set _ _ _ _ _ (by rw [List.length_set, keySt_length]; omega), if_neg (by omega), getD_set _ _ _ _ _ (by rw [keySt_length]; omega), if_neg (by omega), ih]
theorem leZ_rep : ∀ n, leZ (List.replicate n 0) = 0
  | 0 => rfl
  | n + 1 => by rw [List.replicate_succ, leZ, leZ_rep n]; rfl
theorem keySt_val {e : List Int} (he : dig e) : ∀ i, i ≤ 16 → leZ (keySt e i) = valI (e.take i)
  | 0, _ => by rw [keySt, leZ_rep]; simp [valI]
  | i + 1, hi => by
    have ih := keySt_val he i (by omega)
    have r1 := keySt_rest e i (by omega) (2 * i) (by omega) (by omega)
    have r2 := keySt_rest e i (by omega) (2 * i + 1) (by omega) (by omega)
    have hei := he.2 i (by omega)
    rw [keySt, leZ_set _ _ _ (by rw [List.length_set, keySt_length]; omega), leZ_set _ _ _ (by rw [keySt_length]; omega), getD_set _ _ _ _ _ (by rw [keySt_length]; omega), if_neg (by omega), r1, r2, ih, valI_snoc e i (by rw [he.1]; omega), Int.pow_succ 256 (2 * i), p2, UInt8.toNat_ofNat', UInt8.toNat_ofNat']
    generalize e.getD i 0 = x at hei
    have e1 : (((x % 256).toNat % 2 ^ 8 : Nat) : Int) = x % 256 := by omega
    have e2 : (((x / 2 ^ 8 % 256).toNat % 2 ^ 8 : Nat) : Int) = x / 256 := by omega
    have e0 : (((0 : UInt8).toNat : Nat) : Int) = 0 := rfl
    rw [e1, e2, e0, Int.sub_zero, Int.sub_zero]
    have e3 : x * 65536 ^ i = x % 256 * 65536 ^ i + x / 256 * (65536 ^ i * 256) := by
      conv => lhs; rw [← Int.emod_add_mul_ediv x 256, Int.add_mul]
      rw [Int.mul_comm 256, Int.mul_assoc, Int.mul_comm 256]
    omega
def keyL (v : List Int) : List UInt8 := keySt (subN (carryN v 3) 2) 16
theorem keyL_length (v : List Int) : (keyL v).length = 32 := keySt_length _ 16
/-- a number's bytes are those of the least number that stands for it -/
theorem keyL_leZ {v : List Int} (h : okE v) : leZ (keyL v) = valI v % pZ := by
  obtain ⟨h1, h2⟩ := carry3 h
  rw [keyL, keySt_val (subN_dig h1 2) 16 (by omega), List.take_of_length_le (by rw [(subN_dig h1 2).1]; omega), sub2 h1, h2]
theorem keyL_eq {v w : List Int} (h : okE v) (h' : okE w) (e : valI v % pZ = valI w % pZ) : keyL v = keyL w :=
  leZ_inj ((keyL_length v).trans (keyL_length w).symm) (by rw [keyL_leZ h, keyL_leZ h', e])
end Go.PBYtjllcdgnmdieoaa
