/- The document's own numbers: sixteen digits as natural numbers; what number they stand for. No condition. -/
import Derived.Test.YtjllcdgnmdieoaaS06b
namespace Go.PBYtjllcdgnmdieoaa
open Go Go.RowKit
set_option linter.unusedVariables false

def cz (n : List Nat) : List Int := n.map fun (x : Nat) => (x : Int)
theorem cz_length (n : List Nat) : (cz n).length = n.length := by simp [cz]
theorem cz_get (n : List Nat) (j : Nat) : (cz n).getD j 0 = ((n.getD j 0 : Nat) : Int) := by
  unfold cz
  rw [List.getD_eq_getElem?_getD, List.getElem?_map, List.getD_eq_getElem?_getD]
  cases n[j]? <;> rfl
theorem cz_set (n : List Nat) (j x : Nat) : cz (n.set j x) = (cz n).set j (x : Int) := by simp [cz, List.map_set]
theorem cz_rep (m : Nat) : cz (List.replicate m 0) = List.replicate m 0 := by simp [cz]
theorem ext16 {a b : List Int} {m : Nat} (ha : a.length = m) (hb : b.length = m) (h : ∀ j, j < m → a.getD j 0 = b.getD j 0) : a = b := by
  apply List.ext_getElem (ha.trans hb.symm)
  intro j h1 h2
  have := h j (ha ▸ h1)
  simpa [h1, h2] using this
/-- digits -/
def digN (n : List Nat) : Prop := n.length = 16 ∧ ∀ j, j < 16 → n.getD j 0 ≤ 65535
theorem digN.dig {n : List Nat} (h : digN n) : dig (cz n) := ⟨(cz_length n).trans h.1, fun j hj => by rw [cz_get]; have := h.2 j hj; omega⟩
theorem dig_okE {e : List Int} (h : dig e) : okE e := ⟨h.1, by have := h.2 0 (by omega); omega, fun j _ hj => h.2 j hj⟩
theorem digN.okE {n : List Nat} (h : digN n) : okE (cz n) := dig_okE h.dig
theorem digN_of {n : List Nat} (h : dig (cz n)) : digN n := ⟨(cz_length n).symm.trans h.1, fun j hj => by have := h.2 j hj; rw [cz_get] at this; omega⟩
/-! ### the number of bytes -/
def rofSt (k : List UInt8) : Nat → List Nat
  | 0 => List.replicate 16 0
  | i + 1 => (rofSt k i).set i ((k.getD (2 * i) 0).toNat + 256 * (k.getD (2 * i + 1) 0).toNat)
def rofL (k : List UInt8) : List Nat := (rofSt k 16).set 15 ((rofSt k 16).getD 15 0 % 32768)
theorem rofSt_length (k : List UInt8) : ∀ i, (rofSt k i).length = 16
  | 0 => rfl
  | i + 1 => by rw [rofSt, List.length_set, rofSt_length]
theorem cz_rofSt (k : List UInt8) : ∀ i, cz (rofSt k i) = ofSt k i
  | 0 => by rw [rofSt, cz_rep]; rfl
  | i + 1 => by rw [rofSt, cz_set, cz_rofSt k i]; rfl
theorem cz_rofL (k : List UInt8) : cz (rofL k) = ofL k := by
  have h := cz_get (rofSt k 16) 15
  rw [cz_rofSt] at h
  have e : (((rofSt k 16).getD 15 0 % 32768 : Nat) : Int) = (ofSt k 16).getD 15 0 % 2 ^ 15 := by rw [h]; omega
  rw [rofL, cz_set, cz_rofSt, ofL, e]
theorem rofL_dig {k : List UInt8} (hk : k.length = 32) : digN (rofL k) := digN_of (by rw [cz_rofL]; exact ofL_dig hk)
/-! ### carrying -/
def rrSt (n : List Nat) : Nat → List Nat × Nat
  | 0 => (n, 0)
  | i + 1 => ((rrSt n i).1.set i (((rrSt n i).1.getD i 0 + (rrSt n i).2) % 65536), ((rrSt n i).1.getD i 0 + (rrSt n i).2) / 65536)
def rround (n : List Nat) : List Nat := (rrSt n 16).1.set 0 ((rrSt n 16).1.getD 0 0 + 38 * (rrSt n 16).2)
def rN (n : List Nat) : Nat → List Nat
  | 0 => n
  | i + 1 => rround (rN n i)
theorem rrSt_length (n : List Nat) : ∀ i, (rrSt n i).1.length = n.length
  | 0 => rfl
  | i + 1 => by rw [rrSt, List.length_set, rrSt_length]
theorem rround_length (n : List Nat) : (rround n).length = n.length := by rw [rround, List.length_set, rrSt_length]
theorem rrSt_get {n : List Nat} (hn : n.length = 16) : ∀ i, i ≤ 16 → (((rrSt n i).2 : Nat) : Int) = cOut (cz n) i ∧ ∀ j, j < 16 → (((rrSt n i).1.getD j 0 : Nat) : Int) = if j < i then ((cz n).getD j 0 + cOut (cz n) j) % 65536 else (cz n).getD j 0
  | 0, _ => ⟨rfl, fun j hj => by rw [if_neg (by omega), cz_get]; rfl⟩
  | i + 1, hi => by
    obtain ⟨h1, h2⟩ := rrSt_get hn i (by omega)
    have hii := h2 i (by omega)
    rw [if_neg (by omega)] at hii
    refine ⟨?_, fun j hj => ?_⟩
    · show (((rrSt n i).1.getD i 0 + (rrSt n i).2) / 65536 : Nat) = ((cz n).getD i 0 + cOut (cz n) i) / 65536
      rw [← h1, ← hii]
      omega
    · show ((((rrSt n i).1.set i (((rrSt n i).1.getD i 0 + (rrSt n i).2) % 65536)).getD j 0 : Nat) : Int) = _
      rw [getD_set _ _ _ _ _ (by rw [rrSt_length]; omega)]
      by_cases h : i = j
      · subst h
        rw [if_pos rfl, if_pos (by omega), ← h1, ← hii]
        omega
      · rw [if_neg h, h2 j hj]
        by_cases h3 : j < i
        · rw [if_pos h3, if_pos (by omega)]
        · rw [if_neg h3, if_neg (by omega)]
theorem cz_rround {n : List Nat} (hn : n.length = 16) : cz (rround n) = carryL (cz n) := by
  have hz := (cz_length n).trans hn
  refine ext16 (m := 16) ((cz_length _).trans ((rround_length n).trans hn)) ((carryL_length _).trans hz) (fun j hj => ?_)
  obtain ⟨h1, h2⟩ := rrSt_get hn 16 (by omega)
  have h0 := h2 0 (by omega)
  rw [if_pos (by omega), cOut, Int.add_zero] at h0
  rw [cz_get, rround, getD_set _ _ _ _ _ (by rw [rrSt_length]; omega), carryL_get hz j hj]
  by_cases h : 0 = j
  · rw [if_pos h, if_pos h.symm, ← h1, ← h0]
    omega
  · rw [if_neg h, if_neg (by omega), h2 j hj, if_pos hj]
theorem rN_length (n : List Nat) : ∀ i, (rN n i).length = n.length
  | 0 => rfl
  | i + 1 => by rw [rN, rround_length, rN_length]
/-- four rounds bring digits -/
theorem carried_dig {n : List Nat} (hn : n.length = 16) (hM : ∀ j, j < 16 → n.getD j 0 ≤ 1152921504606846976) : digN (rN n 4) ∧ valI (cz (rN n 4)) % pZ = valI (cz n) % pZ := by
  have hz := (cz_length n).trans hn
  have hM' : ∀ j, j < 16 → -1152921504606846976 ≤ (cz n).getD j 0 ∧ (cz n).getD j 0 ≤ 1152921504606846976 := fun j hj => by
    rw [cz_get]; have := hM j hj; omega
  have hb := cOut_bound (K := 35184372088832) hM' (by omega) (by omega) 16 (by omega)
  have hnn : 0 ≤ cOut (cz n) 16 := by rw [← (rrSt_get hn 16 (by omega)).1]; omega
  have c1 := carry_dig hz
  have v1 := carryL_val hz
  have l1 := (carryL_length (cz n)).trans hz
  have l1n := (rround_length n).trans hn
  have c2 := carry_dig l1
  have v2 := carryL_val l1
  have l2 := (carryL_length (carryL (cz n))).trans l1
  have e1 := cz_rround hn
  have e2 := cz_rround l1n
  rw [e1] at e2
  have l2n := (rround_length (rround n)).trans l1n
  have e3 := cz_rround l2n
  rw [e2] at e3
  have l3n := (rround_length (rround (rround n))).trans l2n
  have e4 := cz_rround l3n
  rw [e3] at e4
  have hv1 : 0 ≤ valI (carryL (cz n)) ∧ valI (carryL (cz n)) ≤ 115792089237316195423570985008687907853269984665640564039457584007913129639936 + 2000000000000000 := by
    rw [v1]; simp only [pZ]; omega
  have hv2 : 0 ≤ valI (carryL (carryL (cz n))) ∧ valI (carryL (carryL (cz n))) < 115792089237316195423570985008687907853269984665640564039457584007913129639936 := by
    rw [v2]; simp only [pZ]
    have : cOut (carryL (cz n)) 16 = 0 ∨ cOut (carryL (cz n)) 16 = 1 := by omega
    rcases this with h | h <;> rw [h] at c2 ⊢ <;> omega
  obtain ⟨d3, v3⟩ := carry_small l2 hv2.1 hv2.2
  obtain ⟨d4, v4⟩ := carry_small d3.1 (by omega) (by omega)
  have e5 : cz (rN n 4) = carryL (carryL (carryL (carryL (cz n)))) := e4
  exact ⟨digN_of (by rw [e5]; exact d4), by rw [e5, v4, v3, v2, sub_p, v1, sub_p]⟩
/-! ### sums, differences, products -/
def raddSt (a b : List Nat) : Nat → List Nat
  | 0 => a
  | i + 1 => (raddSt a b i).set i ((raddSt a b i).getD i 0 + b.getD i 0)
theorem raddSt_length (a b : List Nat) : ∀ i, (raddSt a b i).length = a.length
  | 0 => rfl
  | i + 1 => by rw [raddSt, List.length_set, raddSt_length]
theorem cz_raddSt (a b : List Nat) : ∀ i, cz (raddSt a b i) = addSt (cz a) (cz b) i
  | 0 => rfl
  | i + 1 => by
    rw [raddSt, cz_set, cz_raddSt a b i, addSt, ← cz_raddSt a b i, cz_get, cz_get, Int.natCast_add]
def fourN (i : Nat) : Nat := if i = 0 then 130996 else 131070
def fourL : List Nat := 130996 :: List.replicate 15 131070
theorem fourL_get (i : Nat) (hi : i < 16) : fourL.getD i 0 = fourN i := by
  have : ∀ i : Fin 16, fourL.getD i.val 0 = fourN i.val := by decide
  exact this ⟨i, hi⟩
theorem fourL_val : valI (cz fourL) = 4 * pZ := by decide +kernel
def rsubSt (a b : List Nat) : Nat → List Nat
  | 0 => a
  | i + 1 => (rsubSt a b i).set i ((rsubSt a b i).getD i 0 + fourN i - b.getD i 0)
theorem rsubSt_length (a b : List Nat) : ∀ i, (rsubSt a b i).length = a.length
  | 0 => rfl
  | i + 1 => by rw [rsubSt, List.length_set, rsubSt_length]
theorem rsubSt_get {a b : List Nat} (ha : a.length = 16) : ∀ i, i ≤ 16 → ∀ j, (rsubSt a b i).getD j 0 = if j < i then a.getD j 0 + fourN j - b.getD j 0 else a.getD j 0
  | 0, _, j => by simp [rsubSt]
  | i + 1, hi, j => by
    have ih := rsubSt_get (b := b) ha i (by omega)
    rw [rsubSt, getD_set _ _ _ _ _ (by rw [rsubSt_length]; omega), ih i, if_neg (show ¬ i < i by omega), ih j]
    by_cases h : i = j
    · subst h; rw [if_pos rfl, if_pos (by omega)]
    · rw [if_neg h]
      by_cases h2 : j < i
      · rw [if_pos h2, if_pos (by omega)]
      · rw [if_neg h2, if_neg (by omega)]
theorem cz_rsub {a b : List Nat} (ha : digN a) (hb : digN b) : cz (rsubSt a b 16) = subSt (addSt (cz a) (cz fourL) 16) (cz b) 16 := by
  have hza := (cz_length a).trans ha.1
  have hl := (addSt_length (cz a) (cz fourL) 16).trans hza
  refine ext16 (m := 16) ((cz_length _).trans ((rsubSt_length a b 16).trans ha.1)) ((subSt_length _ _ 16).trans hl) (fun j hj => ?_)
  rw [cz_get, rsubSt_get ha.1 16 (by omega), if_pos hj, subSt_get hl 16 (by omega), if_pos hj, addSt_get hza 16 (by omega), if_pos hj, cz_get, cz_get, cz_get, fourL_get j hj]
  have h1 := hb.2 j hj
  have h2 : 130996 ≤ fourN j := by unfold fourN; split <;> omega
  omega
def rmulIn (a b : List Nat) (i : Nat) (t : List Nat) : Nat → List Nat
  | 0 => t
  | k + 1 => (rmulIn a b i t k).set (i + k) ((rmulIn a b i t k).getD (i + k) 0 + a.getD i 0 * b.getD k 0)
def rmulOut (a b : List Nat) : Nat → List Nat
  | 0 => List.replicate 32 0
  | i + 1 => rmulIn a b i (rmulOut a b i) 16
theorem rmulIn_length (a b : List Nat) (i : Nat) (t : List Nat) : ∀ k, (rmulIn a b i t k).length = t.length
  | 0 => rfl
  | k + 1 => by rw [rmulIn, List.length_set, rmulIn_length]
theorem rmulOut_length (a b : List Nat) : ∀ i, (rmulOut a b i).length = 32
  | 0 => rfl
  | i + 1 => by rw [rmulOut, rmulIn_length, rmulOut_length]
theorem cz_rmulIn (a b : List Nat) (i : Nat) (t : List Nat) : ∀ k, cz (rmulIn a b i t k) = mulIn (cz a) (cz b) i (cz t) k
  | 0 => rfl
  | k + 1 => by
    rw [rmulIn, cz_set, cz_rmulIn a b i t k, mulIn, ← cz_rmulIn a b i t k, cz_get, cz_get, cz_get, Int.natCast_add, Int.natCast_mul]
theorem cz_rmulOut (a b : List Nat) : ∀ i, cz (rmulOut a b i) = mulOut (cz a) (cz b) i
  | 0 => by rw [rmulOut, cz_rep]; rfl
  | i + 1 => by rw [rmulOut, cz_rmulIn, cz_rmulOut a b i]; rfl
def rfoldSt (t : List Nat) : Nat → List Nat
  | 0 => List.replicate 16 0
  | i + 1 => (rfoldSt t i).set i (t.getD i 0 + 38 * t.getD (i + 16) 0)
theorem rfoldSt_length (t : List Nat) : ∀ i, (rfoldSt t i).length = 16
  | 0 => rfl
  | i + 1 => by rw [rfoldSt, List.length_set, rfoldSt_length]
theorem cz_rfoldSt (t : List Nat) : ∀ i, cz (rfoldSt t i) = foldSt (cz t) i
  | 0 => by rw [rfoldSt, cz_rep]; rfl
  | i + 1 => by
    rw [rfoldSt, cz_set, cz_rfoldSt t i, foldSt, cz_get, cz_get]
    congr 1
def raddL (a b : List Nat) : List Nat := rN (raddSt a b 16) 4
def rsubL (a b : List Nat) : List Nat := rN (rsubSt a b 16) 4
def rmulL (a b : List Nat) : List Nat := rN (rfoldSt (rmulOut a b 16) 16) 4
theorem radd_bound {a b : List Nat} (ha : digN a) (hb : digN b) : ∀ j, j < 16 → (raddSt a b 16).getD j 0 ≤ 131070 := by
  intro j hj
  have h := cz_get (raddSt a b 16) j
  rw [cz_raddSt, addSt_get ((cz_length a).trans ha.1) 16 (by omega), if_pos hj, cz_get, cz_get] at h
  have h1 := ha.2 j hj
  have h2 := hb.2 j hj
  omega
theorem rsub_bound {a b : List Nat} (ha : digN a) (hb : digN b) : ∀ j, j < 16 → (rsubSt a b 16).getD j 0 ≤ 196605 := by
  intro j hj
  rw [rsubSt_get ha.1 16 (by omega), if_pos hj]
  have h1 := ha.2 j hj
  have h2 : fourN j ≤ 131070 := by unfold fourN; split <;> omega
  omega
theorem rmul_bound {a b : List Nat} (ha : digN a) (hb : digN b) : ∀ j, j < 16 → (rfoldSt (rmulOut a b 16) 16).getD j 0 ≤ 1152921504606846976 := by
  intro j hj
  have h := cz_get (rfoldSt (rmulOut a b 16) 16) j
  rw [cz_rfoldSt, cz_rmulOut] at h
  have := fold_bound ha.okE hb.okE j hj
  omega
theorem raddL_dig {a b : List Nat} (ha : digN a) (hb : digN b) : digN (raddL a b) := (carried_dig ((raddSt_length a b 16).trans ha.1) (fun j hj => by have := radd_bound ha hb j hj; omega)).1
theorem rsubL_dig {a b : List Nat} (ha : digN a) (hb : digN b) : digN (rsubL a b) := (carried_dig ((rsubSt_length a b 16).trans ha.1) (fun j hj => by have := rsub_bound ha hb j hj; omega)).1
theorem rmulL_dig {a b : List Nat} (ha : digN a) (hb : digN b) : digN (rmulL a b) := (carried_dig (rfoldSt_length _ 16) (rmul_bound ha hb)).1
theorem raddL_val {a b : List Nat} (ha : digN a) (hb : digN b) : valI (cz (raddL a b)) % pZ = (valI (cz a) + valI (cz b)) % pZ := by
  rw [raddL, (carried_dig ((raddSt_length a b 16).trans ha.1) (fun j hj => by have := radd_bound ha hb j hj; omega)).2, cz_raddSt, addSt_val ((cz_length a).trans ha.1) ((cz_length b).trans hb.1) 16 (by omega), List.take_of_length_le (by rw [cz_length, hb.1]; omega)]
theorem rsubL_val {a b : List Nat} (ha : digN a) (hb : digN b) : valI (cz (rsubL a b)) % pZ = (valI (cz a) - valI (cz b)) % pZ := by
  have hza := (cz_length a).trans ha.1
  rw [rsubL, (carried_dig ((rsubSt_length a b 16).trans ha.1) (fun j hj => by have := rsub_bound ha hb j hj; omega)).2, cz_rsub ha hb, subSt_val ((addSt_length _ _ 16).trans hza) ((cz_length b).trans hb.1) 16 (by omega), addSt_val hza rfl 16 (by omega), List.take_of_length_le (l := cz b) (by rw [cz_length, hb.1]; omega), List.take_of_length_le (l := cz fourL) (by decide), fourL_val]
  have : valI (cz a) + 4 * pZ - valI (cz b) = valI (cz a) - valI (cz b) + pZ * 4 := by simp only [pZ]; omega
  rw [this, Int.add_mul_emod_self_left]
theorem rmulL_val {a b : List Nat} (ha : digN a) (hb : digN b) : valI (cz (rmulL a b)) % pZ = (valI (cz a) * valI (cz b)) % pZ := by
  rw [rmulL, (carried_dig (rfoldSt_length _ 16) (rmul_bound ha hb)).2, cz_rfoldSt, cz_rmulOut]
  have hl := foldSt_length (mulOut (cz a) (cz b) 16) 16
  have h1 := mulL_val ha.okE hb.okE
  rw [mulL, carryL_val ((carryL_length _).trans hl), sub_p, carryL_val hl, sub_p] at h1
  exact h1
/-! ### what a number times comes to 1 -/
def rinvSt (a : List Nat) : Nat → List Nat
  | 0 => 1 :: List.replicate 15 0
  | k + 1 => if 254 - k = 2 ∨ 254 - k = 4 then rmulL (rinvSt a k) (rinvSt a k) else rmulL (rmulL (rinvSt a k) (rinvSt a k)) a
def rinvL (a : List Nat) : List Nat := rinvSt a 255
theorem one_dig : digN (1 :: List.replicate 15 0) := by
  refine ⟨rfl, ?_⟩
  have : ∀ j : Fin 16, (1 :: List.replicate 15 0 : List Nat).getD j.val 0 ≤ 65535 := by decide
  exact fun j hj => this ⟨j, hj⟩
theorem rinvSt_dig {a : List Nat} (ha : digN a) : ∀ k, digN (rinvSt a k)
  | 0 => one_dig
  | k + 1 => by
    have ih := rinvSt_dig ha k
    have h2 := rmulL_dig ih ih
    rw [rinvSt]
    split
    · exact h2
    · exact rmulL_dig h2 ha
theorem rinvL_dig {a : List Nat} (ha : digN a) : digN (rinvL a) := rinvSt_dig ha 255
def rinvP : Nat → Nat
  | 0 => 0
  | k + 1 => if 254 - k = 2 ∨ 254 - k = 4 then 2 * rinvP k else 2 * rinvP k + 1
theorem rinvP_all : rinvP 255 = pN - 2 := by decide +kernel
theorem rinvSt_val {a : List Nat} (ha : digN a) : ∀ k, valI (cz (rinvSt a k)) % pZ = (valI (cz a)) ^ (rinvP k) % pZ
  | 0 => by rw [rinvSt, rinvP, Int.pow_zero]; decide +kernel
  | k + 1 => by
    have ih := rinvSt_val ha k
    have hk := rinvSt_dig ha k
    have h2 : valI (cz (rmulL (rinvSt a k) (rinvSt a k))) % pZ = (valI (cz a)) ^ (2 * rinvP k) % pZ := by
      rw [rmulL_val hk hk, emod_mul ih ih, Nat.two_mul, Int.pow_add]
    rw [rinvSt, rinvP]
    split
    · exact h2
    · rw [rmulL_val (rmulL_dig hk hk) ha, emod_mul h2 rfl, Int.pow_succ]
theorem rinvL_val {a : List Nat} (ha : digN a) : valI (cz (rinvL a)) % pZ = (valI (cz a)) ^ (pN - 2) % pZ := by
  rw [rinvL, rinvSt_val ha 255, rinvP_all]
/-! ### the least number -/
def pDn (i : Nat) : Nat := if i = 0 then 65517 else if i = 15 then 32767 else 65535
theorem pDn_cast (i : Nat) : ((pDn i : Nat) : Int) = pD i := by unfold pDn pD; split <;> (try split) <;> rfl
def pL : List Nat := 65517 :: (List.replicate 14 65535 ++ [32767])
theorem pL_get (i : Nat) (hi : i < 16) : pL.getD i 0 = pDn i := by
  have : ∀ i : Fin 16, pL.getD i.val 0 = pDn i.val := by decide
  exact this ⟨i, hi⟩
theorem pL_dig : digN pL := ⟨rfl, fun j hj => by rw [pL_get j hj]; unfold pDn; split <;> (try split) <;> omega⟩
theorem pL_val : valI (cz pL) = pZ := by decide +kernel
theorem valI_split (e : List Int) (i : Nat) (hi : i < e.length) : valI e = valI (e.take i) + 65536 ^ i * (e.getD i 0 + 65536 * valI (e.drop (i + 1))) := by
  have h := valI_append (e.take i) (e.drop i)
  rw [List.take_append_drop, List.length_take, Nat.min_eq_left (by omega)] at h
  rw [h, List.drop_eq_getElem_cons hi, valI]
  congr 4
  simp [hi]
theorem drop_eq {a b : List Int} {i : Nat} (ha : a.length = 16) (hb : b.length = 16) (h : ∀ j, i ≤ j → j < 16 → a.getD j 0 = b.getD j 0) : a.drop i = b.drop i := by
  apply List.ext_getElem (by simp [ha, hb])
  intro j h1 h2
  have h1' : j < 16 - i := by simpa [ha] using h1
  have := h (i + j) (by omega) (by omega)
  rw [List.getElem_drop, List.getElem_drop]
  simpa [ha, hb, show i + j < 16 by omega] using this
theorem low_bound {e : List Int} (he : dig e) (i : Nat) (hi : i ≤ 16) : 0 ≤ valI (e.take i) ∧ valI (e.take i) < 65536 ^ i := by
  have := valI_bound (e.take i) (fun j hj => by
    rw [List.length_take] at hj
    have e' : (e.take i).getD j 0 = e.getD j 0 := by rw [List.getD_eq_getElem?_getD, List.getElem?_take, if_pos (by omega), List.getD_eq_getElem?_getD]
    rw [e']
    exact he.2 j (by have := he.1; omega))
  rw [List.length_take, he.1, Nat.min_eq_left hi] at this
  exact this
/-- where two numbers first differ from above tells which is less -/
theorem cmp_dig {a b : List Int} (ha : dig a) (hb : dig b) (i : Nat) (hi : i < 16) (h : ∀ j, i + 1 ≤ j → j < 16 → a.getD j 0 = b.getD j 0) (hlt : a.getD i 0 < b.getD i 0) : valI a < valI b := by
  have h1 := valI_split a i (by rw [ha.1]; exact hi)
  have h2 := valI_split b i (by rw [hb.1]; exact hi)
  rw [drop_eq ha.1 hb.1 h] at h1
  obtain ⟨a1, a2⟩ := low_bound ha i (by omega)
  obtain ⟨b1, b2⟩ := low_bound hb i (by omega)
  have hp : (0 : Int) < 65536 ^ i := Int.pow_pos (by omega)
  have hm : 65536 ^ i * (a.getD i 0 + 65536 * valI (b.drop (i + 1))) + 65536 ^ i ≤ 65536 ^ i * (b.getD i 0 + 65536 * valI (b.drop (i + 1))) := by
    have h3 : 65536 ^ i * (a.getD i 0 + 65536 * valI (b.drop (i + 1))) + 65536 ^ i = 65536 ^ i * (a.getD i 0 + 65536 * valI (b.drop (i + 1)) + 1) := by rw [Int.mul_add (65536 ^ i) _ 1, Int.mul_one]
    rw [h3]
    exact Int.mul_le_mul_of_nonneg_left (by omega) (Int.le_of_lt hp)
  omega
theorem eq_dig {a b : List Int} (ha : dig a) (hb : dig b) (h : ∀ j, j < 16 → a.getD j 0 = b.getD j 0) : a = b := ext16 ha.1 hb.1 h
def leB (n : List Nat) : Bool := decide (pZ ≤ valI (cz n))
def rlSt (n : List Nat) : Nat → List Nat × Nat
  | 0 => (n, 0)
  | i + 1 => ((rlSt n i).1.set i (((rlSt n i).1.getD i 0 + 65536 - pDn i - (rlSt n i).2) % 65536), 1 - ((rlSt n i).1.getD i 0 + 65536 - pDn i - (rlSt n i).2) / 65536)
theorem rlSt_length (n : List Nat) : ∀ i, (rlSt n i).1.length = n.length
  | 0 => rfl
  | i + 1 => by rw [rlSt, List.length_set, rlSt_length]
theorem rlSt_get {n : List Nat} (hn : digN n) : ∀ i, i ≤ 16 → (((rlSt n i).2 : Nat) : Int) = (lessSt (cz n) i).2 ∧ ∀ j, j < 16 → (((rlSt n i).1.getD j 0 : Nat) : Int) = if j < i then (lessSt (cz n) i).1.getD j 0 else (cz n).getD j 0
  | 0, _ => ⟨rfl, fun j hj => by rw [if_neg (by omega), cz_get]; rfl⟩
  | i + 1, hi => by
    obtain ⟨h1, h2⟩ := rlSt_get hn i (by omega)
    have hii := h2 i (by omega)
    rw [if_neg (by omega), cz_get] at hii
    have hni := hn.2 i (by omega)
    have ho := lessSt_owed (cz n) i
    have hp : pDn i ≤ 65535 := by unfold pDn; split <;> (try split) <;> omega
    have hpc := pDn_cast i
    refine ⟨?_, fun j hj => ?_⟩
    · show ((1 - ((rlSt n i).1.getD i 0 + 65536 - pDn i - (rlSt n i).2) / 65536 : Nat) : Int) = ((cz n).getD i 0 - (pD i + (lessSt (cz n) i).2)) / 2 ^ 16 % 2 ^ 1
      rw [cz_get, ← h1, ← hpc] at *
      omega
    · show ((((rlSt n i).1.set i (((rlSt n i).1.getD i 0 + 65536 - pDn i - (rlSt n i).2) % 65536)).getD j 0 : Nat) : Int) = if j < i + 1 then ((lessSt (cz n) i).1.set i (((cz n).getD i 0 - (pD i + (lessSt (cz n) i).2)) % 2 ^ 16)).getD j 0 else (cz n).getD j 0
      rw [getD_set _ _ _ _ _ (by rw [rlSt_length, hn.1]; omega), getD_set _ _ _ _ _ (by rw [lessSt_length]; omega)]
      by_cases h : i = j
      · subst h
        rw [if_pos rfl, if_pos rfl, if_pos (by omega), cz_get, ← h1, ← hpc]
        omega
      · rw [if_neg h, if_neg h, h2 j hj]
        by_cases h3 : j < i
        · rw [if_pos h3, if_pos (by omega)]
        · rw [if_neg h3, if_neg (by omega)]
theorem cz_rl {n : List Nat} (hn : digN n) : cz (rlSt n 16).1 = (lessSt (cz n) 16).1 := by
  refine ext16 (m := 16) ((cz_length _).trans ((rlSt_length n 16).trans hn.1)) (lessSt_length _ 16) (fun j hj => ?_)
  rw [cz_get, (rlSt_get hn 16 (by omega)).2 j hj, if_pos hj]
theorem rl_dig {n : List Nat} (hn : digN n) : digN (rlSt n 16).1 := digN_of (by rw [cz_rl hn]; exact lessSt_dig _)
theorem rl_val {n : List Nat} (hn : digN n) (h : pZ ≤ valI (cz n)) : valI (cz (rlSt n 16).1) = valI (cz n) - pZ := by
  rw [cz_rl hn]
  rcases less_val hn.dig with ⟨_, h2⟩ | ⟨_, _, h3⟩
  · omega
  · exact h3
/-- a number's bytes -/
def keyV (x : Int) : List UInt8 := bN 32 (x % pZ).toNat
theorem keyV_length (x : Int) : (keyV x).length = 32 := bN_length 32 _
theorem keyL_V {v : List Int} (h : okE v) : keyL v = keyV (valI v) := by
  rw [keyV, ← keyL_leZ h, bN_leZ (keyL_length v)]
theorem keySt_V {n : List Nat} (hn : digN n) (h : valI (cz n) < pZ) : keySt (cz n) 16 = keyV (valI (cz n)) := by
  have hb := hn.dig.bound
  have hl := keySt_val hn.dig 16 (by omega)
  rw [List.take_of_length_le (by rw [cz_length, hn.1]; omega)] at hl
  rw [keyV, Int.emod_eq_of_lt hb.1 h, ← hl, bN_leZ (keySt_length _ 16)]
theorem keyV_mod (x : Int) : keyV (x % pZ) = keyV x := by rw [keyV, Int.emod_emod, ← keyV]
theorem keyV_eq {x y : Int} (h : x % pZ = y % pZ) : keyV x = keyV y := by rw [keyV, h, ← keyV]
theorem keyV_leZ (x : Int) : leZ (keyV x) = x % pZ := by
  have h1 : 0 ≤ x % pZ := Int.emod_nonneg _ (by decide)
  have h2 : x % pZ < pZ := Int.emod_lt_of_pos _ (by decide)
  rw [keyV, leZ_bN]
  · omega
  · have : (256 : Nat) ^ 32 = 115792089237316195423570985008687907853269984665640564039457584007913129639936 := by decide
    simp only [pZ] at *
    omega
theorem keyV_inj {x y : Int} (h : keyV x = keyV y) : x % pZ = y % pZ := by rw [← keyV_leZ, ← keyV_leZ, h]
theorem u64s_rep (m : Nat) : u64s (List.replicate m 0) = n64s (List.replicate m 0) := by simp [u64s, n64s]
theorem rr_bound {m : List Nat} (hm : m.length = 16) (hM : ∀ j, j < 16 → m.getD j 0 ≤ 1152921504606846976) : ∀ i, i ≤ 16 → (rrSt m i).2 ≤ 35184372088832 ∧ ∀ j, j < 16 → (rrSt m i).1.getD j 0 ≤ 1152921504606846976 := by
  intro i hi
  have hb := cOut_bound (v := cz m) (M := 1152921504606846976) (K := 35184372088832) (fun j hj => by rw [cz_get]; have := hM j hj; omega) (by omega) (by omega) i hi
  obtain ⟨h1, h2⟩ := rrSt_get hm i hi
  refine ⟨by omega, fun j hj => ?_⟩
  have h3 := h2 j hj
  have h4 := hM j hj
  rw [cz_get] at h3
  split at h3 <;> omega
theorem rN_bound {n : List Nat} (hn : n.length = 16) (hM : ∀ j, j < 16 → n.getD j 0 ≤ 1152921504606846976) : ∀ r j, j < 16 → (rN n r).getD j 0 ≤ 1152921504606846976
  | 0, j, hj => hM j hj
  | r + 1, j, hj => by
    have ih := rN_bound hn hM r
    have hl := (rN_length n r).trans hn
    obtain ⟨h1, h2⟩ := rr_bound hl ih 16 (by omega)
    obtain ⟨_, h3⟩ := rrSt_get hl 16 (by omega)
    have h0 := h3 0 (by omega)
    rw [if_pos (by omega)] at h0
    rw [rN, rround, getD_set _ _ _ _ _ (by rw [rrSt_length, hl]; omega)]
    split
    · omega
    · exact h2 j hj
theorem leB_top {n : List Nat} (hn : digN n) (i : Nat) (hi : i < 16) (h : ∀ j, i + 1 ≤ j → j < 16 → n.getD j 0 = pDn j) (hne : n.getD i 0 ≠ pDn i) : decide (pDn i < n.getD i 0) = leB n := by
  have hz : ∀ j, i + 1 ≤ j → j < 16 → (cz n).getD j 0 = (cz pL).getD j 0 := fun j h1 h2 => by rw [cz_get, cz_get, h j h1 h2, pL_get j h2]
  unfold leB
  by_cases hlt : pDn i < n.getD i 0
  · have := cmp_dig pL_dig.dig hn.dig i hi (fun j h1 h2 => (hz j h1 h2).symm) (by rw [cz_get, cz_get, pL_get i hi]; omega)
    rw [pL_val] at this
    rw [decide_eq_true hlt, decide_eq_true (Int.le_of_lt this)]
  · have := cmp_dig hn.dig pL_dig.dig i hi hz (by rw [cz_get, cz_get, pL_get i hi]; omega)
    rw [pL_val] at this
    rw [decide_eq_false hlt, decide_eq_false (by omega)]
theorem leB_all {n : List Nat} (hn : digN n) (h : ∀ j, j < 16 → n.getD j 0 = pDn j) : true = leB n := by
  have : cz n = cz pL := eq_dig hn.dig pL_dig.dig (fun j hj => by rw [cz_get, cz_get, h j hj, pL_get j hj])
  unfold leB
  rw [this, pL_val]
  rfl
def rlN (c : List Nat) : Nat → List Nat
  | 0 => c
  | j + 1 => (rlSt (rlN c j) 16).1
theorem rl_bound {n : List Nat} (hn : digN n) (i : Nat) (hi : i < 16) : (rlSt n i).2 ≤ 1 ∧ (rlSt n i).1.getD i 0 = n.getD i 0 := by
  obtain ⟨h1, h2⟩ := rlSt_get hn i (by omega)
  have h3 := h2 i hi
  rw [if_neg (by omega), cz_get] at h3
  have := lessSt_owed (cz n) i
  omega
def rkeySt (n : List Nat) : Nat → List UInt8
  | 0 => List.replicate 32 0
  | i + 1 => ((rkeySt n i).set (2 * i) (UInt8.ofNat (n.getD i 0))).set (2 * i + 1) (UInt8.ofNat (n.getD i 0 / 256))
theorem rkeySt_eq (n : List Nat) : ∀ i, rkeySt n i = keySt (cz n) i
  | 0 => rfl
  | i + 1 => by
    rw [rkeySt, keySt, rkeySt_eq n i, cz_get]
    have e1 : UInt8.ofNat (((n.getD i 0 : Nat) : Int) % 256).toNat = UInt8.ofNat (n.getD i 0) := by
      apply UInt8.toNat_inj.1
      rw [UInt8.toNat_ofNat', UInt8.toNat_ofNat']
      omega
    have e2 : UInt8.ofNat (((n.getD i 0 : Nat) : Int) / 2 ^ 8 % 256).toNat = UInt8.ofNat (n.getD i 0 / 256) := by
      apply UInt8.toNat_inj.1
      rw [UInt8.toNat_ofNat', UInt8.toNat_ofNat']
      omega
    rw [e1, e2]
theorem rkeySt_length (n : List Nat) (i : Nat) : (rkeySt n i).length = 32 := by rw [rkeySt_eq, keySt_length]
end Go.PBYtjllcdgnmdieoaa
