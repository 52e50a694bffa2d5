/- Numbers modulo 2^255 - 19 as lists of sixteen parts: what the field's functions come to, and what number that stands for. No condition. -/
import Derived.Test.YtjllcdgnmdieoaaVI
namespace Go.PBYtjllcdgnmdieoaa
open Go Go.RowKit
set_option linter.unusedVariables false

/-- 2^255 - 19 -/
def pN : Nat := 57896044618658097711785492504343953926634992332820282019728792003956564819949
abbrev pZ : Int := 57896044618658097711785492504343953926634992332820282019728792003956564819949
def valI : List Int → Int
  | [] => 0
  | x :: r => x + 65536 * valI r
theorem getD_set {α : Type} (l : List α) (i j : Nat) (x d : α) (hi : i < l.length) : (l.set i x).getD j d = if i = j then x else l.getD j d := by
  rw [List.getD_eq_getElem?_getD, List.getD_eq_getElem?_getD, List.getElem?_set]
  by_cases h : i = j
  · subst h; simp [hi]
  · rw [if_neg h, if_neg h]
theorem two_set {l : List Int} {i k : Nat} {a b : Int} (j : Nat) (hi : i < l.length) (hk : k < l.length) (hne : i ≠ k) : ((l.set i a).set k ((l.set i a).getD k 0 + b)).getD j 0 = if k = j then l.getD k 0 + b else if i = j then a else l.getD j 0 := by
  rw [getD_set _ k j _ _ (by simp; exact hk)]
  by_cases h : k = j
  · rw [if_pos h, if_pos h, getD_set _ i k _ _ hi, if_neg hne]
  · rw [if_neg h, if_neg h, getD_set _ i j _ _ hi]
theorem valI_set : ∀ (l : List Int) (i : Nat) (x : Int), i < l.length → valI (l.set i x) = valI l + (x - l.getD i 0) * 65536 ^ i
  | [], i, x, h => by simp at h
  | y :: l, 0, x, h => by simp [valI]; omega
  | y :: l, i + 1, x, h => by
    have ih := valI_set l i x (by simpa using h)
    rw [List.set_cons_succ, valI, ih, valI]
    have e : (y :: l).getD (i + 1) 0 = l.getD i 0 := by simp
    rw [e, Int.pow_succ 65536 i, Int.mul_add]
    have : 65536 * ((x - l.getD i 0) * 65536 ^ i) = (x - l.getD i 0) * (65536 ^ i * 65536) := by
      rw [Int.mul_comm 65536, Int.mul_assoc]
    omega

/-! ### carrying -/
def cSt (v : List Int) : Nat → List Int
  | 0 => v
  | i + 1 =>
    let s := cSt v i
    let c := s.getD i 0 / 2 ^ 16
    let s1 := s.set i (s.getD i 0 - c * 2 ^ 16)
    if i < 15 then s1.set (i + 1) (s1.getD (i + 1) 0 + c) else s1.set 0 (s1.getD 0 0 + 38 * c)
def carryL (v : List Int) : List Int := cSt v 16
theorem cSt_length (v : List Int) : ∀ i, (cSt v i).length = v.length
  | 0 => rfl
  | i + 1 => by
    have ih := cSt_length v i
    unfold cSt
    simp only
    split <;> simp [ih]
theorem carryL_length (v : List Int) : (carryL v).length = v.length := cSt_length v 16
/-- what is carried into part i -/
def cOut (v : List Int) : Nat → Int
  | 0 => 0
  | i + 1 => (v.getD i 0 + cOut v i) / 65536
theorem cSt_get {v : List Int} (hv : v.length = 16) : ∀ i, i ≤ 15 → ∀ j, j < 16 → (cSt v i).getD j 0 = if j < i then (v.getD j 0 + cOut v j) % 65536 else if j = i then v.getD j 0 + cOut v j else v.getD j 0
  | 0, _, j, hj => by
    rw [cSt, if_neg (by omega)]
    split
    · rename_i h; subst h; simp [cOut]
    · rfl
  | i + 1, hi, j, hj => by
    have ih := cSt_get hv i (by omega)
    have hl := (cSt_length v i).trans hv
    have hsi := ih i (by omega)
    rw [if_neg (by omega), if_pos rfl] at hsi
    have hsi1 := ih (i + 1) (by omega)
    rw [if_neg (by omega), if_neg (by omega)] at hsi1
    unfold cSt
    simp only
    rw [if_pos (by omega), two_set j (by omega) (by omega) (by omega), hsi1, hsi]
    by_cases h1 : i + 1 = j
    · subst h1
      rw [if_pos rfl, if_neg (by omega), if_pos rfl, cOut]
      rfl
    · rw [if_neg h1]
      by_cases h2 : i = j
      · subst h2
        rw [if_pos rfl, if_pos (by omega)]
        have h3 := Int.emod_add_mul_ediv (v.getD i 0 + cOut v i) 65536
        omega
      · rw [if_neg h2, ih j hj]
        by_cases h3 : j < i
        · rw [if_pos h3, if_pos (by omega)]
        · rw [if_neg h3, if_neg (by omega), if_neg (by omega), if_neg (by omega)]
theorem carryL_get {v : List Int} (hv : v.length = 16) (j : Nat) (hj : j < 16) : (carryL v).getD j 0 = if j = 0 then (v.getD 0 0) % 65536 + 38 * cOut v 16 else (v.getD j 0 + cOut v j) % 65536 := by
  have ih := cSt_get hv 15 (by omega)
  have hl := (cSt_length v 15).trans hv
  have hsi := ih 15 (by omega)
  rw [if_neg (by omega), if_pos rfl] at hsi
  have h0 := ih 0 (by omega)
  rw [if_pos (by omega), cOut, Int.add_zero] at h0
  unfold carryL cSt
  simp only
  rw [if_neg (show ¬ (15 < 15) by omega), two_set j (by omega) (by omega) (by omega), h0, hsi]
  by_cases h1 : 0 = j
  · subst h1
    rw [if_pos rfl, if_pos rfl]
    rfl
  · rw [if_neg h1, if_neg (show ¬ j = 0 by omega)]
    by_cases h2 : 15 = j
    · subst h2
      rw [if_pos rfl]
      have h3 := Int.emod_add_mul_ediv (v.getD 15 0 + cOut v 15) 65536
      omega
    · rw [if_neg h2, ih j hj, if_pos (by omega)]
theorem cSt_val {v : List Int} (hv : v.length = 16) : ∀ i, i ≤ 15 → valI (cSt v i) = valI v
  | 0, _ => rfl
  | i + 1, hi => by
    have ih := cSt_val hv i (by omega)
    have hl := (cSt_length v i).trans hv
    unfold cSt
    simp only
    rw [if_pos (by omega), valI_set _ _ _ (by simp [hl]; omega), valI_set _ _ _ (by omega), ih, Int.pow_succ 65536 i]
    generalize (cSt v i).getD i 0 / 2 ^ 16 = c
    have e1 : ∀ a b : Int, a + b - a = b := by intro a b; omega
    have e2 : (cSt v i).getD i 0 - c * 2 ^ 16 - (cSt v i).getD i 0 = -(c * 65536) := by omega
    rw [e1, e2, Int.neg_mul, Int.mul_assoc, Int.mul_comm 65536]
    omega
theorem carryL_val {v : List Int} (hv : v.length = 16) : valI (carryL v) = valI v - 2 * pZ * cOut v 16 := by
  have ih := cSt_val hv 15 (by omega)
  have hl := (cSt_length v 15).trans hv
  have hsi := cSt_get hv 15 (by omega) 15 (by omega)
  rw [if_neg (by omega), if_pos rfl] at hsi
  unfold carryL cSt
  simp only
  rw [if_neg (by omega), valI_set _ _ _ (by simp [hl]), valI_set _ _ _ (by omega), ih, hsi]
  have hc : (v.getD 15 0 + cOut v 15) / 2 ^ 16 = cOut v 16 := rfl
  rw [hc]
  generalize cOut v 16 = c
  have e1 : ∀ a b : Int, a + b - a = b := by intro a b; omega
  have e2 : v.getD 15 0 + cOut v 15 - c * 2 ^ 16 - (v.getD 15 0 + cOut v 15) = -(c * 65536) := by omega
  rw [e1, e2, show (65536 : Int) ^ 15 = 1766847064778384329583297500742918515827483896875618958121606201292619776 by decide, Int.pow_zero]
  simp only [pZ]
  omega
theorem cOut_bound {v : List Int} {M K : Int} (hM : ∀ j, j < 16 → -M ≤ v.getD j 0 ∧ v.getD j 0 ≤ M) (hK : M + K ≤ 65536 * (K - 1)) (hK0 : 0 ≤ K) : ∀ i, i ≤ 16 → -K ≤ cOut v i ∧ cOut v i ≤ K
  | 0, _ => by simp only [cOut]; omega
  | i + 1, hi => by
    have ih := cOut_bound hM hK hK0 i (by omega)
    have h := hM i (by omega)
    simp only [cOut]
    omega
/-- a number as it is kept -/
def okE (v : List Int) : Prop := v.length = 16 ∧ (-131072 ≤ v.getD 0 0 ∧ v.getD 0 0 ≤ 131072) ∧ ∀ j, 1 ≤ j → j < 16 → 0 ≤ v.getD j 0 ∧ v.getD j 0 ≤ 65535
theorem okE.all {v : List Int} (h : okE v) : ∀ j, j < 16 → -131072 ≤ v.getD j 0 ∧ v.getD j 0 ≤ 131072 := by
  intro j hj
  obtain ⟨h1, h2, h3⟩ := h
  by_cases h0 : j = 0
  · subst h0; exact h2
  · have := h3 j (by omega) hj; omega
theorem carryL_okE {v : List Int} (hv : v.length = 16) (hM : ∀ j, j < 16 → -524288 ≤ v.getD j 0 ∧ v.getD j 0 ≤ 524288) : okE (carryL v) := by
  have hc := cOut_bound (K := 10) hM (by omega) (by omega) 16 (by omega)
  refine ⟨(carryL_length v).trans hv, ?_, ?_⟩
  · rw [carryL_get hv 0 (by omega), if_pos rfl]; omega
  · intro j h1 h2
    rw [carryL_get hv j h2, if_neg (by omega)]
    omega
/-- behind a first carry of great parts a second one will do -/
theorem carry2_okE {v : List Int} (hv : v.length = 16) (hM : ∀ j, j < 16 → -1152921504606846976 ≤ v.getD j 0 ∧ v.getD j 0 ≤ 1152921504606846976) : okE (carryL (carryL v)) := by
  have hc := cOut_bound (K := 35184372088832) hM (by omega) (by omega) 16 (by omega)
  have hl := (carryL_length v).trans hv
  have g0 := carryL_get hv 0 (by omega)
  rw [if_pos rfl] at g0
  have gj : ∀ j, 1 ≤ j → j < 16 → 0 ≤ (carryL v).getD j 0 ∧ (carryL v).getD j 0 ≤ 65535 := by
    intro j h1 h2
    rw [carryL_get hv j h2, if_neg (by omega)]
    omega
  generalize carryL v = u at hl g0 gj
  have c1 : -20401094656 ≤ cOut u 1 ∧ cOut u 1 ≤ 20401094656 := by simp only [cOut]; omega
  have g1 := gj 1 (by omega) (by omega)
  have c2 : -311298 ≤ cOut u 2 ∧ cOut u 2 ≤ 311298 := by rw [cOut]; omega
  have g2 := gj 2 (by omega) (by omega)
  have c3 : -6 ≤ cOut u 3 ∧ cOut u 3 ≤ 6 := by rw [cOut]; omega
  have ck : ∀ k, 3 + k ≤ 16 → -6 ≤ cOut u (3 + k) ∧ cOut u (3 + k) ≤ 6 := by
    intro k
    induction k with
    | zero => intro _; exact c3
    | succ k ih =>
      intro h
      have ih := ih (by omega)
      have gk := gj (3 + k) (by omega) (by omega)
      show -6 ≤ (u.getD (3 + k) 0 + cOut u (3 + k)) / 65536 ∧ (u.getD (3 + k) 0 + cOut u (3 + k)) / 65536 ≤ 6
      omega
  have c16 : -6 ≤ cOut u 16 ∧ cOut u 16 ≤ 6 := ck 13 (by omega)
  refine ⟨(carryL_length u).trans hl, ?_, ?_⟩
  · rw [carryL_get hl 0 (by omega), if_pos rfl]; omega
  · intro j h1 h2
    rw [carryL_get hl j h2, if_neg (by omega)]
    omega

/-! ### sums, differences -/
def addSt (e f : List Int) : Nat → List Int
  | 0 => e
  | i + 1 => (addSt e f i).set i ((addSt e f i).getD i 0 + f.getD i 0)
def subSt (e f : List Int) : Nat → List Int
  | 0 => e
  | i + 1 => (subSt e f i).set i ((subSt e f i).getD i 0 - f.getD i 0)
theorem addSt_length (e f : List Int) : ∀ i, (addSt e f i).length = e.length
  | 0 => rfl
  | i + 1 => by rw [addSt, List.length_set, addSt_length]
theorem subSt_length (e f : List Int) : ∀ i, (subSt e f i).length = e.length
  | 0 => rfl
  | i + 1 => by rw [subSt, List.length_set, subSt_length]
theorem addSt_get {e f : List Int} (he : e.length = 16) : ∀ i, i ≤ 16 → ∀ j, (addSt e f i).getD j 0 = if j < i then e.getD j 0 + f.getD j 0 else e.getD j 0
  | 0, _, j => by simp [addSt]
  | i + 1, hi, j => by
    have ih := addSt_get (f := f) he i (by omega)
    rw [addSt, getD_set _ _ _ _ _ (by rw [addSt_length]; omega), ih i, if_neg (show ¬ i < i by omega), ih j]
    by_cases h : i = j
    · subst h; rw [if_pos rfl, if_pos (by omega)]
    · rw [if_neg h]
      by_cases h2 : j < i
      · rw [if_pos h2, if_pos (by omega)]
      · rw [if_neg h2, if_neg (by omega)]
theorem subSt_get {e f : List Int} (he : e.length = 16) : ∀ i, i ≤ 16 → ∀ j, (subSt e f i).getD j 0 = if j < i then e.getD j 0 - f.getD j 0 else e.getD j 0
  | 0, _, j => by simp [subSt]
  | i + 1, hi, j => by
    have ih := subSt_get (f := f) he i (by omega)
    rw [subSt, getD_set _ _ _ _ _ (by rw [subSt_length]; omega), ih i, if_neg (show ¬ i < i by omega), ih j]
    by_cases h : i = j
    · subst h; rw [if_pos rfl, if_pos (by omega)]
    · rw [if_neg h]
      by_cases h2 : j < i
      · rw [if_pos h2, if_pos (by omega)]
      · rw [if_neg h2, if_neg (by omega)]
theorem valI_snoc : ∀ (l : List Int) (i : Nat), i < l.length → valI (l.take (i + 1)) = valI (l.take i) + l.getD i 0 * 65536 ^ i
  | [], i, h => by simp at h
  | x :: l, 0, h => by simp [valI]
  | x :: l, i + 1, h => by
    have ih := valI_snoc l i (by simpa using h)
    rw [List.take_succ_cons, List.take_succ_cons, valI, valI, ih]
    have e : (x :: l).getD (i + 1) 0 = l.getD i 0 := by simp
    rw [e, Int.mul_add, Int.pow_succ 65536 i]
    have : 65536 * (l.getD i 0 * 65536 ^ i) = l.getD i 0 * (65536 ^ i * 65536) := by rw [Int.mul_comm 65536, Int.mul_assoc]
    omega
theorem addSt_val {e f : List Int} (he : e.length = 16) (hf : f.length = 16) : ∀ i, i ≤ 16 → valI (addSt e f i) = valI e + valI (f.take i)
  | 0, _ => by simp [addSt, valI]
  | i + 1, hi => by
    have ih := addSt_val he hf i (by omega)
    rw [addSt, valI_set _ _ _ (by rw [addSt_length]; omega), ih, valI_snoc f i (by omega)]
    have e1 : ∀ a b : Int, a + b - a = b := by intro a b; omega
    rw [e1]
    omega
theorem subSt_val {e f : List Int} (he : e.length = 16) (hf : f.length = 16) : ∀ i, i ≤ 16 → valI (subSt e f i) = valI e - valI (f.take i)
  | 0, _ => by simp [subSt, valI]
  | i + 1, hi => by
    have ih := subSt_val he hf i (by omega)
    rw [subSt, valI_set _ _ _ (by rw [subSt_length]; omega), ih, valI_snoc f i (by omega)]
    have e1 : ∀ a b : Int, a - b - a = -b := by intro a b; omega
    rw [e1, Int.neg_mul]
    omega
def addL (e f : List Int) : List Int := carryL (addSt e f 16)
def subL (e f : List Int) : List Int := carryL (subSt e f 16)
theorem addL_okE {e f : List Int} (he : okE e) (hf : okE f) : okE (addL e f) := by
  refine carryL_okE ((addSt_length e f 16).trans he.1) fun j hj => ?_
  rw [addSt_get he.1 16 (by omega), if_pos hj]
  have h1 := he.all j hj
  have h2 := hf.all j hj
  omega
theorem subL_okE {e f : List Int} (he : okE e) (hf : okE f) : okE (subL e f) := by
  refine carryL_okE ((subSt_length e f 16).trans he.1) fun j hj => ?_
  rw [subSt_get he.1 16 (by omega), if_pos hj]
  have h1 := he.all j hj
  have h2 := hf.all j hj
  omega
theorem addL_val {e f : List Int} (he : okE e) (hf : okE f) : valI (addL e f) % pZ = (valI e + valI f) % pZ := by
  rw [addL, carryL_val ((addSt_length e f 16).trans he.1), addSt_val he.1 hf.1 16 (by omega), List.take_of_length_le (by rw [hf.1]; omega), Int.mul_comm 2, Int.mul_assoc, Int.sub_mul_emod_self_left]
theorem subL_val {e f : List Int} (he : okE e) (hf : okE f) : valI (subL e f) % pZ = (valI e - valI f) % pZ := by
  rw [subL, carryL_val ((subSt_length e f 16).trans he.1), subSt_val he.1 hf.1 16 (by omega), List.take_of_length_le (by rw [hf.1]; omega), Int.mul_comm 2, Int.mul_assoc, Int.sub_mul_emod_self_left]

/-! ### products -/
def mulIn (e f : List Int) (i : Nat) (t : List Int) : Nat → List Int
  | 0 => t
  | k + 1 => (mulIn e f i t k).set (i + k) ((mulIn e f i t k).getD (i + k) 0 + e.getD i 0 * f.getD k 0)
def mulOut (e f : List Int) : Nat → List Int
  | 0 => List.replicate 32 0
  | i + 1 => mulIn e f i (mulOut e f i) 16
theorem mulIn_length (e f : List Int) (i : Nat) (t : List Int) : ∀ k, (mulIn e f i t k).length = t.length
  | 0 => rfl
  | k + 1 => by rw [mulIn, List.length_set, mulIn_length]
theorem mulOut_length (e f : List Int) : ∀ i, (mulOut e f i).length = 32
  | 0 => rfl
  | i + 1 => by rw [mulOut, mulIn_length, mulOut_length]
theorem mulIn_val {e f : List Int} {i : Nat} {t : List Int} (hf : f.length = 16) (hi : i < 16) (ht : t.length = 32) : ∀ k, k ≤ 16 → valI (mulIn e f i t k) = valI t + e.getD i 0 * 65536 ^ i * valI (f.take k)
  | 0, _ => by simp [mulIn, valI]
  | k + 1, hk => by
    have ih := mulIn_val (e := e) (i := i) hf hi ht k (by omega)
    rw [mulIn, valI_set _ _ _ (by rw [mulIn_length]; omega), ih, valI_snoc f k (by omega)]
    have e1 : ∀ a b : Int, a + b - a = b := by intro a b; omega
    rw [e1, Int.pow_add, Int.mul_add]
    have e2 : e.getD i 0 * f.getD k 0 * (65536 ^ i * 65536 ^ k) = e.getD i 0 * 65536 ^ i * (f.getD k 0 * 65536 ^ k) := by
      rw [Int.mul_assoc, Int.mul_assoc, Int.mul_left_comm (f.getD k 0)]
    omega
theorem mulOut_val {e f : List Int} (he : e.length = 16) (hf : f.length = 16) : ∀ i, i ≤ 16 → valI (mulOut e f i) = valI (e.take i) * valI f
  | 0, _ => by
    have : ∀ n, valI (List.replicate n 0) = 0 := by
      intro n
      induction n with
      | zero => rfl
      | succ n ih => rw [List.replicate_succ, valI, ih]; rfl
    rw [mulOut, this]
    simp [valI]
  | i + 1, hi => by
    have ih := mulOut_val he hf i (by omega)
    rw [mulOut, mulIn_val hf (by omega) (mulOut_length e f i) 16 (by omega), ih, valI_snoc e i (by omega), List.take_of_length_le (l := f) (by omega), Int.add_mul]
theorem mulIn_bound {e f : List Int} {i : Nat} {t : List Int} {B M : Int} (he : ∀ j, j < 16 → -B ≤ e.getD j 0 ∧ e.getD j 0 ≤ B) (hf : ∀ j, j < 16 → -B ≤ f.getD j 0 ∧ f.getD j 0 ≤ B) (hB : 0 ≤ B) (hi : i < 16) (ht : t.length = 32)
    (hM : ∀ j, j < 32 → -M ≤ t.getD j 0 ∧ t.getD j 0 ≤ M) : ∀ k, k ≤ 16 → ∀ j, j < 32 → (-(M + B * B) ≤ (mulIn e f i t k).getD j 0 ∧ (mulIn e f i t k).getD j 0 ≤ M + B * B) ∧ (i + k ≤ j → (mulIn e f i t k).getD j 0 = t.getD j 0)
  | 0, _, j, hj => by
    have h := hM j hj
    have hBB : 0 ≤ B * B := Int.mul_nonneg hB hB
    rw [mulIn]
    exact ⟨by omega, fun _ => rfl⟩
  | k + 1, hk, j, hj => by
    have ih := mulIn_bound he hf hB hi ht hM k (by omega)
    have hBB : 0 ≤ B * B := Int.mul_nonneg hB hB
    rw [mulIn, getD_set _ _ _ _ _ (by rw [mulIn_length]; omega)]
    by_cases h : i + k = j
    · subst h
      rw [if_pos rfl, (ih (i + k) (by omega)).2 (Nat.le_refl _)]
      have h1 := hM (i + k) (by omega)
      obtain ⟨a1, a2⟩ := he i (by omega)
      obtain ⟨b1, b2⟩ := hf k (by omega)
      have h2 : (e.getD i 0 * f.getD k 0).natAbs ≤ (B * B).natAbs := by
        rw [Int.natAbs_mul, Int.natAbs_mul]
        exact Nat.mul_le_mul (by omega) (by omega)
      exact ⟨by omega, fun h => by omega⟩
    · rw [if_neg h]
      exact ⟨(ih j hj).1, fun h2 => (ih j hj).2 (by omega)⟩
theorem rep0 (m j : Nat) : (List.replicate m (0 : Int)).getD j 0 = 0 := by
  rw [List.getD_eq_getElem?_getD, List.getElem?_replicate]
  split <;> rfl
theorem mulOut_bound {e f : List Int} {B : Int} (he : ∀ j, j < 16 → -B ≤ e.getD j 0 ∧ e.getD j 0 ≤ B) (hf : ∀ j, j < 16 → -B ≤ f.getD j 0 ∧ f.getD j 0 ≤ B) (hB : 0 ≤ B) : ∀ i : Nat, i ≤ 16 → ∀ j, j < 32 → -((i : Int) * (B * B)) ≤ (mulOut e f i).getD j 0 ∧ (mulOut e f i).getD j 0 ≤ (i : Int) * (B * B)
  | 0, _, j, hj => by
    rw [mulOut, rep0]
    simp
  | i + 1, hi, j, hj => by
    have ih := mulOut_bound he hf hB i (by omega)
    have h := (mulIn_bound (i := i) (M := (i : Int) * (B * B)) he hf hB (by omega) (mulOut_length e f i) ih 16 (by omega) j hj).1
    rw [mulOut]
    have e1 : ((i + 1 : Nat) : Int) * (B * B) = (i : Int) * (B * B) + B * B := by rw [Int.natCast_add, Int.add_mul]; simp
    rw [e1]
    exact h
def foldSt (t : List Int) : Nat → List Int
  | 0 => List.replicate 16 0
  | i + 1 => (foldSt t i).set i (t.getD i 0 + 38 * t.getD (i + 16) 0)
theorem foldSt_length (t : List Int) : ∀ i, (foldSt t i).length = 16
  | 0 => rfl
  | i + 1 => by rw [foldSt, List.length_set, foldSt_length]
theorem foldSt_get {t : List Int} : ∀ i, i ≤ 16 → ∀ j, j < 16 → (foldSt t i).getD j 0 = if j < i then t.getD j 0 + 38 * t.getD (j + 16) 0 else 0
  | 0, _, j, hj => by rw [foldSt, rep0, if_neg (Nat.not_lt_zero j)]
  | i + 1, hi, j, hj => by
    have ih := foldSt_get (t := t) i (by omega)
    rw [foldSt, getD_set _ _ _ _ _ (by rw [foldSt_length]; omega), ih j hj]
    by_cases h : i = j
    · subst h; rw [if_pos rfl, if_pos (by omega)]
    · rw [if_neg h]
      by_cases h2 : j < i
      · rw [if_pos h2, if_pos (by omega)]
      · rw [if_neg h2, if_neg (by omega)]
theorem valI_append : ∀ (a b : List Int), valI (a ++ b) = valI a + 65536 ^ a.length * valI b
  | [], b => by simp [valI]
  | x :: a, b => by
    rw [List.cons_append, valI, valI, valI_append a b, List.length_cons, Int.pow_succ, Int.mul_add]
    have : 65536 ^ a.length * 65536 * valI b = 65536 * (65536 ^ a.length * valI b) := by rw [Int.mul_comm (65536 ^ a.length), Int.mul_assoc]
    omega
theorem foldSt_val {t : List Int} (ht : t.length = 32) : ∀ i, i ≤ 16 → valI (foldSt t i) = valI (t.take i) + 38 * valI ((t.drop 16).take i)
  | 0, _ => by
    have : ∀ n, valI (List.replicate n 0) = 0 := by
      intro n
      induction n with
      | zero => rfl
      | succ n ih => rw [List.replicate_succ, valI, ih]; rfl
    rw [foldSt, this]
    simp [valI]
  | i + 1, hi => by
    have ih := foldSt_val ht i (by omega)
    rw [foldSt, valI_set _ _ _ (by rw [foldSt_length]; omega), ih, foldSt_get i (by omega) i (by omega), if_neg (by omega), valI_snoc t i (by omega), valI_snoc (t.drop 16) i (by rw [List.length_drop]; omega)]
    have e : (t.drop 16).getD i 0 = t.getD (i + 16) 0 := by rw [List.getD_eq_getElem?_getD, List.getElem?_drop, Nat.add_comm, List.getD_eq_getElem?_getD]
    rw [e, Int.sub_zero, Int.add_mul, Int.mul_add, Int.mul_assoc]
    omega
def mulL (e f : List Int) : List Int := carryL (carryL (foldSt (mulOut e f 16) 16))
theorem fold_bound {e f : List Int} (he : okE e) (hf : okE f) : ∀ j, j < 16 → -1152921504606846976 ≤ (foldSt (mulOut e f 16) 16).getD j 0 ∧ (foldSt (mulOut e f 16) 16).getD j 0 ≤ 1152921504606846976 := by
  intro j hj
  rw [foldSt_get 16 (by omega) j hj, if_pos hj]
  have hb := mulOut_bound he.all hf.all (by omega) 16 (by omega)
  have h1 := hb j (by omega)
  have h2 := hb (j + 16) (by omega)
  omega
theorem fold_bound2 {e f : List Int} (he : okE e) (hf : okE f) : ∀ j, j < 16 → -1152921504606846976 ≤ (carryL (foldSt (mulOut e f 16) 16)).getD j 0 ∧ (carryL (foldSt (mulOut e f 16) 16)).getD j 0 ≤ 1152921504606846976 := by
  intro j hj
  have hl := foldSt_length (mulOut e f 16) 16
  have hc := cOut_bound (K := 35184372088832) (fold_bound he hf) (by omega) (by omega) 16 (by omega)
  rw [carryL_get hl j hj]
  split <;> omega
theorem mulL_okE {e f : List Int} (he : okE e) (hf : okE f) : okE (mulL e f) := carry2_okE (foldSt_length _ 16) (fold_bound he hf)
theorem sub_p (a c : Int) : (a - 2 * pZ * c) % pZ = a % pZ := by
  rw [Int.mul_comm 2, Int.mul_assoc]
  exact Int.sub_mul_emod_self_left a pZ (2 * c)
theorem mulL_val {e f : List Int} (he : okE e) (hf : okE f) : valI (mulL e f) % pZ = (valI e * valI f) % pZ := by
  have hl := foldSt_length (mulOut e f 16) 16
  have hm := mulOut_length e f 16
  rw [mulL, carryL_val ((carryL_length _).trans hl), sub_p, carryL_val hl, sub_p, foldSt_val hm 16 (by omega)]
  have hs : valI (mulOut e f 16) = valI ((mulOut e f 16).take 16) + 65536 ^ 16 * valI ((mulOut e f 16).drop 16) := by
    have h1 := valI_append ((mulOut e f 16).take 16) ((mulOut e f 16).drop 16)
    rw [List.take_append_drop, List.length_take, hm] at h1
    exact h1
  have hv := mulOut_val he.1 hf.1 16 (by omega)
  rw [List.take_of_length_le (by rw [he.1]; omega)] at hv
  rw [List.take_of_length_le (l := (mulOut e f 16).drop 16) (by rw [List.length_drop, hm]; omega), ← hv, hs]
  have e2 : valI ((mulOut e f 16).take 16) + 38 * valI ((mulOut e f 16).drop 16) = valI ((mulOut e f 16).take 16) + 65536 ^ 16 * valI ((mulOut e f 16).drop 16) - 2 * pZ * valI ((mulOut e f 16).drop 16) := by
    rw [show (65536 : Int) ^ 16 = 115792089237316195423570985008687907853269984665640564039457584007913129639936 by decide]
    simp only [pZ]
    omega
  rw [e2, sub_p]
/-! ### what any number times comes to 1 -/
def invSt (e : List Int) : Nat → List Int
  | 0 => e
  | k + 1 =>
    let o := mulL (invSt e k) (invSt e k)
    if 253 - k = 2 ∨ 253 - k = 4 then o else mulL o e
def invL (e : List Int) : List Int := invSt e 254
theorem invSt_okE {e : List Int} (he : okE e) : ∀ k, okE (invSt e k)
  | 0 => he
  | k + 1 => by
    have ih := invSt_okE he k
    have h2 := mulL_okE ih ih
    unfold invSt
    simp only
    split
    · exact h2
    · exact mulL_okE h2 he
theorem invL_okE {e : List Int} (he : okE e) : okE (invL e) := invSt_okE he 254
/-- the power that it is -/
def invP : Nat → Nat
  | 0 => 1
  | k + 1 => if 253 - k = 2 ∨ 253 - k = 4 then 2 * invP k else 2 * invP k + 1
theorem invP_all : invP 254 = pN - 2 := by decide +kernel
theorem emod_mul {a b c d m : Int} (h1 : a % m = c % m) (h2 : b % m = d % m) : (a * b) % m = (c * d) % m := by
  rw [Int.mul_emod, h1, h2, ← Int.mul_emod]
theorem emod_add {a b c d m : Int} (h1 : a % m = c % m) (h2 : b % m = d % m) : (a + b) % m = (c + d) % m := by
  rw [Int.add_emod, h1, h2, ← Int.add_emod]
theorem emod_sub {a b c d m : Int} (h1 : a % m = c % m) (h2 : b % m = d % m) : (a - b) % m = (c - d) % m := by
  rw [Int.sub_emod, h1, h2, ← Int.sub_emod]
theorem invSt_val {e : List Int} (he : okE e) : ∀ k, valI (invSt e k) % pZ = (valI e) ^ (invP k) % pZ
  | 0 => by rw [invSt, invP, Int.pow_one]
  | k + 1 => by
    have ih := invSt_val he k
    have hk := invSt_okE he k
    have h2 : valI (mulL (invSt e k) (invSt e k)) % pZ = (valI e) ^ (2 * invP k) % pZ := by
      rw [mulL_val hk hk, emod_mul ih ih, Nat.two_mul, Int.pow_add]
    unfold invSt invP
    simp only
    split
    · exact h2
    · rw [mulL_val (mulL_okE hk hk) he, emod_mul h2 rfl, Int.pow_succ]
theorem invL_val {e : List Int} (he : okE e) : valI (invL e) % pZ = (valI e) ^ (pN - 2) % pZ := by
  rw [invL, invSt_val he 254, invP_all]
/-! ### sums of many -/
def sumL : List (List Int) → List Int → List Int
  | [], a => a
  | e :: r, a => sumL r (addL a e)
end Go.PBYtjllcdgnmdieoaa
