/- The field of 2^255 - 19 numbers, as a ring in which equations can be reckoned. No condition. -/
import Derived.Test.YtjllcdgnmdieoaaS06c
import Derived.Test.YtjllcdgnmdieoaaSG
namespace Go.PBYtjllcdgnmdieoaa
open Go Go.RowKit
set_option linter.unusedVariables false

theorem pN_pos : 0 < pN := by unfold pN; omega
instance instNZp : NeZero pN := ⟨by unfold pN; omega⟩
abbrev Fp := Fin pN
theorem pZ_pN : pZ = (pN : Int) := rfl
def fz (x : Int) : Fp := ⟨(x % pZ).toNat, by
  have h1 : 0 ≤ x % pZ := Int.emod_nonneg _ (by decide)
  have h2 : x % pZ < pZ := Int.emod_lt_of_pos _ (by decide)
  unfold pN
  simp only [pZ] at *
  omega⟩
theorem fz_val (x : Int) : ((fz x).val : Int) = x % pZ := by
  have h1 : 0 ≤ x % pZ := Int.emod_nonneg _ (by decide)
  show ((x % pZ).toNat : Int) = x % pZ
  omega
theorem fz_eq {x y : Int} (h : x % pZ = y % pZ) : fz x = fz y := by
  apply Fin.ext
  show (x % pZ).toNat = (y % pZ).toNat
  rw [h]
theorem fz_inj {x y : Int} (h : fz x = fz y) : x % pZ = y % pZ := by
  have := congrArg (fun a : Fp => (a.val : Int)) h
  simpa only [fz_val] using this
theorem fz_mod (x : Int) : fz (x % pZ) = fz x := fz_eq (Int.emod_emod x pZ)
theorem fp_ext {a b : Fp} (h : (a.val : Int) = (b.val : Int)) : a = b := Fin.ext (by omega)
theorem fz_add (x y : Int) : fz (x + y) = fz x + fz y := by
  apply fp_ext
  rw [fz_val, Fin.val_add, Int.natCast_emod, Int.natCast_add, fz_val, fz_val]
  exact Int.add_emod x y pZ
theorem fz_mul (x y : Int) : fz (x * y) = fz x * fz y := by
  apply fp_ext
  rw [fz_val, Fin.val_mul, Int.natCast_emod, Int.natCast_mul, fz_val, fz_val]
  exact Int.mul_emod x y pZ
theorem fz_sub (x y : Int) : fz (x - y) = fz x - fz y := by
  have h : fz (x - y) + fz y = fz x := by rw [← fz_add, Int.sub_add_cancel]
  rw [← h]
  grind
theorem fz_zero : fz 0 = 0 := rfl
theorem fz_one : fz 1 = 1 := rfl
theorem fz_of (a : Fp) : fz (a.val : Int) = a := by
  apply fp_ext
  rw [fz_val]
  have := a.isLt
  unfold pN at this
  simp only [pZ]
  omega
/-! ### what a number times comes to 1 -/
def finv (a : Fp) : Fp := fz ((a.val : Int) ^ (pN - 2))
theorem fz_pow (x : Int) : ∀ n : Nat, fz (x ^ n) = fz (((fz x).val : Int) ^ n)
  | 0 => by rw [Int.pow_zero, Int.pow_zero]
  | n + 1 => by rw [Int.pow_succ, Int.pow_succ, fz_mul, fz_mul, ← fz_pow x n, fz_of]
theorem finv_fz (x : Int) : fz (x ^ (pN - 2)) = finv (fz x) := fz_pow x _
theorem goP : Goes pN 2 := go57896044618658097711785492504343953926634992332820282019728792003956564819949.1
theorem mul_finv {a : Fp} (h : a ≠ 0) : a * finv a = 1 := by
  have h1 : a.val % pN ≠ 0 := by
    rw [Nat.mod_eq_of_lt a.isLt]
    intro h0
    exact h (Fin.ext h0)
  have h2 : a.val ^ (pN - 1) % pN = 1 := goP.fermat (by unfold pN; omega) a.val h1
  have e : a = fz (a.val : Int) := (fz_of a).symm
  have e2 : a * finv a = fz ((a.val : Int) * (a.val : Int) ^ (pN - 2)) := by rw [fz_mul, fz_of]; rfl
  rw [e2]
  have e3 : (a.val : Int) * (a.val : Int) ^ (pN - 2) = ((a.val ^ (pN - 1) : Nat) : Int) := by
    rw [Int.mul_comm, ← Int.pow_succ, show (pN - 2).succ = pN - 1 by unfold pN; omega, Int.natCast_pow]
  rw [e3]
  apply fp_ext
  rw [fz_val]
  have h3 : ((a.val ^ (pN - 1) % pN : Nat) : Int) = ((1 : Nat) : Int) := congrArg (fun x : Nat => (x : Int)) h2
  rw [Int.natCast_emod] at h3
  exact h3
theorem finv_zero : finv 0 = 0 := by
  have e : (((0 : Fp).val : Int)) ^ (pN - 2) = 0 := by
    rw [show pN - 2 = (pN - 3) + 1 by unfold pN; omega, Int.pow_succ]
    exact Int.mul_zero _
  unfold finv
  rw [e]
  rfl
theorem fp_one_ne : (1 : Fp) ≠ 0 := by decide
theorem mul_zero_or {a b : Fp} (h : a * b = 0) : a = 0 ∨ b = 0 := by
  by_cases ha : a = 0
  · exact .inl ha
  · right
    have := mul_finv ha
    grind
theorem finv_unique {a b : Fp} (h : a * b = 1) : finv a = b := by
  have ha : a ≠ 0 := by rintro rfl; have := fp_one_ne; grind
  have := mul_finv ha
  grind
theorem finv_ne {a : Fp} (h : a ≠ 0) : finv a ≠ 0 := by
  intro h0
  have := mul_finv h
  rw [h0] at this
  have h1 := fp_one_ne
  grind
theorem finv_finv (a : Fp) : finv (finv a) = a := by
  by_cases h : a = 0
  · rw [h, finv_zero, finv_zero]
  · exact finv_unique (by have := mul_finv h; grind)
/-! ### lists as such numbers -/
def ef (e : List Int) : Fp := fz (valI e)
def rf (n : List Nat) : Fp := fz (valI (cz n))
/-- the number of bytes -/
def lf (k : List UInt8) : Fp := fz (leZ k % 57896044618658097711785492504343953926634992332820282019728792003956564819968)
/-- the bytes of a number -/
def kf (a : Fp) : List UInt8 := bN 32 a.val
theorem kf_length (a : Fp) : (kf a).length = 32 := bN_length 32 _
theorem keyV_kf (x : Int) : keyV x = kf (fz x) := rfl
theorem keyL_kf {e : List Int} (h : okE e) : keyL e = kf (ef e) := keyL_V h
theorem ef_addL {e f : List Int} (he : okE e) (hf : okE f) : ef (addL e f) = ef e + ef f := by rw [ef, fz_eq (addL_val he hf), fz_add]; rfl
theorem ef_subL {e f : List Int} (he : okE e) (hf : okE f) : ef (subL e f) = ef e - ef f := by rw [ef, fz_eq (subL_val he hf), fz_sub]; rfl
theorem ef_mulL {e f : List Int} (he : okE e) (hf : okE f) : ef (mulL e f) = ef e * ef f := by rw [ef, fz_eq (mulL_val he hf), fz_mul]; rfl
theorem ef_invL {e : List Int} (he : okE e) : ef (invL e) = finv (ef e) := by rw [ef, fz_eq (invL_val he), finv_fz]; rfl
theorem ef_ofL {k : List UInt8} (hk : k.length = 32) : ef (ofL k) = lf k := by rw [ef, ofL_val hk]; rfl
theorem rf_addL {a b : List Nat} (ha : digN a) (hb : digN b) : rf (raddL a b) = rf a + rf b := by rw [rf, fz_eq (raddL_val ha hb), fz_add]; rfl
theorem rf_subL {a b : List Nat} (ha : digN a) (hb : digN b) : rf (rsubL a b) = rf a - rf b := by rw [rf, fz_eq (rsubL_val ha hb), fz_sub]; rfl
theorem rf_mulL {a b : List Nat} (ha : digN a) (hb : digN b) : rf (rmulL a b) = rf a * rf b := by rw [rf, fz_eq (rmulL_val ha hb), fz_mul]; rfl
theorem rf_invL {a : List Nat} (ha : digN a) : rf (rinvL a) = finv (rf a) := by rw [rf, fz_eq (rinvL_val ha), finv_fz]; rfl
theorem rf_ofL {k : List UInt8} (hk : k.length = 32) : rf (rofL k) = lf k := by rw [rf, cz_rofL]; exact ef_ofL hk
theorem keyR_kf (n : List Nat) : keyV (valI (cz n)) = kf (rf n) := rfl
theorem leZ_kf (a : Fp) : leZ (kf a) = (a.val : Int) := by
  refine leZ_bN 32 a.val ?_
  have := a.isLt
  unfold pN at this
  have e : (256 : Nat) ^ 32 = 115792089237316195423570985008687907853269984665640564039457584007913129639936 := by decide
  omega
theorem lf_kf (a : Fp) : lf (kf a) = a := by
  have := a.isLt
  unfold pN at this
  rw [lf, leZ_kf, Int.emod_eq_of_lt (by omega) (by omega), fz_of]
theorem kf_inj {a b : Fp} (h : kf a = kf b) : a = b := by rw [← lf_kf a, h, lf_kf]
theorem kf_zero : kf 0 = List.replicate 32 0 := by decide +kernel
theorem kf_one : kf 1 = 1 :: List.replicate 31 0 := by decide +kernel
theorem kf_eq_zero (a : Fp) : kf a = List.replicate 32 0 ↔ a = 0 := ⟨fun h => kf_inj (h.trans kf_zero.symm), fun h => by rw [h, kf_zero]⟩
/-- a small number's bytes -/
def smallB (x : UInt8) : List UInt8 := x :: List.replicate 31 0
theorem smallB_length (x : UInt8) : (smallB x).length = 32 := by simp [smallB]
theorem lf_small (x : UInt8) : lf (smallB x) = fz (x.toNat : Int) := by
  have := UInt8.toNat_lt x
  rw [lf, smallB, leZ, leZ_rep]
  congr 1
  omega
theorem lf_zero : lf (List.replicate 32 0) = 0 := by rw [lf, leZ_rep]; rfl
end Go.PBYtjllcdgnmdieoaa
