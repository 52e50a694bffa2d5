/- The ladder reckons in the group of the curve, second part: the ladder's steps; secrets commute. No condition. -/
import Derived.Test.YtjllcdgnmdieoaaS07e
namespace Go.PBYtjllcdgnmdieoaa
open Go Go.RowKit
set_option linter.unusedVariables false
set_option maxRecDepth 100000

theorem pneg_add (P Q : Pt) : pneg (padd P Q) = padd (pneg P) (pneg Q) := by
  have h : del (pneg P) (pneg Q) = del P Q := by unfold del pneg; simp only; grind
  unfold padd
  rw [h]
  unfold pneg
  simp only
  congr 1
  · grind
  · congr 1; grind
theorem pO_add (P : Pt) : padd pO P = P := by rw [padd_comm, padd_O]
theorem dif_up {P Q : Pt} (hP : onE P) (hQ : onE Q) : padd P (pneg (padd P Q)) = pneg Q := by
  rw [pneg_add, ← padd_assoc hP (pneg_on hP) (pneg_on hQ), padd_neg hP, pO_add]
theorem dif_dn {P Q : Pt} (hP : onE P) (hQ : onE Q) : padd (padd P Q) (pneg P) = Q := by
  rw [padd_comm P Q, padd_assoc hQ hP (pneg_on hP), padd_neg hP, padd_O]
theorem pmul_two {Q : Pt} (hQ : onE Q) (n : Nat) : pmul (2 * n) Q = padd (pmul n Q) (pmul n Q) := by rw [Nat.two_mul, pmul_add hQ]
theorem pmul_two1 {Q : Pt} (hQ : onE Q) (n : Nat) : pmul (2 * n + 1) Q = padd (pmul n Q) (pmul (n + 1) Q) := by rw [show 2 * n + 1 = n + (n + 1) by omega, pmul_add hQ]
/-- so much do the bits come to -/
def vb (s : Nat → Bool) : Nat → Nat
  | 0 => 0
  | j + 1 => 2 * vb s j + (if s (254 - j) then 1 else 0)
def rel4 (q : Fp × Fp × Fp × Fp) (y z : Fp) : Prop := rel q.1 q.2.2.1 y ∧ rel q.2.1 q.2.2.2 z
abbrev stepF (x : Fp) := stepC (fun a b : Fp => a + b) (fun a b => a - b) (fun a b => a * b) x g24
theorem step_up {Q : Pt} {x : Fp} (hQ : onE Q) (hx : rel x 1 Q.2) (hm : 1 - Q.2 ≠ 0) (hp : 1 + Q.2 ≠ 0) {n : Nat} {q : Fp × Fp × Fp × Fp} (h : rel4 q (pmul n Q).2 (pmul (n + 1) Q).2) :
    rel4 (stepF x q) (pmul (2 * n) Q).2 (pmul (2 * n + 1) Q).2 := by
  obtain ⟨a, b, c, d⟩ := q
  have hd : (padd (pmul n Q) (pneg (pmul (n + 1) Q))).2 = Q.2 := by
    show (padd (pmul n Q) (pneg (padd (pmul n Q) Q))).2 = Q.2
    rw [dif_up (pmul_on hQ n) hQ]; rfl
  refine ⟨?_, ?_⟩
  · rw [pmul_two hQ]; exact rel_dbl (pmul_on hQ n) h.1
  · rw [pmul_two1 hQ]
    refine rel_dif (pmul_on hQ n) (pmul_on hQ (n + 1)) h.1 h.2 ?_ ?_ ?_
    · rw [hd, hx.2]; grind
    · rw [hd]; exact hm
    · rw [hd]; exact hp
theorem step_dn {Q : Pt} {x : Fp} (hQ : onE Q) (hx : rel x 1 Q.2) (hm : 1 - Q.2 ≠ 0) (hp : 1 + Q.2 ≠ 0) {n : Nat} {q : Fp × Fp × Fp × Fp} (h : rel4 q (pmul (n + 1) Q).2 (pmul n Q).2) :
    rel4 (stepF x q) (pmul (2 * n + 2) Q).2 (pmul (2 * n + 1) Q).2 := by
  obtain ⟨a, b, c, d⟩ := q
  have hd : (padd (pmul (n + 1) Q) (pneg (pmul n Q))).2 = Q.2 := by
    show (padd (padd (pmul n Q) Q) (pneg (pmul n Q))).2 = Q.2
    rw [dif_dn (pmul_on hQ n) hQ]
  refine ⟨?_, ?_⟩
  · rw [show 2 * n + 2 = 2 * (n + 1) by omega, pmul_two hQ]; exact rel_dbl (pmul_on hQ (n + 1)) h.1
  · rw [pmul_two1 hQ, padd_comm]
    refine rel_dif (pmul_on hQ (n + 1)) (pmul_on hQ n) h.1 h.2 ?_ ?_ ?_
    · rw [hd, hx.2]; grind
    · rw [hd]; exact hm
    · rw [hd]; exact hp
theorem beg_rel {Q : Pt} {x : Fp} (hx : rel x 1 Q.2) : rel4 (beg x) (pmul 0 Q).2 (pmul 1 Q).2 := by
  refine ⟨⟨fun h => fp_one_ne h.1, ?_⟩, ?_⟩
  · show (1 : Fp) * (1 - 1) = 0 * (1 + 1); decide +kernel
  · rw [pmul_one]; exact hx
theorem lad_rel {Q : Pt} {x : Fp} (hQ : onE Q) (hx : rel x 1 Q.2) (hm : 1 - Q.2 ≠ 0) (hp : 1 + Q.2 ≠ 0) (s : Nat → Bool) : ∀ j, rel4 (ladF x g24 s (beg x) j) (pmul (vb s j) Q).2 (pmul (vb s j + 1) Q).2
  | 0 => beg_rel hx
  | j + 1 => by
    have ih := lad_rel hQ hx hm hp s j
    unfold ladF at ih ⊢
    rw [ladC, vb]
    generalize ladC (fun a b : Fp => a + b) (fun a b => a - b) (fun a b => a * b) x g24 s (beg x) j = q at ih ⊢
    cases hb : s (254 - j)
    · exact step_up hQ hx hm hp ih
    · obtain ⟨a, b, c, d⟩ := q
      have := step_dn (q := (b, a, d, c)) hQ hx hm hp ⟨ih.2, ih.1⟩
      exact ⟨this.2, this.1⟩
theorem mu_one : mu 1 = 0 := by
  unfold mu
  rw [show (1 : Fp) - 1 = 0 by decide +kernel, finv_zero]; decide +kernel
theorem edD_1 : 1 - edD ≠ 0 := by decide +kernel
theorem x_zero {P : Pt} (hP : onE P) (h : P.2 * P.2 = 1) : P.1 = 0 := by
  obtain ⟨X, y⟩ := P
  have h1 : X * X + y * y = 1 + edD * X * X * y * y := hP
  have h2 := edD_1
  simp only at h ⊢
  have h3 : (1 - edD) * (X * X) = 0 := by clear h2 hP; generalize edD = D at *; grind
  rcases mul_zero_or h3 with h3 | h3
  · exact absurd h3 h2
  · rcases mul_zero_or h3 with h3 | h3 <;> exact h3
theorem two_half : padd (0, -1) (0, -1) = pO := by
  unfold padd
  rw [show del (0, -1) (0, -1) = 0 by decide +kernel, show (1 : Fp) + 0 = 1 by decide +kernel, show (1 : Fp) - 0 = 1 by decide +kernel, finv_one]
  decide +kernel
theorem vb_even {s : Nat → Bool} (h0 : s 0 = false) : ∃ m, vb s 255 = m * 2 := ⟨vb s 254, by rw [show (255 : Nat) = 254 + 1 from rfl, vb, show 254 - 254 = 0 from rfl, h0]; simp; omega⟩
/-- the ladder tells the number of so many times the point -/
theorem xm_mu {Q : Pt} (hQ : onE Q) {s : Nat → Bool} (h0 : s 0 = false) : xm s (mu Q.2) = mu (pmul (vb s 255) Q).2 := by
  by_cases hm : 1 - Q.2 = 0
  · have hy : Q.2 = 1 := by grind
    have hx := x_zero hQ (by rw [hy]; decide +kernel)
    have hq : Q = pO := Prod.ext hx hy
    rw [hq, pmul_O]
    show xm s (mu 1) = mu 1
    rw [mu_one, xm_zero]
  by_cases hp : 1 + Q.2 = 0
  · have hy : Q.2 = -1 := by grind
    have hx := x_zero hQ (by rw [hy]; decide +kernel)
    have hq : Q = (0, -1) := Prod.ext hx hy
    obtain ⟨n, hn⟩ := vb_even h0
    have h2 : pmul 2 Q = pO := by
      show padd (padd pO Q) Q = pO
      rw [pO_add, hq, two_half]
    rw [hn, pmul_mul hQ, h2, pmul_O]
    have : mu Q.2 = 0 := by unfold mu; rw [hp]; grind
    rw [this, xm_zero]
    exact mu_one.symm
  · have h := lad_rel hQ (mu_rel hm) hm hp s 255
    exact rel_mu h.1
/-! ### the base point -/
def pB : Pt := (9771384041963202563870679428059935816164187996444183106833894008023910952347, 46316835694926478169428394003475163141307993866256225615783033603165251855960)
theorem pB_on : onE pB := by unfold onE; decide +kernel
theorem pB_mu : mu pB.2 = fz 9 := by
  have h : finv (1 - pB.2) = 5 := finv_unique (by decide +kernel)
  unfold mu
  rw [h]
  decide +kernel
theorem sbit_zero (k : List UInt8) : sbit k 0 = false := rfl
/-- a secret's number -/
def kv (k : List UInt8) : Nat := vb (sbit k) 255
theorem xm_base (k : List UInt8) : xm (sbit k) (fz 9) = mu (pmul (kv k) pB).2 := by
  rw [← pB_mu, xm_mu pB_on (sbit_zero k)]; rfl
theorem xm_pt (k : List UInt8) (n : Nat) : xm (sbit k) (mu (pmul n pB).2) = mu (pmul (kv k * n) pB).2 := by
  rw [xm_mu (pmul_on pB_on n) (sbit_zero k), ← pmul_mul pB_on]; rfl
theorem xm_two (k l : List UInt8) : xm (sbit k) (xm (sbit l) (fz 9)) = xm (sbit l) (xm (sbit k) (fz 9)) := by
  rw [xm_base, xm_base, xm_pt, xm_pt, Nat.mul_comm]
theorem xm_three (k l m : List UInt8) : xm (sbit k) (xm (sbit l) (xm (sbit m) (fz 9))) = xm (sbit m) (xm (sbit l) (xm (sbit k) (fz 9))) := by
  rw [xm_base, xm_base, xm_pt, xm_pt, xm_pt, xm_pt, show kv k * (kv l * kv m) = kv m * (kv l * kv k) by ac_rfl]
theorem xm_swap (k l m : List UInt8) : xm (sbit k) (xm (sbit l) (xm (sbit m) (fz 9))) = xm (sbit l) (xm (sbit k) (xm (sbit m) (fz 9))) := by
  rw [xm_base, xm_pt, xm_pt, xm_pt, xm_pt, Nat.mul_left_comm]
end Go.PBYtjllcdgnmdieoaa
