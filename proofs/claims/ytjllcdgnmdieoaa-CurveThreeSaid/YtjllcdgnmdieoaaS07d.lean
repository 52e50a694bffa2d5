/- The group of the curve, in Edwards' form; what the ladder reckons in it. No condition. -/
import Derived.Test.YtjllcdgnmdieoaaS07
namespace Go.PBYtjllcdgnmdieoaa
open Go Go.RowKit
set_option linter.unusedVariables false
set_option maxRecDepth 100000

def edD : Fp := 20800338683988658368647408995589388737092878452977063003340006470870624536394
theorem edD_g : edD * (g24 + 1) = g24 := by decide +kernel
theorem g24_1 : g24 + 1 ≠ 0 := by decide +kernel
theorem two_ne : (2 : Fp) ≠ 0 := by decide +kernel
theorem pow_val (a : Nat) : ∀ n : Nat, fz ((a : Int) ^ n) = fz (((a ^ n % pN : Nat) : Int)) := fun n => fz_eq (by
  rw [Int.natCast_emod, Int.natCast_pow]
  show _ = ((a : Int) ^ n % pZ) % pZ
  rw [Int.emod_emod])
theorem edD_ns (r : Fp) : r * r ≠ edD := by
  intro h
  have h1 : edD.val ^ ((pN - 1) / 2) % pN = pN - 1 := by
    rw [← pmf_eq pN edD.val (by decide +kernel) 255 ((pN - 1) / 2) (by decide +kernel)]
    decide +kernel
  have hr : r ≠ 0 := by
    intro h0
    rw [h0] at h
    exact absurd h (by decide +kernel)
  have hrv : r.val % pN ≠ 0 := by
    rw [Nat.mod_eq_of_lt r.isLt]
    intro h0
    exact hr (Fin.ext h0)
  have h2 := goP.fermat (by decide +kernel) r.val hrv
  have h3 : edD.val = r.val * r.val % pN := by rw [← h]; rfl
  have h4 : edD.val ^ ((pN - 1) / 2) % pN = 1 := by
    rw [h3, Nat.pow_mod, Nat.mod_mod, ← Nat.pow_mod, ← Nat.pow_two, ← Nat.pow_mul, show 2 * ((pN - 1) / 2) = pN - 1 by decide +kernel]
    exact h2
  rw [h4] at h1
  exact absurd h1 (by decide +kernel)
theorem sub_ne {a b : Fp} (h : a ≠ b) : a - b ≠ 0 := by intro h'; exact h (by grind)
theorem mul_ne {a b : Fp} (ha : a ≠ 0) (hb : b ≠ 0) : a * b ≠ 0 := by
  intro h
  rcases mul_zero_or h with h | h
  · exact ha h
  · exact hb h
theorem mul_can {k a b : Fp} (hk : k ≠ 0) (h : k * a = k * b) : a = b := by
  have h1 : k * (a - b) = 0 := by grind
  rcases mul_zero_or h1 with h1 | h1
  · exact absurd h1 hk
  · grind
theorem div_eq {a b c d : Fp} (hb : b ≠ 0) (hd : d ≠ 0) (h : a * d = c * b) : a * finv b = c * finv d := by
  have h1 := mul_finv hb
  have h2 := mul_finv hd
  refine mul_can (mul_ne hb hd) ?_
  grind
abbrev Pt := Fp × Fp
def onE (P : Pt) : Prop := P.1 * P.1 + P.2 * P.2 = 1 + edD * P.1 * P.1 * P.2 * P.2
def del (P Q : Pt) : Fp := edD * P.1 * Q.1 * P.2 * Q.2
/-- Edwards' numbers under the line are never 0 -/
theorem del_sq {P Q : Pt} (hP : onE P) (hQ : onE Q) : del P Q * del P Q ≠ 1 := by
  obtain ⟨x1, y1⟩ := P
  obtain ⟨x2, y2⟩ := Q
  unfold onE at hP hQ
  unfold del
  simp only at hP hQ ⊢
  generalize hD : edD = D at hP hQ ⊢
  intro h
  have k1 : D * (x1 * y1) * (x1 * y1) * (x2 * x2 + y2 * y2) = x1 * x1 + y1 * y1 := by grind
  obtain ⟨e, he⟩ : ∃ e, e = D * x1 * x2 * y1 * y2 := ⟨_, rfl⟩
  have he2 : e * e = 1 := by rw [he]; exact h
  have k2 : (x1 + e * y1) * (x1 + e * y1) = D * (x1 * y1 * (x2 + y2)) * (x1 * y1 * (x2 + y2)) := by grind
  have k3 : (x1 - e * y1) * (x1 - e * y1) = D * (x1 * y1 * (x2 - y2)) * (x1 * y1 * (x2 - y2)) := by grind
  have hx : x1 ≠ 0 := by intro h0; subst h0; have := fp_one_ne; grind
  have hy : y1 ≠ 0 := by intro h0; subst h0; have := fp_one_ne; grind
  have hx2 : x2 ≠ 0 := by intro h0; subst h0; have := fp_one_ne; grind
  have key : ∀ s t : Fp, t ≠ 0 → s * s = D * t * t → False := by
    intro s t ht hs
    have h5 := mul_finv ht
    refine edD_ns (s * finv t) ?_
    rw [hD]
    grind
  by_cases h6 : x2 + y2 = 0
  · have h7 : x2 - y2 ≠ 0 := by
      intro h8
      have h9 : 2 * x2 = 0 := by grind
      rcases mul_zero_or h9 with h9 | h9
      · exact two_ne h9
      · exact hx2 h9
    exact key _ _ (mul_ne (mul_ne hx hy) h7) k3
  · exact key _ _ (mul_ne (mul_ne hx hy) h6) k2
theorem del_p {P Q : Pt} (hP : onE P) (hQ : onE Q) : 1 + del P Q ≠ 0 := fun h => del_sq hP hQ (by grind)
theorem del_m {P Q : Pt} (hP : onE P) (hQ : onE Q) : 1 - del P Q ≠ 0 := fun h => del_sq hP hQ (by grind)
def padd (P Q : Pt) : Pt := ((P.1 * Q.2 + P.2 * Q.1) * finv (1 + del P Q), (P.2 * Q.2 - P.1 * Q.1) * finv (1 - del P Q))
theorem padd_x {P Q : Pt} (hP : onE P) (hQ : onE Q) : (padd P Q).1 * (1 + del P Q) = P.1 * Q.2 + P.2 * Q.1 := by
  have := mul_finv (del_p hP hQ)
  unfold padd
  simp only
  grind
theorem padd_y {P Q : Pt} (hP : onE P) (hQ : onE Q) : (padd P Q).2 * (1 - del P Q) = P.2 * Q.2 - P.1 * Q.1 := by
  have := mul_finv (del_m hP hQ)
  unfold padd
  simp only
  grind
theorem t_on (D x1 y1 x2 y2 : Fp) (e1 : x1*x1 + y1*y1 = 1 + D*x1*x1*y1*y1) (e2 : x2*x2 + y2*y2 = 1 + D*x2*x2*y2*y2) (a : Fp) (ha : a = D*x1*x2*y1*y2) :
    (x1*y2+y1*x2)*(x1*y2+y1*x2)*(1-a)*(1-a) + (y1*y2-x1*x2)*(y1*y2-x1*x2)*(1+a)*(1+a) = (1+a)*(1+a)*(1-a)*(1-a) + D*(x1*y2+y1*x2)*(x1*y2+y1*x2)*(y1*y2-x1*x2)*(y1*y2-x1*x2) := by grind
theorem t_assoc (D x1 y1 x2 y2 x3 y3 : Fp) (e1 : x1*x1 + y1*y1 = 1 + D*x1*x1*y1*y1) (e2 : x2*x2 + y2*y2 = 1 + D*x2*x2*y2*y2) (e3 : x3*x3 + y3*y3 = 1 + D*x3*x3*y3*y3) :
    ((x1*y2+y1*x2)*(1-D*x1*x2*y1*y2)*y3 + (y1*y2-x1*x2)*(1+D*x1*x2*y1*y2)*x3) * ((1+D*x2*x3*y2*y3)*(1-D*x2*x3*y2*y3) + D*(x2*y3+y2*x3)*(y2*y3-x2*x3)*x1*y1)
    = (x1*(y2*y3-x2*x3)*(1+D*x2*x3*y2*y3) + y1*(x2*y3+y2*x3)*(1-D*x2*x3*y2*y3)) * ((1+D*x1*x2*y1*y2)*(1-D*x1*x2*y1*y2) + D*(x1*y2+y1*x2)*(y1*y2-x1*x2)*x3*y3) := by grind
theorem t_assocy (D x1 y1 x2 y2 x3 y3 : Fp) (e1 : x1*x1 + y1*y1 = 1 + D*x1*x1*y1*y1) (e2 : x2*x2 + y2*y2 = 1 + D*x2*x2*y2*y2) (e3 : x3*x3 + y3*y3 = 1 + D*x3*x3*y3*y3) :
    ((y1*y2-x1*x2)*(1+D*x1*x2*y1*y2)*y3 - (x1*y2+y1*x2)*(1-D*x1*x2*y1*y2)*x3) * ((1+D*x2*x3*y2*y3)*(1-D*x2*x3*y2*y3) - D*(x2*y3+y2*x3)*(y2*y3-x2*x3)*x1*y1)
    = (y1*(y2*y3-x2*x3)*(1+D*x2*x3*y2*y3) - x1*(x2*y3+y2*x3)*(1-D*x2*x3*y2*y3)) * ((1+D*x1*x2*y1*y2)*(1-D*x1*x2*y1*y2) - D*(x1*y2+y1*x2)*(y1*y2-x1*x2)*x3*y3) := by grind
theorem padd_on {P Q : Pt} (hP : onE P) (hQ : onE Q) : onE (padd P Q) := by
  have hx := padd_x hP hQ
  have hy := padd_y hP hQ
  have h1 := del_p hP hQ
  have h2 := del_m hP hQ
  obtain ⟨⟨s, t⟩, hS⟩ : ∃ S, padd P Q = S := ⟨_, rfl⟩
  obtain ⟨x1, y1⟩ := P
  obtain ⟨x2, y2⟩ := Q
  rw [hS] at hx hy ⊢
  unfold onE at hP hQ ⊢
  have ht := t_on edD x1 y1 x2 y2 hP hQ (del (x1, y1) (x2, y2)) rfl
  simp only at hx hy ⊢
  generalize del (x1, y1) (x2, y2) = a at hx hy h1 h2 ht
  rw [← hx, ← hy] at ht
  have hk := mul_ne (mul_ne h1 h1) (mul_ne h2 h2)
  refine mul_can hk ?_
  clear hP hQ hS hx hy h1 h2 hk
  generalize edD = D at *
  grind
theorem padd_comm (P Q : Pt) : padd P Q = padd Q P := by
  have h : del P Q = del Q P := by unfold del; grind
  unfold padd
  rw [h]
  congr 1
  · congr 1; grind
  · congr 1; grind
def pO : Pt := (0, 1)
theorem pO_on : onE pO := by unfold onE pO; grind
theorem finv_one : finv 1 = 1 := finv_unique (by grind)
theorem padd_O (P : Pt) : padd P pO = P := by
  have h : del P pO = 0 := by unfold del pO; grind
  unfold padd
  rw [h, show (1 : Fp) + 0 = 1 by decide +kernel, show (1 : Fp) - 0 = 1 by decide +kernel, finv_one]
  unfold pO
  obtain ⟨x, y⟩ := P
  simp only
  congr 1
  · grind
  · grind
def pneg (P : Pt) : Pt := (-P.1, P.2)
theorem pneg_on {P : Pt} (h : onE P) : onE (pneg P) := by unfold onE pneg at *; simp only; grind
theorem padd_neg {P : Pt} (h : onE P) : padd P (pneg P) = pO := by
  have hx := padd_x h (pneg_on h)
  have hy := padd_y h (pneg_on h)
  have h1 := del_p h (pneg_on h)
  have h2 := del_m h (pneg_on h)
  have e1 : (padd P (pneg P)).1 = 0 := by
    refine mul_can h1 ?_
    unfold pneg at *
    simp only at *
    grind
  have e2 : (padd P (pneg P)).2 = 1 := by
    refine mul_can h2 ?_
    unfold onE at h
    unfold del pneg at *
    simp only at *
    grind
  exact Prod.ext e1 e2
theorem padd_assoc {P Q R : Pt} (hP : onE P) (hQ : onE Q) (hR : onE R) : padd (padd P Q) R = padd P (padd Q R) := by
  have hS := padd_on hP hQ
  have hT := padd_on hQ hR
  have sx := padd_x hP hQ
  have sy := padd_y hP hQ
  have tx := padd_x hQ hR
  have ty := padd_y hQ hR
  have a1 := del_p hP hQ
  have a2 := del_m hP hQ
  have b1 := del_p hQ hR
  have b2 := del_m hQ hR
  have c1 := del_p hS hR
  have c2 := del_m hS hR
  have d1 := del_p hP hT
  have d2 := del_m hP hT
  rw [show padd (padd P Q) R = (((padd P Q).1 * R.2 + (padd P Q).2 * R.1) * finv (1 + del (padd P Q) R), ((padd P Q).2 * R.2 - (padd P Q).1 * R.1) * finv (1 - del (padd P Q) R)) from rfl,
    show padd P (padd Q R) = ((P.1 * (padd Q R).2 + P.2 * (padd Q R).1) * finv (1 + del P (padd Q R)), (P.2 * (padd Q R).2 - P.1 * (padd Q R).1) * finv (1 - del P (padd Q R))) from rfl]
  generalize padd P Q = S at *
  generalize padd Q R = T at *
  obtain ⟨x1, y1⟩ := P
  obtain ⟨x2, y2⟩ := Q
  obtain ⟨x3, y3⟩ := R
  obtain ⟨s, t⟩ := S
  obtain ⟨u, v⟩ := T
  have kx := t_assoc edD x1 y1 x2 y2 x3 y3 hP hQ hR
  have ky := t_assocy edD x1 y1 x2 y2 x3 y3 hP hQ hR
  clear hP hQ hR hS hT
  unfold del at *
  simp only at *
  generalize edD = D at *
  rw [← sx, ← sy, ← tx, ← ty] at kx ky
  have hk := mul_ne (mul_ne a1 a2) (mul_ne b1 b2)
  generalize D * x1 * x2 * y1 * y2 = a at *
  generalize D * x2 * x3 * y2 * y3 = b at *
  congr 1
  · refine div_eq c1 d1 (mul_can hk ?_)
    clear ky sx sy tx ty a1 a2 b1 b2 c1 c2 d1 d2 hk
    grind
  · refine div_eq c2 d2 (mul_can hk ?_)
    clear kx sx sy tx ty a1 a2 b1 b2 c1 c2 d1 d2 hk
    grind
/-! ### so many times a point -/
def pmul : Nat → Pt → Pt
  | 0, _ => pO
  | k + 1, P => padd (pmul k P) P
theorem pmul_on {P : Pt} (h : onE P) : ∀ k, onE (pmul k P)
  | 0 => pO_on
  | k + 1 => padd_on (pmul_on h k) h
theorem pmul_add {P : Pt} (h : onE P) (i : Nat) : ∀ j, pmul (i + j) P = padd (pmul i P) (pmul j P)
  | 0 => by rw [Nat.add_zero, pmul, padd_O]
  | j + 1 => by
    show padd (pmul (i + j) P) P = padd (pmul i P) (padd (pmul j P) P)
    rw [pmul_add h i j, padd_assoc (pmul_on h i) (pmul_on h j) h]
theorem pmul_mul {P : Pt} (h : onE P) (j : Nat) : ∀ i, pmul (i * j) P = pmul i (pmul j P)
  | 0 => by rw [Nat.zero_mul]; rfl
  | i + 1 => by rw [Nat.succ_mul, pmul_add h, pmul_mul h j i]; rfl
theorem pmul_O : ∀ k, pmul k pO = pO
  | 0 => rfl
  | k + 1 => by rw [pmul, pmul_O k, padd_O]
theorem pmul_one (P : Pt) : pmul 1 P = P := by
  show padd pO P = P
  rw [padd_comm, padd_O]
end Go.PBYtjllcdgnmdieoaa
