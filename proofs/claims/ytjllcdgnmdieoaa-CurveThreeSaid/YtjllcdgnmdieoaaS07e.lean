/- The ladder reckons in the group of the curve: what comes of a secret and a point's number is the number of so many times the point. No condition. -/
import Derived.Test.YtjllcdgnmdieoaaS07d
namespace Go.PBYtjllcdgnmdieoaa
open Go Go.RowKit
set_option linter.unusedVariables false
set_option maxRecDepth 100000

/-- the number of a point by its second coordinate -/
def mu (y : Fp) : Fp := (1 + y) * finv (1 - y)
/-- a over c stands for the number of the point -/
def rel (a c y : Fp) : Prop := ¬ (a = 0 ∧ c = 0) ∧ a * (1 - y) = c * (1 + y)
theorem rel_par {a c y : Fp} (h : rel a c y) : ∃ t, t ≠ 0 ∧ a = t * (1 + y) ∧ c = t * (1 - y) := by
  obtain ⟨h1, h2⟩ := h
  have h3 := mul_finv two_ne
  refine ⟨(a + c) * finv 2, ?_, ?_, ?_⟩
  · intro h0
    rcases mul_zero_or h0 with h0 | h0
    · have e1 : 2 * a = 0 := by grind
      rcases mul_zero_or e1 with e1 | e1
      · exact two_ne e1
      · exact h1 ⟨e1, by grind⟩
    · exact finv_ne two_ne h0
  · refine mul_can two_ne ?_; grind
  · refine mul_can two_ne ?_; grind
theorem rel_mk {a c y t : Fp} (ht : t ≠ 0) (ha : a = t * (1 + y)) (hc : c = t * (1 - y)) : rel a c y := by
  refine ⟨?_, by grind⟩
  rintro ⟨h1, h2⟩
  have e : t * 2 = 0 := by grind
  rcases mul_zero_or e with e | e
  · exact ht e
  · exact two_ne e
theorem rel_mu {a c y : Fp} (h : rel a c y) : a * finv c = mu y := by
  obtain ⟨t, ht, ha, hc⟩ := rel_par h
  unfold mu
  by_cases h1 : 1 - y = 0
  · rw [h1, hc, h1, finv_zero, show t * 0 = 0 by grind, finv_zero]; grind
  · have hc0 : c ≠ 0 := by rw [hc]; exact mul_ne ht h1
    exact div_eq hc0 h1 (by grind)
theorem mu_rel {y : Fp} (h1 : 1 - y ≠ 0) : rel (mu y) 1 y := by
  refine ⟨fun h => fp_one_ne h.2, ?_⟩
  have := mul_finv h1
  unfold mu
  grind
theorem dbl_key {X y : Fp} (h : onE (X, y)) : (1 - X * X) * (1 + g24 * (1 - y * y)) = y * y := by
  have hg := edD_g
  unfold onE at h
  simp only at h
  generalize edD = D at h hg
  generalize g24 = g at hg ⊢
  grind
theorem rel_dbl {P : Pt} {a c : Fp} (hP : onE P) (h : rel a c P.2) :
    rel ((a + c) * (a + c) * ((a - c) * (a - c))) (((a + c) * (a + c) - (a - c) * (a - c)) * ((a + c) * (a + c) + g24 * ((a + c) * (a + c) - (a - c) * (a - c)))) (padd P P).2 := by
  have hy := padd_y hP hP
  have hd := del_m hP hP
  obtain ⟨X, y⟩ := P
  have hk := dbl_key hP
  obtain ⟨t, ht, ha, hc⟩ := rel_par h
  generalize (padd (X, y) (X, y)).2 = z at *
  have hdel : del (X, y) (X, y) = X * X + y * y - 1 := by unfold onE at hP; unfold del; simp only at *; grind
  rw [hdel] at hy hd
  simp only at hy ha hc hk
  clear h
  have hD : X * X + y * y = 1 + edD * X * X * y * y := hP
  clear hP hdel
  generalize hg : g24 = g at *
  have h2 := two_ne
  have ea : (a + c) * (a + c) * ((a - c) * (a - c)) = 16 * (t * t * (t * t)) * (y * y) := by rw [ha, hc]; grind
  have ec : ((a + c) * (a + c) - (a - c) * (a - c)) * ((a + c) * (a + c) + g * ((a + c) * (a + c) - (a - c) * (a - c))) = 16 * (t * t * (t * t)) * ((1 - y * y) * (1 + g * (1 - y * y))) := by rw [ha, hc]; grind
  rw [ea, ec]
  have h16 : (16 : Fp) ≠ 0 := by decide +kernel
  have ht4 : 16 * (t * t * (t * t)) ≠ 0 := mul_ne h16 (mul_ne (mul_ne ht ht) (mul_ne ht ht))
  generalize 16 * (t * t * (t * t)) = k at ht4 ⊢
  refine ⟨?_, ?_⟩
  · rintro ⟨z1, z2⟩
    rcases mul_zero_or z1 with z1 | z1
    · exact ht4 z1
    · rw [z1] at z2
      rcases mul_zero_or z2 with z2 | z2
      · exact ht4 z2
      · have := g24_1
        rw [hg] at this
        exact this (by grind)
  · refine mul_can hd ?_
    clear ea ec ha hc ht
    have e1 : (1 - z) * (1 - (X * X + y * y - 1)) = 2 * (1 - y * y) := by grind
    have e2 : (1 + z) * (1 - (X * X + y * y - 1)) = 2 * (1 - X * X) := by grind
    generalize 1 - (X * X + y * y - 1) = m at *
    have e3 : m * (k * (y * y) * (1 - z)) = k * (y * y) * (2 * (1 - y * y)) := by rw [← e1]; grind
    have e4 : m * (k * ((1 - y * y) * (1 + g * (1 - y * y))) * (1 + z)) = k * ((1 - y * y) * (1 + g * (1 - y * y))) * (2 * (1 - X * X)) := by rw [← e2]; grind
    rw [e3, e4]
    clear e1 e2 e3 e4 hy
    grind
theorem t_dif (D X2 y2 X3 y3 : Fp) (e2 : X2 * X2 + y2 * y2 = 1 + D * X2 * X2 * y2 * y2) (e3 : X3 * X3 + y3 * y3 = 1 + D * X3 * X3 * y3 * y3) (a : Fp) (ha : a = D * X2 * X3 * y2 * y3) :
    (1 - a + y2 * y3 - X2 * X3) * (1 + a + y2 * y3 + X2 * X3) * ((y2 - y3) * (y2 - y3)) = (1 - a - y2 * y3 + X2 * X3) * (1 + a - y2 * y3 - X2 * X3) * ((y2 + y3) * (y2 + y3)) := by grind
theorem r_sub {z m s : Fp} (h : z * m = s) : (1 - z) * m = m - s ∧ (1 + z) * m = m + s := by constructor <;> grind
theorem r_sub4 {z v e y2 y3 X2 X3 : Fp} (sy : z * (1 - e) = y2 * y3 - X2 * X3) (ty : v * (1 - -e) = y2 * y3 - X2 * -X3) :
    (1 - z) * (1 - e) = 1 - e - y2 * y3 + X2 * X3 ∧ (1 + z) * (1 - e) = 1 - e + y2 * y3 - X2 * X3 ∧ (1 - v) * (1 + e) = 1 + e - y2 * y3 - X2 * X3 ∧ (1 + v) * (1 + e) = 1 + e + y2 * y3 + X2 * X3 := by
  refine ⟨?_, ?_, ?_, ?_⟩
  · clear ty; grind
  · clear ty; grind
  · clear sy; grind
  · clear sy; grind
theorem on_y0 {X y D : Fp} (h : X * X + y * y = 1 + D * X * X * y * y) (hy : y = 0) : X * X = 1 := by
  have h1 : X * X - 1 = y * (D * X * X * y - y) := by grind
  have h2 : X * X - 1 = 0 := by rw [h1]; generalize D * X * X * y - y = k; rw [hy]; grind
  clear h h1
  grind
theorem rel_dif {P Q : Pt} {a b c d x : Fp} (hP : onE P) (hQ : onE Q) (h1 : rel a c P.2) (h2 : rel b d Q.2)
    (hx : x * (1 - (padd P (pneg Q)).2) = 1 + (padd P (pneg Q)).2) (hm : 1 - (padd P (pneg Q)).2 ≠ 0) (hp : 1 + (padd P (pneg Q)).2 ≠ 0) :
    rel (((b - d) * (a + c) + (b + d) * (a - c)) * ((b - d) * (a + c) + (b + d) * (a - c))) (x * (((b - d) * (a + c) - (b + d) * (a - c)) * ((b - d) * (a + c) - (b + d) * (a - c)))) (padd P Q).2 := by
  have sy := padd_y hP hQ
  have ty := padd_y hP (pneg_on hQ)
  have n1 := del_m hP hQ
  have n2 := del_p hP hQ
  generalize (padd P (pneg Q)).2 = v at *
  generalize (padd P Q).2 = z at *
  obtain ⟨X2, y2⟩ := P
  obtain ⟨X3, y3⟩ := Q
  have hdn : del (X2, y2) (pneg (X3, y3)) = - del (X2, y2) (X3, y3) := by unfold del pneg; simp only; grind
  rw [hdn] at ty
  unfold pneg at ty
  simp only at sy ty h1 h2
  obtain ⟨t, ht, ha, hc⟩ := rel_par h1
  obtain ⟨s, hs, hb, hd⟩ := rel_par h2
  have key := t_dif edD X2 y2 X3 y3 hP hQ _ (rfl : del (X2, y2) (X3, y3) = _)
  clear h1 h2
  have dq : del (X2, y2) (X3, y3) = edD * X2 * X3 * y2 * y3 := rfl
  have o2 : X2 * X2 + y2 * y2 = 1 + edD * X2 * X2 * y2 * y2 := hP
  have o3 : X3 * X3 + y3 * y3 = 1 + edD * X3 * X3 * y3 * y3 := hQ
  clear hP hQ hdn
  generalize del (X2, y2) (X3, y3) = e at *
  have h4 : (4 : Fp) ≠ 0 := by decide +kernel
  have hk := mul_ne h4 (mul_ne ht hs)
  have ea : (b - d) * (a + c) + (b + d) * (a - c) = 4 * (t * s) * (y2 + y3) := by rw [ha, hb, hc, hd]; grind
  have ec : (b - d) * (a + c) - (b + d) * (a - c) = 4 * (t * s) * (y3 - y2) := by rw [ha, hb, hc, hd]; grind
  rw [ea, ec]
  clear ea ec ha hb hc hd ht hs
  generalize 4 * (t * s) = k at hk ⊢
  have hx0 : x ≠ 0 := by
    rintro rfl
    exact hp (by grind)
  refine ⟨?_, ?_⟩
  · rintro ⟨z1, z2⟩
    have w1 : y2 + y3 = 0 := by
      rcases mul_zero_or z1 with q | q
      · rcases mul_zero_or q with q | q
        · exact absurd q hk
        · exact q
      · rcases mul_zero_or q with q | q
        · exact absurd q hk
        · exact q
    have w2 : y3 - y2 = 0 := by
      rcases mul_zero_or z2 with q | q
      · exact absurd q hx0
      rcases mul_zero_or q with q | q
      · rcases mul_zero_or q with q | q
        · exact absurd q hk
        · exact q
      · rcases mul_zero_or q with q | q
        · exact absurd q hk
        · exact q
    have w3 : 2 * y2 = 0 := by grind
    have w4 : y2 = 0 := by
      rcases mul_zero_or w3 with q | q
      · exact absurd q two_ne
      · exact q
    have w5 : y3 = 0 := by grind
    have q3 := on_y0 o2 w4
    have q4 := on_y0 o3 w5
    subst w4 w5
    clear key n1 n2 sy z1 z2 w1 w2 w3
    have q1 : v = X2 * X3 := by grind
    have q2 : (1 - v) * (1 + v) = 0 := by
      rw [show (1 - v) * (1 + v) = 1 - v * v by clear hx hm hp ty q1 q3 q4 dq o2 o3 hk hx0; grind, q1, show X2 * X3 * (X2 * X3) = X2 * X2 * (X3 * X3) by clear hx hm hp ty q1 q3 q4 dq o2 o3 hk hx0; grind, q3, q4]
      decide +kernel
    rcases mul_zero_or q2 with q2 | q2
    · exact hm q2
    · exact hp q2
  · obtain ⟨f1, f2, f3, f4⟩ := r_sub4 sy ty
    rw [← f1, ← f2, ← f3, ← f4] at key
    refine mul_can (mul_ne (mul_ne hm n1) n2) ?_
    have n3 : 1 + e ≠ 0 := n2
    clear f1 f2 f3 f4 sy ty o2 o3 dq n2 n3 hp hm hx0 hk
    generalize 1 - e = m1 at *
    generalize 1 + e = m2 at *
    clear n1
    have r1 : (1 - v) * m1 * m2 * (k * (y2 + y3) * (k * (y2 + y3)) * (1 - z)) = k * k * ((1 - z) * m1 * ((1 - v) * m2) * ((y2 + y3) * (y2 + y3))) := by clear hx key; grind
    have r2 : (1 - v) * m1 * m2 * (x * (k * (y3 - y2) * (k * (y3 - y2))) * (1 + z)) = k * k * ((1 + z) * m1 * (x * (1 - v) * m2) * ((y2 - y3) * (y2 - y3))) := by clear hx key r1; grind
    rw [r1, r2, ← key, hx]
end Go.PBYtjllcdgnmdieoaa
