/- Primes: a number that some other one goes round as far as it can is prime, and each number but 0 to that less 1 is 1. No condition. -/
import Derived.KernelRfl
namespace Go.PBYtjllcdgnmdieoaa
set_option linter.unusedVariables false

/-! ### powers modulo a number, so that they can be reckoned -/
def pmStep (n a : Nat) (b : Bool) : Nat → Nat
  | 0 => 0
  | k + 1 => match b with
    | true => (k + 1) * (k + 1) % n * a % n
    | false => (k + 1) * (k + 1) % n
def pmf (n a : Nat) : Nat → Nat → Nat
  | 0, _ => 1
  | f + 1, e => pmStep n a (Nat.beq (e % 2) 1) (pmf n a f (e / 2))
theorem pmStep_eq (n a : Nat) (b : Bool) (x : Nat) (hn : 1 < n) : pmStep n a b x % n = (x * x * (if b then a else 1)) % n := by
  cases x with
  | zero => simp [pmStep]
  | succ k =>
    cases b with
    | true =>
      show ((k + 1) * (k + 1) % n * a % n) % n = ((k + 1) * (k + 1) * a) % n
      rw [Nat.mod_mod, Nat.mod_mul_mod]
    | false =>
      show ((k + 1) * (k + 1) % n) % n = ((k + 1) * (k + 1) * 1) % n
      rw [Nat.mod_mod, Nat.mul_one]
theorem pmf_eq (n a : Nat) (hn : 1 < n) : ∀ f e, e < 2 ^ f → pmf n a f e % n = a ^ e % n
  | 0, e, h => by
    have : e = 0 := by simpa using h
    subst this
    rfl
  | f + 1, e, h => by
    have ih := pmf_eq n a hn f (e / 2) (by rw [Nat.pow_succ] at h; omega)
    show pmStep n a (Nat.beq (e % 2) 1) (pmf n a f (e / 2)) % n = a ^ e % n
    have hx : (pmf n a f (e / 2) * pmf n a f (e / 2)) % n = (a ^ (e / 2) * a ^ (e / 2)) % n := by rw [Nat.mul_mod, ih, ← Nat.mul_mod]
    rw [pmStep_eq n a _ _ hn, Nat.mul_mod, hx, ← Nat.mul_mod, ← Nat.pow_add]
    cases hb : Nat.beq (e % 2) 1 with
    | true =>
      have h1 := Nat.eq_of_beq_eq_true hb
      rw [if_pos rfl, ← Nat.pow_succ]
      congr 2
      omega
    | false =>
      have h1 := Nat.ne_of_beq_eq_false hb
      rw [if_neg (by simp), Nat.mul_one]
      congr 2
      omega
/-! ### primes -/
def Pr (n : Nat) : Prop := 1 < n ∧ ∀ d, d ∣ n → d = 1 ∨ d = n
theorem Pr.euclid {p a b : Nat} (hp : Pr p) (h : p ∣ a * b) : p ∣ a ∨ p ∣ b := by
  rcases hp.2 _ (Nat.gcd_dvd_left p a) with h1 | h1
  · right
    exact (Nat.Coprime.dvd_of_dvd_mul_left (k := p) (m := a) (n := b) h1 h)
  · left
    rw [← h1]
    exact Nat.gcd_dvd_right p a
theorem Pr.pow {p a : Nat} (hp : Pr p) : ∀ e, p ∣ a ^ e → p ∣ a
  | 0, h => by
    rw [Nat.pow_zero] at h
    have := Nat.le_of_dvd (by omega) h
    have := hp.1
    omega
  | e + 1, h => by
    rw [Nat.pow_succ] at h
    rcases hp.euclid h with h | h
    · exact hp.pow e h
    · exact h
theorem exists_pr : ∀ n, 1 < n → ∃ r, Pr r ∧ r ∣ n := by
  intro n
  induction n using Nat.strongRecOn with
  | _ n ih =>
    intro hn
    by_cases h : Pr n
    · exact ⟨n, h, Nat.dvd_refl n⟩
    · have h2 : ∃ d, d ∣ n ∧ d ≠ 1 ∧ d ≠ n := by
        apply Classical.byContradiction
        intro hc
        apply h
        refine ⟨hn, fun d hd => ?_⟩
        by_cases h1 : d = 1
        · exact .inl h1
        · by_cases h3 : d = n
          · exact .inr h3
          · exact absurd ⟨d, hd, h1, h3⟩ hc
      obtain ⟨d, hd, h1, h3⟩ := h2
      have hle := Nat.le_of_dvd (by omega) hd
      have hd0 : d ≠ 0 := by rintro rfl; have := Nat.eq_zero_of_zero_dvd hd; omega
      obtain ⟨r, hr, hrd⟩ := ih d (by omega) (by omega)
      exact ⟨r, hr, Nat.dvd_trans hrd hd⟩
def prodP : List (Nat × Nat) → Nat
  | [] => 1
  | q :: r => q.1 ^ q.2 * prodP r
theorem dvd_prodP {r : Nat} (hr : Pr r) : ∀ (fs : List (Nat × Nat)), (∀ q ∈ fs, Pr q.1) → r ∣ prodP fs → ∃ q ∈ fs, q.1 = r
  | [], _, h => by
    rw [prodP] at h
    have := Nat.le_of_dvd (by omega) h
    have := hr.1
    omega
  | q :: fs, hp, h => by
    rw [prodP] at h
    rcases hr.euclid h with h1 | h1
    · have h2 := hr.pow _ h1
      rcases (hp q (by simp)).2 r h2 with h3 | h3
      · have := hr.1; omega
      · exact ⟨q, by simp, h3.symm⟩
    · obtain ⟨q', h2, h3⟩ := dvd_prodP hr fs (fun q hq => hp q (by simp [hq])) h1
      exact ⟨q', by simp [h2], h3⟩
/-- so many that are not the same, below m, are at most m -/
theorem pig : ∀ (m : Nat) (l : List Nat), l.Nodup → (∀ x ∈ l, x < m) → l.length ≤ m
  | 0, [], _, _ => Nat.le_refl 0
  | 0, x :: l, _, h => by have := h x (by simp); omega
  | m + 1, l, hn, h => by
    by_cases hm : m ∈ l
    · have h1 := pig m (l.erase m) (hn.erase m) (fun x hx => by
        have := (hn.mem_erase_iff).1 hx
        have h2 := h x this.2
        have := this.1
        omega)
      rw [List.length_erase_of_mem hm] at h1
      omega
    · have := pig m l hn (fun x hx => by
        have h2 := h x hx
        have : x ≠ m := by rintro rfl; exact hm hx
        omega)
      omega
/-- each number below n but 0 is a power of a -/
def Goes (n a : Nat) : Prop := a ^ (n - 1) % n = 1 ∧ ∀ x, 0 < x → x < n → ∃ k, a ^ k % n = x
theorem pow_mod_eq {n a k m : Nat} (h : a ^ k % n = 1 % n) : (a ^ k) ^ m % n = 1 % n := by
  rw [Nat.pow_mod, h, ← Nat.pow_mod, Nat.one_pow]
theorem goes {n a : Nat} {fs : List (Nat × Nat)} (hn : 1 < n) (hf : prodP fs = n - 1) (hp : ∀ q ∈ fs, Pr q.1) (h1 : a ^ (n - 1) % n = 1) (hq : ∀ q ∈ fs, a ^ ((n - 1) / q.1) % n ≠ 1) : Goes n a := by
  refine ⟨h1, ?_⟩
  have e1 : 1 % n = 1 := Nat.mod_eq_of_lt hn
  -- it goes round in no less
  have hord : ∀ o, 0 < o → a ^ o % n = 1 → (∀ k, 0 < k → k < o → a ^ k % n ≠ 1) → o = n - 1 := by
    intro o ho h2 hmin
    have hdiv : (n - 1) % o = 0 := by
      apply Classical.byContradiction
      intro hc
      refine hmin ((n - 1) % o) (by omega) (Nat.mod_lt _ ho) ?_
      have h3 : a ^ (n - 1) = (a ^ o) ^ ((n - 1) / o) * a ^ ((n - 1) % o) := by
        rw [← Nat.pow_mul, ← Nat.pow_add, Nat.div_add_mod]
      rw [h3, Nat.mul_mod, pow_mod_eq (by rw [h2, e1]), e1, Nat.one_mul, Nat.mod_mod] at h1
      exact h1
    have hd := Nat.div_add_mod (n - 1) o
    rw [hdiv, Nat.add_zero] at hd
    by_cases hd1 : (n - 1) / o = 1
    · rw [hd1, Nat.mul_one] at hd; exact hd
    · exfalso
      have hd0 : (n - 1) / o ≠ 0 := by intro h; rw [h, Nat.mul_zero] at hd; omega
      obtain ⟨r, hr, hrd⟩ := exists_pr ((n - 1) / o) (Nat.lt_of_le_of_ne (Nat.pos_of_ne_zero hd0) (Ne.symm hd1))
      have hrn : r ∣ prodP fs := by rw [hf, ← hd]; exact Nat.dvd_trans hrd (Nat.dvd_mul_left _ _)
      obtain ⟨q, hqm, rfl⟩ := dvd_prodP hr fs hp hrn
      obtain ⟨c, hc⟩ := hrd
      refine hq q hqm ?_
      have h4 : (n - 1) / q.1 = o * c := by
        rw [← hd, hc, Nat.mul_left_comm, Nat.mul_div_cancel_left _ (by have := hr.1; omega)]
      rw [h4, Nat.pow_mul, pow_mod_eq (by rw [h2, e1]), e1]
  -- the least such
  have hleast : ∃ o, 0 < o ∧ a ^ o % n = 1 ∧ ∀ k, 0 < k → k < o → a ^ k % n ≠ 1 := by
    have key : ∀ m o, o ≤ m → 0 < o → a ^ o % n = 1 → ∃ o, 0 < o ∧ a ^ o % n = 1 ∧ ∀ k, 0 < k → k < o → a ^ k % n ≠ 1 := by
      intro m
      induction m with
      | zero => intro o h1 h2; omega
      | succ m ih =>
        intro o h1 h2 h3
        by_cases h : ∃ k, 0 < k ∧ k < o ∧ a ^ k % n = 1
        · obtain ⟨k, a1, a2, a3⟩ := h
          exact ih k (by omega) a1 a3
        · exact ⟨o, h2, h3, fun k a1 a2 a3 => h ⟨k, a1, a2, a3⟩⟩
    exact key (n - 1) (n - 1) (Nat.le_refl _) (by omega) h1
  obtain ⟨o, ho, h2, hmin⟩ := hleast
  obtain rfl := hord o ho h2 hmin
  -- what is a power can be undone
  have hundo : ∀ k x, k ≤ n - 1 → a ^ k * x % n = 1 → True := fun _ _ _ _ => trivial
  have hnz : ∀ k, k ≤ n - 1 → a ^ k % n ≠ 0 := by
    intro k hk h0
    have h3 : a ^ (n - 1) = a ^ k * a ^ (n - 1 - k) := by rw [← Nat.pow_add]; congr 1; omega
    rw [h3, Nat.mul_mod, h0, Nat.zero_mul, Nat.zero_mod] at h2
    cases h2
  have hinj : ∀ i j, i < j → j < n - 1 → a ^ i % n ≠ a ^ j % n := by
    intro i j hij hj he
    refine hmin (j - i) (by omega) (by omega) ?_
    -- times a^(n-1-i)
    have h3 : a ^ j = a ^ i * a ^ (j - i) := by rw [← Nat.pow_add]; congr 1; omega
    have h4 : a ^ (n - 1 - i) * a ^ i = a ^ (n - 1) := by rw [← Nat.pow_add]; congr 1; omega
    have h5 : a ^ (n - 1 - i) * a ^ j = a ^ (n - 1) * a ^ (j - i) := by rw [h3, ← Nat.mul_assoc, h4]
    have h6 : (a ^ (n - 1 - i) * a ^ i) % n = (a ^ (n - 1 - i) * a ^ j) % n := by rw [Nat.mul_mod, he, ← Nat.mul_mod]
    rw [h4, h5, h2, Nat.mul_mod, h2, Nat.one_mul, Nat.mod_mod] at h6
    exact h6.symm
  -- all are met
  intro x hx hxn
  apply Classical.byContradiction
  intro hc
  have hnodup : (0 :: x :: (List.range (n - 1)).map fun k => a ^ k % n).Nodup := by
    rw [List.nodup_cons, List.nodup_cons]
    refine ⟨?_, ?_, ?_⟩
    · intro h
      rcases List.mem_cons.1 h with h | h
      · omega
      · obtain ⟨k, hk, hk2⟩ := List.mem_map.1 h
        exact hnz k (by have := List.mem_range.1 hk; omega) hk2
    · intro h
      obtain ⟨k, hk, hk2⟩ := List.mem_map.1 h
      exact hc ⟨k, hk2⟩
    · unfold List.Nodup
      rw [List.pairwise_map]
      refine List.Pairwise.imp_of_mem ?_ (List.pairwise_lt_range)
      intro i j hi hj hij
      exact hinj i j hij (by have := List.mem_range.1 hj; omega)
  have := pig n _ hnodup (fun y hy => by
    rcases List.mem_cons.1 hy with rfl | hy
    · omega
    · rcases List.mem_cons.1 hy with rfl | hy
      · exact hxn
      · obtain ⟨k, _, rfl⟩ := List.mem_map.1 hy
        exact Nat.mod_lt _ (by omega))
  simp only [List.length_cons, List.length_map, List.length_range] at this
  omega
theorem Goes.fermat {n a : Nat} (hn : 1 < n) (h : Goes n a) (x : Nat) (hx : x % n ≠ 0) : x ^ (n - 1) % n = 1 := by
  obtain ⟨h1, h2⟩ := h
  obtain ⟨k, hk⟩ := h2 (x % n) (by omega) (Nat.mod_lt _ (by omega))
  rw [Nat.pow_mod, ← hk, ← Nat.pow_mod, ← Nat.pow_mul, Nat.mul_comm, Nat.pow_mul, Nat.pow_mod, h1, Nat.one_pow, Nat.mod_eq_of_lt hn]
theorem Goes.pr {n a : Nat} (hn : 1 < n) (h : Goes n a) : Pr n := by
  refine ⟨hn, fun d hd => ?_⟩
  obtain ⟨c, hc⟩ := hd
  by_cases hdn : d % n = 0
  · right
    have hd0 : d ≠ 0 := by rintro rfl; omega
    have h1 : n ∣ d := Nat.dvd_of_mod_eq_zero hdn
    have h2 : d ∣ n := ⟨c, hc⟩
    exact Nat.dvd_antisymm h2 h1
  · left
    have hf := h.fermat hn d hdn
    -- n divides d^(n-1) * c, which is c modulo n
    have h3 : d ^ (n - 1) * c % n = 0 := by
      have : d ^ (n - 1) * c = n * d ^ (n - 2) := by
        have e : d ^ (n - 1) = d ^ (n - 2) * d := by rw [← Nat.pow_succ]; congr 1; omega
        rw [e, Nat.mul_assoc, ← hc, Nat.mul_comm]
      rw [this, Nat.mul_mod_right]
    rw [Nat.mul_mod, hf, Nat.one_mul, Nat.mod_mod] at h3
    have hcn : n ∣ c := Nat.dvd_of_mod_eq_zero h3
    have hc0 : c ≠ 0 := by rintro rfl; omega
    have hle := Nat.le_of_dvd (by omega) hcn
    have hcd : c ∣ n := ⟨d, by rw [Nat.mul_comm]; exact hc⟩
    have hle2 := Nat.le_of_dvd (by omega) hcd
    have : c = n := by omega
    subst this
    have : d * c = 1 * c := by omega
    exact Nat.eq_of_mul_eq_mul_right (by omega) this
theorem pratt {n a : Nat} (fs : List (Nat × Nat)) (h : (Nat.ble 2 n && Nat.beq (prodP fs) (n - 1) && Nat.ble n (2 ^ 300) && Nat.beq (pmf n a 300 (n - 1)) 1 && fs.all fun q => !Nat.beq (pmf n a 300 ((n - 1) / q.1) % n) 1) = true) (hp : ∀ q ∈ fs, Pr q.1) : Goes n a ∧ Pr n := by
  simp only [Bool.and_eq_true, List.all_eq_true, Bool.not_eq_true'] at h
  obtain ⟨⟨⟨⟨h1, h2⟩, h3⟩, h4⟩, h5⟩ := h
  have hn := Nat.le_of_ble_eq_true h1
  have h3 := Nat.le_of_ble_eq_true h3
  have e := pmf_eq n a (by omega) 300 (n - 1) (by omega)
  rw [Nat.eq_of_beq_eq_true h4, Nat.mod_eq_of_lt (by omega)] at e
  have hg : Goes n a := goes (by omega) (Nat.eq_of_beq_eq_true h2) hp e.symm (fun q hq he => by
    have h6 := Nat.ne_of_beq_eq_false (h5 q hq)
    have hle : (n - 1) / q.1 ≤ n - 1 := Nat.div_le_self _ _
    rw [pmf_eq n a (by omega) 300 _ (by omega)] at h6
    exact h6 he)
  exact ⟨hg, hg.pr (by omega)⟩
/-- small ones -/
theorem pr_small {n : Nat} (h : (Nat.ble 2 n && Nat.ble n 1023 && (List.range 32).all fun d => Nat.ble d 1 || !Nat.beq (n % d) 0 || Nat.beq d n) = true) : Pr n := by
  simp only [Bool.and_eq_true, List.all_eq_true, List.mem_range, Bool.or_eq_true, Bool.not_eq_true'] at h
  obtain ⟨⟨h1, h2⟩, h3⟩ := h
  have h1 := Nat.le_of_ble_eq_true h1
  have h2 := Nat.le_of_ble_eq_true h2
  have key : ∀ d, d ∣ n → d < 32 → d = 1 ∨ d = n := by
    intro d hd hlt
    rcases h3 d hlt with (h | h) | h
    · have := Nat.le_of_ble_eq_true h
      have : d ≠ 0 := by rintro rfl; have := Nat.eq_zero_of_zero_dvd hd; omega
      omega
    · exact absurd (Nat.mod_eq_zero_of_dvd hd) (Nat.ne_of_beq_eq_false h)
    · exact .inr (Nat.eq_of_beq_eq_true h)
  refine ⟨by omega, fun d hd => ?_⟩
  by_cases hlt : d < 32
  · exact key d hd hlt
  · obtain ⟨c, hc⟩ := hd
    have hc32 : c < 32 := by
      apply Classical.byContradiction
      intro h
      have : 32 * 32 ≤ d * c := Nat.mul_le_mul (by omega) (by omega)
      omega
    rcases key c ⟨d, by rw [Nat.mul_comm]; exact hc⟩ hc32 with h | h
    · right; rw [h, Nat.mul_one] at hc; exact hc.symm
    · left
      have : d * n = 1 * n := by rw [h] at hc; omega
      exact Nat.eq_of_mul_eq_mul_right (by omega) this
end Go.PBYtjllcdgnmdieoaa
