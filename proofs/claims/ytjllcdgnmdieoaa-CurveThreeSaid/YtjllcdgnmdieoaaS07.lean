/- The ladder of chapter 07, its words: over the program's numbers, the document's, and the field. No condition. -/
import Derived.Test.YtjllcdgnmdieoaaSH
namespace Go.PBYtjllcdgnmdieoaa
open Go Go.RowKit
set_option linter.unusedVariables false
set_option maxRecDepth 10000

/-- two and two, in the other order, or not -/
def sw {α : Type} (s : Bool) (q : α × α × α × α) : α × α × α × α := if s then (q.2.1, q.1, q.2.2.2, q.2.2.1) else q
def stepC {α : Type} (add sub mul : α → α → α) (x g : α) (q : α × α × α × α) : α × α × α × α :=
  (mul (mul (add q.1 q.2.2.1) (add q.1 q.2.2.1)) (mul (sub q.1 q.2.2.1) (sub q.1 q.2.2.1)),
   mul (add (mul (sub q.2.1 q.2.2.2) (add q.1 q.2.2.1)) (mul (add q.2.1 q.2.2.2) (sub q.1 q.2.2.1))) (add (mul (sub q.2.1 q.2.2.2) (add q.1 q.2.2.1)) (mul (add q.2.1 q.2.2.2) (sub q.1 q.2.2.1))),
   mul (sub (mul (add q.1 q.2.2.1) (add q.1 q.2.2.1)) (mul (sub q.1 q.2.2.1) (sub q.1 q.2.2.1))) (add (mul (add q.1 q.2.2.1) (add q.1 q.2.2.1)) (mul g (sub (mul (add q.1 q.2.2.1) (add q.1 q.2.2.1)) (mul (sub q.1 q.2.2.1) (sub q.1 q.2.2.1))))),
   mul x (mul (sub (mul (sub q.2.1 q.2.2.2) (add q.1 q.2.2.1)) (mul (add q.2.1 q.2.2.2) (sub q.1 q.2.2.1))) (sub (mul (sub q.2.1 q.2.2.2) (add q.1 q.2.2.1)) (mul (add q.2.1 q.2.2.2) (sub q.1 q.2.2.1)))))
/-- so many steps, by the bits from the 254th down -/
def ladC {α : Type} (add sub mul : α → α → α) (x g : α) (s : Nat → Bool) (q : α × α × α × α) : Nat → α × α × α × α
  | 0 => q
  | j + 1 => sw (s (254 - j)) (stepC add sub mul x g (sw (s (254 - j)) (ladC add sub mul x g s q j)))
def all4 {α : Type} (P : α → Prop) (q : α × α × α × α) : Prop := P q.1 ∧ P q.2.1 ∧ P q.2.2.1 ∧ P q.2.2.2
def map4 {α β : Type} (f : α → β) (q : α × α × α × α) : β × β × β × β := (f q.1, f q.2.1, f q.2.2.1, f q.2.2.2)
theorem sw_all {α : Type} {P : α → Prop} {q : α × α × α × α} (s : Bool) (h : all4 P q) : all4 P (sw s q) := by
  obtain ⟨h1, h2, h3, h4⟩ := h
  cases s
  · exact ⟨h1, h2, h3, h4⟩
  · exact ⟨h2, h1, h4, h3⟩
theorem sw_map {α β : Type} (f : α → β) (s : Bool) (q : α × α × α × α) : map4 f (sw s q) = sw s (map4 f q) := by cases s <;> rfl
theorem stepC_all {α : Type} {add sub mul : α → α → α} {P : α → Prop} (ha : ∀ a b, P a → P b → P (add a b)) (hs : ∀ a b, P a → P b → P (sub a b)) (hm : ∀ a b, P a → P b → P (mul a b))
    {x g : α} (hx : P x) (hg : P g) {q : α × α × α × α} (h : all4 P q) : all4 P (stepC add sub mul x g q) := by
  obtain ⟨h1, h2, h3, h4⟩ := h
  have e := ha _ _ h1 h3
  have f := hs _ _ h1 h3
  have u := hm _ _ e e
  have v := hm _ _ f f
  have w := hs _ _ u v
  have y := hm _ _ (hs _ _ h2 h4) e
  have z := hm _ _ (ha _ _ h2 h4) f
  have p := ha _ _ y z
  have l := hs _ _ y z
  exact ⟨hm _ _ u v, hm _ _ p p, hm _ _ w (ha _ _ u (hm _ _ hg w)), hm _ _ hx (hm _ _ l l)⟩
theorem stepC_map {α β : Type} {add sub mul : α → α → α} {add' sub' mul' : β → β → β} {P : α → Prop} {r : α → β}
    (ha : ∀ a b, P a → P b → P (add a b)) (hs : ∀ a b, P a → P b → P (sub a b)) (hm : ∀ a b, P a → P b → P (mul a b))
    (ra : ∀ a b, P a → P b → r (add a b) = add' (r a) (r b)) (rs : ∀ a b, P a → P b → r (sub a b) = sub' (r a) (r b)) (rm : ∀ a b, P a → P b → r (mul a b) = mul' (r a) (r b))
    {x g : α} (hx : P x) (hg : P g) {q : α × α × α × α} (h : all4 P q) : map4 r (stepC add sub mul x g q) = stepC add' sub' mul' (r x) (r g) (map4 r q) := by
  obtain ⟨h1, h2, h3, h4⟩ := h
  have e := ha _ _ h1 h3
  have f := hs _ _ h1 h3
  have u := hm _ _ e e
  have v := hm _ _ f f
  have w := hs _ _ u v
  have y := hm _ _ (hs _ _ h2 h4) e
  have z := hm _ _ (ha _ _ h2 h4) f
  have p := ha _ _ y z
  have l := hs _ _ y z
  have ll := hm _ _ l l
  have gw := hm _ _ hg w
  have ug := ha _ _ u gw
  have b1 := hs _ _ h2 h4
  have b2 := ha _ _ h2 h4
  unfold map4 stepC
  simp only [ra _ _ h1 h3, rs _ _ h1 h3, rm _ _ e e, rm _ _ f f, rs _ _ u v, rs _ _ h2 h4, ra _ _ h2 h4, rm _ _ b1 e, rm _ _ b2 f, ra _ _ y z, rs _ _ y z, rm _ _ u v, rm _ _ p p, rm _ _ hg w, ra _ _ u gw, rm _ _ w ug, rm _ _ l l, rm _ _ hx ll]
theorem ladC_all {α : Type} {add sub mul : α → α → α} {P : α → Prop} (ha : ∀ a b, P a → P b → P (add a b)) (hs : ∀ a b, P a → P b → P (sub a b)) (hm : ∀ a b, P a → P b → P (mul a b))
    {x g : α} (hx : P x) (hg : P g) (s : Nat → Bool) {q : α × α × α × α} (h : all4 P q) : ∀ j, all4 P (ladC add sub mul x g s q j)
  | 0 => h
  | j + 1 => sw_all _ (stepC_all ha hs hm hx hg (sw_all _ (ladC_all ha hs hm hx hg s h j)))
theorem ladC_map {α β : Type} {add sub mul : α → α → α} {add' sub' mul' : β → β → β} {P : α → Prop} {r : α → β}
    (ha : ∀ a b, P a → P b → P (add a b)) (hs : ∀ a b, P a → P b → P (sub a b)) (hm : ∀ a b, P a → P b → P (mul a b))
    (ra : ∀ a b, P a → P b → r (add a b) = add' (r a) (r b)) (rs : ∀ a b, P a → P b → r (sub a b) = sub' (r a) (r b)) (rm : ∀ a b, P a → P b → r (mul a b) = mul' (r a) (r b))
    {x g : α} (hx : P x) (hg : P g) (s : Nat → Bool) {q : α × α × α × α} (h : all4 P q) : ∀ j, map4 r (ladC add sub mul x g s q j) = ladC add' sub' mul' (r x) (r g) s (map4 r q) j
  | 0 => rfl
  | j + 1 => by
    have h1 := sw_all (s (254 - j)) (ladC_all ha hs hm hx hg s h j)
    rw [ladC, ladC, sw_map, stepC_map ha hs hm ra rs rm hx hg h1, sw_map, ladC_map ha hs hm ra rs rm hx hg s h j]
theorem ladC_bits {α : Type} {add sub mul : α → α → α} {x g : α} {s t : Nat → Bool} {q : α × α × α × α} (h : ∀ i, i ≤ 254 → s i = t i) : ∀ j, ladC add sub mul x g s q j = ladC add sub mul x g t q j
  | 0 => rfl
  | j + 1 => by rw [ladC, ladC, ladC_bits h j, h (254 - j) (by omega)]
/-! ### over the program's numbers, the document's, and the field -/
abbrev ladL (x g : List Int) := ladC addL subL mulL x g
abbrev ladR (x g : List Nat) := ladC raddL rsubL rmulL x g
abbrev ladF (x g : Fp) := ladC (fun a b : Fp => a + b) (fun a b => a - b) (fun a b => a * b) x g
def g24 : Fp := fz 121665
def beg (x : Fp) : Fp × Fp × Fp × Fp := (1, x, 0, 1)
/-- the number of a point, so often as the bits say -/
def xm (s : Nat → Bool) (x : Fp) : Fp := (ladF x g24 s (beg x) 255).1 * finv (ladF x g24 s (beg x) 255).2.2.1
theorem xm_bits {s t : Nat → Bool} (x : Fp) (h : ∀ i, i ≤ 254 → s i = t i) : xm s x = xm t x := by unfold xm ladF; rw [ladC_bits h]
theorem ladL_ok {x g : List Int} (hx : okE x) (hg : okE g) (s : Nat → Bool) {q : List Int × List Int × List Int × List Int} (h : all4 okE q) (j : Nat) : all4 okE (ladL x g s q j) :=
  ladC_all (P := okE) (add := addL) (sub := subL) (mul := mulL) (fun a b h1 h2 => addL_okE h1 h2) (fun a b h1 h2 => subL_okE h1 h2) (fun a b h1 h2 => mulL_okE h1 h2) hx hg s h j
theorem ladR_ok {x g : List Nat} (hx : digN x) (hg : digN g) (s : Nat → Bool) {q : List Nat × List Nat × List Nat × List Nat} (h : all4 digN q) (j : Nat) : all4 digN (ladR x g s q j) :=
  ladC_all (P := digN) (add := raddL) (sub := rsubL) (mul := rmulL) (fun a b h1 h2 => raddL_dig h1 h2) (fun a b h1 h2 => rsubL_dig h1 h2) (fun a b h1 h2 => rmulL_dig h1 h2) hx hg s h j
theorem ladL_ef {x g : List Int} (hx : okE x) (hg : okE g) (s : Nat → Bool) {q : List Int × List Int × List Int × List Int} (h : all4 okE q) (j : Nat) : map4 ef (ladL x g s q j) = ladF (ef x) (ef g) s (map4 ef q) j :=
  ladC_map (P := okE) (fun a b => addL_okE) (fun a b => subL_okE) (fun a b => mulL_okE) (fun a b => ef_addL) (fun a b => ef_subL) (fun a b => ef_mulL) hx hg s h j
theorem ladR_rf {x g : List Nat} (hx : digN x) (hg : digN g) (s : Nat → Bool) {q : List Nat × List Nat × List Nat × List Nat} (h : all4 digN q) (j : Nat) : map4 rf (ladR x g s q j) = ladF (rf x) (rf g) s (map4 rf q) j :=
  ladC_map (P := digN) (fun a b => raddL_dig) (fun a b => rsubL_dig) (fun a b => rmulL_dig) (fun a b => rf_addL) (fun a b => rf_subL) (fun a b => rf_mulL) hx hg s h j
/-! ### the bits of a secret -/
/-- the bit, where the secret's number has one -/
def sbit (k : List UInt8) (i : Nat) : Bool := if i < 3 ∨ i = 255 then false else if i = 254 then true else (k.getD (i / 8) 0).toNat / 2 ^ (i % 8) % 2 == 1
def clampB (k : List UInt8) : List UInt8 := (k.set 0 (k.getD 0 0 &&& 248)).set 31 (k.getD 31 0 &&& 127 ||| 64)
theorem clampB_length (k : List UInt8) : (clampB k).length = k.length := by simp [clampB]
theorem bit_low : ∀ (x : Fin 256) (j : Fin 8), ((UInt8.ofNat x.val &&& 248).toNat / 2 ^ j.val % 2 == 1) = (if j.val < 3 then false else (UInt8.ofNat x.val).toNat / 2 ^ j.val % 2 == 1) := by decide +kernel
theorem bit_high : ∀ (x : Fin 256) (j : Fin 7), ((UInt8.ofNat x.val &&& 127 ||| 64).toNat / 2 ^ j.val % 2 == 1) = (if j.val = 6 then true else (UInt8.ofNat x.val).toNat / 2 ^ j.val % 2 == 1) := by decide +kernel
theorem u8_fin (x : UInt8) : ∃ y : Fin 256, x = UInt8.ofNat y.val := ⟨⟨x.toNat, UInt8.toNat_lt x⟩, by simp⟩
theorem clampB_bit {k : List UInt8} (hk : k.length = 32) {i : Nat} (hi : i ≤ 254) : ((((clampB k).getD (i / 8) 0).toNat / 2 ^ (i % 8) % 2 == 1) : Bool) = sbit k i := by
  have e31 : (clampB k).getD 31 0 = k.getD 31 0 &&& 127 ||| 64 := by
    unfold clampB
    rw [getD_set _ _ _ _ _ (by simp; omega), if_pos rfl]
  have e0 : (clampB k).getD 0 0 = k.getD 0 0 &&& 248 := by
    unfold clampB
    rw [getD_set _ _ _ _ _ (by simp; omega), if_neg (by omega), getD_set _ _ _ _ _ (by omega), if_pos rfl]
  have em : ∀ j, 0 < j → j < 31 → (clampB k).getD j 0 = k.getD j 0 := by
    intro j h1 h2
    unfold clampB
    rw [getD_set _ _ _ _ _ (by simp; omega), if_neg (by omega), getD_set _ _ _ _ _ (by omega), if_neg (by omega)]
  unfold sbit
  by_cases h1 : i / 8 = 0
  · obtain ⟨x, hx⟩ := u8_fin (k.getD 0 0)
    have hj : i % 8 = i := by omega
    have := bit_low x ⟨i % 8, by omega⟩
    rw [h1, e0, hx, this]
    simp only
    by_cases h3 : i < 3
    · rw [if_pos (by omega), if_pos (by omega)]
    · rw [if_neg (by omega), if_neg (by omega), if_neg (by omega)]
  · by_cases h2 : i / 8 = 31
    · obtain ⟨x, hx⟩ := u8_fin (k.getD 31 0)
      have := bit_high x ⟨i % 8, by omega⟩
      rw [h2, e31, hx, this]
      simp only
      rw [if_neg (by omega : ¬ (i < 3 ∨ i = 255))]
      by_cases h3 : i = 254
      · rw [if_pos (by omega), if_pos h3]
      · rw [if_neg (by omega), if_neg h3]
    · rw [em _ (by omega) (by omega), if_neg (by omega), if_neg (by omega)]
/-! ### of 0 nothing comes but 0; numbers that are shown by the same bytes -/
theorem sw_zero (s : Bool) {q : Fp × Fp × Fp × Fp} (h : q.1 * q.2.2.1 = 0 ∧ q.2.1 * q.2.2.2 = 0) : (sw s q).1 * (sw s q).2.2.1 = 0 ∧ (sw s q).2.1 * (sw s q).2.2.2 = 0 := by
  cases s
  · exact h
  · exact ⟨h.2, h.1⟩
theorem stepC_zero (g : Fp) {q : Fp × Fp × Fp × Fp} (h : q.1 * q.2.2.1 = 0) : (stepC (fun a b : Fp => a + b) (fun a b => a - b) (fun a b => a * b) 0 g q).2.2.1 = 0 ∧ (stepC (fun a b : Fp => a + b) (fun a b => a - b) (fun a b => a * b) 0 g q).2.2.2 = 0 := by
  obtain ⟨a, b, c, d⟩ := q
  simp only at h
  constructor
  · have hw : (a + c) * (a + c) - (a - c) * (a - c) = 0 := by grind
    show ((a + c) * (a + c) - (a - c) * (a - c)) * _ = 0
    rw [hw]; grind
  · show (0 : Fp) * _ = 0
    grind
theorem ladF_zero (g : Fp) (s : Nat → Bool) : ∀ j, (ladF 0 g s (beg 0) (j + 1)).2.2.1 = 0 ∧ (ladF 0 g s (beg 0) (j + 1)).2.2.2 = 0 := by
  have key : ∀ j, (ladF 0 g s (beg 0) j).1 * (ladF 0 g s (beg 0) j).2.2.1 = 0 ∧ (ladF 0 g s (beg 0) j).2.1 * (ladF 0 g s (beg 0) j).2.2.2 = 0 := by
    intro j
    induction j with
    | zero => exact ⟨by show (1 : Fp) * 0 = 0; decide, by show (0 : Fp) * 1 = 0; decide⟩
    | succ j ih =>
      have h1 := stepC_zero g (sw_zero (s (254 - j)) ih).1
      refine sw_zero _ ⟨?_, ?_⟩
      · rw [h1.1]; grind
      · rw [h1.2]; grind
  intro j
  have h1 := stepC_zero g (sw_zero (s (254 - j)) (key j)).1
  unfold ladF at h1 ⊢
  rw [ladC]
  generalize s (254 - j) = b at h1 ⊢
  cases b
  · exact h1
  · exact ⟨h1.2, h1.1⟩
theorem xm_zero (s : Nat → Bool) : xm s 0 = 0 := by
  unfold xm
  rw [(ladF_zero g24 s 254).1, finv_zero]
  grind
theorem kf128 (a : Fp) : ((kf a).getD 31 0).toNat < 128 := by
  have hl := kf_length a
  have h1 := leZ_snoc (kf a) 31 (by omega)
  rw [List.take_of_length_le (by omega), leZ_kf, show (256 : Int) ^ 31 = 452312848583266388373324160190187140051835877600158453279131187530910662656 by decide] at h1
  have h2 := leZ_nonneg ((kf a).take 31)
  have h3 := a.isLt
  unfold pN at h3
  omega
theorem xor128 : ∀ (x : Fin 256), (UInt8.ofNat x.val ^^^ 128).toNat % 128 = (UInt8.ofNat x.val).toNat % 128 := by decide +kernel
theorem lf_high {k : List UInt8} (hk : k.length = 32) : lf (k.set 31 (k.getD 31 0 ^^^ 128)) = lf k := by
  have h1 := leZ_snoc k 31 (by omega)
  have h2 := leZ_snoc (k.set 31 (k.getD 31 0 ^^^ 128)) 31 (by simp; omega)
  rw [List.take_of_length_le (by omega)] at h1
  rw [List.take_of_length_le (by simp; omega), List.take_set_of_le (by omega), getD_set _ _ _ _ _ (by omega), if_pos rfl] at h2
  rw [show (256 : Int) ^ 31 = 452312848583266388373324160190187140051835877600158453279131187530910662656 by decide] at h1 h2
  obtain ⟨x, hx⟩ := u8_fin (k.getD 31 0)
  have h3 := xor128 x
  rw [hx] at h1 h2
  rw [lf, lf, h1, hx, h2]
  refine congrArg fz ?_
  omega
end Go.PBYtjllcdgnmdieoaa
