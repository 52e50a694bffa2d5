/- The ladder's beginning and end: the program's, and the document's, come to the field's. No condition. -/
import Derived.Test.YtjllcdgnmdieoaaS07
namespace Go.PBYtjllcdgnmdieoaa
open Go Go.RowKit
set_option linter.unusedVariables false
set_option maxRecDepth 10000

theorem zero_okE : okE (List.replicate 16 0) := dig_okE ⟨rfl, fun j hj => by rw [rep0]; omega⟩
theorem ef_zero : ef (List.replicate 16 0) = 0 := by rw [ef, valI_rep]; rfl
def gK : List UInt8 := 65 :: 219 :: 1 :: List.replicate 29 0
theorem gK_length : gK.length = 32 := by simp [gK]
theorem gK_lf : lf gK = g24 := by decide +kernel
theorem one_lf : lf (smallB 1) = 1 := by decide +kernel
def q0L (x : List Int) : List Int × List Int × List Int × List Int := (ofL (smallB 1), x, List.replicate 16 0, ofL (smallB 1))
theorem all4_mk {α : Type} {P : α → Prop} {a b c d : α} (h1 : P a) (h2 : P b) (h3 : P c) (h4 : P d) : all4 P (a, b, c, d) := ⟨h1, h2, h3, h4⟩
theorem q0L_ok {x : List Int} (hx : okE x) : all4 okE (q0L x) := all4_mk (ofL_okE (smallB_length 1)) hx zero_okE (ofL_okE (smallB_length 1))
theorem mult_fin (k p : List UInt8) (hp : p.length = 32) : keyL (mulL (ladL (ofL p) (ofL gK) (sbit k) (q0L (ofL p)) 255).1 (invL (ladL (ofL p) (ofL gK) (sbit k) (q0L (ofL p)) 255).2.2.1)) = kf (xm (sbit k) (lf p)) := by
  have hx := ofL_okE hp
  have hg := ofL_okE gK_length
  have hq := q0L_ok hx
  have ho := ladL_ok hx hg (sbit k) hq 255
  have he := ladL_ef hx hg (sbit k) hq 255
  rw [ef_ofL hp, ef_ofL gK_length, gK_lf, show map4 ef (q0L (ofL p)) = beg (lf p) by unfold map4 q0L beg; simp only [ef_ofL hp, ef_ofL (smallB_length 1), one_lf, ef_zero]] at he
  obtain ⟨o1, o2, o3, o4⟩ := ho
  have h1 := congrArg (fun q : Fp × Fp × Fp × Fp => q.1) he
  have h3 := congrArg (fun q : Fp × Fp × Fp × Fp => q.2.2.1) he
  simp only [map4] at h1 h3
  have oi := invL_okE o3
  rw [keyL_kf (mulL_okE o1 oi), ef_mulL o1 oi, ef_invL o3, h1, h3]
  rfl
/-! ### the document's -/
theorem zero_dig : digN (List.replicate 16 0) := digN_of (by rw [cz_rep]; exact ⟨rfl, fun j hj => by rw [rep0]; omega⟩)
theorem rf_zero : rf (List.replicate 16 0) = 0 := by rw [rf, cz_rep, valI_rep]; rfl
def oneN : List Nat := 1 :: List.replicate 15 0
def gN : List Nat := 56129 :: 1 :: List.replicate 14 0
theorem dig_all {l : List Nat} (h : l.length = 16) (h2 : l.all (fun x => x ≤ 65535) = true) : digN l := by
  refine ⟨h, fun j hj => ?_⟩
  have := List.all_eq_true.1 h2 l[j] (List.getElem_mem (by omega))
  rw [List.getD_eq_getElem?_getD, List.getElem?_eq_getElem (by omega)]
  exact of_decide_eq_true this
theorem oneN_dig : digN oneN := dig_all rfl rfl
theorem gN_dig : digN gN := dig_all rfl rfl
theorem oneN_rf : rf oneN = 1 := by decide +kernel
theorem gN_rf : rf gN = g24 := by decide +kernel
def q0R (x : List Nat) : List Nat × List Nat × List Nat × List Nat := (oneN, x, List.replicate 16 0, oneN)
theorem q0R_dig {x : List Nat} (hx : digN x) : all4 digN (q0R x) := all4_mk oneN_dig hx zero_dig oneN_dig
theorem rmult_fin (k p : List UInt8) (hp : p.length = 32) : keyV (valI (cz (rmulL (ladR (rofL p) gN (sbit k) (q0R (rofL p)) 255).1 (rinvL (ladR (rofL p) gN (sbit k) (q0R (rofL p)) 255).2.2.1)))) = kf (xm (sbit k) (lf p)) := by
  have hx := rofL_dig hp
  have hq := q0R_dig hx
  have ho := ladR_ok hx gN_dig (sbit k) hq 255
  have he := ladR_rf hx gN_dig (sbit k) hq 255
  rw [rf_ofL hp, gN_rf, show map4 rf (q0R (rofL p)) = beg (lf p) by unfold map4 q0R beg; simp only [rf_ofL hp, oneN_rf, rf_zero]] at he
  obtain ⟨o1, o2, o3, o4⟩ := ho
  have h1 := congrArg (fun q : Fp × Fp × Fp × Fp => q.1) he
  have h3 := congrArg (fun q : Fp × Fp × Fp × Fp => q.2.2.1) he
  simp only [map4] at h1 h3
  have oi := rinvL_dig o3
  rw [keyR_kf, rf_mulL o1 oi, rf_invL o3, h1, h3]
  rfl
theorem bit_of (x : UInt8) (m : Nat) (hm : m < 8) : decide (((UInt8.ofNat (x.toNat / 2 ^ (min m 8)) &&& 1).toNat : Int) = 1) = (x.toNat / 2 ^ m % 2 == 1) := by
  have h1 := UInt8.toNat_lt x
  have h2 : x.toNat / 2 ^ m < 256 := Nat.lt_of_le_of_lt (Nat.div_le_self _ _) h1
  rw [Nat.min_eq_left (by omega), UInt8.toNat_and, UInt8.toNat_ofNat_of_lt' h2, show (1 : UInt8).toNat = 1 from rfl, Nat.and_one_is_mod]
  rw [Bool.eq_iff_iff, decide_eq_true_iff, beq_iff_eq]
  omega
end Go.PBYtjllcdgnmdieoaa
