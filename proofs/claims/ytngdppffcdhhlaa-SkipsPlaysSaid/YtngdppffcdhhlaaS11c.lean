/- Keys that are put one after the other: of them the last eight are kept. No condition. -/
import Derived.Test.YtngdppffcdhhlaaA11
namespace Go.PBYtngdppffcdhhlaa
open Go Go.RowKit
set_option linter.unusedVariables false
/-- entries of one key p, numbered a, a + 1, .. -/
def ents (p : List UInt8) (a : Nat) (K : Nat → List UInt8) (m : Nat) : List Ent := (List.range m).map fun i => ⟨p, ((a + i : Nat) : Int), K i⟩
theorem ents_length (p : List UInt8) (a : Nat) (K : Nat → List UInt8) (m : Nat) : (ents p a K m).length = m := by simp [ents]
theorem ents_snoc (p : List UInt8) (a : Nat) (K : Nat → List UInt8) (m : Nat) : ents p a K (m + 1) = ents p a K m ++ [⟨p, ((a + m : Nat) : Int), K m⟩] := by simp [ents, List.range_succ]
theorem ents_key {p : List UInt8} {a : Nat} {K : Nat → List UInt8} {m j : Nat} {q : List UInt8 × Int} (h : q ∈ (ents p a K m).map Ent.key) : ∃ i, i < m ∧ q = (p, ((a + i : Nat) : Int)) := by
  simp only [ents, List.map_map, List.mem_map, List.mem_range, Function.comp] at h
  obtain ⟨i, hi, rfl⟩ := h
  exact ⟨i, hi, rfl⟩
theorem ents_at (p : List UInt8) (a : Nat) (K : Nat → List UInt8) (m j : Nat) (h : j < m) : (ents p a K m)[j]? = some ⟨p, ((a + j : Nat) : Int), K j⟩ := by simp [ents, h]
theorem ents_no {p : List UInt8} {a : Nat} {K : Nat → List UInt8} {m j : Nat} (h : m ≤ j) : (p, ((a + j : Nat) : Int)) ∉ (ents p a K m).map Ent.key := by
  intro hm
  obtain ⟨i, hi, he⟩ := ents_key (j := 0) hm
  have : ((a + j : Nat) : Int) = ((a + i : Nat) : Int) := congrArg Prod.snd he
  omega
theorem ents_good {p : List UInt8} {a : Nat} {K : Nat → List UInt8} (lp : p.length = 32) (lK : ∀ i, (K i).length = 32) : ∀ {m : Nat}, a + m ≤ 100000 → GoodL (ents p a K m)
  | 0, _ => ⟨by simp [ents], by simp [ents]⟩
  | m + 1, h => by
    rw [ents_snoc]
    refine (ents_good lp lK (by omega)).snoc ⟨lp, lK m, ?_⟩ (ents_no (Nat.le_refl m))
    simp only [Lit.wf, Bool.and_eq_true, decide_eq_true_eq]
    have h1 : IntKind.i64.min = -9223372036854775808 := rfl
    have h2 : IntKind.i64.max = 9223372036854775807 := rfl
    rw [h1, h2]
    omega
end Go.PBYtngdppffcdhhlaa
namespace Go.Proofs.Ytngdppffcdhhlaa
open Go.RowKit Go.PBYtngdppffcdhhlaa
set_option linter.unusedVariables false
theorem put_ents {p : List UInt8} {a : Nat} {K : Nat → List UInt8} (m : Nat) : putR (lastL (ents p a K m)) ⟨p, ((a + m : Nat) : Int), K m⟩ = (0, lastL (ents p a K (m + 1))) := by
  rw [put_last (by show (0 : Int) ≤ ((a + m : Nat) : Int); omega) (ents_no (Nat.le_refl m)), ← ents_snoc]
/-- those that are kept, when some at the end were taken: from d on, up to m -/
def midL (p : List UInt8) (a : Nat) (K : Nat → List UInt8) (d m : Nat) : List Ent := (ents p a K m).drop d
theorem lastL_mid (p : List UInt8) (a : Nat) (K : Nat → List UInt8) (m : Nat) : lastL (ents p a K m) = midL p a K (m - 8) m := by rw [lastL, ents_length, midL]
theorem midL_length (p : List UInt8) (a : Nat) (K : Nat → List UInt8) (d m : Nat) : (midL p a K d m).length = m - d := by rw [midL, List.length_drop, ents_length]
theorem midL_good {p : List UInt8} {a : Nat} {K : Nat → List UInt8} (lp : p.length = 32) (lK : ∀ i, (K i).length = 32) {d m : Nat} (h : a + m ≤ 100000) : GoodL (midL p a K d m) := (ents_good lp lK h).sub (List.drop_sublist _ _)
theorem midL_at {p : List UInt8} {a : Nat} {K : Nat → List UInt8} {d m j : Nat} (h1 : d ≤ j) (h2 : j < m) : (midL p a K d m)[j - d]? = some ⟨p, ((a + j : Nat) : Int), K j⟩ := by
  rw [midL, List.getElem?_drop, show d + (j - d) = j by omega]
  exact ents_at p a K m j h2
theorem midL_no {p : List UInt8} {a : Nat} {K : Nat → List UInt8} {d m j : Nat} (h : j < d ∨ m ≤ j) : (p, ((a + j : Nat) : Int)) ∉ (midL p a K d m).map Ent.key := by
  intro hm
  rcases h with h | h
  · obtain ⟨x, hx, he⟩ := List.mem_map.1 hm
    obtain ⟨i, hi⟩ := List.mem_iff_getElem?.1 hx
    rw [midL, List.getElem?_drop] at hi
    have hil := (List.getElem?_eq_some_iff.1 hi).1
    rw [ents_length] at hil
    rw [ents_at p a K m (d + i) hil] at hi
    obtain rfl := Option.some.inj hi
    have : ((a + (d + i) : Nat) : Int) = ((a + j : Nat) : Int) := congrArg Prod.snd he
    omega
  · exact ents_no h (((List.drop_sublist _ _).map _).subset hm)
theorem ask_mid {p : List UInt8} {a : Nat} {K : Nat → List UInt8} (lp : p.length = 32) (lK : ∀ i, (K i).length = 32) {d m j : Nat} (h : a + m ≤ 100000) (h1 : d ≤ j) (h2 : j < m) : askR (midL p a K d m) (p, ((a + j : Nat) : Int)) = (K j, true) :=
  askR_at (midL_good lp lK h) (midL_at h1 h2)
theorem ask_out {p : List UInt8} {a : Nat} {K : Nat → List UInt8} {d m j : Nat} (h : j < d ∨ m ≤ j) : askR (midL p a K d m) (p, ((a + j : Nat) : Int)) = (zKey, false) := askR_no (midL_no h)
theorem take_out {p : List UInt8} {a : Nat} {K : Nat → List UInt8} {d m j : Nat} (h : j < d ∨ m ≤ j) : takeR (midL p a K d m) (p, ((a + j : Nat) : Int)) = midL p a K d m := take_no (midL_no h)
theorem take_top {p : List UInt8} {a : Nat} {K : Nat → List UInt8} (lp : p.length = 32) (lK : ∀ i, (K i).length = 32) {d m : Nat} (h : a + (m + 1) ≤ 100000) (h1 : d ≤ m) : takeR (midL p a K d (m + 1)) (p, ((a + m : Nat) : Int)) = midL p a K d m := by
  have h2 := take_at (midL_good lp lK h (d := d)).keys (midL_at (K := K) (p := p) (a := a) h1 (Nat.lt_succ_self m))
  rw [show (⟨p, ((a + m : Nat) : Int), K m⟩ : Ent).key = (p, ((a + m : Nat) : Int)) from rfl] at h2
  rw [h2]
  have h3 : midL p a K d (m + 1) = midL p a K d m ++ [⟨p, ((a + m : Nat) : Int), K m⟩] := by rw [midL, ents_snoc, List.drop_append_of_le_length (by rw [ents_length]; omega)]; rfl
  have h4 := midL_length p a K d m
  rw [h3, List.eraseIdx_append_of_length_le (by omega), h4, Nat.sub_self]
  simp
theorem take_low {p : List UInt8} {a : Nat} {K : Nat → List UInt8} (lp : p.length = 32) (lK : ∀ i, (K i).length = 32) {m : Nat} (h : a + m ≤ 100000) (h1 : 0 < m) : takeR (midL p a K 0 m) (p, ((a + 0 : Nat) : Int)) = midL p a K 1 m := by
  have h2 := take_at (midL_good lp lK h (d := 0)).keys (midL_at (K := K) (p := p) (a := a) (Nat.le_refl 0) h1)
  rw [show (⟨p, ((a + 0 : Nat) : Int), K 0⟩ : Ent).key = (p, ((a + 0 : Nat) : Int)) from rfl] at h2
  rw [h2, Nat.sub_zero, midL, midL, List.drop_zero, List.eraseIdx_zero, List.drop_one]
theorem midL_nil (p : List UInt8) (a : Nat) (K : Nat → List UInt8) {d m : Nat} (h : m ≤ d) : midL p a K d m = [] := List.drop_eq_nil_of_le (by rw [ents_length]; exact h)
theorem put_ents0 {p : List UInt8} {K : Nat → List UInt8} (m : Nat) : putR (lastL (ents p 0 K m)) ⟨p, (m : Int), K m⟩ = (0, lastL (ents p 0 K (m + 1))) := by
  have h := put_ents (p := p) (a := 0) (K := K) m
  rwa [Nat.zero_add] at h
/-- what the last loop meets -/
theorem ask_back {p : List UInt8} {K : Nat → List UInt8} (lp : p.length = 32) (lK : ∀ i, (K i).length = 32) {i z : Nat} (h : i ≤ 40) (hz : z < i) :
    ∃ ak : List UInt8, ak.length = 32 ∧ askR (midL p 0 K (i - 8) (z + 1)) (p, (z : Int)) = (ak, decide (i ≤ z + 8)) ∧ (i ≤ z + 8 → ak = K z) ∧ takeR (midL p 0 K (i - 8) (z + 1)) (p, (z : Int)) = midL p 0 K (i - 8) z := by
  by_cases hd : i ≤ z + 8
  · have h1 := ask_mid (a := 0) lp lK (d := i - 8) (m := z + 1) (j := z) (by omega) (by omega) (by omega)
    have h2 := take_top (a := 0) lp lK (d := i - 8) (m := z) (by omega) (by omega)
    rw [Nat.zero_add] at h1 h2
    exact ⟨K z, lK z, by rw [h1, decide_eq_true hd], fun _ => rfl, h2⟩
  · have h1 := ask_out (p := p) (a := 0) (K := K) (d := i - 8) (m := z + 1) (j := z) (.inl (by omega))
    have h2 := take_out (p := p) (a := 0) (K := K) (d := i - 8) (m := z + 1) (j := z) (.inl (by omega))
    rw [Nat.zero_add] at h1 h2
    exact ⟨zKey, zKey_length, by rw [h1, decide_eq_false hd], fun h' => absurd h' hd, by rw [h2, midL_nil _ _ _ (by omega), midL_nil _ _ _ (by omega)]⟩
end Go.Proofs.Ytngdppffcdhhlaa
