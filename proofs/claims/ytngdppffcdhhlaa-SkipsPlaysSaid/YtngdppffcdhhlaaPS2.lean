/- Slices of structs or arrays of whole numbers as arguments. No condition. -/
import Derived.Test.YtngdppffcdhhlaaPF
import Derived.Deep.Slices
namespace Go.PBYtngdppffcdhhlaa
open Go Go.RowKit Go.ChangeShapes Go.WideShapes Go.ChangeAt Go.Deep
set_option linter.unusedSimpArgs false
set_option linter.unusedVariables false

def FsArg (w : World) (v : Value) (vs : List (List Value)) : Prop := ∃ A c, v = .slice A vs.length c ∧ vs.length ≤ c ∧ c ≤ 9223372036854775807 ∧ SlAt w A vs.flatten
theorem flatten_get {sz : Nat} (hz : 0 < sz) : ∀ (vs : List (List Value)), (∀ u ∈ vs, u.length = sz) → ∀ (j : Nat) (v : Value), vs.flatten[j]? = some v → ∃ u, vs[j / sz]? = some u ∧ u[j % sz]? = some v
  | [], _, j, v, h => by simp at h
  | u :: vs, hl, j, v, h => by
    have hu := hl u (by simp)
    rw [List.flatten_cons] at h
    by_cases hj : j < sz
    · rw [List.getElem?_append_left (by omega)] at h
      rw [Nat.div_eq_of_lt hj, Nat.mod_eq_of_lt hj]
      exact ⟨u, rfl, h⟩
    · rw [List.getElem?_append_right (by omega), hu] at h
      obtain ⟨u', h1, h2⟩ := flatten_get hz vs (fun x hx => hl x (by simp [hx])) (j - sz) v h
      have e1 : j / sz = (j - sz) / sz + 1 := by
        conv => lhs; rw [show j = (j - sz) + sz by omega]
        exact Nat.add_div_right _ hz
      have e2 : j % sz = (j - sz) % sz := by
        conv => lhs; rw [show j = (j - sz) + sz by omega]
        exact Nat.add_mod_right _ _
      rw [e1, e2]
      exact ⟨u', by simpa using h1, h2⟩
theorem flatten_length {sz : Nat} : ∀ (vs : List (List Value)), (∀ u ∈ vs, u.length = sz) → vs.flatten.length = vs.length * sz
  | [], _ => by simp
  | u :: vs, h => by
    rw [List.flatten_cons, List.length_append, h u (by simp), flatten_length vs (fun x hx => h x (by simp [hx])), List.length_cons, Nat.succ_mul]
    omega
theorem flatten_part {sz : Nat} : ∀ (vs : List (List Value)) (i : Nat), (∀ u ∈ vs, u.length = sz) → i < vs.length → (vs.flatten.drop (i * sz)).take sz = vs.getD i []
  | [], i, _, h => by simp at h
  | u :: vs, 0, h, _ => by
    have := h u (by simp)
    rw [Nat.zero_mul, List.drop_zero, List.flatten_cons, List.take_left' this]
    rfl
  | u :: vs, i + 1, h, hi => by
    have he := h u (by simp)
    rw [List.flatten_cons, show (i + 1) * sz = sz + i * sz by rw [Nat.succ_mul]; omega, ← List.drop_drop, List.drop_left' he, flatten_part vs i (fun e' h' => h e' (by simp [h'])) (by simpa using hi)]
    simp
theorem open_flats {H : Type} {enc : TypeId × Value → H} {P : Program} {w : World} {r : Reach} {b0 : Nat} {t e : TypeId} {v : Value} {d : DataW H} {p : List MemPlace} {ks : List IntKind} (m : Nat) (ht : P.underlying t = some (.slice e)) (hf : flatAt P m e = some ks) (hc : P.cellsOf e = ks.length) (hz : 0 < ks.length)
    (hv : Value.okWide P w r b0 t v) (h : DataW.Trod enc P w 0 (fun _ => true) true t v d p) : ∃ vs, FsArg w v vs ∧ ∀ u ∈ vs, Fits u ks := by
  obtain ⟨a, len, cap, rfl⟩ := okWide_slice ht hv
  obtain ⟨fuel, hh⟩ := h
  rcases open_slice ht hh with ⟨hcs, _⟩ | ⟨x, l, c, m', n, D, Pl, hcs, _, hl, hm, hmm, _, hx⟩
  · simp [Value.cells] at hcs
    obtain ⟨rfl, rfl, rfl⟩ := hcs
    exact ⟨[], ⟨none, 0, rfl, Nat.le_refl _, by omega, SlAt.nil _ _⟩, by simp⟩
  · simp [Value.cells] at hcs
    obtain ⟨rfl, rfl, rfl⟩ := hcs
    simp only [if_true] at hmm
    subst hmm
    obtain ⟨V, hV⟩ := choose_lt (α := List Value) (n := m') (p := fun i cs' => w.cells? 0 (x.add (i * P.cellsOf e)) (P.cellsOf e) = some cs' ∧ DataW.trod enc P w 0 (fun _ => true) true n e cs' = some (D i, Pl i)) (fun i hi => hx i hi)
    have hfit : ∀ i, i < len → Fits (V i) ks := fun i hi => trod_fits m e ks hf n _ _ (hV i (by omega)).2
    refine ⟨(List.range len).map V, ⟨some x, m', by simp, by simpa using hl, by simpa [maxLen] using hm, ?_⟩, ?_⟩
    · intro j v hj
      obtain ⟨u, h1, h2⟩ := flatten_get hz _ (fun u hu => by
        obtain ⟨i, hi, rfl⟩ := List.mem_map.1 hu
        exact (hfit i (List.mem_range.1 hi)).1) j v hj
      rw [List.getElem?_map] at h1
      cases hr : (List.range len)[j / ks.length]? with
      | none => rw [hr] at h1; simp at h1
      | some i =>
        rw [hr] at h1
        have hil := (List.getElem?_eq_some_iff.1 hr).1
        rw [List.length_range] at hil
        rw [List.getElem?_range hil] at hr
        simp only [Option.some.injEq] at hr
        subst hr
        simp only [Option.map_some, Option.some.injEq] at h1
        subst h1
        obtain ⟨_, hlen, hcell⟩ := World.cells?_some (hV (j / ks.length) (by omega)).1
        have h3 := hcell (j % ks.length) (by rw [hc]; exact Nat.mod_lt _ hz)
        refine ⟨x, rfl, ?_⟩
        rw [hc] at h3
        rw [Addr.add_add' _ _ _ (.inr (.inr trivial)), show j / ks.length * ks.length + j % ks.length = j by rw [Nat.mul_comm]; exact Nat.div_add_mod j _] at h3
        rw [h3, h2]
    · intro u hu
      obtain ⟨i, hi, rfl⟩ := List.mem_map.1 hu
      exact hfit i (List.mem_range.1 hi)
end Go.PBYtngdppffcdhhlaa
