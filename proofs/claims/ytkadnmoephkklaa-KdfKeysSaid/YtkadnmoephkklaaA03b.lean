/- A list of texts as an argument. No condition. -/
import Derived.Test.YtkadnmoephkklaaC03m
import Derived.Test.YtkadnmoephkklaaA03
import Derived.Test.YtkadnmoephkklaaPG
import Derived.SliceStrings
namespace Go.Proofs.Ytkadnmoephkklaa
open Go.RowKit Go.PBYtkadnmoephkklaa
set_option linter.unusedVariables false

def TxArg (w : World) (v : Value) (ps : List (List UInt8)) : Prop := ∃ A c, v = .slice A ps.length c ∧ ps.length ≤ c ∧ SlAt w A (strs ps)
theorem open_texts {H : Type} {enc : TypeId × Value → H} {P : Program} {w : World} {r : Reach} {b0 : Nat} {t e : TypeId} {v : Value} {d : DataW H} {p : List MemPlace} (ht : P.underlying t = some (.slice e)) (he : P.underlying e = some .string) (hc : P.cellsOf e = 1)
    (hv : Value.okWide P w r b0 t v) (h : DataW.Trod enc P w 0 (fun _ => true) true t v d p) : ∃ ps, TxArg w v ps := by
  obtain ⟨a, len, cap, rfl⟩ := Go.WideShapes.okWide_slice ht hv
  obtain ⟨fuel, hf⟩ := h
  rcases Go.ChangeShapes.open_strings ht he hc hf with ⟨hcs, _⟩ | ⟨x, l, c, ss, hcs, _, hl, hm, hz, _, hcell, hwz⟩
  · simp [Value.cells] at hcs
    obtain ⟨rfl, rfl, rfl⟩ := hcs
    exact ⟨[], none, 0, rfl, Nat.le_refl _, SlAt.nil _ _⟩
  · simp [Value.cells] at hcs
    obtain ⟨rfl, rfl, rfl⟩ := hcs
    simp only [if_true] at hz
    have hlen : (ss.take len).length = len := by rw [List.length_take]; omega
    refine ⟨(ss.take len).map fun s => s.data.toList, some x, cap, by rw [List.length_map, hlen], by rw [List.length_map, hlen]; exact hl, ?_⟩
    intro j v hj
    rw [strs, List.map_map, List.getElem?_map] at hj
    cases hs : (ss.take len)[j]? with
    | none => rw [hs] at hj; exact absurd hj (by simp)
    | some s =>
      rw [hs] at hj
      obtain rfl := Option.some.inj hj
      have hjl := (List.getElem?_eq_some_iff.1 hs).1
      rw [hlen] at hjl
      rw [List.getElem?_take, if_pos hjl] at hs
      refine ⟨x, rfl, ?_⟩
      rw [hcell j (by omega), List.getD_eq_getElem?_getD, hs]
      rfl
end Go.Proofs.Ytkadnmoephkklaa
