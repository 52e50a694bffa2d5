/- What the arguments of a statement's function hold, read out of the row's own words. No condition. -/
import Derived.Test.YtngdppffcdhhlaaPW
import Derived.ProofKit
import Derived.OpenShut
import Derived.ShutString
import Derived.ChangeOld
import Derived.Below
import Derived.Deep.Slices
import Derived.Deep.Matrix
namespace Go.PBYtngdppffcdhhlaa
open Go Go.RowKit Go.ChangeShapes Go.WideShapes Go.ChangeAt
set_option linter.unusedSimpArgs false
set_option linter.unusedVariables false

def BsArg (w : World) (v : Value) (l : List UInt8) : Prop := ∃ A c, v = .slice A l.length c ∧ l.length ≤ c ∧ c ≤ 9223372036854775807 ∧ SlAt w A (bys l)

def RsArg (w : World) (v : Value) (ls : List (List UInt8)) : Prop :=
  ∃ (A : Option Addr) (c : Nat) (vs : List Value), v = .slice A ls.length c ∧ ls.length ≤ c ∧ c ≤ 9223372036854775807 ∧ SlAt w A vs ∧ vs.length = ls.length ∧
    ∀ (i : Nat) (u : Value) (l : List UInt8), vs[i]? = some u → ls[i]? = some l → BsArg w u l

def toB (zs : List Int) : List UInt8 := zs.map fun z => UInt8.ofNat z.toNat
theorem bys_toB {zs : List Int} (h : ∀ n ∈ zs, (Lit.int .u8 n).wf = true) : bys (toB zs) = zs.map fun z => .int .u8 z := by
  unfold bys toB
  rw [List.map_map]
  apply List.map_congr_left
  intro z hz
  have hz' := h z hz
  simp only [Lit.wf, Bool.and_eq_true, decide_eq_true_eq] at hz'
  have h1 : IntKind.u8.min = 0 := rfl
  have h2 : IntKind.u8.max = 255 := rfl
  rw [h1, h2] at hz'
  simp only [Function.comp]
  congr 1
  have : z.toNat < 256 := by omega
  rw [UInt8.toNat_ofNat_of_lt' this]
  omega
theorem toB_length (zs : List Int) : (toB zs).length = zs.length := by simp [toB]
theorem sl_ints {w : World} {a : Addr} {zs : List Int} (h : ∀ i, i < zs.length → w.cell? (a.add i) = some (.int .u8 (zs.getD i 0))) (hw : ∀ n ∈ zs, (Lit.int .u8 n).wf = true) (n : Nat) : SlAt w (some a) (bys (toB (zs.take n))) := by
  intro j v hv
  rw [bys_toB (fun m hm => hw m (List.mem_of_mem_take hm)), List.getElem?_map] at hv
  cases hz : (zs.take n)[j]? with
  | none => rw [hz] at hv; simp at hv
  | some z =>
    rw [hz] at hv
    simp only [Option.map_some, Option.some.injEq] at hv
    subst hv
    have hj : j < (zs.take n).length := (List.getElem?_eq_some_iff.1 hz).1
    have hj' : j < zs.length := by rw [List.length_take] at hj; omega
    refine ⟨a, rfl, ?_⟩
    rw [h j hj']
    rw [List.getElem?_take] at hz
    split at hz
    · rw [List.getD_eq_getElem?_getD, hz]; rfl
    · simp at hz

section
variable {H : Type} {enc : TypeId × Value → H} {P : Program} {w : World} {r : Reach} {b0 : Nat}

theorem open_bytes {t e : TypeId} {v : Value} {d : DataW H} {p : List MemPlace} (ht : P.underlying t = some (.slice e)) (he : P.underlying e = some (.int .u8)) (hc : P.cellsOf e = 1)
    (hv : Value.okWide P w r b0 t v) (h : DataW.Trod enc P w 0 (fun _ => true) true t v d p) : ∃ l, BsArg w v l := by
  obtain ⟨a, len, cap, rfl⟩ := okWide_slice ht hv
  obtain ⟨fuel, hf⟩ := h
  rcases open_ints ht he hc hf with ⟨hcs, _⟩ | ⟨x, l, c, zs, hcs, _, hl, hm, hz, _, hcell, hwz⟩
  · simp [Value.cells] at hcs
    obtain ⟨rfl, rfl, rfl⟩ := hcs
    exact ⟨[], none, 0, rfl, Nat.le_refl _, by omega, SlAt.nil _ _⟩
  · simp [Value.cells] at hcs
    obtain ⟨rfl, rfl, rfl⟩ := hcs
    simp only [if_true] at hz
    have e : (toB (zs.take len)).length = len := by rw [toB_length, List.length_take]; omega
    refine ⟨toB (zs.take len), some x, cap, by rw [e], by rw [e]; exact hl, by simpa [maxLen] using hm, sl_ints hcell hwz len⟩

/-- a row of rows, out of the row's words -/
theorem open_rows8 {t e q : TypeId} {v : Value} {d : DataW H} {p : List MemPlace} (ht : P.underlying t = some (.slice e)) (he : P.underlying e = some (.slice q)) (hq : P.underlying q = some (.int .u8))
    (ce : P.cellsOf e = 1) (cq : P.cellsOf q = 1)
    (hv : Value.okWide P w r b0 t v) (h : DataW.Trod enc P w 0 (fun _ => true) true t v d p) :
    ∃ ls, RsArg w v ls := by
  obtain ⟨a, len, cap, rfl⟩ := okWide_slice ht hv
  obtain ⟨fuel, hf⟩ := h
  rcases Deep.open_int_rows ht he hq ce cq hf with ⟨hcs, _⟩ | ⟨x, l, c, A, L, C, Z, hcs, _, hl, hm, _, hcell⟩
  · simp [Value.cells] at hcs
    obtain ⟨rfl, rfl, rfl⟩ := hcs
    exact ⟨[], none, 0, [], rfl, Nat.le_refl _, by omega, SlAt.nil _ _, rfl, by simp⟩
  · simp [Value.cells] at hcs
    obtain ⟨rfl, rfl, rfl⟩ := hcs
    refine ⟨(List.range len).map fun i => toB ((Z i).take (L i)), some x, cap, (List.range len).map fun i => .slice (A i) (L i) (C i), by simp, by simpa using hl, by simpa [maxLen] using hm, ?_, by simp, ?_⟩
    · intro j v hv
      rw [List.getElem?_map] at hv
      cases hj : (List.range len)[j]? with
      | none => rw [hj] at hv; simp at hv
      | some i =>
        rw [hj] at hv
        have hjl := (List.getElem?_eq_some_iff.1 hj).1
        rw [List.length_range] at hjl
        rw [List.getElem?_range hjl] at hj
        simp only [Option.some.injEq] at hj
        subst hj
        simp only [Option.map_some, Option.some.injEq] at hv
        subst hv
        exact ⟨x, rfl, (hcell j (by omega)).1⟩
    · intro i u l hu hl'
      rw [List.getElem?_map] at hu hl'
      cases hj : (List.range len)[i]? with
      | none => rw [hj] at hu; simp at hu
      | some j =>
        rw [hj] at hu hl'
        have hjl := (List.getElem?_eq_some_iff.1 hj).1
        rw [List.length_range] at hjl
        rw [List.getElem?_range hjl] at hj
        simp only [Option.some.injEq] at hj
        subst hj
        simp only [Option.map_some, Option.some.injEq] at hu hl'
        subst hu
        subst hl'
        obtain ⟨_, h1, h2, h3, h4, h5, h6⟩ := hcell i (by omega)
        have e : (toB ((Z i).take (L i))).length = L i := by rw [toB_length, List.length_take]; omega
        refine ⟨A i, C i, by rw [e], by rw [e]; exact h1, by simpa [maxLen] using h2, ?_⟩
        cases hA : A i with
        | none =>
          have h0 : C i = 0 := h5 hA
          have hz0 : Z i = [] := List.eq_nil_of_length_eq_zero (by omega)
          rw [hz0]
          simp [toB, bys]
          exact SlAt.nil _ _
        | some a' =>
          have h7 := (h6 a' hA).2
          exact sl_ints (fun c hc => h7 c (by omega)) h4 (L i)
end
end Go.PBYtngdppffcdhhlaa
