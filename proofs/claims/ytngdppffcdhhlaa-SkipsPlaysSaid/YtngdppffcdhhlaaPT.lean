/- Structs and arrays that are built of their parts. No condition. -/
import Derived.Test.YtngdppffcdhhlaaPW
import Derived.Laws.Tables
namespace Go.PBYtngdppffcdhhlaa
open Go Go.RowKit
set_option linter.unusedSimpArgs false
set_option linter.unusedVariables false

theorem set_all (off : Nat) : ∀ (vs : List Value) (k : Nat) (c : List Value), off + k + vs.length ≤ c.length →
    (vs.zipIdx k).foldl (fun cs (x : Value × Nat) => cs.setIfInBounds (off + x.2) x.1) c.toArray = (c.take (off + k) ++ vs ++ c.drop (off + k + vs.length)).toArray
  | [], k, c, _ => by simp
  | v :: vs, k, c, h => by
    simp only [List.length_cons] at h
    have ih := set_all off vs (k + 1) (c.set (off + k) v) (by simp; omega)
    simp only [List.zipIdx_cons, List.foldl_cons, List.setIfInBounds_toArray]
    rw [ih]
    congr 1
    have hlt : off + k < c.length := by omega
    rw [List.set_eq_take_append_cons_drop, if_pos hlt]
    have e1 : (c.take (off + k)).length = off + k := by simp; omega
    have t1 : (c.take (off + k) ++ v :: c.drop (off + k + 1)).take (off + (k + 1)) = c.take (off + k) ++ [v] := by
      rw [List.take_append, e1, List.take_of_length_le (by omega), show off + (k + 1) - (off + k) = 1 by omega]
      rfl
    have t2 : (c.take (off + k) ++ v :: c.drop (off + k + 1)).drop (off + (k + 1) + vs.length) = c.drop (off + k + (vs.length + 1)) := by
      rw [List.drop_append, e1, List.drop_eq_nil_of_le (by omega), show off + (k + 1) + vs.length - (off + k) = vs.length + 1 by omega, List.drop_succ_cons, List.drop_drop, List.nil_append]
      congr 1
      omega
    rw [t1, t2]
    simp

/-- the parts are laid one behind the other -/
def fillS (place : Nat → Option (Nat × Nat)) : List Value → List (Nat × Value) → Option (List Value)
  | c, [] => some c
  | c, (i, v) :: r =>
    match place i with
    | none => none
    | some (off, size) => if v.cells.toList.length = size ∧ off + size ≤ c.length then fillS place (splice c off v.cells.toList) r else none

theorem fill_fillS (place : Nat → Option (Nat × Nat)) : ∀ (l : List (Nat × Value)) (c c' : List Value), fillS place c l = some c' → Instr.fill place c.toArray l = some c'.toArray
  | [], c, c', h => by simp only [fillS, Option.some.injEq] at h; subst h; rfl
  | (i, v) :: r, c, c', h => by
    simp only [fillS] at h
    simp only [Instr.fill]
    cases hp : place i with
    | none => rw [hp] at h; simp at h
    | some q =>
      obtain ⟨off, size⟩ := q
      rw [hp] at h
      simp only at h ⊢
      split at h
      · rename_i hc
        have ih := fill_fillS place r _ c' h
        have hc1 : v.cells.size = size := by simpa using hc.1
        have hcond : (decide (v.cells.size ≠ size) || decide (off + v.cells.size > c.toArray.size)) = false := by
          simp [hc1]
          omega
        rw [hcond]
        simp only [Bool.false_eq_true, if_false]
        have hs := set_all off v.cells.toList 0 c (by have := hc.1; omega)
        have e : v.cells.zipIdx.foldl (fun cs (x : Value × Nat) => cs.setIfInBounds (off + x.2) x.1) c.toArray = (splice c off v.cells.toList).toArray := by
          rw [← Array.foldl_toList, Array.toList_zipIdx]
          simpa [splice] using hs
        rw [← ih, ← e]
      · simp at h

/-- a struct's noughts, and where its parts lie -/
def layS (P : Program) (t : TypeId) : Option (List Value × List (Nat × Nat)) :=
  match P.info? t, P.underlying t with
  | some it, some (.struct fields) =>
    match it.zero, fields.toList.mapM (fun f => (P.info? f.type).map fun i => (f.offset, i.size)) with
    | some z, some places => some (z.cells.toList, places)
    | _, _ => none
  | _, _ => none
/-- an array's noughts, and an element's size -/
def layA (P : Program) (t : TypeId) : Option (List Value × Nat) :=
  match P.info? t, P.underlying t with
  | some it, some (.array _ e) =>
    match it.zero, P.info? e with
    | some z, some ie => some (z.cells.toList, ie.size)
    | _, _ => none
  | _, _ => none
theorem built_S {P : Program} {t : TypeId} {parts : List (Nat × Value)} {zc c' : List Value} {pl : List (Nat × Nat)} (h : layS P t = some (zc, pl)) (hf : fillS (fun i => pl[i]?) zc parts = some c') : P.built t parts = some c'.toArray := by
  unfold layS at h
  unfold Program.built
  split at h
  · rename_i it fields h1 h2
    rw [h1, h2]
    simp only at h ⊢
    split at h
    · rename_i z places h3 h4
      simp only [Option.some.injEq, Prod.mk.injEq] at h
      obtain ⟨rfl, rfl⟩ := h
      rw [h3, h4]
      have := fill_fillS _ parts _ c' hf
      simpa using this
    · simp at h
  · simp at h
theorem built_A {P : Program} {t : TypeId} {parts : List (Nat × Value)} {zc c' : List Value} {size : Nat} (h : layA P t = some (zc, size)) (hf : fillS (fun i => some (i * size, size)) zc parts = some c') : P.built t parts = some c'.toArray := by
  unfold layA at h
  unfold Program.built
  split at h
  · rename_i it n e h1 h2
    rw [h1, h2]
    simp only at h ⊢
    split at h
    · rename_i z ie h3 h4
      simp only [Option.some.injEq, Prod.mk.injEq] at h
      obtain ⟨rfl, rfl⟩ := h
      rw [h3, h4]
      have := fill_fillS _ parts _ c' hf
      simpa using this
    · simp at h
  · simp at h
section
variable {P : Program} {w : World} {Q : Exit → Act → World → Prop} {a : Act} {dst : Option Tmp} {ty : TypeId} {pos : String} {af : Array Edge} {g : Option (Nat × Bool)}
theorem opw_build {K : Act → World → Prop} {t : TypeId} {pr : Array (Nat × Operand)} {c' : List Value} (parts : List (Nat × Value)) (hp : (pr.toList.map fun p => (p.1, a.eval p.2)) = parts) (hb : P.built t parts = some c'.toArray)
    (h : K (a.put dst (.agg c'.toArray)) w) : Oper.wp P { dst, op := .build t pr, type := ty, pos, after := af, guard := g } a w K Q := by
  have e : (pr.map fun p => (p.1, a.eval p.2)).toList = parts := by rw [← hp]; simp
  exact opw_val (v := .agg c'.toArray) (w' := w) (by simp [execOp, run_build w t (pr.map fun p => (p.1, a.eval p.2)) c'.toArray (by rw [e]; exact hb)]) h
theorem opw_allocZ {K : Act → World → Prop} {e : TypeId} {z : Value} {S : List Nat} {w0 : World} {L : List Res} (H : St S w0 L w) (hi : (P.info? e).map (·.zero) = some (some z))
    (h : ∀ w' b, St S w0 (.blk b e z.cells.toList :: L) w' → K (a.put dst (.pointer (some ⟨b, 0, none⟩))) w') : Oper.wp P { dst, op := .alloc e, type := ty, pos, after := af, guard := g } a w K Q := by
  cases hq : P.info? e with
  | none => rw [hq] at hi; simp at hi
  | some i =>
    have hz : i.zero = some z := by rw [hq] at hi; simpa using hi
    exact opw_alloc H hq hz (fun w' b H' => h w' b ⟨H'.kept, fun r hr => H'.ok r (by simpa [or_comm] using hr), fun r hr => H'.new r (by simpa [or_comm] using hr), (List.perm_append_comm (l₁ := L) (l₂ := [Res.blk b e z.cells.toList])).pairwise H'.apart (fun {r s} hrs b' hb hs => hrs b' hs hb)⟩)
/-- a new variable, whose block is the next -/
theorem opw_allocN {K : Act → World → Prop} {e : TypeId} {z : Value} {S : List Nat} {w0 : World} {L : List Res} {N : Nat} (H : St S w0 L w) (hi : (P.info? e).map (·.zero) = some (some z)) (hN : w.heap.size = N)
    (h : ∀ w', St S w0 (.blk N e z.cells.toList :: L) w' → K (a.put dst (.pointer (some ⟨N, 0, none⟩))) w') : Oper.wp P { dst, op := .alloc e, type := ty, pos, after := af, guard := g } a w K Q := by
  subst hN
  cases hq : P.info? e with
  | none => rw [hq] at hi; simp at hi
  | some i =>
    have hz : i.zero = some z := by rw [hq] at hi; simpa using hi
    refine opw_val (v := .pointer (some ⟨w.heap.size, 0, none⟩)) (w' := w.alloc (.cells z.cells e)) (by simp [execOp, Instr.alloc, zeroValue, typeInfo, hq, hz, newVar, newRow]) ?_
    have H' : St S w0 (L ++ [.blk w.heap.size e z.cells.toList]) (w.alloc (.cells z.cells e)) := H.add (World.grownBy_alloc w _ none) ⟨(0, 0), by simpa using heap_alloc_new w (.cells z.cells e), .inl rfl⟩ (by simp [Res.at])
    exact h _ ⟨H'.kept, fun r hr => H'.ok r (by simpa [or_comm] using hr), fun r hr => H'.new r (by simpa [or_comm] using hr), (List.perm_append_comm (l₁ := L) (l₂ := [Res.blk w.heap.size e z.cells.toList])).pairwise H'.apart (fun {r s} hrs b' hb hs => hrs b' hs hb)⟩
theorem splice_all {c vs : List Value} (h : c.length = vs.length) : splice c 0 vs = vs := by
  simp only [splice, List.take_zero, List.nil_append, Nat.zero_add]
  rw [List.drop_eq_nil_of_le (by omega), List.append_nil]
end
end Go.PBYtngdppffcdhhlaa
