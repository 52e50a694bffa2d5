/- What the arguments of the statements of octets hold, in the words of the contracts. No condition. -/
import Derived.Test.YthdendffngihbaaRows
import Derived.Test.YthdendffngihbaaA01
import Derived.Test.YthdendffngihbaaP01
import Derived.Test.YthdendffngihbaaPG
import Derived.Test.YthdendffngihbaaK01b
namespace Go.Proofs.Ythdendffngihbaa
open Go.RowKit Go.PBYthdendffngihbaa
set_option linter.unusedVariables false
set_option linter.unusedSimpArgs false

theorem rows_arg {w : World} {v : Value} {ls : List (List UInt8)} (h : RsArg w v ls) : RowsAt w v ls ∧ ls.length ≤ 9223372036854775807 ∧ ∀ b ∈ ls, b.length ≤ 9223372036854775807 := by
  obtain ⟨A, c, vs, rfl, h1, h2, h3, h4, h5⟩ := h
  refine ⟨⟨A, c, vs, rfl, h1, h3, h4, fun i u l hu hl => ?_⟩, by omega, fun b hb => ?_⟩
  · obtain ⟨A1, c1, rfl, g1, g2, g3⟩ := h5 i u l hu hl
    exact ⟨A1, c1, rfl, g1, g3⟩
  · obtain ⟨i, hi⟩ := List.mem_iff_getElem?.1 hb
    have hil := (List.getElem?_eq_some_iff.1 hi).1
    obtain ⟨A1, c1, _, g1, g2, g3⟩ := h5 i _ b (List.getElem?_eq_getElem (by omega)) hi
    omega

/-- the rows that Part tells, as rows of bytes -/
theorem rows_inner {w0 w : World} {v : Value} {vs : List Value} {ls : List (List UInt8)} (hl : vs.length = ls.length) (H : St [] w0 (.row 26 1 v ls.length vs :: inner vs ls) w) : RowsAt w v ls := by
  obtain ⟨A, c, rfl, hc, _, hA⟩ := (H.get (k := 0) rfl).slice
  refine ⟨A, c, vs, rfl, hc, hA, hl, fun i u l hu hl' => ?_⟩
  have h : (Res.row 26 1 (Value.slice A ls.length c) ls.length vs :: inner vs ls)[i + 1]? = some (.row 5 1 u l.length (bys l)) := by
    rw [List.getElem?_cons_succ, inner, List.getElem?_zipWith, hu, hl']
  exact Row.bs (H.get h)
end Go.Proofs.Ythdendffngihbaa
