/- Openers of arguments: a text, two numbers. No condition. -/
import Derived.Test.YtkadnmoephkklaaA03
namespace Go.Proofs.Ytkadnmoephkklaa
open Go.RowKit Go.PBYtkadnmoephkklaa
set_option linter.unusedVariables false

def PairV (v : Value) (q : Int × Int) : Prop := v = .agg #[.int .i64 q.1, .int .i64 q.2]
theorem open_pair {cs : List Value} (h : Fits cs [.i64, .i64]) : ∃ q, PairV (.agg cs.toArray) q := by
  obtain ⟨a, b, rfl, ha, hb⟩ := Fits.split (k := [.i64]) (l := [.i64]) h
  obtain ⟨x, rfl, _⟩ := ha.one
  obtain ⟨y, rfl, _⟩ := hb.one
  exact ⟨(x, y), rfl⟩
def TextV (v : Value) (l : List UInt8) : Prop := v = .string ⟨l.toArray⟩
theorem open_text {H : Type} {enc : TypeId × Value → H} {P : Program} {w : World} {r : Reach} {b0 : Nat} {t : TypeId} {v : Value} {d : DataW H} {p : List MemPlace} (ht : P.underlying t = some .string) (hv : Value.okWide P w r b0 t v) (h : DataW.Trod enc P w 0 (fun _ => true) true t v d p) : ∃ l, TextV v l := by
  obtain ⟨s, rfl⟩ := Go.WideShapes.okWide_string ht hv
  exact ⟨s.data.toList, by unfold TextV; rfl⟩
end Go.Proofs.Ytkadnmoephkklaa
