/- A key as an argument; keys that are compared. No condition. -/
import Derived.Test.YtjllcdgnmdieoaaY
import Derived.Test.YtjllcdgnmdieoaaPG
import Derived.Test.YtjllcdgnmdieoaaPF
namespace Go.Proofs.Ytjllcdgnmdieoaa
open Go.RowKit Go.PBYtjllcdgnmdieoaa
set_option linter.unusedVariables false
set_option linter.unusedSimpArgs false
set_option maxRecDepth 100000

theorem laidP : laidOutB Try.prog = true := by kernel_rfl
theorem flat32 : Flat Try.prog 23 (List.replicate 32 .u8) :=
  flat_of (m := 3) laidP (by omega) (of_decide_eq_true (by kernel_rfl)) (by kernel_rfl) (by kernel_rfl) (by kernel_rfl) (by kernel_rfl) (by kernel_rfl) (by kernel_rfl)
def KeyV (v : Value) (k : List UInt8) : Prop := v = .agg (bys k).toArray ∧ k.length = 32
theorem open_key {cs : List Value} (h : Fits cs (List.replicate 32 .u8)) : ∃ k, KeyV (.agg cs.toArray) k := by
  obtain ⟨k, hk, rfl⟩ := h.bytes
  exact ⟨k, rfl, hk⟩
end Go.Proofs.Ytjllcdgnmdieoaa
