/- Rows of bytes: what octets.Join and octets.Part do. Conditions: lengths that memory bears. -/
import Derived.Test.YtpjjledbmfmbiaaK01
import Derived.Test.YtpjjledbmfmbiaaPR
namespace Go.Proofs.Ytpjjledbmfmbiaa
open Go.RowKit Go.PBYtpjjledbmfmbiaa
set_option linter.unusedVariables false
set_option maxRecDepth 10000
set_option linter.unusedSimpArgs false

theorem rowsinfo : (Try.prog.info? 26).map (fun i => (i.zero, i.size, i.bytes)) = some (some (.slice none 0 0), 1, 24) := by kernel_rfl

/-- the rows that are owned, beside the slice of them -/
def inner (vs : List Value) (ls : List (List UInt8)) : List Res := List.zipWith (fun u l => .row 5 1 u l.length (bys l)) vs ls

def PartPost (P : Program) (b0 : List UInt8) (w : World) (e : Ending) (w' : World) : Prop :=
  (partOf b0 = none ∧ e = .returned (.tuple #[.slice none 0 0, .int .i64 3]) ∧ Kept [] w w') ∨
  (∃ ls v vs, partOf b0 = some ls ∧ e = .returned (.tuple #[v, .int .i64 0]) ∧ vs.length = ls.length ∧ St [] w (.row 26 1 v ls.length vs :: inner vs ls) w')

end Go.Proofs.Ytpjjledbmfmbiaa
