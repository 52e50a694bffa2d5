/-
  No cell of these rows narrows 'for every input' (looked for: loops, veiled, ifaces, maps, wideKeys, modest, calm, conditions, laid).
  DERIVED. THE GIVEN ROWS OF THIS SEAT. 5 by the template 'for every input the law returns true; each argument reads behind the call as it read before'; 0 by the template 'total and deterministic' (their statements: YtjllcdgnmdieoaaTotals.lean).
  GIVEN WITH THE SEED: the statements are not yours to turn. If you find one false, say at which input.
  Laid BY PROGRAM, IN A SANDBOX (cutbox-rows.mjs): the forced cells as the released guide's own fill.sh prints them over the translation f5168f6e516879c1… (all of the seat's roots in one cut). By AI agents, Wed Nov 11 2026. No macro, syntax, notation, axiom, sorry.
-/
import Derived.Test.YtjllcdgnmdieoaaChecked
import GoSem.Claim
import GoSem.ClaimJoined
import GoSem.ClaimMapViews
import Derived.JoinedTies
import Derived.KernelRfl
namespace Go.Proofs.Ytjllcdgnmdieoaa
/- THE CELL 'sum', in the pinned program and in every row, IS THE sha256 OF THE DUMP (.gsa) THAT YtjllcdgnmdieoaaProg.lean LOADS. Nothing in Lean hashes anything: it is a label: what it is worth is what the hold of that sum in a sandbox is worth. -/
noncomputable def Try.pinned : Pinned := { name := "ytjllcdgnmdieoaa", sum := "f5168f6e516879c1316bdaa2039c408157f8c2d3a599665c0e9a3c68b485cf2f", checked := Try.checked }
namespace Rows
def none {H : Type} : Left H := { results := [], args := [] }

/-- 'palfreylaw07.CurveMults': WHATEVER THE INPUT: true; the input reads as it did. -/
def curveMultsSpec : ChangeSpec := { name := "curveMults", fn := fun _ => fun
  | [d1, d2] => { results := [.lit (.bool true)], args := [d1, d2] }
  | _ => none }
def curveMultsRow : OpenClaim := { program := "ytjllcdgnmdieoaa", sum := "f5168f6e516879c1316bdaa2039c408157f8c2d3a599665c0e9a3c68b485cf2f", func := "palfrey/palfreylaw07.CurveMults", spec := "curveMults", unfollowed := true, recurses := true, apart := false }
def CurveMultsSaid : Prop := curveMultsRow.holds Try.pinned (OpenSpec.ofChange curveMultsSpec)

/-- ITS FALSE NEIGHBOUR: 'it returns false'. Refute it at one input. -/
def curveMultsWrong : ChangeSpec := { name := "curveMults", fn := fun _ => fun
  | [d1, d2] => { results := [.lit (.bool false)], args := [d1, d2] }
  | _ => none }
def CurveMultsWrongFalsely : Prop := curveMultsRow.holds Try.pinned (OpenSpec.ofChange curveMultsWrong)

/-- 'palfreylaw07.CurveCommon': WHATEVER THE INPUT: true; the input reads as it did. -/
def curveCommonSpec : ChangeSpec := { name := "curveCommon", fn := fun _ => fun
  | [d1, d2] => { results := [.lit (.bool true)], args := [d1, d2] }
  | _ => none }
def curveCommonRow : OpenClaim := { program := "ytjllcdgnmdieoaa", sum := "f5168f6e516879c1316bdaa2039c408157f8c2d3a599665c0e9a3c68b485cf2f", func := "palfrey/palfreylaw07.CurveCommon", spec := "curveCommon", unfollowed := true, recurses := true, apart := false }
def CurveCommonSaid : Prop := curveCommonRow.holds Try.pinned (OpenSpec.ofChange curveCommonSpec)

/-- ITS FALSE NEIGHBOUR: 'it returns false'. Refute it at one input. -/
def curveCommonWrong : ChangeSpec := { name := "curveCommon", fn := fun _ => fun
  | [d1, d2] => { results := [.lit (.bool false)], args := [d1, d2] }
  | _ => none }
def CurveCommonWrongFalsely : Prop := curveCommonRow.holds Try.pinned (OpenSpec.ofChange curveCommonWrong)

/-- 'palfreylaw07.CurveThree': WHATEVER THE INPUT: true; the input reads as it did. -/
def curveThreeSpec : ChangeSpec := { name := "curveThree", fn := fun _ => fun
  | [d1, d2, d3] => { results := [.lit (.bool true)], args := [d1, d2, d3] }
  | _ => none }
def curveThreeRow : OpenClaim := { program := "ytjllcdgnmdieoaa", sum := "f5168f6e516879c1316bdaa2039c408157f8c2d3a599665c0e9a3c68b485cf2f", func := "palfrey/palfreylaw07.CurveThree", spec := "curveThree", unfollowed := true, recurses := true, apart := false }
def CurveThreeSaid : Prop := curveThreeRow.holds Try.pinned (OpenSpec.ofChange curveThreeSpec)

/-- ITS FALSE NEIGHBOUR: 'it returns false'. Refute it at one input. -/
def curveThreeWrong : ChangeSpec := { name := "curveThree", fn := fun _ => fun
  | [d1, d2, d3] => { results := [.lit (.bool false)], args := [d1, d2, d3] }
  | _ => none }
def CurveThreeWrongFalsely : Prop := curveThreeRow.holds Try.pinned (OpenSpec.ofChange curveThreeWrong)

/-- 'palfreylaw07.CurveBits': WHATEVER THE INPUT: true; the input reads as it did. -/
def curveBitsSpec : ChangeSpec := { name := "curveBits", fn := fun _ => fun
  | [d1, d2, d3] => { results := [.lit (.bool true)], args := [d1, d2, d3] }
  | _ => none }
def curveBitsRow : OpenClaim := { program := "ytjllcdgnmdieoaa", sum := "f5168f6e516879c1316bdaa2039c408157f8c2d3a599665c0e9a3c68b485cf2f", func := "palfrey/palfreylaw07.CurveBits", spec := "curveBits", unfollowed := true, recurses := true, apart := false }
def CurveBitsSaid : Prop := curveBitsRow.holds Try.pinned (OpenSpec.ofChange curveBitsSpec)

/-- ITS FALSE NEIGHBOUR: 'it returns false'. Refute it at one input. -/
def curveBitsWrong : ChangeSpec := { name := "curveBits", fn := fun _ => fun
  | [d1, d2, d3] => { results := [.lit (.bool false)], args := [d1, d2, d3] }
  | _ => none }
def CurveBitsWrongFalsely : Prop := curveBitsRow.holds Try.pinned (OpenSpec.ofChange curveBitsWrong)

/-- 'palfreylaw07.CurveNumbers': WHATEVER THE INPUT: true; the input reads as it did. -/
def curveNumbersSpec : ChangeSpec := { name := "curveNumbers", fn := fun _ => fun
  | [d1, d2] => { results := [.lit (.bool true)], args := [d1, d2] }
  | _ => none }
def curveNumbersRow : OpenClaim := { program := "ytjllcdgnmdieoaa", sum := "f5168f6e516879c1316bdaa2039c408157f8c2d3a599665c0e9a3c68b485cf2f", func := "palfrey/palfreylaw07.CurveNumbers", spec := "curveNumbers", unfollowed := true, recurses := true, apart := false }
def CurveNumbersSaid : Prop := curveNumbersRow.holds Try.pinned (OpenSpec.ofChange curveNumbersSpec)

/-- ITS FALSE NEIGHBOUR: 'it returns false'. Refute it at one input. -/
def curveNumbersWrong : ChangeSpec := { name := "curveNumbers", fn := fun _ => fun
  | [d1, d2] => { results := [.lit (.bool false)], args := [d1, d2] }
  | _ => none }
def CurveNumbersWrongFalsely : Prop := curveNumbersRow.holds Try.pinned (OpenSpec.ofChange curveNumbersWrong)

/- THE SECOND FORM. 'bulk': how many values and letters a reading holds, each counted each time it is reached (what is shared counts as often as it is met; a slice's spare places count too). A statement '..UptoSaid' is the law's where the arguments, and the package variables that the reading takes, are together of bulk at most 1048576: NARROWER than '..Said'. Prove '..Said' where nothing that the law and all that it calls make is longer than what came in: it says more and counts as full. Else prove '..UptoSaid'. A law counts once. -/
mutual
def uptoBulk {H : Type} : DataW H → Nat
  | .lit (.string bytes) => bytes.length + 1
  | .lit _ => 1
  | .nil => 1
  | .ptr d => uptoBulk d + 1
  | .slice elems spare => uptoBulkAll elems + uptoBulkAll spare + 1
  | .agg parts => uptoBulkAll parts + 1
  | .iface _ d => uptoBulk d + 1
  | .map entries => uptoBulkEntries entries + 1
  | .held _ => 1
def uptoBulkAll {H : Type} : List (DataW H) → Nat
  | [] => 0
  | d :: r => uptoBulk d + uptoBulkAll r
def uptoBulkEntries {H : Type} : List (Lit × DataW H) → Nat
  | [] => 0
  | x :: r => uptoBulkEntry x + uptoBulkEntries r
def uptoBulkEntry {H : Type} : Lit × DataW H → Nat
  | (.string bytes, d) => bytes.length + uptoBulk d + 1
  | (_, d) => uptoBulk d + 1
 end
def uptoSmall : (H : Type) → List (DataW H) → Bool := fun _ ds => decide (uptoBulkAll ds ≤ 1048576)
def OpenSpec.upto (s : _root_.Go.ChangeSpec) : _root_.Go.OpenSpec := { _root_.Go.OpenSpec.ofChange s with cond := some uptoSmall }

/-- 'palfreylaw07.CurveMults', WHERE WHAT IT READS IS OF BULK AT MOST 1048576: true; the input reads as it did. -/
def curveMultsUptoRow : OpenClaim := { program := "ytjllcdgnmdieoaa", sum := "f5168f6e516879c1316bdaa2039c408157f8c2d3a599665c0e9a3c68b485cf2f", func := "palfrey/palfreylaw07.CurveMults", spec := "curveMults", unfollowed := true, recurses := true, apart := false, narrowed := true }
def CurveMultsUptoSaid : Prop := curveMultsUptoRow.holds Try.pinned (OpenSpec.upto curveMultsSpec)

/-- 'palfreylaw07.CurveCommon', WHERE WHAT IT READS IS OF BULK AT MOST 1048576: true; the input reads as it did. -/
def curveCommonUptoRow : OpenClaim := { program := "ytjllcdgnmdieoaa", sum := "f5168f6e516879c1316bdaa2039c408157f8c2d3a599665c0e9a3c68b485cf2f", func := "palfrey/palfreylaw07.CurveCommon", spec := "curveCommon", unfollowed := true, recurses := true, apart := false, narrowed := true }
def CurveCommonUptoSaid : Prop := curveCommonUptoRow.holds Try.pinned (OpenSpec.upto curveCommonSpec)

/-- 'palfreylaw07.CurveThree', WHERE WHAT IT READS IS OF BULK AT MOST 1048576: true; the input reads as it did. -/
def curveThreeUptoRow : OpenClaim := { program := "ytjllcdgnmdieoaa", sum := "f5168f6e516879c1316bdaa2039c408157f8c2d3a599665c0e9a3c68b485cf2f", func := "palfrey/palfreylaw07.CurveThree", spec := "curveThree", unfollowed := true, recurses := true, apart := false, narrowed := true }
def CurveThreeUptoSaid : Prop := curveThreeUptoRow.holds Try.pinned (OpenSpec.upto curveThreeSpec)

/-- 'palfreylaw07.CurveBits', WHERE WHAT IT READS IS OF BULK AT MOST 1048576: true; the input reads as it did. -/
def curveBitsUptoRow : OpenClaim := { program := "ytjllcdgnmdieoaa", sum := "f5168f6e516879c1316bdaa2039c408157f8c2d3a599665c0e9a3c68b485cf2f", func := "palfrey/palfreylaw07.CurveBits", spec := "curveBits", unfollowed := true, recurses := true, apart := false, narrowed := true }
def CurveBitsUptoSaid : Prop := curveBitsUptoRow.holds Try.pinned (OpenSpec.upto curveBitsSpec)

/-- 'palfreylaw07.CurveNumbers', WHERE WHAT IT READS IS OF BULK AT MOST 1048576: true; the input reads as it did. -/
def curveNumbersUptoRow : OpenClaim := { program := "ytjllcdgnmdieoaa", sum := "f5168f6e516879c1316bdaa2039c408157f8c2d3a599665c0e9a3c68b485cf2f", func := "palfrey/palfreylaw07.CurveNumbers", spec := "curveNumbers", unfollowed := true, recurses := true, apart := false, narrowed := true }
def CurveNumbersUptoSaid : Prop := curveNumbersUptoRow.holds Try.pinned (OpenSpec.upto curveNumbersSpec)

end Rows
end Go.Proofs.Ytjllcdgnmdieoaa
