/-
  No cell of these rows narrows 'for every input' (looked for: loops, veiled, ifaces, maps, wideKeys, modest, calm, conditions, laid).
  DERIVED. THE GIVEN ROWS OF THIS SEAT. 6 by the template 'for every input the law returns true; each argument reads behind the call as it read before'; 0 by the template 'total and deterministic' (their statements: YtlpjhjoaafhcjaaTotals.lean).
  GIVEN WITH THE SEED: the statements are not yours to turn. If you find one false, say at which input.
  Laid BY PROGRAM, IN A SANDBOX (cutbox-rows.mjs): the forced cells as the released guide's own fill.sh prints them over the translation 44c4b0aae430e68a… (all of the seat's roots in one cut). By AI agents, Wed Nov 11 2026. No macro, syntax, notation, axiom, sorry.
-/
import Derived.Test.YtlpjhjoaafhcjaaChecked
import GoSem.Claim
import GoSem.ClaimJoined
import GoSem.ClaimMapViews
import Derived.JoinedTies
import Derived.KernelRfl
namespace Go.Proofs.Ytlpjhjoaafhcjaa
/- THE CELL 'sum', in the pinned program and in every row, IS THE sha256 OF THE DUMP (.gsa) THAT YtlpjhjoaafhcjaaProg.lean LOADS. Nothing in Lean hashes anything: it is a label: what it is worth is what the hold of that sum in a sandbox is worth. -/
noncomputable def Try.pinned : Pinned := { name := "ytlpjhjoaafhcjaa", sum := "44c4b0aae430e68a3884b720d79020dec748f9aca84cd8f043e4f8b7b81608a9", checked := Try.checked }
namespace Rows
def none {H : Type} : Left H := { results := [], args := [] }

/-- 'palfreylaw06.FieldReckons': WHATEVER THE INPUT: true; the input reads as it did. -/
def fieldReckonsSpec : ChangeSpec := { name := "fieldReckons", fn := fun _ => fun
  | [d1, d2] => { results := [.lit (.bool true)], args := [d1, d2] }
  | _ => none }
def fieldReckonsRow : OpenClaim := { program := "ytlpjhjoaafhcjaa", sum := "44c4b0aae430e68a3884b720d79020dec748f9aca84cd8f043e4f8b7b81608a9", func := "palfrey/palfreylaw06.FieldReckons", spec := "fieldReckons", apart := false }
def FieldReckonsSaid : Prop := fieldReckonsRow.holds Try.pinned (OpenSpec.ofChange fieldReckonsSpec)

/-- ITS FALSE NEIGHBOUR: 'it returns false'. Refute it at one input. -/
def fieldReckonsWrong : ChangeSpec := { name := "fieldReckons", fn := fun _ => fun
  | [d1, d2] => { results := [.lit (.bool false)], args := [d1, d2] }
  | _ => none }
def FieldReckonsWrongFalsely : Prop := fieldReckonsRow.holds Try.pinned (OpenSpec.ofChange fieldReckonsWrong)

/-- 'palfreylaw06.FieldBack': WHATEVER THE INPUT: true; the input reads as it did. -/
def fieldBackSpec : ChangeSpec := { name := "fieldBack", fn := fun _ => fun
  | [d1, d2] => { results := [.lit (.bool true)], args := [d1, d2] }
  | _ => none }
def fieldBackRow : OpenClaim := { program := "ytlpjhjoaafhcjaa", sum := "44c4b0aae430e68a3884b720d79020dec748f9aca84cd8f043e4f8b7b81608a9", func := "palfrey/palfreylaw06.FieldBack", spec := "fieldBack", apart := false }
def FieldBackSaid : Prop := fieldBackRow.holds Try.pinned (OpenSpec.ofChange fieldBackSpec)

/-- ITS FALSE NEIGHBOUR: 'it returns false'. Refute it at one input. -/
def fieldBackWrong : ChangeSpec := { name := "fieldBack", fn := fun _ => fun
  | [d1, d2] => { results := [.lit (.bool false)], args := [d1, d2] }
  | _ => none }
def FieldBackWrongFalsely : Prop := fieldBackRow.holds Try.pinned (OpenSpec.ofChange fieldBackWrong)

/-- 'palfreylaw06.FieldMany': WHATEVER THE INPUT: true; the input reads as it did. -/
def fieldManySpec : ChangeSpec := { name := "fieldMany", fn := fun _ => fun
  | [d1, d2, d3] => { results := [.lit (.bool true)], args := [d1, d2, d3] }
  | _ => none }
def fieldManyRow : OpenClaim := { program := "ytlpjhjoaafhcjaa", sum := "44c4b0aae430e68a3884b720d79020dec748f9aca84cd8f043e4f8b7b81608a9", func := "palfrey/palfreylaw06.FieldMany", spec := "fieldMany", apart := false }
def FieldManySaid : Prop := fieldManyRow.holds Try.pinned (OpenSpec.ofChange fieldManySpec)

/-- ITS FALSE NEIGHBOUR: 'it returns false'. Refute it at one input. -/
def fieldManyWrong : ChangeSpec := { name := "fieldMany", fn := fun _ => fun
  | [d1, d2, d3] => { results := [.lit (.bool false)], args := [d1, d2, d3] }
  | _ => none }
def FieldManyWrongFalsely : Prop := fieldManyRow.holds Try.pinned (OpenSpec.ofChange fieldManyWrong)

/-- 'palfreylaw06.FieldInverts': WHATEVER THE INPUT: true; the input reads as it did. -/
def fieldInvertsSpec : ChangeSpec := { name := "fieldInverts", fn := fun _ => fun
  | [d1, d2] => { results := [.lit (.bool true)], args := [d1, d2] }
  | _ => none }
def fieldInvertsRow : OpenClaim := { program := "ytlpjhjoaafhcjaa", sum := "44c4b0aae430e68a3884b720d79020dec748f9aca84cd8f043e4f8b7b81608a9", func := "palfrey/palfreylaw06.FieldInverts", spec := "fieldInverts", apart := false }
def FieldInvertsSaid : Prop := fieldInvertsRow.holds Try.pinned (OpenSpec.ofChange fieldInvertsSpec)

/-- ITS FALSE NEIGHBOUR: 'it returns false'. Refute it at one input. -/
def fieldInvertsWrong : ChangeSpec := { name := "fieldInverts", fn := fun _ => fun
  | [d1, d2] => { results := [.lit (.bool false)], args := [d1, d2] }
  | _ => none }
def FieldInvertsWrongFalsely : Prop := fieldInvertsRow.holds Try.pinned (OpenSpec.ofChange fieldInvertsWrong)

/-- 'palfreylaw06.FieldTurns': WHATEVER THE INPUT: true; the input reads as it did. -/
def fieldTurnsSpec : ChangeSpec := { name := "fieldTurns", fn := fun _ => fun
  | [d1, d2, d3] => { results := [.lit (.bool true)], args := [d1, d2, d3] }
  | _ => none }
def fieldTurnsRow : OpenClaim := { program := "ytlpjhjoaafhcjaa", sum := "44c4b0aae430e68a3884b720d79020dec748f9aca84cd8f043e4f8b7b81608a9", func := "palfrey/palfreylaw06.FieldTurns", spec := "fieldTurns", apart := false }
def FieldTurnsSaid : Prop := fieldTurnsRow.holds Try.pinned (OpenSpec.ofChange fieldTurnsSpec)

/-- ITS FALSE NEIGHBOUR: 'it returns false'. Refute it at one input. -/
def fieldTurnsWrong : ChangeSpec := { name := "fieldTurns", fn := fun _ => fun
  | [d1, d2, d3] => { results := [.lit (.bool false)], args := [d1, d2, d3] }
  | _ => none }
def FieldTurnsWrongFalsely : Prop := fieldTurnsRow.holds Try.pinned (OpenSpec.ofChange fieldTurnsWrong)

/-- 'palfreylaw06.FieldNought': WHATEVER THE INPUT: true; the input reads as it did. -/
def fieldNoughtSpec : ChangeSpec := { name := "fieldNought", fn := fun _ => fun
  | [d] => { results := [.lit (.bool true)], args := [d] }
  | _ => none }
def fieldNoughtRow : OpenClaim := { program := "ytlpjhjoaafhcjaa", sum := "44c4b0aae430e68a3884b720d79020dec748f9aca84cd8f043e4f8b7b81608a9", func := "palfrey/palfreylaw06.FieldNought", spec := "fieldNought", apart := false }
def FieldNoughtSaid : Prop := fieldNoughtRow.holds Try.pinned (OpenSpec.ofChange fieldNoughtSpec)

/-- ITS FALSE NEIGHBOUR: 'it returns false'. Refute it at one input. -/
def fieldNoughtWrong : ChangeSpec := { name := "fieldNought", fn := fun _ => fun
  | [d] => { results := [.lit (.bool false)], args := [d] }
  | _ => none }
def FieldNoughtWrongFalsely : Prop := fieldNoughtRow.holds Try.pinned (OpenSpec.ofChange fieldNoughtWrong)

/- THE SECOND FORM. 'bulk': how many values and letters a reading holds, each counted each time it is reached (what is shared counts as often as it is met; a slice's spare places count too). A statement '..UptoSaid' is the law's where the arguments, and the package variables that the reading takes, are together of bulk at most 1048576: NARROWER than '..Said'. Prove '..Said' where nothing that the law and all that it calls make is longer than what came in: it says more and counts as full. Else prove '..UptoSaid'. A law counts once. -/
mutual
def uptoBulk {H : Type} : DataW H → Nat
  | .lit (.string bytes) => bytes.length + 1
  | .lit _ => 1
  | .nil => 1
  | .ptr d => uptoBulk d + 1
  | .slice elems spare => uptoBulkAll elems + uptoBulkAll spare + 1
  | .agg parts => uptoBulkAll parts + 1
  | .iface _ d => uptoBulk d + 1
  | .map entries => uptoBulkEntries entries + 1
  | .held _ => 1
def uptoBulkAll {H : Type} : List (DataW H) → Nat
  | [] => 0
  | d :: r => uptoBulk d + uptoBulkAll r
def uptoBulkEntries {H : Type} : List (Lit × DataW H) → Nat
  | [] => 0
  | x :: r => uptoBulkEntry x + uptoBulkEntries r
def uptoBulkEntry {H : Type} : Lit × DataW H → Nat
  | (.string bytes, d) => bytes.length + uptoBulk d + 1
  | (_, d) => uptoBulk d + 1
 end
def uptoSmall : (H : Type) → List (DataW H) → Bool := fun _ ds => decide (uptoBulkAll ds ≤ 1048576)
def OpenSpec.upto (s : _root_.Go.ChangeSpec) : _root_.Go.OpenSpec := { _root_.Go.OpenSpec.ofChange s with cond := some uptoSmall }

/-- 'palfreylaw06.FieldReckons', WHERE WHAT IT READS IS OF BULK AT MOST 1048576: true; the input reads as it did. -/
def fieldReckonsUptoRow : OpenClaim := { program := "ytlpjhjoaafhcjaa", sum := "44c4b0aae430e68a3884b720d79020dec748f9aca84cd8f043e4f8b7b81608a9", func := "palfrey/palfreylaw06.FieldReckons", spec := "fieldReckons", apart := false, narrowed := true }
def FieldReckonsUptoSaid : Prop := fieldReckonsUptoRow.holds Try.pinned (OpenSpec.upto fieldReckonsSpec)

/-- 'palfreylaw06.FieldBack', WHERE WHAT IT READS IS OF BULK AT MOST 1048576: true; the input reads as it did. -/
def fieldBackUptoRow : OpenClaim := { program := "ytlpjhjoaafhcjaa", sum := "44c4b0aae430e68a3884b720d79020dec748f9aca84cd8f043e4f8b7b81608a9", func := "palfrey/palfreylaw06.FieldBack", spec := "fieldBack", apart := false, narrowed := true }
def FieldBackUptoSaid : Prop := fieldBackUptoRow.holds Try.pinned (OpenSpec.upto fieldBackSpec)

/-- 'palfreylaw06.FieldMany', WHERE WHAT IT READS IS OF BULK AT MOST 1048576: true; the input reads as it did. -/
def fieldManyUptoRow : OpenClaim := { program := "ytlpjhjoaafhcjaa", sum := "44c4b0aae430e68a3884b720d79020dec748f9aca84cd8f043e4f8b7b81608a9", func := "palfrey/palfreylaw06.FieldMany", spec := "fieldMany", apart := false, narrowed := true }
def FieldManyUptoSaid : Prop := fieldManyUptoRow.holds Try.pinned (OpenSpec.upto fieldManySpec)

/-- 'palfreylaw06.FieldInverts', WHERE WHAT IT READS IS OF BULK AT MOST 1048576: true; the input reads as it did. -/
def fieldInvertsUptoRow : OpenClaim := { program := "ytlpjhjoaafhcjaa", sum := "44c4b0aae430e68a3884b720d79020dec748f9aca84cd8f043e4f8b7b81608a9", func := "palfrey/palfreylaw06.FieldInverts", spec := "fieldInverts", apart := false, narrowed := true }
def FieldInvertsUptoSaid : Prop := fieldInvertsUptoRow.holds Try.pinned (OpenSpec.upto fieldInvertsSpec)

/-- 'palfreylaw06.FieldTurns', WHERE WHAT IT READS IS OF BULK AT MOST 1048576: true; the input reads as it did. -/
def fieldTurnsUptoRow : OpenClaim := { program := "ytlpjhjoaafhcjaa", sum := "44c4b0aae430e68a3884b720d79020dec748f9aca84cd8f043e4f8b7b81608a9", func := "palfrey/palfreylaw06.FieldTurns", spec := "fieldTurns", apart := false, narrowed := true }
def FieldTurnsUptoSaid : Prop := fieldTurnsUptoRow.holds Try.pinned (OpenSpec.upto fieldTurnsSpec)

/-- 'palfreylaw06.FieldNought', WHERE WHAT IT READS IS OF BULK AT MOST 1048576: true; the input reads as it did. -/
def fieldNoughtUptoRow : OpenClaim := { program := "ytlpjhjoaafhcjaa", sum := "44c4b0aae430e68a3884b720d79020dec748f9aca84cd8f043e4f8b7b81608a9", func := "palfrey/palfreylaw06.FieldNought", spec := "fieldNought", apart := false, narrowed := true }
def FieldNoughtUptoSaid : Prop := fieldNoughtUptoRow.holds Try.pinned (OpenSpec.upto fieldNoughtSpec)

end Rows
end Go.Proofs.Ytlpjhjoaafhcjaa
