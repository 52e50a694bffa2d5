/-
  No cell of these rows narrows 'for every input' (looked for: loops, veiled, ifaces, maps, wideKeys, modest, calm, conditions, laid).
  DERIVED. THE GIVEN ROWS OF THIS SEAT. 5 by the template 'for every input the law returns true; each argument reads behind the call as it read before'; 0 by the template 'total and deterministic' (their statements: YtngdppffcdhhlaaTotals.lean).
  GIVEN WITH THE SEED: the statements are not yours to turn. If you find one false, say at which input.
  Laid BY PROGRAM, IN A SANDBOX (cutbox-rows.mjs): the forced cells as the released guide's own fill.sh prints them over the translation ea3467afcc5fd7bf… (all of the seat's roots in one cut). By AI agents, Wed Nov 11 2026. No macro, syntax, notation, axiom, sorry.
-/
import Derived.Test.YtngdppffcdhhlaaChecked
import GoSem.Claim
import GoSem.ClaimJoined
import GoSem.ClaimMapViews
import Derived.JoinedTies
import Derived.KernelRfl
namespace Go.Proofs.Ytngdppffcdhhlaa
/- THE CELL 'sum', in the pinned program and in every row, IS THE sha256 OF THE DUMP (.gsa) THAT YtngdppffcdhhlaaProg.lean LOADS. Nothing in Lean hashes anything: it is a label: what it is worth is what the hold of that sum in a sandbox is worth. -/
noncomputable def Try.pinned : Pinned := { name := "ytngdppffcdhhlaa", sum := "ea3467afcc5fd7bfbb4b0714106ff4b3f56832a8f5aa61781243b380744a6974", checked := Try.checked }
namespace Rows
def none {H : Type} : Left H := { results := [], args := [] }

/-- 'palfreylaw11.SkipsOnce': WHATEVER THE INPUT: true; the input reads as it did. -/
def skipsOnceSpec : ChangeSpec := { name := "skipsOnce", fn := fun _ => fun
  | [d1, d2, d3] => { results := [.lit (.bool true)], args := [d1, d2, d3] }
  | _ => none }
def skipsOnceRow : OpenClaim := { program := "ytngdppffcdhhlaa", sum := "ea3467afcc5fd7bfbb4b0714106ff4b3f56832a8f5aa61781243b380744a6974", func := "palfrey/palfreylaw11.SkipsOnce", spec := "skipsOnce", plainKeys := false, apart := false }
def SkipsOnceSaid : Prop := skipsOnceRow.holds Try.pinned (OpenSpec.ofChange skipsOnceSpec)

/-- ITS FALSE NEIGHBOUR: 'it returns false'. Refute it at one input. -/
def skipsOnceWrong : ChangeSpec := { name := "skipsOnce", fn := fun _ => fun
  | [d1, d2, d3] => { results := [.lit (.bool false)], args := [d1, d2, d3] }
  | _ => none }
def SkipsOnceWrongFalsely : Prop := skipsOnceRow.holds Try.pinned (OpenSpec.ofChange skipsOnceWrong)

/-- 'palfreylaw11.SkipsLast': WHATEVER THE INPUT: true; the input reads as it did. -/
def skipsLastSpec : ChangeSpec := { name := "skipsLast", fn := fun _ => fun
  | [d1, d2] => { results := [.lit (.bool true)], args := [d1, d2] }
  | _ => none }
def skipsLastRow : OpenClaim := { program := "ytngdppffcdhhlaa", sum := "ea3467afcc5fd7bfbb4b0714106ff4b3f56832a8f5aa61781243b380744a6974", func := "palfrey/palfreylaw11.SkipsLast", spec := "skipsLast", plainKeys := false, apart := false }
def SkipsLastSaid : Prop := skipsLastRow.holds Try.pinned (OpenSpec.ofChange skipsLastSpec)

/-- ITS FALSE NEIGHBOUR: 'it returns false'. Refute it at one input. -/
def skipsLastWrong : ChangeSpec := { name := "skipsLast", fn := fun _ => fun
  | [d1, d2] => { results := [.lit (.bool false)], args := [d1, d2] }
  | _ => none }
def SkipsLastWrongFalsely : Prop := skipsLastRow.holds Try.pinned (OpenSpec.ofChange skipsLastWrong)

/-- 'palfreylaw11.SkipsWhose': WHATEVER THE INPUT: true; the input reads as it did. -/
def skipsWhoseSpec : ChangeSpec := { name := "skipsWhose", fn := fun _ => fun
  | [d1, d2] => { results := [.lit (.bool true)], args := [d1, d2] }
  | _ => none }
def skipsWhoseRow : OpenClaim := { program := "ytngdppffcdhhlaa", sum := "ea3467afcc5fd7bfbb4b0714106ff4b3f56832a8f5aa61781243b380744a6974", func := "palfrey/palfreylaw11.SkipsWhose", spec := "skipsWhose", plainKeys := false, apart := false }
def SkipsWhoseSaid : Prop := skipsWhoseRow.holds Try.pinned (OpenSpec.ofChange skipsWhoseSpec)

/-- ITS FALSE NEIGHBOUR: 'it returns false'. Refute it at one input. -/
def skipsWhoseWrong : ChangeSpec := { name := "skipsWhose", fn := fun _ => fun
  | [d1, d2] => { results := [.lit (.bool false)], args := [d1, d2] }
  | _ => none }
def SkipsWhoseWrongFalsely : Prop := skipsWhoseRow.holds Try.pinned (OpenSpec.ofChange skipsWhoseWrong)

/-- 'palfreylaw11.SkipsPlays': WHATEVER THE INPUT: true; the input reads as it did. -/
def skipsPlaysSpec : ChangeSpec := { name := "skipsPlays", fn := fun _ => fun
  | [d] => { results := [.lit (.bool true)], args := [d] }
  | _ => none }
def skipsPlaysRow : OpenClaim := { program := "ytngdppffcdhhlaa", sum := "ea3467afcc5fd7bfbb4b0714106ff4b3f56832a8f5aa61781243b380744a6974", func := "palfrey/palfreylaw11.SkipsPlays", spec := "skipsPlays", inPlace := ["maps.clone"], plainKeys := false, apart := false }
def SkipsPlaysSaid : Prop := skipsPlaysRow.holds Try.pinned (OpenSpec.ofChange skipsPlaysSpec)

/-- ITS FALSE NEIGHBOUR: 'it returns false'. Refute it at one input. -/
def skipsPlaysWrong : ChangeSpec := { name := "skipsPlays", fn := fun _ => fun
  | [d] => { results := [.lit (.bool false)], args := [d] }
  | _ => none }
def SkipsPlaysWrongFalsely : Prop := skipsPlaysRow.holds Try.pinned (OpenSpec.ofChange skipsPlaysWrong)

/-- 'palfreylaw11.SkipsCopies': WHATEVER THE INPUT: true; the input reads as it did. -/
def skipsCopiesSpec : ChangeSpec := { name := "skipsCopies", fn := fun _ => fun
  | [d1, d2] => { results := [.lit (.bool true)], args := [d1, d2] }
  | _ => none }
def skipsCopiesRow : OpenClaim := { program := "ytngdppffcdhhlaa", sum := "ea3467afcc5fd7bfbb4b0714106ff4b3f56832a8f5aa61781243b380744a6974", func := "palfrey/palfreylaw11.SkipsCopies", spec := "skipsCopies", inPlace := ["maps.clone"], plainKeys := false, apart := false }
def SkipsCopiesSaid : Prop := skipsCopiesRow.holds Try.pinned (OpenSpec.ofChange skipsCopiesSpec)

/-- ITS FALSE NEIGHBOUR: 'it returns false'. Refute it at one input. -/
def skipsCopiesWrong : ChangeSpec := { name := "skipsCopies", fn := fun _ => fun
  | [d1, d2] => { results := [.lit (.bool false)], args := [d1, d2] }
  | _ => none }
def SkipsCopiesWrongFalsely : Prop := skipsCopiesRow.holds Try.pinned (OpenSpec.ofChange skipsCopiesWrong)

/- THE SECOND FORM. 'bulk': how many values and letters a reading holds, each counted each time it is reached (what is shared counts as often as it is met; a slice's spare places count too). A statement '..UptoSaid' is the law's where the arguments, and the package variables that the reading takes, are together of bulk at most 1048576: NARROWER than '..Said'. Prove '..Said' where nothing that the law and all that it calls make is longer than what came in: it says more and counts as full. Else prove '..UptoSaid'. A law counts once. -/
mutual
def uptoBulk {H : Type} : DataW H → Nat
  | .lit (.string bytes) => bytes.length + 1
  | .lit _ => 1
  | .nil => 1
  | .ptr d => uptoBulk d + 1
  | .slice elems spare => uptoBulkAll elems + uptoBulkAll spare + 1
  | .agg parts => uptoBulkAll parts + 1
  | .iface _ d => uptoBulk d + 1
  | .map entries => uptoBulkEntries entries + 1
  | .held _ => 1
def uptoBulkAll {H : Type} : List (DataW H) → Nat
  | [] => 0
  | d :: r => uptoBulk d + uptoBulkAll r
def uptoBulkEntries {H : Type} : List (Lit × DataW H) → Nat
  | [] => 0
  | x :: r => uptoBulkEntry x + uptoBulkEntries r
def uptoBulkEntry {H : Type} : Lit × DataW H → Nat
  | (.string bytes, d) => bytes.length + uptoBulk d + 1
  | (_, d) => uptoBulk d + 1
 end
def uptoSmall : (H : Type) → List (DataW H) → Bool := fun _ ds => decide (uptoBulkAll ds ≤ 1048576)
def OpenSpec.upto (s : _root_.Go.ChangeSpec) : _root_.Go.OpenSpec := { _root_.Go.OpenSpec.ofChange s with cond := some uptoSmall }

/-- 'palfreylaw11.SkipsOnce', WHERE WHAT IT READS IS OF BULK AT MOST 1048576: true; the input reads as it did. -/
def skipsOnceUptoRow : OpenClaim := { program := "ytngdppffcdhhlaa", sum := "ea3467afcc5fd7bfbb4b0714106ff4b3f56832a8f5aa61781243b380744a6974", func := "palfrey/palfreylaw11.SkipsOnce", spec := "skipsOnce", plainKeys := false, apart := false, narrowed := true }
def SkipsOnceUptoSaid : Prop := skipsOnceUptoRow.holds Try.pinned (OpenSpec.upto skipsOnceSpec)

/-- 'palfreylaw11.SkipsLast', WHERE WHAT IT READS IS OF BULK AT MOST 1048576: true; the input reads as it did. -/
def skipsLastUptoRow : OpenClaim := { program := "ytngdppffcdhhlaa", sum := "ea3467afcc5fd7bfbb4b0714106ff4b3f56832a8f5aa61781243b380744a6974", func := "palfrey/palfreylaw11.SkipsLast", spec := "skipsLast", plainKeys := false, apart := false, narrowed := true }
def SkipsLastUptoSaid : Prop := skipsLastUptoRow.holds Try.pinned (OpenSpec.upto skipsLastSpec)

/-- 'palfreylaw11.SkipsWhose', WHERE WHAT IT READS IS OF BULK AT MOST 1048576: true; the input reads as it did. -/
def skipsWhoseUptoRow : OpenClaim := { program := "ytngdppffcdhhlaa", sum := "ea3467afcc5fd7bfbb4b0714106ff4b3f56832a8f5aa61781243b380744a6974", func := "palfrey/palfreylaw11.SkipsWhose", spec := "skipsWhose", plainKeys := false, apart := false, narrowed := true }
def SkipsWhoseUptoSaid : Prop := skipsWhoseUptoRow.holds Try.pinned (OpenSpec.upto skipsWhoseSpec)

/-- 'palfreylaw11.SkipsPlays', WHERE WHAT IT READS IS OF BULK AT MOST 1048576: true; the input reads as it did. -/
def skipsPlaysUptoRow : OpenClaim := { program := "ytngdppffcdhhlaa", sum := "ea3467afcc5fd7bfbb4b0714106ff4b3f56832a8f5aa61781243b380744a6974", func := "palfrey/palfreylaw11.SkipsPlays", spec := "skipsPlays", inPlace := ["maps.clone"], plainKeys := false, apart := false, narrowed := true }
def SkipsPlaysUptoSaid : Prop := skipsPlaysUptoRow.holds Try.pinned (OpenSpec.upto skipsPlaysSpec)

/-- 'palfreylaw11.SkipsCopies', WHERE WHAT IT READS IS OF BULK AT MOST 1048576: true; the input reads as it did. -/
def skipsCopiesUptoRow : OpenClaim := { program := "ytngdppffcdhhlaa", sum := "ea3467afcc5fd7bfbb4b0714106ff4b3f56832a8f5aa61781243b380744a6974", func := "palfrey/palfreylaw11.SkipsCopies", spec := "skipsCopies", inPlace := ["maps.clone"], plainKeys := false, apart := false, narrowed := true }
def SkipsCopiesUptoSaid : Prop := skipsCopiesUptoRow.holds Try.pinned (OpenSpec.upto skipsCopiesSpec)

end Rows
end Go.Proofs.Ytngdppffcdhhlaa
