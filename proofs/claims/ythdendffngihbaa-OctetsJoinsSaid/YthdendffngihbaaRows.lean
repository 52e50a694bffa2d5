/-
  No cell of these rows narrows 'for every input' (looked for: loops, veiled, ifaces, maps, wideKeys, modest, calm, conditions, laid).
  DERIVED. THE GIVEN ROWS OF THIS SEAT. 6 by the template 'for every input the law returns true; each argument reads behind the call as it read before'; 0 by the template 'total and deterministic' (their statements: YthdendffngihbaaTotals.lean).
  GIVEN WITH THE SEED: the statements are not yours to turn. If you find one false, say at which input.
  Laid BY PROGRAM, IN A SANDBOX (cutbox-rows.mjs): the forced cells as the released guide's own fill.sh prints them over the translation 50dc81a849447494… (all of the seat's roots in one cut). By AI agents, Wed Nov 11 2026. No macro, syntax, notation, axiom, sorry.
-/
import Derived.Test.YthdendffngihbaaChecked
import GoSem.Claim
import GoSem.ClaimJoined
import GoSem.ClaimMapViews
import Derived.JoinedTies
import Derived.KernelRfl
namespace Go.Proofs.Ythdendffngihbaa
/- THE CELL 'sum', in the pinned program and in every row, IS THE sha256 OF THE DUMP (.gsa) THAT YthdendffngihbaaProg.lean LOADS. Nothing in Lean hashes anything: it is a label: what it is worth is what the hold of that sum in a sandbox is worth. -/
noncomputable def Try.pinned : Pinned := { name := "ythdendffngihbaa", sum := "50dc81a8494474944906273862e18686793c23bf936eea86b8013ea0b50d40ed", checked := Try.checked }
namespace Rows
def none {H : Type} : Left H := { results := [], args := [] }

/-- 'palfreylaw01.OctetsUnlike': WHATEVER THE INPUT: true; the input reads as it did. -/
def octetsUnlikeSpec : ChangeSpec := { name := "octetsUnlike", fn := fun _ => fun
  | [d1, d2] => { results := [.lit (.bool true)], args := [d1, d2] }
  | _ => none }
def octetsUnlikeRow : OpenClaim := { program := "ythdendffngihbaa", sum := "50dc81a8494474944906273862e18686793c23bf936eea86b8013ea0b50d40ed", func := "palfrey/palfreylaw01.OctetsUnlike", spec := "octetsUnlike", apart := false }
def OctetsUnlikeSaid : Prop := octetsUnlikeRow.holds Try.pinned (OpenSpec.ofChange octetsUnlikeSpec)

/-- ITS FALSE NEIGHBOUR: 'it returns false'. Refute it at one input. -/
def octetsUnlikeWrong : ChangeSpec := { name := "octetsUnlike", fn := fun _ => fun
  | [d1, d2] => { results := [.lit (.bool false)], args := [d1, d2] }
  | _ => none }
def OctetsUnlikeWrongFalsely : Prop := octetsUnlikeRow.holds Try.pinned (OpenSpec.ofChange octetsUnlikeWrong)

/-- 'palfreylaw01.OctetsGrow': WHATEVER THE INPUT: true; the input reads as it did. -/
def octetsGrowSpec : ChangeSpec := { name := "octetsGrow", fn := fun _ => fun
  | [d1, d2] => { results := [.lit (.bool true)], args := [d1, d2] }
  | _ => none }
def octetsGrowRow : OpenClaim := { program := "ythdendffngihbaa", sum := "50dc81a8494474944906273862e18686793c23bf936eea86b8013ea0b50d40ed", func := "palfrey/palfreylaw01.OctetsGrow", spec := "octetsGrow", apart := false }
def OctetsGrowSaid : Prop := octetsGrowRow.holds Try.pinned (OpenSpec.ofChange octetsGrowSpec)

/-- ITS FALSE NEIGHBOUR: 'it returns false'. Refute it at one input. -/
def octetsGrowWrong : ChangeSpec := { name := "octetsGrow", fn := fun _ => fun
  | [d1, d2] => { results := [.lit (.bool false)], args := [d1, d2] }
  | _ => none }
def OctetsGrowWrongFalsely : Prop := octetsGrowRow.holds Try.pinned (OpenSpec.ofChange octetsGrowWrong)

/-- 'palfreylaw01.OctetsTells': WHATEVER THE INPUT: true; the input reads as it did. -/
def octetsTellsSpec : ChangeSpec := { name := "octetsTells", fn := fun _ => fun
  | [d1, d2, d3] => { results := [.lit (.bool true)], args := [d1, d2, d3] }
  | _ => none }
def octetsTellsRow : OpenClaim := { program := "ythdendffngihbaa", sum := "50dc81a8494474944906273862e18686793c23bf936eea86b8013ea0b50d40ed", func := "palfrey/palfreylaw01.OctetsTells", spec := "octetsTells", apart := false }
def OctetsTellsSaid : Prop := octetsTellsRow.holds Try.pinned (OpenSpec.ofChange octetsTellsSpec)

/-- ITS FALSE NEIGHBOUR: 'it returns false'. Refute it at one input. -/
def octetsTellsWrong : ChangeSpec := { name := "octetsTells", fn := fun _ => fun
  | [d1, d2, d3] => { results := [.lit (.bool false)], args := [d1, d2, d3] }
  | _ => none }
def OctetsTellsWrongFalsely : Prop := octetsTellsRow.holds Try.pinned (OpenSpec.ofChange octetsTellsWrong)

/-- 'palfreylaw01.OctetsTwice': WHATEVER THE INPUT: true; the input reads as it did. -/
def octetsTwiceSpec : ChangeSpec := { name := "octetsTwice", fn := fun _ => fun
  | [d1, d2, d3] => { results := [.lit (.bool true)], args := [d1, d2, d3] }
  | _ => none }
def octetsTwiceRow : OpenClaim := { program := "ythdendffngihbaa", sum := "50dc81a8494474944906273862e18686793c23bf936eea86b8013ea0b50d40ed", func := "palfrey/palfreylaw01.OctetsTwice", spec := "octetsTwice", apart := false }
def OctetsTwiceSaid : Prop := octetsTwiceRow.holds Try.pinned (OpenSpec.ofChange octetsTwiceSpec)

/-- ITS FALSE NEIGHBOUR: 'it returns false'. Refute it at one input. -/
def octetsTwiceWrong : ChangeSpec := { name := "octetsTwice", fn := fun _ => fun
  | [d1, d2, d3] => { results := [.lit (.bool false)], args := [d1, d2, d3] }
  | _ => none }
def OctetsTwiceWrongFalsely : Prop := octetsTwiceRow.holds Try.pinned (OpenSpec.ofChange octetsTwiceWrong)

/-- 'palfreylaw01.OctetsJoins': WHATEVER THE INPUT: true; the input reads as it did. -/
def octetsJoinsSpec : ChangeSpec := { name := "octetsJoins", fn := fun _ => fun
  | [d1, d2] => { results := [.lit (.bool true)], args := [d1, d2] }
  | _ => none }
def octetsJoinsRow : OpenClaim := { program := "ythdendffngihbaa", sum := "50dc81a8494474944906273862e18686793c23bf936eea86b8013ea0b50d40ed", func := "palfrey/palfreylaw01.OctetsJoins", spec := "octetsJoins", apart := false }
def OctetsJoinsSaid : Prop := octetsJoinsRow.holds Try.pinned (OpenSpec.ofChange octetsJoinsSpec)

/-- ITS FALSE NEIGHBOUR: 'it returns false'. Refute it at one input. -/
def octetsJoinsWrong : ChangeSpec := { name := "octetsJoins", fn := fun _ => fun
  | [d1, d2] => { results := [.lit (.bool false)], args := [d1, d2] }
  | _ => none }
def OctetsJoinsWrongFalsely : Prop := octetsJoinsRow.holds Try.pinned (OpenSpec.ofChange octetsJoinsWrong)

/-- 'palfreylaw01.OctetsBack': WHATEVER THE INPUT: true; the input reads as it did. -/
def octetsBackSpec : ChangeSpec := { name := "octetsBack", fn := fun _ => fun
  | [d1, d2] => { results := [.lit (.bool true)], args := [d1, d2] }
  | _ => none }
def octetsBackRow : OpenClaim := { program := "ythdendffngihbaa", sum := "50dc81a8494474944906273862e18686793c23bf936eea86b8013ea0b50d40ed", func := "palfrey/palfreylaw01.OctetsBack", spec := "octetsBack", apart := false }
def OctetsBackSaid : Prop := octetsBackRow.holds Try.pinned (OpenSpec.ofChange octetsBackSpec)

/-- ITS FALSE NEIGHBOUR: 'it returns false'. Refute it at one input. -/
def octetsBackWrong : ChangeSpec := { name := "octetsBack", fn := fun _ => fun
  | [d1, d2] => { results := [.lit (.bool false)], args := [d1, d2] }
  | _ => none }
def OctetsBackWrongFalsely : Prop := octetsBackRow.holds Try.pinned (OpenSpec.ofChange octetsBackWrong)

/- THE SECOND FORM. 'bulk': how many values and letters a reading holds, each counted each time it is reached (what is shared counts as often as it is met; a slice's spare places count too). A statement '..UptoSaid' is the law's where the arguments, and the package variables that the reading takes, are together of bulk at most 1048576: NARROWER than '..Said'. Prove '..Said' where nothing that the law and all that it calls make is longer than what came in: it says more and counts as full. Else prove '..UptoSaid'. A law counts once. -/
mutual
def uptoBulk {H : Type} : DataW H → Nat
  | .lit (.string bytes) => bytes.length + 1
  | .lit _ => 1
  | .nil => 1
  | .ptr d => uptoBulk d + 1
  | .slice elems spare => uptoBulkAll elems + uptoBulkAll spare + 1
  | .agg parts => uptoBulkAll parts + 1
  | .iface _ d => uptoBulk d + 1
  | .map entries => uptoBulkEntries entries + 1
  | .held _ => 1
def uptoBulkAll {H : Type} : List (DataW H) → Nat
  | [] => 0
  | d :: r => uptoBulk d + uptoBulkAll r
def uptoBulkEntries {H : Type} : List (Lit × DataW H) → Nat
  | [] => 0
  | x :: r => uptoBulkEntry x + uptoBulkEntries r
def uptoBulkEntry {H : Type} : Lit × DataW H → Nat
  | (.string bytes, d) => bytes.length + uptoBulk d + 1
  | (_, d) => uptoBulk d + 1
 end
def uptoSmall : (H : Type) → List (DataW H) → Bool := fun _ ds => decide (uptoBulkAll ds ≤ 1048576)
def OpenSpec.upto (s : _root_.Go.ChangeSpec) : _root_.Go.OpenSpec := { _root_.Go.OpenSpec.ofChange s with cond := some uptoSmall }

/-- 'palfreylaw01.OctetsUnlike', WHERE WHAT IT READS IS OF BULK AT MOST 1048576: true; the input reads as it did. -/
def octetsUnlikeUptoRow : OpenClaim := { program := "ythdendffngihbaa", sum := "50dc81a8494474944906273862e18686793c23bf936eea86b8013ea0b50d40ed", func := "palfrey/palfreylaw01.OctetsUnlike", spec := "octetsUnlike", apart := false, narrowed := true }
def OctetsUnlikeUptoSaid : Prop := octetsUnlikeUptoRow.holds Try.pinned (OpenSpec.upto octetsUnlikeSpec)

/-- 'palfreylaw01.OctetsGrow', WHERE WHAT IT READS IS OF BULK AT MOST 1048576: true; the input reads as it did. -/
def octetsGrowUptoRow : OpenClaim := { program := "ythdendffngihbaa", sum := "50dc81a8494474944906273862e18686793c23bf936eea86b8013ea0b50d40ed", func := "palfrey/palfreylaw01.OctetsGrow", spec := "octetsGrow", apart := false, narrowed := true }
def OctetsGrowUptoSaid : Prop := octetsGrowUptoRow.holds Try.pinned (OpenSpec.upto octetsGrowSpec)

/-- 'palfreylaw01.OctetsTells', WHERE WHAT IT READS IS OF BULK AT MOST 1048576: true; the input reads as it did. -/
def octetsTellsUptoRow : OpenClaim := { program := "ythdendffngihbaa", sum := "50dc81a8494474944906273862e18686793c23bf936eea86b8013ea0b50d40ed", func := "palfrey/palfreylaw01.OctetsTells", spec := "octetsTells", apart := false, narrowed := true }
def OctetsTellsUptoSaid : Prop := octetsTellsUptoRow.holds Try.pinned (OpenSpec.upto octetsTellsSpec)

/-- 'palfreylaw01.OctetsTwice', WHERE WHAT IT READS IS OF BULK AT MOST 1048576: true; the input reads as it did. -/
def octetsTwiceUptoRow : OpenClaim := { program := "ythdendffngihbaa", sum := "50dc81a8494474944906273862e18686793c23bf936eea86b8013ea0b50d40ed", func := "palfrey/palfreylaw01.OctetsTwice", spec := "octetsTwice", apart := false, narrowed := true }
def OctetsTwiceUptoSaid : Prop := octetsTwiceUptoRow.holds Try.pinned (OpenSpec.upto octetsTwiceSpec)

/-- 'palfreylaw01.OctetsJoins', WHERE WHAT IT READS IS OF BULK AT MOST 1048576: true; the input reads as it did. -/
def octetsJoinsUptoRow : OpenClaim := { program := "ythdendffngihbaa", sum := "50dc81a8494474944906273862e18686793c23bf936eea86b8013ea0b50d40ed", func := "palfrey/palfreylaw01.OctetsJoins", spec := "octetsJoins", apart := false, narrowed := true }
def OctetsJoinsUptoSaid : Prop := octetsJoinsUptoRow.holds Try.pinned (OpenSpec.upto octetsJoinsSpec)

/-- 'palfreylaw01.OctetsBack', WHERE WHAT IT READS IS OF BULK AT MOST 1048576: true; the input reads as it did. -/
def octetsBackUptoRow : OpenClaim := { program := "ythdendffngihbaa", sum := "50dc81a8494474944906273862e18686793c23bf936eea86b8013ea0b50d40ed", func := "palfrey/palfreylaw01.OctetsBack", spec := "octetsBack", apart := false, narrowed := true }
def OctetsBackUptoSaid : Prop := octetsBackUptoRow.holds Try.pinned (OpenSpec.upto octetsBackSpec)

end Rows
end Go.Proofs.Ythdendffngihbaa
