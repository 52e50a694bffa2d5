/-
  No cell of these rows narrows 'for every input' (looked for: loops, veiled, ifaces, maps, wideKeys, modest, calm, conditions, laid).
  DERIVED. THE GIVEN ROWS OF THIS SEAT. 14 by the template 'for every input the law returns true; each argument reads behind the call as it read before'; 0 by the template 'total and deterministic' (their statements: YtkadnmoephkklaaTotals.lean).
  GIVEN WITH THE SEED: the statements are not yours to turn. If you find one false, say at which input.
  Laid BY PROGRAM, IN A SANDBOX (cutbox-rows.mjs): the forced cells as the released guide's own fill.sh prints them over the translation 30e377b02fa98b48… (all of the seat's roots in one cut). By AI agents, Wed Nov 11 2026. No macro, syntax, notation, axiom, sorry.
-/
import Derived.Test.YtkadnmoephkklaaChecked
import GoSem.Claim
import GoSem.ClaimJoined
import GoSem.ClaimMapViews
import Derived.JoinedTies
import Derived.KernelRfl
namespace Go.Proofs.Ytkadnmoephkklaa
/- THE CELL 'sum', in the pinned program and in every row, IS THE sha256 OF THE DUMP (.gsa) THAT YtkadnmoephkklaaProg.lean LOADS. Nothing in Lean hashes anything: it is a label: what it is worth is what the hold of that sum in a sandbox is worth. -/
noncomputable def Try.pinned : Pinned := { name := "ytkadnmoephkklaa", sum := "30e377b02fa98b482301cd661aec00812eed6f06f76ce52a912a526c8f2d5639", checked := Try.checked }
namespace Rows
def none {H : Type} : Left H := { results := [], args := [] }

/-- 'palfreylaw03.KdfDraws': WHATEVER THE INPUT: true; the input reads as it did. -/
def kdfDrawsSpec : ChangeSpec := { name := "kdfDraws", fn := fun _ => fun
  | [d1, d2, d3] => { results := [.lit (.bool true)], args := [d1, d2, d3] }
  | _ => none }
def kdfDrawsRow : OpenClaim := { program := "ytkadnmoephkklaa", sum := "30e377b02fa98b482301cd661aec00812eed6f06f76ce52a912a526c8f2d5639", func := "palfrey/palfreylaw03.KdfDraws", spec := "kdfDraws", unfollowed := true, recurses := true, apart := false }
def KdfDrawsSaid : Prop := kdfDrawsRow.holds Try.pinned (OpenSpec.ofChange kdfDrawsSpec)

/-- ITS FALSE NEIGHBOUR: 'it returns false'. Refute it at one input. -/
def kdfDrawsWrong : ChangeSpec := { name := "kdfDraws", fn := fun _ => fun
  | [d1, d2, d3] => { results := [.lit (.bool false)], args := [d1, d2, d3] }
  | _ => none }
def KdfDrawsWrongFalsely : Prop := kdfDrawsRow.holds Try.pinned (OpenSpec.ofChange kdfDrawsWrong)

/-- 'palfreylaw03.KdfKeys': WHATEVER THE INPUT: true; the input reads as it did. -/
def kdfKeysSpec : ChangeSpec := { name := "kdfKeys", fn := fun _ => fun
  | [d1, d2] => { results := [.lit (.bool true)], args := [d1, d2] }
  | _ => none }
def kdfKeysRow : OpenClaim := { program := "ytkadnmoephkklaa", sum := "30e377b02fa98b482301cd661aec00812eed6f06f76ce52a912a526c8f2d5639", func := "palfrey/palfreylaw03.KdfKeys", spec := "kdfKeys", unfollowed := true, recurses := true, apart := false }
def KdfKeysSaid : Prop := kdfKeysRow.holds Try.pinned (OpenSpec.ofChange kdfKeysSpec)

/-- ITS FALSE NEIGHBOUR: 'it returns false'. Refute it at one input. -/
def kdfKeysWrong : ChangeSpec := { name := "kdfKeys", fn := fun _ => fun
  | [d1, d2] => { results := [.lit (.bool false)], args := [d1, d2] }
  | _ => none }
def KdfKeysWrongFalsely : Prop := kdfKeysRow.holds Try.pinned (OpenSpec.ofChange kdfKeysWrong)

/-- 'palfreylaw03.KdfFewer': WHATEVER THE INPUT: true; the input reads as it did. -/
def kdfFewerSpec : ChangeSpec := { name := "kdfFewer", fn := fun _ => fun
  | [d1, d2, d3] => { results := [.lit (.bool true)], args := [d1, d2, d3] }
  | _ => none }
def kdfFewerRow : OpenClaim := { program := "ytkadnmoephkklaa", sum := "30e377b02fa98b482301cd661aec00812eed6f06f76ce52a912a526c8f2d5639", func := "palfrey/palfreylaw03.KdfFewer", spec := "kdfFewer", unfollowed := true, recurses := true, apart := false }
def KdfFewerSaid : Prop := kdfFewerRow.holds Try.pinned (OpenSpec.ofChange kdfFewerSpec)

/-- ITS FALSE NEIGHBOUR: 'it returns false'. Refute it at one input. -/
def kdfFewerWrong : ChangeSpec := { name := "kdfFewer", fn := fun _ => fun
  | [d1, d2, d3] => { results := [.lit (.bool false)], args := [d1, d2, d3] }
  | _ => none }
def KdfFewerWrongFalsely : Prop := kdfFewerRow.holds Try.pinned (OpenSpec.ofChange kdfFewerWrong)

/-- 'palfreylaw03.KdfFirst': WHATEVER THE INPUT: true; the input reads as it did. -/
def kdfFirstSpec : ChangeSpec := { name := "kdfFirst", fn := fun _ => fun
  | [d1, d2, d3] => { results := [.lit (.bool true)], args := [d1, d2, d3] }
  | _ => none }
def kdfFirstRow : OpenClaim := { program := "ytkadnmoephkklaa", sum := "30e377b02fa98b482301cd661aec00812eed6f06f76ce52a912a526c8f2d5639", func := "palfrey/palfreylaw03.KdfFirst", spec := "kdfFirst", unfollowed := true, recurses := true, apart := false }
def KdfFirstSaid : Prop := kdfFirstRow.holds Try.pinned (OpenSpec.ofChange kdfFirstSpec)

/-- ITS FALSE NEIGHBOUR: 'it returns false'. Refute it at one input. -/
def kdfFirstWrong : ChangeSpec := { name := "kdfFirst", fn := fun _ => fun
  | [d1, d2, d3] => { results := [.lit (.bool false)], args := [d1, d2, d3] }
  | _ => none }
def KdfFirstWrongFalsely : Prop := kdfFirstRow.holds Try.pinned (OpenSpec.ofChange kdfFirstWrong)

/-- 'palfreylaw03.KdfDrawn': WHATEVER THE INPUT: true; the input reads as it did. -/
def kdfDrawnSpec : ChangeSpec := { name := "kdfDrawn", fn := fun _ => fun
  | [d1, d2] => { results := [.lit (.bool true)], args := [d1, d2] }
  | _ => none }
def kdfDrawnRow : OpenClaim := { program := "ytkadnmoephkklaa", sum := "30e377b02fa98b482301cd661aec00812eed6f06f76ce52a912a526c8f2d5639", func := "palfrey/palfreylaw03.KdfDrawn", spec := "kdfDrawn", unfollowed := true, recurses := true, apart := false }
def KdfDrawnSaid : Prop := kdfDrawnRow.holds Try.pinned (OpenSpec.ofChange kdfDrawnSpec)

/-- ITS FALSE NEIGHBOUR: 'it returns false'. Refute it at one input. -/
def kdfDrawnWrong : ChangeSpec := { name := "kdfDrawn", fn := fun _ => fun
  | [d1, d2] => { results := [.lit (.bool false)], args := [d1, d2] }
  | _ => none }
def KdfDrawnWrongFalsely : Prop := kdfDrawnRow.holds Try.pinned (OpenSpec.ofChange kdfDrawnWrong)

/-- 'palfreylaw10.ChainParts': WHATEVER THE INPUT: true; the input reads as it did. -/
def chainPartsSpec : ChangeSpec := { name := "chainParts", fn := fun _ => fun
  | [d1, d2] => { results := [.lit (.bool true)], args := [d1, d2] }
  | _ => none }
def chainPartsRow : OpenClaim := { program := "ytkadnmoephkklaa", sum := "30e377b02fa98b482301cd661aec00812eed6f06f76ce52a912a526c8f2d5639", func := "palfrey/palfreylaw10.ChainParts", spec := "chainParts", unfollowed := true, recurses := true, apart := false }
def ChainPartsSaid : Prop := chainPartsRow.holds Try.pinned (OpenSpec.ofChange chainPartsSpec)

/-- ITS FALSE NEIGHBOUR: 'it returns false'. Refute it at one input. -/
def chainPartsWrong : ChangeSpec := { name := "chainParts", fn := fun _ => fun
  | [d1, d2] => { results := [.lit (.bool false)], args := [d1, d2] }
  | _ => none }
def ChainPartsWrongFalsely : Prop := chainPartsRow.holds Try.pinned (OpenSpec.ofChange chainPartsWrong)

/-- 'palfreylaw10.ChainOne': WHATEVER THE INPUT: true; the input reads as it did. -/
def chainOneSpec : ChangeSpec := { name := "chainOne", fn := fun _ => fun
  | [d1, d2] => { results := [.lit (.bool true)], args := [d1, d2] }
  | _ => none }
def chainOneRow : OpenClaim := { program := "ytkadnmoephkklaa", sum := "30e377b02fa98b482301cd661aec00812eed6f06f76ce52a912a526c8f2d5639", func := "palfrey/palfreylaw10.ChainOne", spec := "chainOne", unfollowed := true, recurses := true, apart := false }
def ChainOneSaid : Prop := chainOneRow.holds Try.pinned (OpenSpec.ofChange chainOneSpec)

/-- ITS FALSE NEIGHBOUR: 'it returns false'. Refute it at one input. -/
def chainOneWrong : ChangeSpec := { name := "chainOne", fn := fun _ => fun
  | [d1, d2] => { results := [.lit (.bool false)], args := [d1, d2] }
  | _ => none }
def ChainOneWrongFalsely : Prop := chainOneRow.holds Try.pinned (OpenSpec.ofChange chainOneWrong)

/-- 'palfreylaw10.ChainSteps': WHATEVER THE INPUT: true; the input reads as it did. -/
def chainStepsSpec : ChangeSpec := { name := "chainSteps", fn := fun _ => fun
  | [d1, d2, d3] => { results := [.lit (.bool true)], args := [d1, d2, d3] }
  | _ => none }
def chainStepsRow : OpenClaim := { program := "ytkadnmoephkklaa", sum := "30e377b02fa98b482301cd661aec00812eed6f06f76ce52a912a526c8f2d5639", func := "palfrey/palfreylaw10.ChainSteps", spec := "chainSteps", unfollowed := true, recurses := true, apart := false }
def ChainStepsSaid : Prop := chainStepsRow.holds Try.pinned (OpenSpec.ofChange chainStepsSpec)

/-- ITS FALSE NEIGHBOUR: 'it returns false'. Refute it at one input. -/
def chainStepsWrong : ChangeSpec := { name := "chainSteps", fn := fun _ => fun
  | [d1, d2, d3] => { results := [.lit (.bool false)], args := [d1, d2, d3] }
  | _ => none }
def ChainStepsWrongFalsely : Prop := chainStepsRow.holds Try.pinned (OpenSpec.ofChange chainStepsWrong)

/-- 'palfreylaw10.ChainRoots': WHATEVER THE INPUT: true; the input reads as it did. -/
def chainRootsSpec : ChangeSpec := { name := "chainRoots", fn := fun _ => fun
  | [d1, d2] => { results := [.lit (.bool true)], args := [d1, d2] }
  | _ => none }
def chainRootsRow : OpenClaim := { program := "ytkadnmoephkklaa", sum := "30e377b02fa98b482301cd661aec00812eed6f06f76ce52a912a526c8f2d5639", func := "palfrey/palfreylaw10.ChainRoots", spec := "chainRoots", unfollowed := true, recurses := true, apart := false }
def ChainRootsSaid : Prop := chainRootsRow.holds Try.pinned (OpenSpec.ofChange chainRootsSpec)

/-- ITS FALSE NEIGHBOUR: 'it returns false'. Refute it at one input. -/
def chainRootsWrong : ChangeSpec := { name := "chainRoots", fn := fun _ => fun
  | [d1, d2] => { results := [.lit (.bool false)], args := [d1, d2] }
  | _ => none }
def ChainRootsWrongFalsely : Prop := chainRootsRow.holds Try.pinned (OpenSpec.ofChange chainRootsWrong)

/-- 'palfreylaw05.SealBack': WHATEVER THE INPUT: true; the input reads as it did. -/
def sealBackSpec : ChangeSpec := { name := "sealBack", fn := fun _ => fun
  | [d1, d2, d3] => { results := [.lit (.bool true)], args := [d1, d2, d3] }
  | _ => none }
def sealBackRow : OpenClaim := { program := "ytkadnmoephkklaa", sum := "30e377b02fa98b482301cd661aec00812eed6f06f76ce52a912a526c8f2d5639", func := "palfrey/palfreylaw05.SealBack", spec := "sealBack", unfollowed := true, recurses := true, apart := false }
def SealBackSaid : Prop := sealBackRow.holds Try.pinned (OpenSpec.ofChange sealBackSpec)

/-- ITS FALSE NEIGHBOUR: 'it returns false'. Refute it at one input. -/
def sealBackWrong : ChangeSpec := { name := "sealBack", fn := fun _ => fun
  | [d1, d2, d3] => { results := [.lit (.bool false)], args := [d1, d2, d3] }
  | _ => none }
def SealBackWrongFalsely : Prop := sealBackRow.holds Try.pinned (OpenSpec.ofChange sealBackWrong)

/-- 'palfreylaw05.SealOne': WHATEVER THE INPUT: true; the input reads as it did. -/
def sealOneSpec : ChangeSpec := { name := "sealOne", fn := fun _ => fun
  | [d1, d2, d3] => { results := [.lit (.bool true)], args := [d1, d2, d3] }
  | _ => none }
def sealOneRow : OpenClaim := { program := "ytkadnmoephkklaa", sum := "30e377b02fa98b482301cd661aec00812eed6f06f76ce52a912a526c8f2d5639", func := "palfrey/palfreylaw05.SealOne", spec := "sealOne", unfollowed := true, recurses := true, apart := false }
def SealOneSaid : Prop := sealOneRow.holds Try.pinned (OpenSpec.ofChange sealOneSpec)

/-- ITS FALSE NEIGHBOUR: 'it returns false'. Refute it at one input. -/
def sealOneWrong : ChangeSpec := { name := "sealOne", fn := fun _ => fun
  | [d1, d2, d3] => { results := [.lit (.bool false)], args := [d1, d2, d3] }
  | _ => none }
def SealOneWrongFalsely : Prop := sealOneRow.holds Try.pinned (OpenSpec.ofChange sealOneWrong)

/-- 'palfreylaw05.SealCloses': WHATEVER THE INPUT: true; the input reads as it did. -/
def sealClosesSpec : ChangeSpec := { name := "sealCloses", fn := fun _ => fun
  | [d1, d2, d3] => { results := [.lit (.bool true)], args := [d1, d2, d3] }
  | _ => none }
def sealClosesRow : OpenClaim := { program := "ytkadnmoephkklaa", sum := "30e377b02fa98b482301cd661aec00812eed6f06f76ce52a912a526c8f2d5639", func := "palfrey/palfreylaw05.SealCloses", spec := "sealCloses", unfollowed := true, recurses := true, apart := false }
def SealClosesSaid : Prop := sealClosesRow.holds Try.pinned (OpenSpec.ofChange sealClosesSpec)

/-- ITS FALSE NEIGHBOUR: 'it returns false'. Refute it at one input. -/
def sealClosesWrong : ChangeSpec := { name := "sealCloses", fn := fun _ => fun
  | [d1, d2, d3] => { results := [.lit (.bool false)], args := [d1, d2, d3] }
  | _ => none }
def SealClosesWrongFalsely : Prop := sealClosesRow.holds Try.pinned (OpenSpec.ofChange sealClosesWrong)

/-- 'palfreylaw05.SealOpens': WHATEVER THE INPUT: true; the input reads as it did. -/
def sealOpensSpec : ChangeSpec := { name := "sealOpens", fn := fun _ => fun
  | [d1, d2, d3] => { results := [.lit (.bool true)], args := [d1, d2, d3] }
  | _ => none }
def sealOpensRow : OpenClaim := { program := "ytkadnmoephkklaa", sum := "30e377b02fa98b482301cd661aec00812eed6f06f76ce52a912a526c8f2d5639", func := "palfrey/palfreylaw05.SealOpens", spec := "sealOpens", unfollowed := true, recurses := true, apart := false }
def SealOpensSaid : Prop := sealOpensRow.holds Try.pinned (OpenSpec.ofChange sealOpensSpec)

/-- ITS FALSE NEIGHBOUR: 'it returns false'. Refute it at one input. -/
def sealOpensWrong : ChangeSpec := { name := "sealOpens", fn := fun _ => fun
  | [d1, d2, d3] => { results := [.lit (.bool false)], args := [d1, d2, d3] }
  | _ => none }
def SealOpensWrongFalsely : Prop := sealOpensRow.holds Try.pinned (OpenSpec.ofChange sealOpensWrong)

/-- 'palfreylaw05.SealLong': WHATEVER THE INPUT: true; the input reads as it did. -/
def sealLongSpec : ChangeSpec := { name := "sealLong", fn := fun _ => fun
  | [d1, d2, d3] => { results := [.lit (.bool true)], args := [d1, d2, d3] }
  | _ => none }
def sealLongRow : OpenClaim := { program := "ytkadnmoephkklaa", sum := "30e377b02fa98b482301cd661aec00812eed6f06f76ce52a912a526c8f2d5639", func := "palfrey/palfreylaw05.SealLong", spec := "sealLong", unfollowed := true, recurses := true, apart := false }
def SealLongSaid : Prop := sealLongRow.holds Try.pinned (OpenSpec.ofChange sealLongSpec)

/-- ITS FALSE NEIGHBOUR: 'it returns false'. Refute it at one input. -/
def sealLongWrong : ChangeSpec := { name := "sealLong", fn := fun _ => fun
  | [d1, d2, d3] => { results := [.lit (.bool false)], args := [d1, d2, d3] }
  | _ => none }
def SealLongWrongFalsely : Prop := sealLongRow.holds Try.pinned (OpenSpec.ofChange sealLongWrong)

/- THE SECOND FORM. 'bulk': how many values and letters a reading holds, each counted each time it is reached (what is shared counts as often as it is met; a slice's spare places count too). A statement '..UptoSaid' is the law's where the arguments, and the package variables that the reading takes, are together of bulk at most 1048576: NARROWER than '..Said'. Prove '..Said' where nothing that the law and all that it calls make is longer than what came in: it says more and counts as full. Else prove '..UptoSaid'. A law counts once. -/
mutual
def uptoBulk {H : Type} : DataW H → Nat
  | .lit (.string bytes) => bytes.length + 1
  | .lit _ => 1
  | .nil => 1
  | .ptr d => uptoBulk d + 1
  | .slice elems spare => uptoBulkAll elems + uptoBulkAll spare + 1
  | .agg parts => uptoBulkAll parts + 1
  | .iface _ d => uptoBulk d + 1
  | .map entries => uptoBulkEntries entries + 1
  | .held _ => 1
def uptoBulkAll {H : Type} : List (DataW H) → Nat
  | [] => 0
  | d :: r => uptoBulk d + uptoBulkAll r
def uptoBulkEntries {H : Type} : List (Lit × DataW H) → Nat
  | [] => 0
  | x :: r => uptoBulkEntry x + uptoBulkEntries r
def uptoBulkEntry {H : Type} : Lit × DataW H → Nat
  | (.string bytes, d) => bytes.length + uptoBulk d + 1
  | (_, d) => uptoBulk d + 1
 end
def uptoSmall : (H : Type) → List (DataW H) → Bool := fun _ ds => decide (uptoBulkAll ds ≤ 1048576)
def OpenSpec.upto (s : _root_.Go.ChangeSpec) : _root_.Go.OpenSpec := { _root_.Go.OpenSpec.ofChange s with cond := some uptoSmall }

/-- 'palfreylaw03.KdfDraws', WHERE WHAT IT READS IS OF BULK AT MOST 1048576: true; the input reads as it did. -/
def kdfDrawsUptoRow : OpenClaim := { program := "ytkadnmoephkklaa", sum := "30e377b02fa98b482301cd661aec00812eed6f06f76ce52a912a526c8f2d5639", func := "palfrey/palfreylaw03.KdfDraws", spec := "kdfDraws", unfollowed := true, recurses := true, apart := false, narrowed := true }
def KdfDrawsUptoSaid : Prop := kdfDrawsUptoRow.holds Try.pinned (OpenSpec.upto kdfDrawsSpec)

/-- 'palfreylaw03.KdfKeys', WHERE WHAT IT READS IS OF BULK AT MOST 1048576: true; the input reads as it did. -/
def kdfKeysUptoRow : OpenClaim := { program := "ytkadnmoephkklaa", sum := "30e377b02fa98b482301cd661aec00812eed6f06f76ce52a912a526c8f2d5639", func := "palfrey/palfreylaw03.KdfKeys", spec := "kdfKeys", unfollowed := true, recurses := true, apart := false, narrowed := true }
def KdfKeysUptoSaid : Prop := kdfKeysUptoRow.holds Try.pinned (OpenSpec.upto kdfKeysSpec)

/-- 'palfreylaw03.KdfFewer', WHERE WHAT IT READS IS OF BULK AT MOST 1048576: true; the input reads as it did. -/
def kdfFewerUptoRow : OpenClaim := { program := "ytkadnmoephkklaa", sum := "30e377b02fa98b482301cd661aec00812eed6f06f76ce52a912a526c8f2d5639", func := "palfrey/palfreylaw03.KdfFewer", spec := "kdfFewer", unfollowed := true, recurses := true, apart := false, narrowed := true }
def KdfFewerUptoSaid : Prop := kdfFewerUptoRow.holds Try.pinned (OpenSpec.upto kdfFewerSpec)

/-- 'palfreylaw03.KdfFirst', WHERE WHAT IT READS IS OF BULK AT MOST 1048576: true; the input reads as it did. -/
def kdfFirstUptoRow : OpenClaim := { program := "ytkadnmoephkklaa", sum := "30e377b02fa98b482301cd661aec00812eed6f06f76ce52a912a526c8f2d5639", func := "palfrey/palfreylaw03.KdfFirst", spec := "kdfFirst", unfollowed := true, recurses := true, apart := false, narrowed := true }
def KdfFirstUptoSaid : Prop := kdfFirstUptoRow.holds Try.pinned (OpenSpec.upto kdfFirstSpec)

/-- 'palfreylaw03.KdfDrawn', WHERE WHAT IT READS IS OF BULK AT MOST 1048576: true; the input reads as it did. -/
def kdfDrawnUptoRow : OpenClaim := { program := "ytkadnmoephkklaa", sum := "30e377b02fa98b482301cd661aec00812eed6f06f76ce52a912a526c8f2d5639", func := "palfrey/palfreylaw03.KdfDrawn", spec := "kdfDrawn", unfollowed := true, recurses := true, apart := false, narrowed := true }
def KdfDrawnUptoSaid : Prop := kdfDrawnUptoRow.holds Try.pinned (OpenSpec.upto kdfDrawnSpec)

/-- 'palfreylaw10.ChainParts', WHERE WHAT IT READS IS OF BULK AT MOST 1048576: true; the input reads as it did. -/
def chainPartsUptoRow : OpenClaim := { program := "ytkadnmoephkklaa", sum := "30e377b02fa98b482301cd661aec00812eed6f06f76ce52a912a526c8f2d5639", func := "palfrey/palfreylaw10.ChainParts", spec := "chainParts", unfollowed := true, recurses := true, apart := false, narrowed := true }
def ChainPartsUptoSaid : Prop := chainPartsUptoRow.holds Try.pinned (OpenSpec.upto chainPartsSpec)

/-- 'palfreylaw10.ChainOne', WHERE WHAT IT READS IS OF BULK AT MOST 1048576: true; the input reads as it did. -/
def chainOneUptoRow : OpenClaim := { program := "ytkadnmoephkklaa", sum := "30e377b02fa98b482301cd661aec00812eed6f06f76ce52a912a526c8f2d5639", func := "palfrey/palfreylaw10.ChainOne", spec := "chainOne", unfollowed := true, recurses := true, apart := false, narrowed := true }
def ChainOneUptoSaid : Prop := chainOneUptoRow.holds Try.pinned (OpenSpec.upto chainOneSpec)

/-- 'palfreylaw10.ChainSteps', WHERE WHAT IT READS IS OF BULK AT MOST 1048576: true; the input reads as it did. -/
def chainStepsUptoRow : OpenClaim := { program := "ytkadnmoephkklaa", sum := "30e377b02fa98b482301cd661aec00812eed6f06f76ce52a912a526c8f2d5639", func := "palfrey/palfreylaw10.ChainSteps", spec := "chainSteps", unfollowed := true, recurses := true, apart := false, narrowed := true }
def ChainStepsUptoSaid : Prop := chainStepsUptoRow.holds Try.pinned (OpenSpec.upto chainStepsSpec)

/-- 'palfreylaw10.ChainRoots', WHERE WHAT IT READS IS OF BULK AT MOST 1048576: true; the input reads as it did. -/
def chainRootsUptoRow : OpenClaim := { program := "ytkadnmoephkklaa", sum := "30e377b02fa98b482301cd661aec00812eed6f06f76ce52a912a526c8f2d5639", func := "palfrey/palfreylaw10.ChainRoots", spec := "chainRoots", unfollowed := true, recurses := true, apart := false, narrowed := true }
def ChainRootsUptoSaid : Prop := chainRootsUptoRow.holds Try.pinned (OpenSpec.upto chainRootsSpec)

/-- 'palfreylaw05.SealBack', WHERE WHAT IT READS IS OF BULK AT MOST 1048576: true; the input reads as it did. -/
def sealBackUptoRow : OpenClaim := { program := "ytkadnmoephkklaa", sum := "30e377b02fa98b482301cd661aec00812eed6f06f76ce52a912a526c8f2d5639", func := "palfrey/palfreylaw05.SealBack", spec := "sealBack", unfollowed := true, recurses := true, apart := false, narrowed := true }
def SealBackUptoSaid : Prop := sealBackUptoRow.holds Try.pinned (OpenSpec.upto sealBackSpec)

/-- 'palfreylaw05.SealOne', WHERE WHAT IT READS IS OF BULK AT MOST 1048576: true; the input reads as it did. -/
def sealOneUptoRow : OpenClaim := { program := "ytkadnmoephkklaa", sum := "30e377b02fa98b482301cd661aec00812eed6f06f76ce52a912a526c8f2d5639", func := "palfrey/palfreylaw05.SealOne", spec := "sealOne", unfollowed := true, recurses := true, apart := false, narrowed := true }
def SealOneUptoSaid : Prop := sealOneUptoRow.holds Try.pinned (OpenSpec.upto sealOneSpec)

/-- 'palfreylaw05.SealCloses', WHERE WHAT IT READS IS OF BULK AT MOST 1048576: true; the input reads as it did. -/
def sealClosesUptoRow : OpenClaim := { program := "ytkadnmoephkklaa", sum := "30e377b02fa98b482301cd661aec00812eed6f06f76ce52a912a526c8f2d5639", func := "palfrey/palfreylaw05.SealCloses", spec := "sealCloses", unfollowed := true, recurses := true, apart := false, narrowed := true }
def SealClosesUptoSaid : Prop := sealClosesUptoRow.holds Try.pinned (OpenSpec.upto sealClosesSpec)

/-- 'palfreylaw05.SealOpens', WHERE WHAT IT READS IS OF BULK AT MOST 1048576: true; the input reads as it did. -/
def sealOpensUptoRow : OpenClaim := { program := "ytkadnmoephkklaa", sum := "30e377b02fa98b482301cd661aec00812eed6f06f76ce52a912a526c8f2d5639", func := "palfrey/palfreylaw05.SealOpens", spec := "sealOpens", unfollowed := true, recurses := true, apart := false, narrowed := true }
def SealOpensUptoSaid : Prop := sealOpensUptoRow.holds Try.pinned (OpenSpec.upto sealOpensSpec)

/-- 'palfreylaw05.SealLong', WHERE WHAT IT READS IS OF BULK AT MOST 1048576: true; the input reads as it did. -/
def sealLongUptoRow : OpenClaim := { program := "ytkadnmoephkklaa", sum := "30e377b02fa98b482301cd661aec00812eed6f06f76ce52a912a526c8f2d5639", func := "palfrey/palfreylaw05.SealLong", spec := "sealLong", unfollowed := true, recurses := true, apart := false, narrowed := true }
def SealLongUptoSaid : Prop := sealLongUptoRow.holds Try.pinned (OpenSpec.upto sealLongSpec)

end Rows
end Go.Proofs.Ytkadnmoephkklaa
