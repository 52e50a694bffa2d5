/-
  No cell of these rows narrows 'for every input' (looked for: loops, veiled, ifaces, maps, wideKeys, modest, calm, conditions, laid).
  DERIVED. THE GIVEN ROWS OF THIS SEAT. 4 by the template 'for every input the law returns true; each argument reads behind the call as it read before'; 0 by the template 'total and deterministic' (their statements: YtabmfndiepmcgaaTotals.lean).
  GIVEN WITH THE SEED: the statements are not yours to turn. If you find one false, say at which input.
  Laid BY PROGRAM, IN A SANDBOX (cutbox-rows.mjs): the forced cells as the released guide's own fill.sh prints them over the translation 3a6d0e0a6d82bb47… (all of the seat's roots in one cut). By AI agents, Wed Nov 11 2026. No macro, syntax, notation, axiom, sorry.
-/
import Derived.Test.YtabmfndiepmcgaaChecked
import GoSem.Claim
import GoSem.ClaimJoined
import GoSem.ClaimMapViews
import Derived.JoinedTies
import Derived.KernelRfl
namespace Go.Proofs.Ytabmfndiepmcgaa
/- THE CELL 'sum', in the pinned program and in every row, IS THE sha256 OF THE DUMP (.gsa) THAT YtabmfndiepmcgaaProg.lean LOADS. Nothing in Lean hashes anything: it is a label: what it is worth is what the hold of that sum in a sandbox is worth. -/
noncomputable def Try.pinned : Pinned := { name := "ytabmfndiepmcgaa", sum := "3a6d0e0a6d82bb478cc0a74f1db86576f540127e94c7e4ce9211de394c8ba5b8", checked := Try.checked }
namespace Rows
def none {H : Type} : Left H := { results := [], args := [] }

/-- 'palfreylaw09.AgreeBegins': WHATEVER THE INPUT: true; the input reads as it did. -/
def agreeBeginsSpec : ChangeSpec := { name := "agreeBegins", fn := fun _ => fun
  | [d1, d2, d3] => { results := [.lit (.bool true)], args := [d1, d2, d3] }
  | _ => none }
def agreeBeginsRow : OpenClaim := { program := "ytabmfndiepmcgaa", sum := "3a6d0e0a6d82bb478cc0a74f1db86576f540127e94c7e4ce9211de394c8ba5b8", func := "palfrey/palfreylaw09.AgreeBegins", spec := "agreeBegins", unfollowed := true, recurses := true, apart := false }
def AgreeBeginsSaid : Prop := agreeBeginsRow.holds Try.pinned (OpenSpec.ofChange agreeBeginsSpec)

/-- ITS FALSE NEIGHBOUR: 'it returns false'. Refute it at one input. -/
def agreeBeginsWrong : ChangeSpec := { name := "agreeBegins", fn := fun _ => fun
  | [d1, d2, d3] => { results := [.lit (.bool false)], args := [d1, d2, d3] }
  | _ => none }
def AgreeBeginsWrongFalsely : Prop := agreeBeginsRow.holds Try.pinned (OpenSpec.ofChange agreeBeginsWrong)

/-- 'palfreylaw09.AgreeAnswers': WHATEVER THE INPUT: true; the input reads as it did. -/
def agreeAnswersSpec : ChangeSpec := { name := "agreeAnswers", fn := fun _ => fun
  | [d1, d2, d3] => { results := [.lit (.bool true)], args := [d1, d2, d3] }
  | _ => none }
def agreeAnswersRow : OpenClaim := { program := "ytabmfndiepmcgaa", sum := "3a6d0e0a6d82bb478cc0a74f1db86576f540127e94c7e4ce9211de394c8ba5b8", func := "palfrey/palfreylaw09.AgreeAnswers", spec := "agreeAnswers", unfollowed := true, recurses := true, apart := false }
def AgreeAnswersSaid : Prop := agreeAnswersRow.holds Try.pinned (OpenSpec.ofChange agreeAnswersSpec)

/-- ITS FALSE NEIGHBOUR: 'it returns false'. Refute it at one input. -/
def agreeAnswersWrong : ChangeSpec := { name := "agreeAnswers", fn := fun _ => fun
  | [d1, d2, d3] => { results := [.lit (.bool false)], args := [d1, d2, d3] }
  | _ => none }
def AgreeAnswersWrongFalsely : Prop := agreeAnswersRow.holds Try.pinned (OpenSpec.ofChange agreeAnswersWrong)

/-- 'palfreylaw09.AgreeBoth': WHATEVER THE INPUT: true; the input reads as it did. -/
def agreeBothSpec : ChangeSpec := { name := "agreeBoth", fn := fun _ => fun
  | [d1, d2] => { results := [.lit (.bool true)], args := [d1, d2] }
  | _ => none }
def agreeBothRow : OpenClaim := { program := "ytabmfndiepmcgaa", sum := "3a6d0e0a6d82bb478cc0a74f1db86576f540127e94c7e4ce9211de394c8ba5b8", func := "palfrey/palfreylaw09.AgreeBoth", spec := "agreeBoth", unfollowed := true, recurses := true, apart := false }
def AgreeBothSaid : Prop := agreeBothRow.holds Try.pinned (OpenSpec.ofChange agreeBothSpec)

/-- ITS FALSE NEIGHBOUR: 'it returns false'. Refute it at one input. -/
def agreeBothWrong : ChangeSpec := { name := "agreeBoth", fn := fun _ => fun
  | [d1, d2] => { results := [.lit (.bool false)], args := [d1, d2] }
  | _ => none }
def AgreeBothWrongFalsely : Prop := agreeBothRow.holds Try.pinned (OpenSpec.ofChange agreeBothWrong)

/-- 'palfreylaw09.AgreeOnce': WHATEVER THE INPUT: true; the input reads as it did. -/
def agreeOnceSpec : ChangeSpec := { name := "agreeOnce", fn := fun _ => fun
  | [d] => { results := [.lit (.bool true)], args := [d] }
  | _ => none }
def agreeOnceRow : OpenClaim := { program := "ytabmfndiepmcgaa", sum := "3a6d0e0a6d82bb478cc0a74f1db86576f540127e94c7e4ce9211de394c8ba5b8", func := "palfrey/palfreylaw09.AgreeOnce", spec := "agreeOnce", unfollowed := true, recurses := true, apart := false }
def AgreeOnceSaid : Prop := agreeOnceRow.holds Try.pinned (OpenSpec.ofChange agreeOnceSpec)

/-- ITS FALSE NEIGHBOUR: 'it returns false'. Refute it at one input. -/
def agreeOnceWrong : ChangeSpec := { name := "agreeOnce", fn := fun _ => fun
  | [d] => { results := [.lit (.bool false)], args := [d] }
  | _ => none }
def AgreeOnceWrongFalsely : Prop := agreeOnceRow.holds Try.pinned (OpenSpec.ofChange agreeOnceWrong)

/- THE SECOND FORM. 'bulk': how many values and letters a reading holds, each counted each time it is reached (what is shared counts as often as it is met; a slice's spare places count too). A statement '..UptoSaid' is the law's where the arguments, and the package variables that the reading takes, are together of bulk at most 1048576: NARROWER than '..Said'. Prove '..Said' where nothing that the law and all that it calls make is longer than what came in: it says more and counts as full. Else prove '..UptoSaid'. A law counts once. -/
mutual
def uptoBulk {H : Type} : DataW H → Nat
  | .lit (.string bytes) => bytes.length + 1
  | .lit _ => 1
  | .nil => 1
  | .ptr d => uptoBulk d + 1
  | .slice elems spare => uptoBulkAll elems + uptoBulkAll spare + 1
  | .agg parts => uptoBulkAll parts + 1
  | .iface _ d => uptoBulk d + 1
  | .map entries => uptoBulkEntries entries + 1
  | .held _ => 1
def uptoBulkAll {H : Type} : List (DataW H) → Nat
  | [] => 0
  | d :: r => uptoBulk d + uptoBulkAll r
def uptoBulkEntries {H : Type} : List (Lit × DataW H) → Nat
  | [] => 0
  | x :: r => uptoBulkEntry x + uptoBulkEntries r
def uptoBulkEntry {H : Type} : Lit × DataW H → Nat
  | (.string bytes, d) => bytes.length + uptoBulk d + 1
  | (_, d) => uptoBulk d + 1
 end
def uptoSmall : (H : Type) → List (DataW H) → Bool := fun _ ds => decide (uptoBulkAll ds ≤ 1048576)
def OpenSpec.upto (s : _root_.Go.ChangeSpec) : _root_.Go.OpenSpec := { _root_.Go.OpenSpec.ofChange s with cond := some uptoSmall }

/-- 'palfreylaw09.AgreeBegins', WHERE WHAT IT READS IS OF BULK AT MOST 1048576: true; the input reads as it did. -/
def agreeBeginsUptoRow : OpenClaim := { program := "ytabmfndiepmcgaa", sum := "3a6d0e0a6d82bb478cc0a74f1db86576f540127e94c7e4ce9211de394c8ba5b8", func := "palfrey/palfreylaw09.AgreeBegins", spec := "agreeBegins", unfollowed := true, recurses := true, apart := false, narrowed := true }
def AgreeBeginsUptoSaid : Prop := agreeBeginsUptoRow.holds Try.pinned (OpenSpec.upto agreeBeginsSpec)

/-- 'palfreylaw09.AgreeAnswers', WHERE WHAT IT READS IS OF BULK AT MOST 1048576: true; the input reads as it did. -/
def agreeAnswersUptoRow : OpenClaim := { program := "ytabmfndiepmcgaa", sum := "3a6d0e0a6d82bb478cc0a74f1db86576f540127e94c7e4ce9211de394c8ba5b8", func := "palfrey/palfreylaw09.AgreeAnswers", spec := "agreeAnswers", unfollowed := true, recurses := true, apart := false, narrowed := true }
def AgreeAnswersUptoSaid : Prop := agreeAnswersUptoRow.holds Try.pinned (OpenSpec.upto agreeAnswersSpec)

/-- 'palfreylaw09.AgreeBoth', WHERE WHAT IT READS IS OF BULK AT MOST 1048576: true; the input reads as it did. -/
def agreeBothUptoRow : OpenClaim := { program := "ytabmfndiepmcgaa", sum := "3a6d0e0a6d82bb478cc0a74f1db86576f540127e94c7e4ce9211de394c8ba5b8", func := "palfrey/palfreylaw09.AgreeBoth", spec := "agreeBoth", unfollowed := true, recurses := true, apart := false, narrowed := true }
def AgreeBothUptoSaid : Prop := agreeBothUptoRow.holds Try.pinned (OpenSpec.upto agreeBothSpec)

/-- 'palfreylaw09.AgreeOnce', WHERE WHAT IT READS IS OF BULK AT MOST 1048576: true; the input reads as it did. -/
def agreeOnceUptoRow : OpenClaim := { program := "ytabmfndiepmcgaa", sum := "3a6d0e0a6d82bb478cc0a74f1db86576f540127e94c7e4ce9211de394c8ba5b8", func := "palfrey/palfreylaw09.AgreeOnce", spec := "agreeOnce", unfollowed := true, recurses := true, apart := false, narrowed := true }
def AgreeOnceUptoSaid : Prop := agreeOnceUptoRow.holds Try.pinned (OpenSpec.upto agreeOnceSpec)

end Rows
end Go.Proofs.Ytabmfndiepmcgaa
