/-
  No cell of these rows narrows 'for every input' (looked for: loops, veiled, ifaces, maps, wideKeys, modest, calm, conditions, laid).
  DERIVED. THE GIVEN ROWS OF THIS SEAT. 3 by the template 'for every input the law returns true; each argument reads behind the call as it read before'; 0 by the template 'total and deterministic' (their statements: YtcgkmdmbjffipaaTotals.lean).
  GIVEN WITH THE SEED: the statements are not yours to turn. If you find one false, say at which input.
  Laid BY PROGRAM, IN A SANDBOX (cutbox-rows.mjs): the forced cells as the released guide's own fill.sh prints them over the translation 0e6c75ec89bb7ff4… (all of the seat's roots in one cut). By AI agents, Wed Nov 11 2026. No macro, syntax, notation, axiom, sorry.
-/
import Derived.Test.YtcgkmdmbjffipaaChecked
import GoSem.Claim
import GoSem.ClaimJoined
import GoSem.ClaimMapViews
import Derived.JoinedTies
import Derived.KernelRfl
namespace Go.Proofs.Ytcgkmdmbjffipaa
/- THE CELL 'sum', in the pinned program and in every row, IS THE sha256 OF THE DUMP (.gsa) THAT YtcgkmdmbjffipaaProg.lean LOADS. Nothing in Lean hashes anything: it is a label: what it is worth is what the hold of that sum in a sandbox is worth. -/
noncomputable def Try.pinned : Pinned := { name := "ytcgkmdmbjffipaa", sum := "0e6c75ec89bb7ff47a61e6e987e8214dee1a8a516c6d2d4b6b898673d0ffbb74", checked := Try.checked }
namespace Rows
def none {H : Type} : Left H := { results := [], args := [] }

/-- 'laws.FnEnsemble': WHATEVER THE INPUT: true; the input reads as it did. -/
def fnEnsembleSpec : ChangeSpec := { name := "fnEnsemble", fn := fun _ => fun
  | [d1, d2] => { results := [.lit (.bool true)], args := [d1, d2] }
  | _ => none }
def fnEnsembleRow : OpenClaim := { program := "ytcgkmdmbjffipaa", sum := "0e6c75ec89bb7ff47a61e6e987e8214dee1a8a516c6d2d4b6b898673d0ffbb74", func := "loop.example/g01033/laws.FnEnsemble", spec := "fnEnsemble", inPlace := ["slices.overlaps[loop.example/g01033/impl.Turn]"], unfollowed := true, recurses := true, apart := false }
def FnEnsembleSaid : Prop := fnEnsembleRow.holds Try.pinned (OpenSpec.ofChange fnEnsembleSpec)

/-- ITS FALSE NEIGHBOUR: 'it returns false'. Refute it at one input. -/
def fnEnsembleWrong : ChangeSpec := { name := "fnEnsemble", fn := fun _ => fun
  | [d1, d2] => { results := [.lit (.bool false)], args := [d1, d2] }
  | _ => none }
def FnEnsembleWrongFalsely : Prop := fnEnsembleRow.holds Try.pinned (OpenSpec.ofChange fnEnsembleWrong)

/-- 'laws.FnPractice': WHATEVER THE INPUT: true; the input reads as it did. -/
def fnPracticeSpec : ChangeSpec := { name := "fnPractice", fn := fun _ => fun
  | [d1, d2] => { results := [.lit (.bool true)], args := [d1, d2] }
  | _ => none }
def fnPracticeRow : OpenClaim := { program := "ytcgkmdmbjffipaa", sum := "0e6c75ec89bb7ff47a61e6e987e8214dee1a8a516c6d2d4b6b898673d0ffbb74", func := "loop.example/g01033/laws.FnPractice", spec := "fnPractice", unfollowed := true, recurses := true, apart := false }
def FnPracticeSaid : Prop := fnPracticeRow.holds Try.pinned (OpenSpec.ofChange fnPracticeSpec)

/-- ITS FALSE NEIGHBOUR: 'it returns false'. Refute it at one input. -/
def fnPracticeWrong : ChangeSpec := { name := "fnPractice", fn := fun _ => fun
  | [d1, d2] => { results := [.lit (.bool false)], args := [d1, d2] }
  | _ => none }
def FnPracticeWrongFalsely : Prop := fnPracticeRow.holds Try.pinned (OpenSpec.ofChange fnPracticeWrong)

/-- 'laws.FnExactRankPupils': WHATEVER THE INPUT: true; the input reads as it did. -/
def fnExactRankPupilsSpec : ChangeSpec := { name := "fnExactRankPupils", fn := fun _ => fun
  | [d] => { results := [.lit (.bool true)], args := [d] }
  | _ => none }
def fnExactRankPupilsRow : OpenClaim := { program := "ytcgkmdmbjffipaa", sum := "0e6c75ec89bb7ff47a61e6e987e8214dee1a8a516c6d2d4b6b898673d0ffbb74", func := "loop.example/g01033/laws.FnExactRankPupils", spec := "fnExactRankPupils", unfollowed := true, recurses := true, apart := false }
def FnExactRankPupilsSaid : Prop := fnExactRankPupilsRow.holds Try.pinned (OpenSpec.ofChange fnExactRankPupilsSpec)

/-- ITS FALSE NEIGHBOUR: 'it returns false'. Refute it at one input. -/
def fnExactRankPupilsWrong : ChangeSpec := { name := "fnExactRankPupils", fn := fun _ => fun
  | [d] => { results := [.lit (.bool false)], args := [d] }
  | _ => none }
def FnExactRankPupilsWrongFalsely : Prop := fnExactRankPupilsRow.holds Try.pinned (OpenSpec.ofChange fnExactRankPupilsWrong)

/- THE SECOND FORM. 'bulk': how many values and letters a reading holds, each counted each time it is reached (what is shared counts as often as it is met; a slice's spare places count too). A statement '..UptoSaid' is the law's where the arguments, and the package variables that the reading takes, are together of bulk at most 1048576: NARROWER than '..Said'. Prove '..Said' where nothing that the law and all that it calls make is longer than what came in: it says more and counts as full. Else prove '..UptoSaid'. A law counts once. -/
mutual
def uptoBulk {H : Type} : DataW H → Nat
  | .lit (.string bytes) => bytes.length + 1
  | .lit _ => 1
  | .nil => 1
  | .ptr d => uptoBulk d + 1
  | .slice elems spare => uptoBulkAll elems + uptoBulkAll spare + 1
  | .agg parts => uptoBulkAll parts + 1
  | .iface _ d => uptoBulk d + 1
  | .map entries => uptoBulkEntries entries + 1
  | .held _ => 1
def uptoBulkAll {H : Type} : List (DataW H) → Nat
  | [] => 0
  | d :: r => uptoBulk d + uptoBulkAll r
def uptoBulkEntries {H : Type} : List (Lit × DataW H) → Nat
  | [] => 0
  | x :: r => uptoBulkEntry x + uptoBulkEntries r
def uptoBulkEntry {H : Type} : Lit × DataW H → Nat
  | (.string bytes, d) => bytes.length + uptoBulk d + 1
  | (_, d) => uptoBulk d + 1
 end
def uptoSmall : (H : Type) → List (DataW H) → Bool := fun _ ds => decide (uptoBulkAll ds ≤ 1048576)
def OpenSpec.upto (s : _root_.Go.ChangeSpec) : _root_.Go.OpenSpec := { _root_.Go.OpenSpec.ofChange s with cond := some uptoSmall }

/-- 'laws.FnEnsemble', WHERE WHAT IT READS IS OF BULK AT MOST 1048576: true; the input reads as it did. -/
def fnEnsembleUptoRow : OpenClaim := { program := "ytcgkmdmbjffipaa", sum := "0e6c75ec89bb7ff47a61e6e987e8214dee1a8a516c6d2d4b6b898673d0ffbb74", func := "loop.example/g01033/laws.FnEnsemble", spec := "fnEnsemble", inPlace := ["slices.overlaps[loop.example/g01033/impl.Turn]"], unfollowed := true, recurses := true, apart := false, narrowed := true }
def FnEnsembleUptoSaid : Prop := fnEnsembleUptoRow.holds Try.pinned (OpenSpec.upto fnEnsembleSpec)

/-- 'laws.FnPractice', WHERE WHAT IT READS IS OF BULK AT MOST 1048576: true; the input reads as it did. -/
def fnPracticeUptoRow : OpenClaim := { program := "ytcgkmdmbjffipaa", sum := "0e6c75ec89bb7ff47a61e6e987e8214dee1a8a516c6d2d4b6b898673d0ffbb74", func := "loop.example/g01033/laws.FnPractice", spec := "fnPractice", unfollowed := true, recurses := true, apart := false, narrowed := true }
def FnPracticeUptoSaid : Prop := fnPracticeUptoRow.holds Try.pinned (OpenSpec.upto fnPracticeSpec)

/-- 'laws.FnExactRankPupils', WHERE WHAT IT READS IS OF BULK AT MOST 1048576: true; the input reads as it did. -/
def fnExactRankPupilsUptoRow : OpenClaim := { program := "ytcgkmdmbjffipaa", sum := "0e6c75ec89bb7ff47a61e6e987e8214dee1a8a516c6d2d4b6b898673d0ffbb74", func := "loop.example/g01033/laws.FnExactRankPupils", spec := "fnExactRankPupils", unfollowed := true, recurses := true, apart := false, narrowed := true }
def FnExactRankPupilsUptoSaid : Prop := fnExactRankPupilsUptoRow.holds Try.pinned (OpenSpec.upto fnExactRankPupilsSpec)

end Rows
end Go.Proofs.Ytcgkmdmbjffipaa
