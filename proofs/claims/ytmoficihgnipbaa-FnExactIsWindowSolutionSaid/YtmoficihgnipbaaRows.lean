/-
  No cell of these rows narrows 'for every input' (looked for: loops, veiled, ifaces, maps, wideKeys, modest, calm, conditions, laid).
  DERIVED. THE GIVEN ROWS OF THIS SEAT. 7 by the template 'for every input the law returns true; each argument reads behind the call as it read before'; 0 by the template 'total and deterministic' (their statements: YtmoficihgnipbaaTotals.lean).
  GIVEN WITH THE SEED: the statements are not yours to turn. If you find one false, say at which input.
  Laid BY PROGRAM, IN A SANDBOX (cutbox-rows.mjs): the forced cells as the released guide's own fill.sh prints them over the translation e0677a75054f36ff… (all of the seat's roots in one cut). By AI agents, Wed Nov 11 2026. No macro, syntax, notation, axiom, sorry.
-/
import Derived.Test.YtmoficihgnipbaaChecked
import GoSem.Claim
import GoSem.ClaimJoined
import GoSem.ClaimMapViews
import Derived.JoinedTies
import Derived.KernelRfl
namespace Go.Proofs.Ytmoficihgnipbaa
/- THE CELL 'sum', in the pinned program and in every row, IS THE sha256 OF THE DUMP (.gsa) THAT YtmoficihgnipbaaProg.lean LOADS. Nothing in Lean hashes anything: it is a label: what it is worth is what the hold of that sum in a sandbox is worth. -/
noncomputable def Try.pinned : Pinned := { name := "ytmoficihgnipbaa", sum := "e0677a75054f36ffde1335cb3ab84049a22772765f5a9763f157cd94bd327ed8", checked := Try.checked }
namespace Rows
def none {H : Type} : Left H := { results := [], args := [] }

/-- 'laws.FnExactIsTask': WHATEVER THE INPUT: true; the input reads as it did. -/
def fnExactIsTaskSpec : ChangeSpec := { name := "fnExactIsTask", fn := fun _ => fun
  | [d1, d2] => { results := [.lit (.bool true)], args := [d1, d2] }
  | _ => none }
def fnExactIsTaskRow : OpenClaim := { program := "ytmoficihgnipbaa", sum := "e0677a75054f36ffde1335cb3ab84049a22772765f5a9763f157cd94bd327ed8", func := "loop.example/g00941/laws.FnExactIsTask", spec := "fnExactIsTask", unfollowed := true, recurses := true, apart := false }
def FnExactIsTaskSaid : Prop := fnExactIsTaskRow.holds Try.pinned (OpenSpec.ofChange fnExactIsTaskSpec)

/-- ITS FALSE NEIGHBOUR: 'it returns false'. Refute it at one input. -/
def fnExactIsTaskWrong : ChangeSpec := { name := "fnExactIsTask", fn := fun _ => fun
  | [d1, d2] => { results := [.lit (.bool false)], args := [d1, d2] }
  | _ => none }
def FnExactIsTaskWrongFalsely : Prop := fnExactIsTaskRow.holds Try.pinned (OpenSpec.ofChange fnExactIsTaskWrong)

/-- 'laws.FnExactIsSystem': WHATEVER THE INPUT: true; the input reads as it did. -/
def fnExactIsSystemSpec : ChangeSpec := { name := "fnExactIsSystem", fn := fun _ => fun
  | [d] => { results := [.lit (.bool true)], args := [d] }
  | _ => none }
def fnExactIsSystemRow : OpenClaim := { program := "ytmoficihgnipbaa", sum := "e0677a75054f36ffde1335cb3ab84049a22772765f5a9763f157cd94bd327ed8", func := "loop.example/g00941/laws.FnExactIsSystem", spec := "fnExactIsSystem", unfollowed := true, recurses := true, apart := false }
def FnExactIsSystemSaid : Prop := fnExactIsSystemRow.holds Try.pinned (OpenSpec.ofChange fnExactIsSystemSpec)

/-- ITS FALSE NEIGHBOUR: 'it returns false'. Refute it at one input. -/
def fnExactIsSystemWrong : ChangeSpec := { name := "fnExactIsSystem", fn := fun _ => fun
  | [d] => { results := [.lit (.bool false)], args := [d] }
  | _ => none }
def FnExactIsSystemWrongFalsely : Prop := fnExactIsSystemRow.holds Try.pinned (OpenSpec.ofChange fnExactIsSystemWrong)

/-- 'laws.FnExactAreModes': WHATEVER THE INPUT: true; the input reads as it did. -/
def fnExactAreModesSpec : ChangeSpec := { name := "fnExactAreModes", fn := fun _ => fun
  | [d] => { results := [.lit (.bool true)], args := [d] }
  | _ => none }
def fnExactAreModesRow : OpenClaim := { program := "ytmoficihgnipbaa", sum := "e0677a75054f36ffde1335cb3ab84049a22772765f5a9763f157cd94bd327ed8", func := "loop.example/g00941/laws.FnExactAreModes", spec := "fnExactAreModes", unfollowed := true, recurses := true, apart := false }
def FnExactAreModesSaid : Prop := fnExactAreModesRow.holds Try.pinned (OpenSpec.ofChange fnExactAreModesSpec)

/-- ITS FALSE NEIGHBOUR: 'it returns false'. Refute it at one input. -/
def fnExactAreModesWrong : ChangeSpec := { name := "fnExactAreModes", fn := fun _ => fun
  | [d] => { results := [.lit (.bool false)], args := [d] }
  | _ => none }
def FnExactAreModesWrongFalsely : Prop := fnExactAreModesRow.holds Try.pinned (OpenSpec.ofChange fnExactAreModesWrong)

/-- 'laws.FnExactIsTimetable': WHATEVER THE INPUT: true; the input reads as it did. -/
def fnExactIsTimetableSpec : ChangeSpec := { name := "fnExactIsTimetable", fn := fun _ => fun
  | [d1, d2] => { results := [.lit (.bool true)], args := [d1, d2] }
  | _ => none }
def fnExactIsTimetableRow : OpenClaim := { program := "ytmoficihgnipbaa", sum := "e0677a75054f36ffde1335cb3ab84049a22772765f5a9763f157cd94bd327ed8", func := "loop.example/g00941/laws.FnExactIsTimetable", spec := "fnExactIsTimetable", unfollowed := true, recurses := true, apart := false }
def FnExactIsTimetableSaid : Prop := fnExactIsTimetableRow.holds Try.pinned (OpenSpec.ofChange fnExactIsTimetableSpec)

/-- ITS FALSE NEIGHBOUR: 'it returns false'. Refute it at one input. -/
def fnExactIsTimetableWrong : ChangeSpec := { name := "fnExactIsTimetable", fn := fun _ => fun
  | [d1, d2] => { results := [.lit (.bool false)], args := [d1, d2] }
  | _ => none }
def FnExactIsTimetableWrongFalsely : Prop := fnExactIsTimetableRow.holds Try.pinned (OpenSpec.ofChange fnExactIsTimetableWrong)

/-- 'laws.FnExactIsWindowSolution': WHATEVER THE INPUT: true; the input reads as it did. -/
def fnExactIsWindowSolutionSpec : ChangeSpec := { name := "fnExactIsWindowSolution", fn := fun _ => fun
  | [d1, d2, d3] => { results := [.lit (.bool true)], args := [d1, d2, d3] }
  | _ => none }
def fnExactIsWindowSolutionRow : OpenClaim := { program := "ytmoficihgnipbaa", sum := "e0677a75054f36ffde1335cb3ab84049a22772765f5a9763f157cd94bd327ed8", func := "loop.example/g00941/laws.FnExactIsWindowSolution", spec := "fnExactIsWindowSolution", unfollowed := true, recurses := true, apart := false }
def FnExactIsWindowSolutionSaid : Prop := fnExactIsWindowSolutionRow.holds Try.pinned (OpenSpec.ofChange fnExactIsWindowSolutionSpec)

/-- ITS FALSE NEIGHBOUR: 'it returns false'. Refute it at one input. -/
def fnExactIsWindowSolutionWrong : ChangeSpec := { name := "fnExactIsWindowSolution", fn := fun _ => fun
  | [d1, d2, d3] => { results := [.lit (.bool false)], args := [d1, d2, d3] }
  | _ => none }
def FnExactIsWindowSolutionWrongFalsely : Prop := fnExactIsWindowSolutionRow.holds Try.pinned (OpenSpec.ofChange fnExactIsWindowSolutionWrong)

/-- 'laws.FnExactMergeEvents': WHATEVER THE INPUT: true; the input reads as it did. -/
def fnExactMergeEventsSpec : ChangeSpec := { name := "fnExactMergeEvents", fn := fun _ => fun
  | [d1, d2, d3] => { results := [.lit (.bool true)], args := [d1, d2, d3] }
  | _ => none }
def fnExactMergeEventsRow : OpenClaim := { program := "ytmoficihgnipbaa", sum := "e0677a75054f36ffde1335cb3ab84049a22772765f5a9763f157cd94bd327ed8", func := "loop.example/g00941/laws.FnExactMergeEvents", spec := "fnExactMergeEvents", unfollowed := true, recurses := true, apart := false }
def FnExactMergeEventsSaid : Prop := fnExactMergeEventsRow.holds Try.pinned (OpenSpec.ofChange fnExactMergeEventsSpec)

/-- ITS FALSE NEIGHBOUR: 'it returns false'. Refute it at one input. -/
def fnExactMergeEventsWrong : ChangeSpec := { name := "fnExactMergeEvents", fn := fun _ => fun
  | [d1, d2, d3] => { results := [.lit (.bool false)], args := [d1, d2, d3] }
  | _ => none }
def FnExactMergeEventsWrongFalsely : Prop := fnExactMergeEventsRow.holds Try.pinned (OpenSpec.ofChange fnExactMergeEventsWrong)

/-- 'laws.FnExactSplitPlace': WHATEVER THE INPUT: true; the input reads as it did. -/
def fnExactSplitPlaceSpec : ChangeSpec := { name := "fnExactSplitPlace", fn := fun _ => fun
  | [d1, d2, d3] => { results := [.lit (.bool true)], args := [d1, d2, d3] }
  | _ => none }
def fnExactSplitPlaceRow : OpenClaim := { program := "ytmoficihgnipbaa", sum := "e0677a75054f36ffde1335cb3ab84049a22772765f5a9763f157cd94bd327ed8", func := "loop.example/g00941/laws.FnExactSplitPlace", spec := "fnExactSplitPlace", unfollowed := true, recurses := true, apart := false }
def FnExactSplitPlaceSaid : Prop := fnExactSplitPlaceRow.holds Try.pinned (OpenSpec.ofChange fnExactSplitPlaceSpec)

/-- ITS FALSE NEIGHBOUR: 'it returns false'. Refute it at one input. -/
def fnExactSplitPlaceWrong : ChangeSpec := { name := "fnExactSplitPlace", fn := fun _ => fun
  | [d1, d2, d3] => { results := [.lit (.bool false)], args := [d1, d2, d3] }
  | _ => none }
def FnExactSplitPlaceWrongFalsely : Prop := fnExactSplitPlaceRow.holds Try.pinned (OpenSpec.ofChange fnExactSplitPlaceWrong)

/- THE SECOND FORM. 'bulk': how many values and letters a reading holds, each counted each time it is reached (what is shared counts as often as it is met; a slice's spare places count too). A statement '..UptoSaid' is the law's where the arguments, and the package variables that the reading takes, are together of bulk at most 1048576: NARROWER than '..Said'. Prove '..Said' where nothing that the law and all that it calls make is longer than what came in: it says more and counts as full. Else prove '..UptoSaid'. A law counts once. -/
mutual
def uptoBulk {H : Type} : DataW H → Nat
  | .lit (.string bytes) => bytes.length + 1
  | .lit _ => 1
  | .nil => 1
  | .ptr d => uptoBulk d + 1
  | .slice elems spare => uptoBulkAll elems + uptoBulkAll spare + 1
  | .agg parts => uptoBulkAll parts + 1
  | .iface _ d => uptoBulk d + 1
  | .map entries => uptoBulkEntries entries + 1
  | .held _ => 1
def uptoBulkAll {H : Type} : List (DataW H) → Nat
  | [] => 0
  | d :: r => uptoBulk d + uptoBulkAll r
def uptoBulkEntries {H : Type} : List (Lit × DataW H) → Nat
  | [] => 0
  | x :: r => uptoBulkEntry x + uptoBulkEntries r
def uptoBulkEntry {H : Type} : Lit × DataW H → Nat
  | (.string bytes, d) => bytes.length + uptoBulk d + 1
  | (_, d) => uptoBulk d + 1
 end
def uptoSmall : (H : Type) → List (DataW H) → Bool := fun _ ds => decide (uptoBulkAll ds ≤ 1048576)
def OpenSpec.upto (s : _root_.Go.ChangeSpec) : _root_.Go.OpenSpec := { _root_.Go.OpenSpec.ofChange s with cond := some uptoSmall }

/-- 'laws.FnExactIsTask', WHERE WHAT IT READS IS OF BULK AT MOST 1048576: true; the input reads as it did. -/
def fnExactIsTaskUptoRow : OpenClaim := { program := "ytmoficihgnipbaa", sum := "e0677a75054f36ffde1335cb3ab84049a22772765f5a9763f157cd94bd327ed8", func := "loop.example/g00941/laws.FnExactIsTask", spec := "fnExactIsTask", unfollowed := true, recurses := true, apart := false, narrowed := true }
def FnExactIsTaskUptoSaid : Prop := fnExactIsTaskUptoRow.holds Try.pinned (OpenSpec.upto fnExactIsTaskSpec)

/-- 'laws.FnExactIsSystem', WHERE WHAT IT READS IS OF BULK AT MOST 1048576: true; the input reads as it did. -/
def fnExactIsSystemUptoRow : OpenClaim := { program := "ytmoficihgnipbaa", sum := "e0677a75054f36ffde1335cb3ab84049a22772765f5a9763f157cd94bd327ed8", func := "loop.example/g00941/laws.FnExactIsSystem", spec := "fnExactIsSystem", unfollowed := true, recurses := true, apart := false, narrowed := true }
def FnExactIsSystemUptoSaid : Prop := fnExactIsSystemUptoRow.holds Try.pinned (OpenSpec.upto fnExactIsSystemSpec)

/-- 'laws.FnExactAreModes', WHERE WHAT IT READS IS OF BULK AT MOST 1048576: true; the input reads as it did. -/
def fnExactAreModesUptoRow : OpenClaim := { program := "ytmoficihgnipbaa", sum := "e0677a75054f36ffde1335cb3ab84049a22772765f5a9763f157cd94bd327ed8", func := "loop.example/g00941/laws.FnExactAreModes", spec := "fnExactAreModes", unfollowed := true, recurses := true, apart := false, narrowed := true }
def FnExactAreModesUptoSaid : Prop := fnExactAreModesUptoRow.holds Try.pinned (OpenSpec.upto fnExactAreModesSpec)

/-- 'laws.FnExactIsTimetable', WHERE WHAT IT READS IS OF BULK AT MOST 1048576: true; the input reads as it did. -/
def fnExactIsTimetableUptoRow : OpenClaim := { program := "ytmoficihgnipbaa", sum := "e0677a75054f36ffde1335cb3ab84049a22772765f5a9763f157cd94bd327ed8", func := "loop.example/g00941/laws.FnExactIsTimetable", spec := "fnExactIsTimetable", unfollowed := true, recurses := true, apart := false, narrowed := true }
def FnExactIsTimetableUptoSaid : Prop := fnExactIsTimetableUptoRow.holds Try.pinned (OpenSpec.upto fnExactIsTimetableSpec)

/-- 'laws.FnExactIsWindowSolution', WHERE WHAT IT READS IS OF BULK AT MOST 1048576: true; the input reads as it did. -/
def fnExactIsWindowSolutionUptoRow : OpenClaim := { program := "ytmoficihgnipbaa", sum := "e0677a75054f36ffde1335cb3ab84049a22772765f5a9763f157cd94bd327ed8", func := "loop.example/g00941/laws.FnExactIsWindowSolution", spec := "fnExactIsWindowSolution", unfollowed := true, recurses := true, apart := false, narrowed := true }
def FnExactIsWindowSolutionUptoSaid : Prop := fnExactIsWindowSolutionUptoRow.holds Try.pinned (OpenSpec.upto fnExactIsWindowSolutionSpec)

/-- 'laws.FnExactMergeEvents', WHERE WHAT IT READS IS OF BULK AT MOST 1048576: true; the input reads as it did. -/
def fnExactMergeEventsUptoRow : OpenClaim := { program := "ytmoficihgnipbaa", sum := "e0677a75054f36ffde1335cb3ab84049a22772765f5a9763f157cd94bd327ed8", func := "loop.example/g00941/laws.FnExactMergeEvents", spec := "fnExactMergeEvents", unfollowed := true, recurses := true, apart := false, narrowed := true }
def FnExactMergeEventsUptoSaid : Prop := fnExactMergeEventsUptoRow.holds Try.pinned (OpenSpec.upto fnExactMergeEventsSpec)

/-- 'laws.FnExactSplitPlace', WHERE WHAT IT READS IS OF BULK AT MOST 1048576: true; the input reads as it did. -/
def fnExactSplitPlaceUptoRow : OpenClaim := { program := "ytmoficihgnipbaa", sum := "e0677a75054f36ffde1335cb3ab84049a22772765f5a9763f157cd94bd327ed8", func := "loop.example/g00941/laws.FnExactSplitPlace", spec := "fnExactSplitPlace", unfollowed := true, recurses := true, apart := false, narrowed := true }
def FnExactSplitPlaceUptoSaid : Prop := fnExactSplitPlaceUptoRow.holds Try.pinned (OpenSpec.upto fnExactSplitPlaceSpec)

end Rows
end Go.Proofs.Ytmoficihgnipbaa
