/-
  No cell of these rows narrows 'for every input' (looked for: loops, veiled, ifaces, maps, wideKeys, modest, calm, conditions, laid).
  DERIVED. THE GIVEN ROWS OF THIS SEAT. 13 by the template 'for every input the law returns true; each argument reads behind the call as it read before'; 0 by the template 'total and deterministic' (their statements: YtmijmamolmoheaaTotals.lean).
  GIVEN WITH THE SEED: the statements are not yours to turn. If you find one false, say at which input.
  Laid BY PROGRAM, IN A SANDBOX (cutbox-rows.mjs): the forced cells as the released guide's own fill.sh prints them over the translation bd2ec8df126e4040… (all of the seat's roots in one cut). By AI agents, Wed Nov 11 2026. No macro, syntax, notation, axiom, sorry.
-/
import Derived.Test.YtmijmamolmoheaaChecked
import GoSem.Claim
import GoSem.ClaimJoined
import GoSem.ClaimMapViews
import Derived.JoinedTies
import Derived.KernelRfl
namespace Go.Proofs.Ytmijmamolmoheaa
/- THE CELL 'sum', in the pinned program and in every row, IS THE sha256 OF THE DUMP (.gsa) THAT YtmijmamolmoheaaProg.lean LOADS. Nothing in Lean hashes anything: it is a label: what it is worth is what the hold of that sum in a sandbox is worth. -/
noncomputable def Try.pinned : Pinned := { name := "ytmijmamolmoheaa", sum := "bd2ec8df126e4040ab8d2b56d2dfa4329369ae07b99d9fd2ba35528e1eec48ed", checked := Try.checked }
namespace Rows
def none {H : Type} : Left H := { results := [], args := [] }

/-- 'laws.FnExactLeastPeriod': WHATEVER THE INPUT: true; the input reads as it did. -/
def fnExactLeastPeriodSpec : ChangeSpec := { name := "fnExactLeastPeriod", fn := fun _ => fun
  | [d] => { results := [.lit (.bool true)], args := [d] }
  | _ => none }
def fnExactLeastPeriodRow : OpenClaim := { program := "ytmijmamolmoheaa", sum := "bd2ec8df126e4040ab8d2b56d2dfa4329369ae07b99d9fd2ba35528e1eec48ed", func := "loop.example/g00941/laws.FnExactLeastPeriod", spec := "fnExactLeastPeriod", unfollowed := true, recurses := true, apart := false }
def FnExactLeastPeriodSaid : Prop := fnExactLeastPeriodRow.holds Try.pinned (OpenSpec.ofChange fnExactLeastPeriodSpec)

/-- ITS FALSE NEIGHBOUR: 'it returns false'. Refute it at one input. -/
def fnExactLeastPeriodWrong : ChangeSpec := { name := "fnExactLeastPeriod", fn := fun _ => fun
  | [d] => { results := [.lit (.bool false)], args := [d] }
  | _ => none }
def FnExactLeastPeriodWrongFalsely : Prop := fnExactLeastPeriodRow.holds Try.pinned (OpenSpec.ofChange fnExactLeastPeriodWrong)

/-- 'laws.FnExactPositiveCycle': WHATEVER THE INPUT: true; the input reads as it did. -/
def fnExactPositiveCycleSpec : ChangeSpec := { name := "fnExactPositiveCycle", fn := fun _ => fun
  | [d] => { results := [.lit (.bool true)], args := [d] }
  | _ => none }
def fnExactPositiveCycleRow : OpenClaim := { program := "ytmijmamolmoheaa", sum := "bd2ec8df126e4040ab8d2b56d2dfa4329369ae07b99d9fd2ba35528e1eec48ed", func := "loop.example/g00941/laws.FnExactPositiveCycle", spec := "fnExactPositiveCycle", unfollowed := true, recurses := true, apart := false }
def FnExactPositiveCycleSaid : Prop := fnExactPositiveCycleRow.holds Try.pinned (OpenSpec.ofChange fnExactPositiveCycleSpec)

/-- ITS FALSE NEIGHBOUR: 'it returns false'. Refute it at one input. -/
def fnExactPositiveCycleWrong : ChangeSpec := { name := "fnExactPositiveCycle", fn := fun _ => fun
  | [d] => { results := [.lit (.bool false)], args := [d] }
  | _ => none }
def FnExactPositiveCycleWrongFalsely : Prop := fnExactPositiveCycleRow.holds Try.pinned (OpenSpec.ofChange fnExactPositiveCycleWrong)

/-- 'laws.FnExactDeadCycle': WHATEVER THE INPUT: true; the input reads as it did. -/
def fnExactDeadCycleSpec : ChangeSpec := { name := "fnExactDeadCycle", fn := fun _ => fun
  | [d] => { results := [.lit (.bool true)], args := [d] }
  | _ => none }
def fnExactDeadCycleRow : OpenClaim := { program := "ytmijmamolmoheaa", sum := "bd2ec8df126e4040ab8d2b56d2dfa4329369ae07b99d9fd2ba35528e1eec48ed", func := "loop.example/g00941/laws.FnExactDeadCycle", spec := "fnExactDeadCycle", unfollowed := true, recurses := true, apart := false }
def FnExactDeadCycleSaid : Prop := fnExactDeadCycleRow.holds Try.pinned (OpenSpec.ofChange fnExactDeadCycleSpec)

/-- ITS FALSE NEIGHBOUR: 'it returns false'. Refute it at one input. -/
def fnExactDeadCycleWrong : ChangeSpec := { name := "fnExactDeadCycle", fn := fun _ => fun
  | [d] => { results := [.lit (.bool false)], args := [d] }
  | _ => none }
def FnExactDeadCycleWrongFalsely : Prop := fnExactDeadCycleRow.holds Try.pinned (OpenSpec.ofChange fnExactDeadCycleWrong)

/-- 'laws.FnExactConflictCircuit': WHATEVER THE INPUT: true; the input reads as it did. -/
def fnExactConflictCircuitSpec : ChangeSpec := { name := "fnExactConflictCircuit", fn := fun _ => fun
  | [d1, d2] => { results := [.lit (.bool true)], args := [d1, d2] }
  | _ => none }
def fnExactConflictCircuitRow : OpenClaim := { program := "ytmijmamolmoheaa", sum := "bd2ec8df126e4040ab8d2b56d2dfa4329369ae07b99d9fd2ba35528e1eec48ed", func := "loop.example/g00941/laws.FnExactConflictCircuit", spec := "fnExactConflictCircuit", unfollowed := true, recurses := true, apart := false }
def FnExactConflictCircuitSaid : Prop := fnExactConflictCircuitRow.holds Try.pinned (OpenSpec.ofChange fnExactConflictCircuitSpec)

/-- ITS FALSE NEIGHBOUR: 'it returns false'. Refute it at one input. -/
def fnExactConflictCircuitWrong : ChangeSpec := { name := "fnExactConflictCircuit", fn := fun _ => fun
  | [d1, d2] => { results := [.lit (.bool false)], args := [d1, d2] }
  | _ => none }
def FnExactConflictCircuitWrongFalsely : Prop := fnExactConflictCircuitRow.holds Try.pinned (OpenSpec.ofChange fnExactConflictCircuitWrong)

/-- 'laws.FnExactFindTour': WHATEVER THE INPUT: true; the input reads as it did. -/
def fnExactFindTourSpec : ChangeSpec := { name := "fnExactFindTour", fn := fun _ => fun
  | [d1, d2] => { results := [.lit (.bool true)], args := [d1, d2] }
  | _ => none }
def fnExactFindTourRow : OpenClaim := { program := "ytmijmamolmoheaa", sum := "bd2ec8df126e4040ab8d2b56d2dfa4329369ae07b99d9fd2ba35528e1eec48ed", func := "loop.example/g00941/laws.FnExactFindTour", spec := "fnExactFindTour", unfollowed := true, recurses := true, apart := false }
def FnExactFindTourSaid : Prop := fnExactFindTourRow.holds Try.pinned (OpenSpec.ofChange fnExactFindTourSpec)

/-- ITS FALSE NEIGHBOUR: 'it returns false'. Refute it at one input. -/
def fnExactFindTourWrong : ChangeSpec := { name := "fnExactFindTour", fn := fun _ => fun
  | [d1, d2] => { results := [.lit (.bool false)], args := [d1, d2] }
  | _ => none }
def FnExactFindTourWrongFalsely : Prop := fnExactFindTourRow.holds Try.pinned (OpenSpec.ofChange fnExactFindTourWrong)

/-- 'laws.FnExactEarliestTimetable': WHATEVER THE INPUT: true; the input reads as it did. -/
def fnExactEarliestTimetableSpec : ChangeSpec := { name := "fnExactEarliestTimetable", fn := fun _ => fun
  | [d1, d2] => { results := [.lit (.bool true)], args := [d1, d2] }
  | _ => none }
def fnExactEarliestTimetableRow : OpenClaim := { program := "ytmijmamolmoheaa", sum := "bd2ec8df126e4040ab8d2b56d2dfa4329369ae07b99d9fd2ba35528e1eec48ed", func := "loop.example/g00941/laws.FnExactEarliestTimetable", spec := "fnExactEarliestTimetable", unfollowed := true, recurses := true, apart := false }
def FnExactEarliestTimetableSaid : Prop := fnExactEarliestTimetableRow.holds Try.pinned (OpenSpec.ofChange fnExactEarliestTimetableSpec)

/-- ITS FALSE NEIGHBOUR: 'it returns false'. Refute it at one input. -/
def fnExactEarliestTimetableWrong : ChangeSpec := { name := "fnExactEarliestTimetable", fn := fun _ => fun
  | [d1, d2] => { results := [.lit (.bool false)], args := [d1, d2] }
  | _ => none }
def FnExactEarliestTimetableWrongFalsely : Prop := fnExactEarliestTimetableRow.holds Try.pinned (OpenSpec.ofChange fnExactEarliestTimetableWrong)

/-- 'laws.FnExactLatestTimetable': WHATEVER THE INPUT: true; the input reads as it did. -/
def fnExactLatestTimetableSpec : ChangeSpec := { name := "fnExactLatestTimetable", fn := fun _ => fun
  | [d1, d2, d3] => { results := [.lit (.bool true)], args := [d1, d2, d3] }
  | _ => none }
def fnExactLatestTimetableRow : OpenClaim := { program := "ytmijmamolmoheaa", sum := "bd2ec8df126e4040ab8d2b56d2dfa4329369ae07b99d9fd2ba35528e1eec48ed", func := "loop.example/g00941/laws.FnExactLatestTimetable", spec := "fnExactLatestTimetable", unfollowed := true, recurses := true, apart := false }
def FnExactLatestTimetableSaid : Prop := fnExactLatestTimetableRow.holds Try.pinned (OpenSpec.ofChange fnExactLatestTimetableSpec)

/-- ITS FALSE NEIGHBOUR: 'it returns false'. Refute it at one input. -/
def fnExactLatestTimetableWrong : ChangeSpec := { name := "fnExactLatestTimetable", fn := fun _ => fun
  | [d1, d2, d3] => { results := [.lit (.bool false)], args := [d1, d2, d3] }
  | _ => none }
def FnExactLatestTimetableWrongFalsely : Prop := fnExactLatestTimetableRow.holds Try.pinned (OpenSpec.ofChange fnExactLatestTimetableWrong)

/-- 'laws.FnExactEarliestTimes': WHATEVER THE INPUT: true; the input reads as it did. -/
def fnExactEarliestTimesSpec : ChangeSpec := { name := "fnExactEarliestTimes", fn := fun _ => fun
  | [d1, d2] => { results := [.lit (.bool true)], args := [d1, d2] }
  | _ => none }
def fnExactEarliestTimesRow : OpenClaim := { program := "ytmijmamolmoheaa", sum := "bd2ec8df126e4040ab8d2b56d2dfa4329369ae07b99d9fd2ba35528e1eec48ed", func := "loop.example/g00941/laws.FnExactEarliestTimes", spec := "fnExactEarliestTimes", unfollowed := true, recurses := true, apart := false }
def FnExactEarliestTimesSaid : Prop := fnExactEarliestTimesRow.holds Try.pinned (OpenSpec.ofChange fnExactEarliestTimesSpec)

/-- ITS FALSE NEIGHBOUR: 'it returns false'. Refute it at one input. -/
def fnExactEarliestTimesWrong : ChangeSpec := { name := "fnExactEarliestTimes", fn := fun _ => fun
  | [d1, d2] => { results := [.lit (.bool false)], args := [d1, d2] }
  | _ => none }
def FnExactEarliestTimesWrongFalsely : Prop := fnExactEarliestTimesRow.holds Try.pinned (OpenSpec.ofChange fnExactEarliestTimesWrong)

/-- 'laws.FnExactLatestIn': WHATEVER THE INPUT: true; the input reads as it did. -/
def fnExactLatestInSpec : ChangeSpec := { name := "fnExactLatestIn", fn := fun _ => fun
  | [d1, d2] => { results := [.lit (.bool true)], args := [d1, d2] }
  | _ => none }
def fnExactLatestInRow : OpenClaim := { program := "ytmijmamolmoheaa", sum := "bd2ec8df126e4040ab8d2b56d2dfa4329369ae07b99d9fd2ba35528e1eec48ed", func := "loop.example/g00941/laws.FnExactLatestIn", spec := "fnExactLatestIn", unfollowed := true, recurses := true, apart := false }
def FnExactLatestInSaid : Prop := fnExactLatestInRow.holds Try.pinned (OpenSpec.ofChange fnExactLatestInSpec)

/-- ITS FALSE NEIGHBOUR: 'it returns false'. Refute it at one input. -/
def fnExactLatestInWrong : ChangeSpec := { name := "fnExactLatestIn", fn := fun _ => fun
  | [d1, d2] => { results := [.lit (.bool false)], args := [d1, d2] }
  | _ => none }
def FnExactLatestInWrongFalsely : Prop := fnExactLatestInRow.holds Try.pinned (OpenSpec.ofChange fnExactLatestInWrong)

/-- 'laws.FnExactTightWindows': WHATEVER THE INPUT: true; the input reads as it did. -/
def fnExactTightWindowsSpec : ChangeSpec := { name := "fnExactTightWindows", fn := fun _ => fun
  | [d1, d2] => { results := [.lit (.bool true)], args := [d1, d2] }
  | _ => none }
def fnExactTightWindowsRow : OpenClaim := { program := "ytmijmamolmoheaa", sum := "bd2ec8df126e4040ab8d2b56d2dfa4329369ae07b99d9fd2ba35528e1eec48ed", func := "loop.example/g00941/laws.FnExactTightWindows", spec := "fnExactTightWindows", unfollowed := true, recurses := true, apart := false }
def FnExactTightWindowsSaid : Prop := fnExactTightWindowsRow.holds Try.pinned (OpenSpec.ofChange fnExactTightWindowsSpec)

/-- ITS FALSE NEIGHBOUR: 'it returns false'. Refute it at one input. -/
def fnExactTightWindowsWrong : ChangeSpec := { name := "fnExactTightWindows", fn := fun _ => fun
  | [d1, d2] => { results := [.lit (.bool false)], args := [d1, d2] }
  | _ => none }
def FnExactTightWindowsWrongFalsely : Prop := fnExactTightWindowsRow.holds Try.pinned (OpenSpec.ofChange fnExactTightWindowsWrong)

/-- 'laws.FnExactHighestWord': WHATEVER THE INPUT: true; the input reads as it did. -/
def fnExactHighestWordSpec : ChangeSpec := { name := "fnExactHighestWord", fn := fun _ => fun
  | [d1, d2, d3] => { results := [.lit (.bool true)], args := [d1, d2, d3] }
  | _ => none }
def fnExactHighestWordRow : OpenClaim := { program := "ytmijmamolmoheaa", sum := "bd2ec8df126e4040ab8d2b56d2dfa4329369ae07b99d9fd2ba35528e1eec48ed", func := "loop.example/g00941/laws.FnExactHighestWord", spec := "fnExactHighestWord", unfollowed := true, recurses := true, apart := false }
def FnExactHighestWordSaid : Prop := fnExactHighestWordRow.holds Try.pinned (OpenSpec.ofChange fnExactHighestWordSpec)

/-- ITS FALSE NEIGHBOUR: 'it returns false'. Refute it at one input. -/
def fnExactHighestWordWrong : ChangeSpec := { name := "fnExactHighestWord", fn := fun _ => fun
  | [d1, d2, d3] => { results := [.lit (.bool false)], args := [d1, d2, d3] }
  | _ => none }
def FnExactHighestWordWrongFalsely : Prop := fnExactHighestWordRow.holds Try.pinned (OpenSpec.ofChange fnExactHighestWordWrong)

/-- 'laws.FnExactLowestWord': WHATEVER THE INPUT: true; the input reads as it did. -/
def fnExactLowestWordSpec : ChangeSpec := { name := "fnExactLowestWord", fn := fun _ => fun
  | [d1, d2, d3] => { results := [.lit (.bool true)], args := [d1, d2, d3] }
  | _ => none }
def fnExactLowestWordRow : OpenClaim := { program := "ytmijmamolmoheaa", sum := "bd2ec8df126e4040ab8d2b56d2dfa4329369ae07b99d9fd2ba35528e1eec48ed", func := "loop.example/g00941/laws.FnExactLowestWord", spec := "fnExactLowestWord", unfollowed := true, recurses := true, apart := false }
def FnExactLowestWordSaid : Prop := fnExactLowestWordRow.holds Try.pinned (OpenSpec.ofChange fnExactLowestWordSpec)

/-- ITS FALSE NEIGHBOUR: 'it returns false'. Refute it at one input. -/
def fnExactLowestWordWrong : ChangeSpec := { name := "fnExactLowestWord", fn := fun _ => fun
  | [d1, d2, d3] => { results := [.lit (.bool false)], args := [d1, d2, d3] }
  | _ => none }
def FnExactLowestWordWrongFalsely : Prop := fnExactLowestWordRow.holds Try.pinned (OpenSpec.ofChange fnExactLowestWordWrong)

/-- 'laws.FnExactFindSqueeze': WHATEVER THE INPUT: true; the input reads as it did. -/
def fnExactFindSqueezeSpec : ChangeSpec := { name := "fnExactFindSqueeze", fn := fun _ => fun
  | [d1, d2] => { results := [.lit (.bool true)], args := [d1, d2] }
  | _ => none }
def fnExactFindSqueezeRow : OpenClaim := { program := "ytmijmamolmoheaa", sum := "bd2ec8df126e4040ab8d2b56d2dfa4329369ae07b99d9fd2ba35528e1eec48ed", func := "loop.example/g00941/laws.FnExactFindSqueeze", spec := "fnExactFindSqueeze", unfollowed := true, recurses := true, apart := false }
def FnExactFindSqueezeSaid : Prop := fnExactFindSqueezeRow.holds Try.pinned (OpenSpec.ofChange fnExactFindSqueezeSpec)

/-- ITS FALSE NEIGHBOUR: 'it returns false'. Refute it at one input. -/
def fnExactFindSqueezeWrong : ChangeSpec := { name := "fnExactFindSqueeze", fn := fun _ => fun
  | [d1, d2] => { results := [.lit (.bool false)], args := [d1, d2] }
  | _ => none }
def FnExactFindSqueezeWrongFalsely : Prop := fnExactFindSqueezeRow.holds Try.pinned (OpenSpec.ofChange fnExactFindSqueezeWrong)

/- THE SECOND FORM. 'bulk': how many values and letters a reading holds, each counted each time it is reached (what is shared counts as often as it is met; a slice's spare places count too). A statement '..UptoSaid' is the law's where the arguments, and the package variables that the reading takes, are together of bulk at most 1048576: NARROWER than '..Said'. Prove '..Said' where nothing that the law and all that it calls make is longer than what came in: it says more and counts as full. Else prove '..UptoSaid'. A law counts once. -/
mutual
def uptoBulk {H : Type} : DataW H → Nat
  | .lit (.string bytes) => bytes.length + 1
  | .lit _ => 1
  | .nil => 1
  | .ptr d => uptoBulk d + 1
  | .slice elems spare => uptoBulkAll elems + uptoBulkAll spare + 1
  | .agg parts => uptoBulkAll parts + 1
  | .iface _ d => uptoBulk d + 1
  | .map entries => uptoBulkEntries entries + 1
  | .held _ => 1
def uptoBulkAll {H : Type} : List (DataW H) → Nat
  | [] => 0
  | d :: r => uptoBulk d + uptoBulkAll r
def uptoBulkEntries {H : Type} : List (Lit × DataW H) → Nat
  | [] => 0
  | x :: r => uptoBulkEntry x + uptoBulkEntries r
def uptoBulkEntry {H : Type} : Lit × DataW H → Nat
  | (.string bytes, d) => bytes.length + uptoBulk d + 1
  | (_, d) => uptoBulk d + 1
 end
def uptoSmall : (H : Type) → List (DataW H) → Bool := fun _ ds => decide (uptoBulkAll ds ≤ 1048576)
def OpenSpec.upto (s : _root_.Go.ChangeSpec) : _root_.Go.OpenSpec := { _root_.Go.OpenSpec.ofChange s with cond := some uptoSmall }

/-- 'laws.FnExactLeastPeriod', WHERE WHAT IT READS IS OF BULK AT MOST 1048576: true; the input reads as it did. -/
def fnExactLeastPeriodUptoRow : OpenClaim := { program := "ytmijmamolmoheaa", sum := "bd2ec8df126e4040ab8d2b56d2dfa4329369ae07b99d9fd2ba35528e1eec48ed", func := "loop.example/g00941/laws.FnExactLeastPeriod", spec := "fnExactLeastPeriod", unfollowed := true, recurses := true, apart := false, narrowed := true }
def FnExactLeastPeriodUptoSaid : Prop := fnExactLeastPeriodUptoRow.holds Try.pinned (OpenSpec.upto fnExactLeastPeriodSpec)

/-- 'laws.FnExactPositiveCycle', WHERE WHAT IT READS IS OF BULK AT MOST 1048576: true; the input reads as it did. -/
def fnExactPositiveCycleUptoRow : OpenClaim := { program := "ytmijmamolmoheaa", sum := "bd2ec8df126e4040ab8d2b56d2dfa4329369ae07b99d9fd2ba35528e1eec48ed", func := "loop.example/g00941/laws.FnExactPositiveCycle", spec := "fnExactPositiveCycle", unfollowed := true, recurses := true, apart := false, narrowed := true }
def FnExactPositiveCycleUptoSaid : Prop := fnExactPositiveCycleUptoRow.holds Try.pinned (OpenSpec.upto fnExactPositiveCycleSpec)

/-- 'laws.FnExactDeadCycle', WHERE WHAT IT READS IS OF BULK AT MOST 1048576: true; the input reads as it did. -/
def fnExactDeadCycleUptoRow : OpenClaim := { program := "ytmijmamolmoheaa", sum := "bd2ec8df126e4040ab8d2b56d2dfa4329369ae07b99d9fd2ba35528e1eec48ed", func := "loop.example/g00941/laws.FnExactDeadCycle", spec := "fnExactDeadCycle", unfollowed := true, recurses := true, apart := false, narrowed := true }
def FnExactDeadCycleUptoSaid : Prop := fnExactDeadCycleUptoRow.holds Try.pinned (OpenSpec.upto fnExactDeadCycleSpec)

/-- 'laws.FnExactConflictCircuit', WHERE WHAT IT READS IS OF BULK AT MOST 1048576: true; the input reads as it did. -/
def fnExactConflictCircuitUptoRow : OpenClaim := { program := "ytmijmamolmoheaa", sum := "bd2ec8df126e4040ab8d2b56d2dfa4329369ae07b99d9fd2ba35528e1eec48ed", func := "loop.example/g00941/laws.FnExactConflictCircuit", spec := "fnExactConflictCircuit", unfollowed := true, recurses := true, apart := false, narrowed := true }
def FnExactConflictCircuitUptoSaid : Prop := fnExactConflictCircuitUptoRow.holds Try.pinned (OpenSpec.upto fnExactConflictCircuitSpec)

/-- 'laws.FnExactFindTour', WHERE WHAT IT READS IS OF BULK AT MOST 1048576: true; the input reads as it did. -/
def fnExactFindTourUptoRow : OpenClaim := { program := "ytmijmamolmoheaa", sum := "bd2ec8df126e4040ab8d2b56d2dfa4329369ae07b99d9fd2ba35528e1eec48ed", func := "loop.example/g00941/laws.FnExactFindTour", spec := "fnExactFindTour", unfollowed := true, recurses := true, apart := false, narrowed := true }
def FnExactFindTourUptoSaid : Prop := fnExactFindTourUptoRow.holds Try.pinned (OpenSpec.upto fnExactFindTourSpec)

/-- 'laws.FnExactEarliestTimetable', WHERE WHAT IT READS IS OF BULK AT MOST 1048576: true; the input reads as it did. -/
def fnExactEarliestTimetableUptoRow : OpenClaim := { program := "ytmijmamolmoheaa", sum := "bd2ec8df126e4040ab8d2b56d2dfa4329369ae07b99d9fd2ba35528e1eec48ed", func := "loop.example/g00941/laws.FnExactEarliestTimetable", spec := "fnExactEarliestTimetable", unfollowed := true, recurses := true, apart := false, narrowed := true }
def FnExactEarliestTimetableUptoSaid : Prop := fnExactEarliestTimetableUptoRow.holds Try.pinned (OpenSpec.upto fnExactEarliestTimetableSpec)

/-- 'laws.FnExactLatestTimetable', WHERE WHAT IT READS IS OF BULK AT MOST 1048576: true; the input reads as it did. -/
def fnExactLatestTimetableUptoRow : OpenClaim := { program := "ytmijmamolmoheaa", sum := "bd2ec8df126e4040ab8d2b56d2dfa4329369ae07b99d9fd2ba35528e1eec48ed", func := "loop.example/g00941/laws.FnExactLatestTimetable", spec := "fnExactLatestTimetable", unfollowed := true, recurses := true, apart := false, narrowed := true }
def FnExactLatestTimetableUptoSaid : Prop := fnExactLatestTimetableUptoRow.holds Try.pinned (OpenSpec.upto fnExactLatestTimetableSpec)

/-- 'laws.FnExactEarliestTimes', WHERE WHAT IT READS IS OF BULK AT MOST 1048576: true; the input reads as it did. -/
def fnExactEarliestTimesUptoRow : OpenClaim := { program := "ytmijmamolmoheaa", sum := "bd2ec8df126e4040ab8d2b56d2dfa4329369ae07b99d9fd2ba35528e1eec48ed", func := "loop.example/g00941/laws.FnExactEarliestTimes", spec := "fnExactEarliestTimes", unfollowed := true, recurses := true, apart := false, narrowed := true }
def FnExactEarliestTimesUptoSaid : Prop := fnExactEarliestTimesUptoRow.holds Try.pinned (OpenSpec.upto fnExactEarliestTimesSpec)

/-- 'laws.FnExactLatestIn', WHERE WHAT IT READS IS OF BULK AT MOST 1048576: true; the input reads as it did. -/
def fnExactLatestInUptoRow : OpenClaim := { program := "ytmijmamolmoheaa", sum := "bd2ec8df126e4040ab8d2b56d2dfa4329369ae07b99d9fd2ba35528e1eec48ed", func := "loop.example/g00941/laws.FnExactLatestIn", spec := "fnExactLatestIn", unfollowed := true, recurses := true, apart := false, narrowed := true }
def FnExactLatestInUptoSaid : Prop := fnExactLatestInUptoRow.holds Try.pinned (OpenSpec.upto fnExactLatestInSpec)

/-- 'laws.FnExactTightWindows', WHERE WHAT IT READS IS OF BULK AT MOST 1048576: true; the input reads as it did. -/
def fnExactTightWindowsUptoRow : OpenClaim := { program := "ytmijmamolmoheaa", sum := "bd2ec8df126e4040ab8d2b56d2dfa4329369ae07b99d9fd2ba35528e1eec48ed", func := "loop.example/g00941/laws.FnExactTightWindows", spec := "fnExactTightWindows", unfollowed := true, recurses := true, apart := false, narrowed := true }
def FnExactTightWindowsUptoSaid : Prop := fnExactTightWindowsUptoRow.holds Try.pinned (OpenSpec.upto fnExactTightWindowsSpec)

/-- 'laws.FnExactHighestWord', WHERE WHAT IT READS IS OF BULK AT MOST 1048576: true; the input reads as it did. -/
def fnExactHighestWordUptoRow : OpenClaim := { program := "ytmijmamolmoheaa", sum := "bd2ec8df126e4040ab8d2b56d2dfa4329369ae07b99d9fd2ba35528e1eec48ed", func := "loop.example/g00941/laws.FnExactHighestWord", spec := "fnExactHighestWord", unfollowed := true, recurses := true, apart := false, narrowed := true }
def FnExactHighestWordUptoSaid : Prop := fnExactHighestWordUptoRow.holds Try.pinned (OpenSpec.upto fnExactHighestWordSpec)

/-- 'laws.FnExactLowestWord', WHERE WHAT IT READS IS OF BULK AT MOST 1048576: true; the input reads as it did. -/
def fnExactLowestWordUptoRow : OpenClaim := { program := "ytmijmamolmoheaa", sum := "bd2ec8df126e4040ab8d2b56d2dfa4329369ae07b99d9fd2ba35528e1eec48ed", func := "loop.example/g00941/laws.FnExactLowestWord", spec := "fnExactLowestWord", unfollowed := true, recurses := true, apart := false, narrowed := true }
def FnExactLowestWordUptoSaid : Prop := fnExactLowestWordUptoRow.holds Try.pinned (OpenSpec.upto fnExactLowestWordSpec)

/-- 'laws.FnExactFindSqueeze', WHERE WHAT IT READS IS OF BULK AT MOST 1048576: true; the input reads as it did. -/
def fnExactFindSqueezeUptoRow : OpenClaim := { program := "ytmijmamolmoheaa", sum := "bd2ec8df126e4040ab8d2b56d2dfa4329369ae07b99d9fd2ba35528e1eec48ed", func := "loop.example/g00941/laws.FnExactFindSqueeze", spec := "fnExactFindSqueeze", unfollowed := true, recurses := true, apart := false, narrowed := true }
def FnExactFindSqueezeUptoSaid : Prop := fnExactFindSqueezeUptoRow.holds Try.pinned (OpenSpec.upto fnExactFindSqueezeSpec)

end Rows
end Go.Proofs.Ytmijmamolmoheaa
