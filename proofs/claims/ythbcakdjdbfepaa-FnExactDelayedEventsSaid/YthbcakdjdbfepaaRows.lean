/-
  No cell of these rows narrows 'for every input' (looked for: loops, veiled, ifaces, maps, wideKeys, modest, calm, conditions, laid).
  DERIVED. THE GIVEN ROWS OF THIS SEAT. 12 by the template 'for every input the law returns true; each argument reads behind the call as it read before'; 0 by the template 'total and deterministic' (their statements: YthbcakdjdbfepaaTotals.lean).
  GIVEN WITH THE SEED: the statements are not yours to turn. If you find one false, say at which input.
  Laid BY PROGRAM, IN A SANDBOX (cutbox-rows.mjs): the forced cells as the released guide's own fill.sh prints them over the translation d2b2ed48aacc23cd… (all of the seat's roots in one cut). By AI agents, Wed Nov 11 2026. No macro, syntax, notation, axiom, sorry.
-/
import Derived.Test.YthbcakdjdbfepaaChecked
import GoSem.Claim
import GoSem.ClaimJoined
import GoSem.ClaimMapViews
import Derived.JoinedTies
import Derived.KernelRfl
namespace Go.Proofs.Ythbcakdjdbfepaa
/- THE CELL 'sum', in the pinned program and in every row, IS THE sha256 OF THE DUMP (.gsa) THAT YthbcakdjdbfepaaProg.lean LOADS. Nothing in Lean hashes anything: it is a label: what it is worth is what the hold of that sum in a sandbox is worth. -/
noncomputable def Try.pinned : Pinned := { name := "ythbcakdjdbfepaa", sum := "d2b2ed48aacc23cdc4089bdc7eafe4fcbffd71eef9e8e7f8b4922106d17ec4d5", checked := Try.checked }
namespace Rows
def none {H : Type} : Left H := { results := [], args := [] }

/-- 'laws.FnExactFreeSlack': WHATEVER THE INPUT: true; the input reads as it did. -/
def fnExactFreeSlackSpec : ChangeSpec := { name := "fnExactFreeSlack", fn := fun _ => fun
  | [d1, d2, d3] => { results := [.lit (.bool true)], args := [d1, d2, d3] }
  | _ => none }
def fnExactFreeSlackRow : OpenClaim := { program := "ythbcakdjdbfepaa", sum := "d2b2ed48aacc23cdc4089bdc7eafe4fcbffd71eef9e8e7f8b4922106d17ec4d5", func := "loop.example/g00941/laws.FnExactFreeSlack", spec := "fnExactFreeSlack", unfollowed := true, recurses := true, apart := false }
def FnExactFreeSlackSaid : Prop := fnExactFreeSlackRow.holds Try.pinned (OpenSpec.ofChange fnExactFreeSlackSpec)

/-- ITS FALSE NEIGHBOUR: 'it returns false'. Refute it at one input. -/
def fnExactFreeSlackWrong : ChangeSpec := { name := "fnExactFreeSlack", fn := fun _ => fun
  | [d1, d2, d3] => { results := [.lit (.bool false)], args := [d1, d2, d3] }
  | _ => none }
def FnExactFreeSlackWrongFalsely : Prop := fnExactFreeSlackRow.holds Try.pinned (OpenSpec.ofChange fnExactFreeSlackWrong)

/-- 'laws.FnExactLateFirings': WHATEVER THE INPUT: true; the input reads as it did. -/
def fnExactLateFiringsSpec : ChangeSpec := { name := "fnExactLateFirings", fn := fun _ => fun
  | [d1, d2] => { results := [.lit (.bool true)], args := [d1, d2] }
  | _ => none }
def fnExactLateFiringsRow : OpenClaim := { program := "ythbcakdjdbfepaa", sum := "d2b2ed48aacc23cdc4089bdc7eafe4fcbffd71eef9e8e7f8b4922106d17ec4d5", func := "loop.example/g00941/laws.FnExactLateFirings", spec := "fnExactLateFirings", unfollowed := true, recurses := true, apart := false }
def FnExactLateFiringsSaid : Prop := fnExactLateFiringsRow.holds Try.pinned (OpenSpec.ofChange fnExactLateFiringsSpec)

/-- ITS FALSE NEIGHBOUR: 'it returns false'. Refute it at one input. -/
def fnExactLateFiringsWrong : ChangeSpec := { name := "fnExactLateFirings", fn := fun _ => fun
  | [d1, d2] => { results := [.lit (.bool false)], args := [d1, d2] }
  | _ => none }
def FnExactLateFiringsWrongFalsely : Prop := fnExactLateFiringsRow.holds Try.pinned (OpenSpec.ofChange fnExactLateFiringsWrong)

/-- 'laws.FnExactSettledAfter': WHATEVER THE INPUT: true; the input reads as it did. -/
def fnExactSettledAfterSpec : ChangeSpec := { name := "fnExactSettledAfter", fn := fun _ => fun
  | [d1, d2, d3] => { results := [.lit (.bool true)], args := [d1, d2, d3] }
  | _ => none }
def fnExactSettledAfterRow : OpenClaim := { program := "ythbcakdjdbfepaa", sum := "d2b2ed48aacc23cdc4089bdc7eafe4fcbffd71eef9e8e7f8b4922106d17ec4d5", func := "loop.example/g00941/laws.FnExactSettledAfter", spec := "fnExactSettledAfter", unfollowed := true, recurses := true, apart := false }
def FnExactSettledAfterSaid : Prop := fnExactSettledAfterRow.holds Try.pinned (OpenSpec.ofChange fnExactSettledAfterSpec)

/-- ITS FALSE NEIGHBOUR: 'it returns false'. Refute it at one input. -/
def fnExactSettledAfterWrong : ChangeSpec := { name := "fnExactSettledAfter", fn := fun _ => fun
  | [d1, d2, d3] => { results := [.lit (.bool false)], args := [d1, d2, d3] }
  | _ => none }
def FnExactSettledAfterWrongFalsely : Prop := fnExactSettledAfterRow.holds Try.pinned (OpenSpec.ofChange fnExactSettledAfterWrong)

/-- 'laws.FnExactDelayTable': WHATEVER THE INPUT: true; the input reads as it did. -/
def fnExactDelayTableSpec : ChangeSpec := { name := "fnExactDelayTable", fn := fun _ => fun
  | [d1, d2, d3, d4] => { results := [.lit (.bool true)], args := [d1, d2, d3, d4] }
  | _ => none }
def fnExactDelayTableRow : OpenClaim := { program := "ythbcakdjdbfepaa", sum := "d2b2ed48aacc23cdc4089bdc7eafe4fcbffd71eef9e8e7f8b4922106d17ec4d5", func := "loop.example/g00941/laws.FnExactDelayTable", spec := "fnExactDelayTable", unfollowed := true, recurses := true, apart := false }
def FnExactDelayTableSaid : Prop := fnExactDelayTableRow.holds Try.pinned (OpenSpec.ofChange fnExactDelayTableSpec)

/-- ITS FALSE NEIGHBOUR: 'it returns false'. Refute it at one input. -/
def fnExactDelayTableWrong : ChangeSpec := { name := "fnExactDelayTable", fn := fun _ => fun
  | [d1, d2, d3, d4] => { results := [.lit (.bool false)], args := [d1, d2, d3, d4] }
  | _ => none }
def FnExactDelayTableWrongFalsely : Prop := fnExactDelayTableRow.holds Try.pinned (OpenSpec.ofChange fnExactDelayTableWrong)

/-- 'laws.FnExactWorstDelays': WHATEVER THE INPUT: true; the input reads as it did. -/
def fnExactWorstDelaysSpec : ChangeSpec := { name := "fnExactWorstDelays", fn := fun _ => fun
  | [d1, d2, d3] => { results := [.lit (.bool true)], args := [d1, d2, d3] }
  | _ => none }
def fnExactWorstDelaysRow : OpenClaim := { program := "ythbcakdjdbfepaa", sum := "d2b2ed48aacc23cdc4089bdc7eafe4fcbffd71eef9e8e7f8b4922106d17ec4d5", func := "loop.example/g00941/laws.FnExactWorstDelays", spec := "fnExactWorstDelays", unfollowed := true, recurses := true, apart := false }
def FnExactWorstDelaysSaid : Prop := fnExactWorstDelaysRow.holds Try.pinned (OpenSpec.ofChange fnExactWorstDelaysSpec)

/-- ITS FALSE NEIGHBOUR: 'it returns false'. Refute it at one input. -/
def fnExactWorstDelaysWrong : ChangeSpec := { name := "fnExactWorstDelays", fn := fun _ => fun
  | [d1, d2, d3] => { results := [.lit (.bool false)], args := [d1, d2, d3] }
  | _ => none }
def FnExactWorstDelaysWrongFalsely : Prop := fnExactWorstDelaysRow.holds Try.pinned (OpenSpec.ofChange fnExactWorstDelaysWrong)

/-- 'laws.FnExactDelayedEvents': WHATEVER THE INPUT: true; the input reads as it did. -/
def fnExactDelayedEventsSpec : ChangeSpec := { name := "fnExactDelayedEvents", fn := fun _ => fun
  | [d1, d2, d3, d4] => { results := [.lit (.bool true)], args := [d1, d2, d3, d4] }
  | _ => none }
def fnExactDelayedEventsRow : OpenClaim := { program := "ythbcakdjdbfepaa", sum := "d2b2ed48aacc23cdc4089bdc7eafe4fcbffd71eef9e8e7f8b4922106d17ec4d5", func := "loop.example/g00941/laws.FnExactDelayedEvents", spec := "fnExactDelayedEvents", unfollowed := true, recurses := true, apart := false }
def FnExactDelayedEventsSaid : Prop := fnExactDelayedEventsRow.holds Try.pinned (OpenSpec.ofChange fnExactDelayedEventsSpec)

/-- ITS FALSE NEIGHBOUR: 'it returns false'. Refute it at one input. -/
def fnExactDelayedEventsWrong : ChangeSpec := { name := "fnExactDelayedEvents", fn := fun _ => fun
  | [d1, d2, d3, d4] => { results := [.lit (.bool false)], args := [d1, d2, d3, d4] }
  | _ => none }
def FnExactDelayedEventsWrongFalsely : Prop := fnExactDelayedEventsRow.holds Try.pinned (OpenSpec.ofChange fnExactDelayedEventsWrong)

/-- 'laws.FnExactTotalDelay': WHATEVER THE INPUT: true; the input reads as it did. -/
def fnExactTotalDelaySpec : ChangeSpec := { name := "fnExactTotalDelay", fn := fun _ => fun
  | [d1, d2, d3] => { results := [.lit (.bool true)], args := [d1, d2, d3] }
  | _ => none }
def fnExactTotalDelayRow : OpenClaim := { program := "ythbcakdjdbfepaa", sum := "d2b2ed48aacc23cdc4089bdc7eafe4fcbffd71eef9e8e7f8b4922106d17ec4d5", func := "loop.example/g00941/laws.FnExactTotalDelay", spec := "fnExactTotalDelay", unfollowed := true, recurses := true, apart := false }
def FnExactTotalDelaySaid : Prop := fnExactTotalDelayRow.holds Try.pinned (OpenSpec.ofChange fnExactTotalDelaySpec)

/-- ITS FALSE NEIGHBOUR: 'it returns false'. Refute it at one input. -/
def fnExactTotalDelayWrong : ChangeSpec := { name := "fnExactTotalDelay", fn := fun _ => fun
  | [d1, d2, d3] => { results := [.lit (.bool false)], args := [d1, d2, d3] }
  | _ => none }
def FnExactTotalDelayWrongFalsely : Prop := fnExactTotalDelayRow.holds Try.pinned (OpenSpec.ofChange fnExactTotalDelayWrong)

/-- 'laws.FnExactLatestTimes': WHATEVER THE INPUT: true; the input reads as it did. -/
def fnExactLatestTimesSpec : ChangeSpec := { name := "fnExactLatestTimes", fn := fun _ => fun
  | [d1, d2] => { results := [.lit (.bool true)], args := [d1, d2] }
  | _ => none }
def fnExactLatestTimesRow : OpenClaim := { program := "ythbcakdjdbfepaa", sum := "d2b2ed48aacc23cdc4089bdc7eafe4fcbffd71eef9e8e7f8b4922106d17ec4d5", func := "loop.example/g00941/laws.FnExactLatestTimes", spec := "fnExactLatestTimes", unfollowed := true, recurses := true, apart := false }
def FnExactLatestTimesSaid : Prop := fnExactLatestTimesRow.holds Try.pinned (OpenSpec.ofChange fnExactLatestTimesSpec)

/-- ITS FALSE NEIGHBOUR: 'it returns false'. Refute it at one input. -/
def fnExactLatestTimesWrong : ChangeSpec := { name := "fnExactLatestTimes", fn := fun _ => fun
  | [d1, d2] => { results := [.lit (.bool false)], args := [d1, d2] }
  | _ => none }
def FnExactLatestTimesWrongFalsely : Prop := fnExactLatestTimesRow.holds Try.pinned (OpenSpec.ofChange fnExactLatestTimesWrong)

/-- 'laws.FnExactFloatsOf': WHATEVER THE INPUT: true; the input reads as it did. -/
def fnExactFloatsOfSpec : ChangeSpec := { name := "fnExactFloatsOf", fn := fun _ => fun
  | [d1, d2] => { results := [.lit (.bool true)], args := [d1, d2] }
  | _ => none }
def fnExactFloatsOfRow : OpenClaim := { program := "ythbcakdjdbfepaa", sum := "d2b2ed48aacc23cdc4089bdc7eafe4fcbffd71eef9e8e7f8b4922106d17ec4d5", func := "loop.example/g00941/laws.FnExactFloatsOf", spec := "fnExactFloatsOf", unfollowed := true, recurses := true, apart := false }
def FnExactFloatsOfSaid : Prop := fnExactFloatsOfRow.holds Try.pinned (OpenSpec.ofChange fnExactFloatsOfSpec)

/-- ITS FALSE NEIGHBOUR: 'it returns false'. Refute it at one input. -/
def fnExactFloatsOfWrong : ChangeSpec := { name := "fnExactFloatsOf", fn := fun _ => fun
  | [d1, d2] => { results := [.lit (.bool false)], args := [d1, d2] }
  | _ => none }
def FnExactFloatsOfWrongFalsely : Prop := fnExactFloatsOfRow.holds Try.pinned (OpenSpec.ofChange fnExactFloatsOfWrong)

/-- 'laws.FnExactCanMeet': WHATEVER THE INPUT: true; the input reads as it did. -/
def fnExactCanMeetSpec : ChangeSpec := { name := "fnExactCanMeet", fn := fun _ => fun
  | [d1, d2] => { results := [.lit (.bool true)], args := [d1, d2] }
  | _ => none }
def fnExactCanMeetRow : OpenClaim := { program := "ythbcakdjdbfepaa", sum := "d2b2ed48aacc23cdc4089bdc7eafe4fcbffd71eef9e8e7f8b4922106d17ec4d5", func := "loop.example/g00941/laws.FnExactCanMeet", spec := "fnExactCanMeet", unfollowed := true, recurses := true, apart := false }
def FnExactCanMeetSaid : Prop := fnExactCanMeetRow.holds Try.pinned (OpenSpec.ofChange fnExactCanMeetSpec)

/-- ITS FALSE NEIGHBOUR: 'it returns false'. Refute it at one input. -/
def fnExactCanMeetWrong : ChangeSpec := { name := "fnExactCanMeet", fn := fun _ => fun
  | [d1, d2] => { results := [.lit (.bool false)], args := [d1, d2] }
  | _ => none }
def FnExactCanMeetWrongFalsely : Prop := fnExactCanMeetRow.holds Try.pinned (OpenSpec.ofChange fnExactCanMeetWrong)

/-- 'laws.FnExactCriticalFirings': WHATEVER THE INPUT: true; the input reads as it did. -/
def fnExactCriticalFiringsSpec : ChangeSpec := { name := "fnExactCriticalFirings", fn := fun _ => fun
  | [d1, d2] => { results := [.lit (.bool true)], args := [d1, d2] }
  | _ => none }
def fnExactCriticalFiringsRow : OpenClaim := { program := "ythbcakdjdbfepaa", sum := "d2b2ed48aacc23cdc4089bdc7eafe4fcbffd71eef9e8e7f8b4922106d17ec4d5", func := "loop.example/g00941/laws.FnExactCriticalFirings", spec := "fnExactCriticalFirings", unfollowed := true, recurses := true, apart := false }
def FnExactCriticalFiringsSaid : Prop := fnExactCriticalFiringsRow.holds Try.pinned (OpenSpec.ofChange fnExactCriticalFiringsSpec)

/-- ITS FALSE NEIGHBOUR: 'it returns false'. Refute it at one input. -/
def fnExactCriticalFiringsWrong : ChangeSpec := { name := "fnExactCriticalFirings", fn := fun _ => fun
  | [d1, d2] => { results := [.lit (.bool false)], args := [d1, d2] }
  | _ => none }
def FnExactCriticalFiringsWrongFalsely : Prop := fnExactCriticalFiringsRow.holds Try.pinned (OpenSpec.ofChange fnExactCriticalFiringsWrong)

/-- 'laws.FnExactShiftTimetable': WHATEVER THE INPUT: true; the input reads as it did. -/
def fnExactShiftTimetableSpec : ChangeSpec := { name := "fnExactShiftTimetable", fn := fun _ => fun
  | [d1, d2, d3] => { results := [.lit (.bool true)], args := [d1, d2, d3] }
  | _ => none }
def fnExactShiftTimetableRow : OpenClaim := { program := "ythbcakdjdbfepaa", sum := "d2b2ed48aacc23cdc4089bdc7eafe4fcbffd71eef9e8e7f8b4922106d17ec4d5", func := "loop.example/g00941/laws.FnExactShiftTimetable", spec := "fnExactShiftTimetable", unfollowed := true, recurses := true, apart := false }
def FnExactShiftTimetableSaid : Prop := fnExactShiftTimetableRow.holds Try.pinned (OpenSpec.ofChange fnExactShiftTimetableSpec)

/-- ITS FALSE NEIGHBOUR: 'it returns false'. Refute it at one input. -/
def fnExactShiftTimetableWrong : ChangeSpec := { name := "fnExactShiftTimetable", fn := fun _ => fun
  | [d1, d2, d3] => { results := [.lit (.bool false)], args := [d1, d2, d3] }
  | _ => none }
def FnExactShiftTimetableWrongFalsely : Prop := fnExactShiftTimetableRow.holds Try.pinned (OpenSpec.ofChange fnExactShiftTimetableWrong)

/- THE SECOND FORM. 'bulk': how many values and letters a reading holds, each counted each time it is reached (what is shared counts as often as it is met; a slice's spare places count too). A statement '..UptoSaid' is the law's where the arguments, and the package variables that the reading takes, are together of bulk at most 1048576: NARROWER than '..Said'. Prove '..Said' where nothing that the law and all that it calls make is longer than what came in: it says more and counts as full. Else prove '..UptoSaid'. A law counts once. -/
mutual
def uptoBulk {H : Type} : DataW H → Nat
  | .lit (.string bytes) => bytes.length + 1
  | .lit _ => 1
  | .nil => 1
  | .ptr d => uptoBulk d + 1
  | .slice elems spare => uptoBulkAll elems + uptoBulkAll spare + 1
  | .agg parts => uptoBulkAll parts + 1
  | .iface _ d => uptoBulk d + 1
  | .map entries => uptoBulkEntries entries + 1
  | .held _ => 1
def uptoBulkAll {H : Type} : List (DataW H) → Nat
  | [] => 0
  | d :: r => uptoBulk d + uptoBulkAll r
def uptoBulkEntries {H : Type} : List (Lit × DataW H) → Nat
  | [] => 0
  | x :: r => uptoBulkEntry x + uptoBulkEntries r
def uptoBulkEntry {H : Type} : Lit × DataW H → Nat
  | (.string bytes, d) => bytes.length + uptoBulk d + 1
  | (_, d) => uptoBulk d + 1
 end
def uptoSmall : (H : Type) → List (DataW H) → Bool := fun _ ds => decide (uptoBulkAll ds ≤ 1048576)
def OpenSpec.upto (s : _root_.Go.ChangeSpec) : _root_.Go.OpenSpec := { _root_.Go.OpenSpec.ofChange s with cond := some uptoSmall }

/-- 'laws.FnExactFreeSlack', WHERE WHAT IT READS IS OF BULK AT MOST 1048576: true; the input reads as it did. -/
def fnExactFreeSlackUptoRow : OpenClaim := { program := "ythbcakdjdbfepaa", sum := "d2b2ed48aacc23cdc4089bdc7eafe4fcbffd71eef9e8e7f8b4922106d17ec4d5", func := "loop.example/g00941/laws.FnExactFreeSlack", spec := "fnExactFreeSlack", unfollowed := true, recurses := true, apart := false, narrowed := true }
def FnExactFreeSlackUptoSaid : Prop := fnExactFreeSlackUptoRow.holds Try.pinned (OpenSpec.upto fnExactFreeSlackSpec)

/-- 'laws.FnExactLateFirings', WHERE WHAT IT READS IS OF BULK AT MOST 1048576: true; the input reads as it did. -/
def fnExactLateFiringsUptoRow : OpenClaim := { program := "ythbcakdjdbfepaa", sum := "d2b2ed48aacc23cdc4089bdc7eafe4fcbffd71eef9e8e7f8b4922106d17ec4d5", func := "loop.example/g00941/laws.FnExactLateFirings", spec := "fnExactLateFirings", unfollowed := true, recurses := true, apart := false, narrowed := true }
def FnExactLateFiringsUptoSaid : Prop := fnExactLateFiringsUptoRow.holds Try.pinned (OpenSpec.upto fnExactLateFiringsSpec)

/-- 'laws.FnExactSettledAfter', WHERE WHAT IT READS IS OF BULK AT MOST 1048576: true; the input reads as it did. -/
def fnExactSettledAfterUptoRow : OpenClaim := { program := "ythbcakdjdbfepaa", sum := "d2b2ed48aacc23cdc4089bdc7eafe4fcbffd71eef9e8e7f8b4922106d17ec4d5", func := "loop.example/g00941/laws.FnExactSettledAfter", spec := "fnExactSettledAfter", unfollowed := true, recurses := true, apart := false, narrowed := true }
def FnExactSettledAfterUptoSaid : Prop := fnExactSettledAfterUptoRow.holds Try.pinned (OpenSpec.upto fnExactSettledAfterSpec)

/-- 'laws.FnExactDelayTable', WHERE WHAT IT READS IS OF BULK AT MOST 1048576: true; the input reads as it did. -/
def fnExactDelayTableUptoRow : OpenClaim := { program := "ythbcakdjdbfepaa", sum := "d2b2ed48aacc23cdc4089bdc7eafe4fcbffd71eef9e8e7f8b4922106d17ec4d5", func := "loop.example/g00941/laws.FnExactDelayTable", spec := "fnExactDelayTable", unfollowed := true, recurses := true, apart := false, narrowed := true }
def FnExactDelayTableUptoSaid : Prop := fnExactDelayTableUptoRow.holds Try.pinned (OpenSpec.upto fnExactDelayTableSpec)

/-- 'laws.FnExactWorstDelays', WHERE WHAT IT READS IS OF BULK AT MOST 1048576: true; the input reads as it did. -/
def fnExactWorstDelaysUptoRow : OpenClaim := { program := "ythbcakdjdbfepaa", sum := "d2b2ed48aacc23cdc4089bdc7eafe4fcbffd71eef9e8e7f8b4922106d17ec4d5", func := "loop.example/g00941/laws.FnExactWorstDelays", spec := "fnExactWorstDelays", unfollowed := true, recurses := true, apart := false, narrowed := true }
def FnExactWorstDelaysUptoSaid : Prop := fnExactWorstDelaysUptoRow.holds Try.pinned (OpenSpec.upto fnExactWorstDelaysSpec)

/-- 'laws.FnExactDelayedEvents', WHERE WHAT IT READS IS OF BULK AT MOST 1048576: true; the input reads as it did. -/
def fnExactDelayedEventsUptoRow : OpenClaim := { program := "ythbcakdjdbfepaa", sum := "d2b2ed48aacc23cdc4089bdc7eafe4fcbffd71eef9e8e7f8b4922106d17ec4d5", func := "loop.example/g00941/laws.FnExactDelayedEvents", spec := "fnExactDelayedEvents", unfollowed := true, recurses := true, apart := false, narrowed := true }
def FnExactDelayedEventsUptoSaid : Prop := fnExactDelayedEventsUptoRow.holds Try.pinned (OpenSpec.upto fnExactDelayedEventsSpec)

/-- 'laws.FnExactTotalDelay', WHERE WHAT IT READS IS OF BULK AT MOST 1048576: true; the input reads as it did. -/
def fnExactTotalDelayUptoRow : OpenClaim := { program := "ythbcakdjdbfepaa", sum := "d2b2ed48aacc23cdc4089bdc7eafe4fcbffd71eef9e8e7f8b4922106d17ec4d5", func := "loop.example/g00941/laws.FnExactTotalDelay", spec := "fnExactTotalDelay", unfollowed := true, recurses := true, apart := false, narrowed := true }
def FnExactTotalDelayUptoSaid : Prop := fnExactTotalDelayUptoRow.holds Try.pinned (OpenSpec.upto fnExactTotalDelaySpec)

/-- 'laws.FnExactLatestTimes', WHERE WHAT IT READS IS OF BULK AT MOST 1048576: true; the input reads as it did. -/
def fnExactLatestTimesUptoRow : OpenClaim := { program := "ythbcakdjdbfepaa", sum := "d2b2ed48aacc23cdc4089bdc7eafe4fcbffd71eef9e8e7f8b4922106d17ec4d5", func := "loop.example/g00941/laws.FnExactLatestTimes", spec := "fnExactLatestTimes", unfollowed := true, recurses := true, apart := false, narrowed := true }
def FnExactLatestTimesUptoSaid : Prop := fnExactLatestTimesUptoRow.holds Try.pinned (OpenSpec.upto fnExactLatestTimesSpec)

/-- 'laws.FnExactFloatsOf', WHERE WHAT IT READS IS OF BULK AT MOST 1048576: true; the input reads as it did. -/
def fnExactFloatsOfUptoRow : OpenClaim := { program := "ythbcakdjdbfepaa", sum := "d2b2ed48aacc23cdc4089bdc7eafe4fcbffd71eef9e8e7f8b4922106d17ec4d5", func := "loop.example/g00941/laws.FnExactFloatsOf", spec := "fnExactFloatsOf", unfollowed := true, recurses := true, apart := false, narrowed := true }
def FnExactFloatsOfUptoSaid : Prop := fnExactFloatsOfUptoRow.holds Try.pinned (OpenSpec.upto fnExactFloatsOfSpec)

/-- 'laws.FnExactCanMeet', WHERE WHAT IT READS IS OF BULK AT MOST 1048576: true; the input reads as it did. -/
def fnExactCanMeetUptoRow : OpenClaim := { program := "ythbcakdjdbfepaa", sum := "d2b2ed48aacc23cdc4089bdc7eafe4fcbffd71eef9e8e7f8b4922106d17ec4d5", func := "loop.example/g00941/laws.FnExactCanMeet", spec := "fnExactCanMeet", unfollowed := true, recurses := true, apart := false, narrowed := true }
def FnExactCanMeetUptoSaid : Prop := fnExactCanMeetUptoRow.holds Try.pinned (OpenSpec.upto fnExactCanMeetSpec)

/-- 'laws.FnExactCriticalFirings', WHERE WHAT IT READS IS OF BULK AT MOST 1048576: true; the input reads as it did. -/
def fnExactCriticalFiringsUptoRow : OpenClaim := { program := "ythbcakdjdbfepaa", sum := "d2b2ed48aacc23cdc4089bdc7eafe4fcbffd71eef9e8e7f8b4922106d17ec4d5", func := "loop.example/g00941/laws.FnExactCriticalFirings", spec := "fnExactCriticalFirings", unfollowed := true, recurses := true, apart := false, narrowed := true }
def FnExactCriticalFiringsUptoSaid : Prop := fnExactCriticalFiringsUptoRow.holds Try.pinned (OpenSpec.upto fnExactCriticalFiringsSpec)

/-- 'laws.FnExactShiftTimetable', WHERE WHAT IT READS IS OF BULK AT MOST 1048576: true; the input reads as it did. -/
def fnExactShiftTimetableUptoRow : OpenClaim := { program := "ythbcakdjdbfepaa", sum := "d2b2ed48aacc23cdc4089bdc7eafe4fcbffd71eef9e8e7f8b4922106d17ec4d5", func := "loop.example/g00941/laws.FnExactShiftTimetable", spec := "fnExactShiftTimetable", unfollowed := true, recurses := true, apart := false, narrowed := true }
def FnExactShiftTimetableUptoSaid : Prop := fnExactShiftTimetableUptoRow.holds Try.pinned (OpenSpec.upto fnExactShiftTimetableSpec)

end Rows
end Go.Proofs.Ythbcakdjdbfepaa
