/-
  No cell of these rows narrows 'for every input' (looked for: loops, veiled, ifaces, maps, wideKeys, modest, calm, conditions, laid).
  DERIVED. THE GIVEN ROWS OF THIS SEAT. 12 by the template 'for every input the law returns true; each argument reads behind the call as it read before'; 0 by the template 'total and deterministic' (their statements: YtcpfhonmmpbadaaTotals.lean).
  GIVEN WITH THE SEED: the statements are not yours to turn. If you find one false, say at which input.
  Laid BY PROGRAM, IN A SANDBOX (cutbox-rows.mjs): the forced cells as the released guide's own fill.sh prints them over the translation f6380ed98b2e321b… (all of the seat's roots in one cut). By AI agents, Wed Nov 11 2026. No macro, syntax, notation, axiom, sorry.
-/
import Derived.Test.YtcpfhonmmpbadaaChecked
import GoSem.Claim
import GoSem.ClaimJoined
import GoSem.ClaimMapViews
import Derived.JoinedTies
import Derived.KernelRfl
namespace Go.Proofs.Ytcpfhonmmpbadaa
/- THE CELL 'sum', in the pinned program and in every row, IS THE sha256 OF THE DUMP (.gsa) THAT YtcpfhonmmpbadaaProg.lean LOADS. Nothing in Lean hashes anything: it is a label: what it is worth is what the hold of that sum in a sandbox is worth. -/
noncomputable def Try.pinned : Pinned := { name := "ytcpfhonmmpbadaa", sum := "f6380ed98b2e321b796d408aaa97099ec7b601d3613854c94585f72f84cd3294", checked := Try.checked }
namespace Rows
def none {H : Type} : Left H := { results := [], args := [] }

/-- 'laws.FnExactLatestInputs': WHATEVER THE INPUT: true; the input reads as it did. -/
def fnExactLatestInputsSpec : ChangeSpec := { name := "fnExactLatestInputs", fn := fun _ => fun
  | [d1, d2] => { results := [.lit (.bool true)], args := [d1, d2] }
  | _ => none }
def fnExactLatestInputsRow : OpenClaim := { program := "ytcpfhonmmpbadaa", sum := "f6380ed98b2e321b796d408aaa97099ec7b601d3613854c94585f72f84cd3294", func := "loop.example/g00941/laws.FnExactLatestInputs", spec := "fnExactLatestInputs", unfollowed := true, recurses := true, apart := false }
def FnExactLatestInputsSaid : Prop := fnExactLatestInputsRow.holds Try.pinned (OpenSpec.ofChange fnExactLatestInputsSpec)

/-- ITS FALSE NEIGHBOUR: 'it returns false'. Refute it at one input. -/
def fnExactLatestInputsWrong : ChangeSpec := { name := "fnExactLatestInputs", fn := fun _ => fun
  | [d1, d2] => { results := [.lit (.bool false)], args := [d1, d2] }
  | _ => none }
def FnExactLatestInputsWrongFalsely : Prop := fnExactLatestInputsRow.holds Try.pinned (OpenSpec.ofChange fnExactLatestInputsWrong)

/-- 'laws.FnExactMeetsDue': WHATEVER THE INPUT: true; the input reads as it did. -/
def fnExactMeetsDueSpec : ChangeSpec := { name := "fnExactMeetsDue", fn := fun _ => fun
  | [d1, d2, d3, d4] => { results := [.lit (.bool true)], args := [d1, d2, d3, d4] }
  | _ => none }
def fnExactMeetsDueRow : OpenClaim := { program := "ytcpfhonmmpbadaa", sum := "f6380ed98b2e321b796d408aaa97099ec7b601d3613854c94585f72f84cd3294", func := "loop.example/g00941/laws.FnExactMeetsDue", spec := "fnExactMeetsDue", unfollowed := true, recurses := true, apart := false }
def FnExactMeetsDueSaid : Prop := fnExactMeetsDueRow.holds Try.pinned (OpenSpec.ofChange fnExactMeetsDueSpec)

/-- ITS FALSE NEIGHBOUR: 'it returns false'. Refute it at one input. -/
def fnExactMeetsDueWrong : ChangeSpec := { name := "fnExactMeetsDue", fn := fun _ => fun
  | [d1, d2, d3, d4] => { results := [.lit (.bool false)], args := [d1, d2, d3, d4] }
  | _ => none }
def FnExactMeetsDueWrongFalsely : Prop := fnExactMeetsDueRow.holds Try.pinned (OpenSpec.ofChange fnExactMeetsDueWrong)

/-- 'laws.FnExactOutputsOf': WHATEVER THE INPUT: true; the input reads as it did. -/
def fnExactOutputsOfSpec : ChangeSpec := { name := "fnExactOutputsOf", fn := fun _ => fun
  | [d1, d2, d3] => { results := [.lit (.bool true)], args := [d1, d2, d3] }
  | _ => none }
def fnExactOutputsOfRow : OpenClaim := { program := "ytcpfhonmmpbadaa", sum := "f6380ed98b2e321b796d408aaa97099ec7b601d3613854c94585f72f84cd3294", func := "loop.example/g00941/laws.FnExactOutputsOf", spec := "fnExactOutputsOf", unfollowed := true, recurses := true, apart := false }
def FnExactOutputsOfSaid : Prop := fnExactOutputsOfRow.holds Try.pinned (OpenSpec.ofChange fnExactOutputsOfSpec)

/-- ITS FALSE NEIGHBOUR: 'it returns false'. Refute it at one input. -/
def fnExactOutputsOfWrong : ChangeSpec := { name := "fnExactOutputsOf", fn := fun _ => fun
  | [d1, d2, d3] => { results := [.lit (.bool false)], args := [d1, d2, d3] }
  | _ => none }
def FnExactOutputsOfWrongFalsely : Prop := fnExactOutputsOfRow.holds Try.pinned (OpenSpec.ofChange fnExactOutputsOfWrong)

/-- 'laws.FnExactStateAfter': WHATEVER THE INPUT: true; the input reads as it did. -/
def fnExactStateAfterSpec : ChangeSpec := { name := "fnExactStateAfter", fn := fun _ => fun
  | [d1, d2, d3] => { results := [.lit (.bool true)], args := [d1, d2, d3] }
  | _ => none }
def fnExactStateAfterRow : OpenClaim := { program := "ytcpfhonmmpbadaa", sum := "f6380ed98b2e321b796d408aaa97099ec7b601d3613854c94585f72f84cd3294", func := "loop.example/g00941/laws.FnExactStateAfter", spec := "fnExactStateAfter", unfollowed := true, recurses := true, apart := false }
def FnExactStateAfterSaid : Prop := fnExactStateAfterRow.holds Try.pinned (OpenSpec.ofChange fnExactStateAfterSpec)

/-- ITS FALSE NEIGHBOUR: 'it returns false'. Refute it at one input. -/
def fnExactStateAfterWrong : ChangeSpec := { name := "fnExactStateAfter", fn := fun _ => fun
  | [d1, d2, d3] => { results := [.lit (.bool false)], args := [d1, d2, d3] }
  | _ => none }
def FnExactStateAfterWrongFalsely : Prop := fnExactStateAfterRow.holds Try.pinned (OpenSpec.ofChange fnExactStateAfterWrong)

/-- 'laws.FnExactAfterWord': WHATEVER THE INPUT: true; the input reads as it did. -/
def fnExactAfterWordSpec : ChangeSpec := { name := "fnExactAfterWord", fn := fun _ => fun
  | [d1, d2, d3] => { results := [.lit (.bool true)], args := [d1, d2, d3] }
  | _ => none }
def fnExactAfterWordRow : OpenClaim := { program := "ytcpfhonmmpbadaa", sum := "f6380ed98b2e321b796d408aaa97099ec7b601d3613854c94585f72f84cd3294", func := "loop.example/g00941/laws.FnExactAfterWord", spec := "fnExactAfterWord", unfollowed := true, recurses := true, apart := false }
def FnExactAfterWordSaid : Prop := fnExactAfterWordRow.holds Try.pinned (OpenSpec.ofChange fnExactAfterWordSpec)

/-- ITS FALSE NEIGHBOUR: 'it returns false'. Refute it at one input. -/
def fnExactAfterWordWrong : ChangeSpec := { name := "fnExactAfterWord", fn := fun _ => fun
  | [d1, d2, d3] => { results := [.lit (.bool false)], args := [d1, d2, d3] }
  | _ => none }
def FnExactAfterWordWrongFalsely : Prop := fnExactAfterWordRow.holds Try.pinned (OpenSpec.ofChange fnExactAfterWordWrong)

/-- 'laws.FnExactWordMatrix': WHATEVER THE INPUT: true; the input reads as it did. -/
def fnExactWordMatrixSpec : ChangeSpec := { name := "fnExactWordMatrix", fn := fun _ => fun
  | [d1, d2] => { results := [.lit (.bool true)], args := [d1, d2] }
  | _ => none }
def fnExactWordMatrixRow : OpenClaim := { program := "ytcpfhonmmpbadaa", sum := "f6380ed98b2e321b796d408aaa97099ec7b601d3613854c94585f72f84cd3294", func := "loop.example/g00941/laws.FnExactWordMatrix", spec := "fnExactWordMatrix", unfollowed := true, recurses := true, apart := false }
def FnExactWordMatrixSaid : Prop := fnExactWordMatrixRow.holds Try.pinned (OpenSpec.ofChange fnExactWordMatrixSpec)

/-- ITS FALSE NEIGHBOUR: 'it returns false'. Refute it at one input. -/
def fnExactWordMatrixWrong : ChangeSpec := { name := "fnExactWordMatrix", fn := fun _ => fun
  | [d1, d2] => { results := [.lit (.bool false)], args := [d1, d2] }
  | _ => none }
def FnExactWordMatrixWrongFalsely : Prop := fnExactWordMatrixRow.holds Try.pinned (OpenSpec.ofChange fnExactWordMatrixWrong)

/-- 'laws.FnExactGreatestAfter': WHATEVER THE INPUT: true; the input reads as it did. -/
def fnExactGreatestAfterSpec : ChangeSpec := { name := "fnExactGreatestAfter", fn := fun _ => fun
  | [d1, d2, d3] => { results := [.lit (.bool true)], args := [d1, d2, d3] }
  | _ => none }
def fnExactGreatestAfterRow : OpenClaim := { program := "ytcpfhonmmpbadaa", sum := "f6380ed98b2e321b796d408aaa97099ec7b601d3613854c94585f72f84cd3294", func := "loop.example/g00941/laws.FnExactGreatestAfter", spec := "fnExactGreatestAfter", unfollowed := true, recurses := true, apart := false }
def FnExactGreatestAfterSaid : Prop := fnExactGreatestAfterRow.holds Try.pinned (OpenSpec.ofChange fnExactGreatestAfterSpec)

/-- ITS FALSE NEIGHBOUR: 'it returns false'. Refute it at one input. -/
def fnExactGreatestAfterWrong : ChangeSpec := { name := "fnExactGreatestAfter", fn := fun _ => fun
  | [d1, d2, d3] => { results := [.lit (.bool false)], args := [d1, d2, d3] }
  | _ => none }
def FnExactGreatestAfterWrongFalsely : Prop := fnExactGreatestAfterRow.holds Try.pinned (OpenSpec.ofChange fnExactGreatestAfterWrong)

/-- 'laws.FnExactParallelSystem': WHATEVER THE INPUT: true; the input reads as it did. -/
def fnExactParallelSystemSpec : ChangeSpec := { name := "fnExactParallelSystem", fn := fun _ => fun
  | [d1, d2] => { results := [.lit (.bool true)], args := [d1, d2] }
  | _ => none }
def fnExactParallelSystemRow : OpenClaim := { program := "ytcpfhonmmpbadaa", sum := "f6380ed98b2e321b796d408aaa97099ec7b601d3613854c94585f72f84cd3294", func := "loop.example/g00941/laws.FnExactParallelSystem", spec := "fnExactParallelSystem", unfollowed := true, recurses := true, apart := false }
def FnExactParallelSystemSaid : Prop := fnExactParallelSystemRow.holds Try.pinned (OpenSpec.ofChange fnExactParallelSystemSpec)

/-- ITS FALSE NEIGHBOUR: 'it returns false'. Refute it at one input. -/
def fnExactParallelSystemWrong : ChangeSpec := { name := "fnExactParallelSystem", fn := fun _ => fun
  | [d1, d2] => { results := [.lit (.bool false)], args := [d1, d2] }
  | _ => none }
def FnExactParallelSystemWrongFalsely : Prop := fnExactParallelSystemRow.holds Try.pinned (OpenSpec.ofChange fnExactParallelSystemWrong)

/-- 'laws.FnExactSeriesSystem': WHATEVER THE INPUT: true; the input reads as it did. -/
def fnExactSeriesSystemSpec : ChangeSpec := { name := "fnExactSeriesSystem", fn := fun _ => fun
  | [d1, d2] => { results := [.lit (.bool true)], args := [d1, d2] }
  | _ => none }
def fnExactSeriesSystemRow : OpenClaim := { program := "ytcpfhonmmpbadaa", sum := "f6380ed98b2e321b796d408aaa97099ec7b601d3613854c94585f72f84cd3294", func := "loop.example/g00941/laws.FnExactSeriesSystem", spec := "fnExactSeriesSystem", unfollowed := true, recurses := true, apart := false }
def FnExactSeriesSystemSaid : Prop := fnExactSeriesSystemRow.holds Try.pinned (OpenSpec.ofChange fnExactSeriesSystemSpec)

/-- ITS FALSE NEIGHBOUR: 'it returns false'. Refute it at one input. -/
def fnExactSeriesSystemWrong : ChangeSpec := { name := "fnExactSeriesSystem", fn := fun _ => fun
  | [d1, d2] => { results := [.lit (.bool false)], args := [d1, d2] }
  | _ => none }
def FnExactSeriesSystemWrongFalsely : Prop := fnExactSeriesSystemRow.holds Try.pinned (OpenSpec.ofChange fnExactSeriesSystemWrong)

/-- 'laws.FnExactDueOfLast': WHATEVER THE INPUT: true; the input reads as it did. -/
def fnExactDueOfLastSpec : ChangeSpec := { name := "fnExactDueOfLast", fn := fun _ => fun
  | [d1, d2, d3] => { results := [.lit (.bool true)], args := [d1, d2, d3] }
  | _ => none }
def fnExactDueOfLastRow : OpenClaim := { program := "ytcpfhonmmpbadaa", sum := "f6380ed98b2e321b796d408aaa97099ec7b601d3613854c94585f72f84cd3294", func := "loop.example/g00941/laws.FnExactDueOfLast", spec := "fnExactDueOfLast", unfollowed := true, recurses := true, apart := false }
def FnExactDueOfLastSaid : Prop := fnExactDueOfLastRow.holds Try.pinned (OpenSpec.ofChange fnExactDueOfLastSpec)

/-- ITS FALSE NEIGHBOUR: 'it returns false'. Refute it at one input. -/
def fnExactDueOfLastWrong : ChangeSpec := { name := "fnExactDueOfLast", fn := fun _ => fun
  | [d1, d2, d3] => { results := [.lit (.bool false)], args := [d1, d2, d3] }
  | _ => none }
def FnExactDueOfLastWrongFalsely : Prop := fnExactDueOfLastRow.holds Try.pinned (OpenSpec.ofChange fnExactDueOfLastWrong)

/-- 'laws.FnExactPartOfGraph': WHATEVER THE INPUT: true; the input reads as it did. -/
def fnExactPartOfGraphSpec : ChangeSpec := { name := "fnExactPartOfGraph", fn := fun _ => fun
  | [d1, d2] => { results := [.lit (.bool true)], args := [d1, d2] }
  | _ => none }
def fnExactPartOfGraphRow : OpenClaim := { program := "ytcpfhonmmpbadaa", sum := "f6380ed98b2e321b796d408aaa97099ec7b601d3613854c94585f72f84cd3294", func := "loop.example/g00941/laws.FnExactPartOfGraph", spec := "fnExactPartOfGraph", unfollowed := true, recurses := true, apart := false }
def FnExactPartOfGraphSaid : Prop := fnExactPartOfGraphRow.holds Try.pinned (OpenSpec.ofChange fnExactPartOfGraphSpec)

/-- ITS FALSE NEIGHBOUR: 'it returns false'. Refute it at one input. -/
def fnExactPartOfGraphWrong : ChangeSpec := { name := "fnExactPartOfGraph", fn := fun _ => fun
  | [d1, d2] => { results := [.lit (.bool false)], args := [d1, d2] }
  | _ => none }
def FnExactPartOfGraphWrongFalsely : Prop := fnExactPartOfGraphRow.holds Try.pinned (OpenSpec.ofChange fnExactPartOfGraphWrong)

/-- 'laws.FnExactRelabelGraph': WHATEVER THE INPUT: true; the input reads as it did. -/
def fnExactRelabelGraphSpec : ChangeSpec := { name := "fnExactRelabelGraph", fn := fun _ => fun
  | [d1, d2] => { results := [.lit (.bool true)], args := [d1, d2] }
  | _ => none }
def fnExactRelabelGraphRow : OpenClaim := { program := "ytcpfhonmmpbadaa", sum := "f6380ed98b2e321b796d408aaa97099ec7b601d3613854c94585f72f84cd3294", func := "loop.example/g00941/laws.FnExactRelabelGraph", spec := "fnExactRelabelGraph", unfollowed := true, recurses := true, apart := false }
def FnExactRelabelGraphSaid : Prop := fnExactRelabelGraphRow.holds Try.pinned (OpenSpec.ofChange fnExactRelabelGraphSpec)

/-- ITS FALSE NEIGHBOUR: 'it returns false'. Refute it at one input. -/
def fnExactRelabelGraphWrong : ChangeSpec := { name := "fnExactRelabelGraph", fn := fun _ => fun
  | [d1, d2] => { results := [.lit (.bool false)], args := [d1, d2] }
  | _ => none }
def FnExactRelabelGraphWrongFalsely : Prop := fnExactRelabelGraphRow.holds Try.pinned (OpenSpec.ofChange fnExactRelabelGraphWrong)

/- THE SECOND FORM. 'bulk': how many values and letters a reading holds, each counted each time it is reached (what is shared counts as often as it is met; a slice's spare places count too). A statement '..UptoSaid' is the law's where the arguments, and the package variables that the reading takes, are together of bulk at most 1048576: NARROWER than '..Said'. Prove '..Said' where nothing that the law and all that it calls make is longer than what came in: it says more and counts as full. Else prove '..UptoSaid'. A law counts once. -/
mutual
def uptoBulk {H : Type} : DataW H → Nat
  | .lit (.string bytes) => bytes.length + 1
  | .lit _ => 1
  | .nil => 1
  | .ptr d => uptoBulk d + 1
  | .slice elems spare => uptoBulkAll elems + uptoBulkAll spare + 1
  | .agg parts => uptoBulkAll parts + 1
  | .iface _ d => uptoBulk d + 1
  | .map entries => uptoBulkEntries entries + 1
  | .held _ => 1
def uptoBulkAll {H : Type} : List (DataW H) → Nat
  | [] => 0
  | d :: r => uptoBulk d + uptoBulkAll r
def uptoBulkEntries {H : Type} : List (Lit × DataW H) → Nat
  | [] => 0
  | x :: r => uptoBulkEntry x + uptoBulkEntries r
def uptoBulkEntry {H : Type} : Lit × DataW H → Nat
  | (.string bytes, d) => bytes.length + uptoBulk d + 1
  | (_, d) => uptoBulk d + 1
 end
def uptoSmall : (H : Type) → List (DataW H) → Bool := fun _ ds => decide (uptoBulkAll ds ≤ 1048576)
def OpenSpec.upto (s : _root_.Go.ChangeSpec) : _root_.Go.OpenSpec := { _root_.Go.OpenSpec.ofChange s with cond := some uptoSmall }

/-- 'laws.FnExactLatestInputs', WHERE WHAT IT READS IS OF BULK AT MOST 1048576: true; the input reads as it did. -/
def fnExactLatestInputsUptoRow : OpenClaim := { program := "ytcpfhonmmpbadaa", sum := "f6380ed98b2e321b796d408aaa97099ec7b601d3613854c94585f72f84cd3294", func := "loop.example/g00941/laws.FnExactLatestInputs", spec := "fnExactLatestInputs", unfollowed := true, recurses := true, apart := false, narrowed := true }
def FnExactLatestInputsUptoSaid : Prop := fnExactLatestInputsUptoRow.holds Try.pinned (OpenSpec.upto fnExactLatestInputsSpec)

/-- 'laws.FnExactMeetsDue', WHERE WHAT IT READS IS OF BULK AT MOST 1048576: true; the input reads as it did. -/
def fnExactMeetsDueUptoRow : OpenClaim := { program := "ytcpfhonmmpbadaa", sum := "f6380ed98b2e321b796d408aaa97099ec7b601d3613854c94585f72f84cd3294", func := "loop.example/g00941/laws.FnExactMeetsDue", spec := "fnExactMeetsDue", unfollowed := true, recurses := true, apart := false, narrowed := true }
def FnExactMeetsDueUptoSaid : Prop := fnExactMeetsDueUptoRow.holds Try.pinned (OpenSpec.upto fnExactMeetsDueSpec)

/-- 'laws.FnExactOutputsOf', WHERE WHAT IT READS IS OF BULK AT MOST 1048576: true; the input reads as it did. -/
def fnExactOutputsOfUptoRow : OpenClaim := { program := "ytcpfhonmmpbadaa", sum := "f6380ed98b2e321b796d408aaa97099ec7b601d3613854c94585f72f84cd3294", func := "loop.example/g00941/laws.FnExactOutputsOf", spec := "fnExactOutputsOf", unfollowed := true, recurses := true, apart := false, narrowed := true }
def FnExactOutputsOfUptoSaid : Prop := fnExactOutputsOfUptoRow.holds Try.pinned (OpenSpec.upto fnExactOutputsOfSpec)

/-- 'laws.FnExactStateAfter', WHERE WHAT IT READS IS OF BULK AT MOST 1048576: true; the input reads as it did. -/
def fnExactStateAfterUptoRow : OpenClaim := { program := "ytcpfhonmmpbadaa", sum := "f6380ed98b2e321b796d408aaa97099ec7b601d3613854c94585f72f84cd3294", func := "loop.example/g00941/laws.FnExactStateAfter", spec := "fnExactStateAfter", unfollowed := true, recurses := true, apart := false, narrowed := true }
def FnExactStateAfterUptoSaid : Prop := fnExactStateAfterUptoRow.holds Try.pinned (OpenSpec.upto fnExactStateAfterSpec)

/-- 'laws.FnExactAfterWord', WHERE WHAT IT READS IS OF BULK AT MOST 1048576: true; the input reads as it did. -/
def fnExactAfterWordUptoRow : OpenClaim := { program := "ytcpfhonmmpbadaa", sum := "f6380ed98b2e321b796d408aaa97099ec7b601d3613854c94585f72f84cd3294", func := "loop.example/g00941/laws.FnExactAfterWord", spec := "fnExactAfterWord", unfollowed := true, recurses := true, apart := false, narrowed := true }
def FnExactAfterWordUptoSaid : Prop := fnExactAfterWordUptoRow.holds Try.pinned (OpenSpec.upto fnExactAfterWordSpec)

/-- 'laws.FnExactWordMatrix', WHERE WHAT IT READS IS OF BULK AT MOST 1048576: true; the input reads as it did. -/
def fnExactWordMatrixUptoRow : OpenClaim := { program := "ytcpfhonmmpbadaa", sum := "f6380ed98b2e321b796d408aaa97099ec7b601d3613854c94585f72f84cd3294", func := "loop.example/g00941/laws.FnExactWordMatrix", spec := "fnExactWordMatrix", unfollowed := true, recurses := true, apart := false, narrowed := true }
def FnExactWordMatrixUptoSaid : Prop := fnExactWordMatrixUptoRow.holds Try.pinned (OpenSpec.upto fnExactWordMatrixSpec)

/-- 'laws.FnExactGreatestAfter', WHERE WHAT IT READS IS OF BULK AT MOST 1048576: true; the input reads as it did. -/
def fnExactGreatestAfterUptoRow : OpenClaim := { program := "ytcpfhonmmpbadaa", sum := "f6380ed98b2e321b796d408aaa97099ec7b601d3613854c94585f72f84cd3294", func := "loop.example/g00941/laws.FnExactGreatestAfter", spec := "fnExactGreatestAfter", unfollowed := true, recurses := true, apart := false, narrowed := true }
def FnExactGreatestAfterUptoSaid : Prop := fnExactGreatestAfterUptoRow.holds Try.pinned (OpenSpec.upto fnExactGreatestAfterSpec)

/-- 'laws.FnExactParallelSystem', WHERE WHAT IT READS IS OF BULK AT MOST 1048576: true; the input reads as it did. -/
def fnExactParallelSystemUptoRow : OpenClaim := { program := "ytcpfhonmmpbadaa", sum := "f6380ed98b2e321b796d408aaa97099ec7b601d3613854c94585f72f84cd3294", func := "loop.example/g00941/laws.FnExactParallelSystem", spec := "fnExactParallelSystem", unfollowed := true, recurses := true, apart := false, narrowed := true }
def FnExactParallelSystemUptoSaid : Prop := fnExactParallelSystemUptoRow.holds Try.pinned (OpenSpec.upto fnExactParallelSystemSpec)

/-- 'laws.FnExactSeriesSystem', WHERE WHAT IT READS IS OF BULK AT MOST 1048576: true; the input reads as it did. -/
def fnExactSeriesSystemUptoRow : OpenClaim := { program := "ytcpfhonmmpbadaa", sum := "f6380ed98b2e321b796d408aaa97099ec7b601d3613854c94585f72f84cd3294", func := "loop.example/g00941/laws.FnExactSeriesSystem", spec := "fnExactSeriesSystem", unfollowed := true, recurses := true, apart := false, narrowed := true }
def FnExactSeriesSystemUptoSaid : Prop := fnExactSeriesSystemUptoRow.holds Try.pinned (OpenSpec.upto fnExactSeriesSystemSpec)

/-- 'laws.FnExactDueOfLast', WHERE WHAT IT READS IS OF BULK AT MOST 1048576: true; the input reads as it did. -/
def fnExactDueOfLastUptoRow : OpenClaim := { program := "ytcpfhonmmpbadaa", sum := "f6380ed98b2e321b796d408aaa97099ec7b601d3613854c94585f72f84cd3294", func := "loop.example/g00941/laws.FnExactDueOfLast", spec := "fnExactDueOfLast", unfollowed := true, recurses := true, apart := false, narrowed := true }
def FnExactDueOfLastUptoSaid : Prop := fnExactDueOfLastUptoRow.holds Try.pinned (OpenSpec.upto fnExactDueOfLastSpec)

/-- 'laws.FnExactPartOfGraph', WHERE WHAT IT READS IS OF BULK AT MOST 1048576: true; the input reads as it did. -/
def fnExactPartOfGraphUptoRow : OpenClaim := { program := "ytcpfhonmmpbadaa", sum := "f6380ed98b2e321b796d408aaa97099ec7b601d3613854c94585f72f84cd3294", func := "loop.example/g00941/laws.FnExactPartOfGraph", spec := "fnExactPartOfGraph", unfollowed := true, recurses := true, apart := false, narrowed := true }
def FnExactPartOfGraphUptoSaid : Prop := fnExactPartOfGraphUptoRow.holds Try.pinned (OpenSpec.upto fnExactPartOfGraphSpec)

/-- 'laws.FnExactRelabelGraph', WHERE WHAT IT READS IS OF BULK AT MOST 1048576: true; the input reads as it did. -/
def fnExactRelabelGraphUptoRow : OpenClaim := { program := "ytcpfhonmmpbadaa", sum := "f6380ed98b2e321b796d408aaa97099ec7b601d3613854c94585f72f84cd3294", func := "loop.example/g00941/laws.FnExactRelabelGraph", spec := "fnExactRelabelGraph", unfollowed := true, recurses := true, apart := false, narrowed := true }
def FnExactRelabelGraphUptoSaid : Prop := fnExactRelabelGraphUptoRow.holds Try.pinned (OpenSpec.upto fnExactRelabelGraphSpec)

end Rows
end Go.Proofs.Ytcpfhonmmpbadaa
