/-
  No cell of these rows narrows 'for every input' (looked for: loops, veiled, ifaces, maps, wideKeys, modest, calm, conditions, laid).
  DERIVED. THE GIVEN ROWS OF THIS SEAT. 11 by the template 'for every input the law returns true; each argument reads behind the call as it read before'; 0 by the template 'total and deterministic' (their statements: YtpmebacdmilecaaTotals.lean).
  GIVEN WITH THE SEED: the statements are not yours to turn. If you find one false, say at which input.
  Laid BY PROGRAM, IN A SANDBOX (cutbox-rows.mjs): the forced cells as the released guide's own fill.sh prints them over the translation 68b816cb42c2e91e… (all of the seat's roots in one cut). By AI agents, Wed Nov 11 2026. No macro, syntax, notation, axiom, sorry.
-/
import Derived.Test.YtpmebacdmilecaaChecked
import GoSem.Claim
import GoSem.ClaimJoined
import GoSem.ClaimMapViews
import Derived.JoinedTies
import Derived.KernelRfl
namespace Go.Proofs.Ytpmebacdmilecaa
/- THE CELL 'sum', in the pinned program and in every row, IS THE sha256 OF THE DUMP (.gsa) THAT YtpmebacdmilecaaProg.lean LOADS. Nothing in Lean hashes anything: it is a label: what it is worth is what the hold of that sum in a sandbox is worth. -/
noncomputable def Try.pinned : Pinned := { name := "ytpmebacdmilecaa", sum := "68b816cb42c2e91e220b27075c216145889b1bea55a1a1540fa47595ac39b079", checked := Try.checked }
namespace Rows
def none {H : Type} : Left H := { results := [], args := [] }

/-- 'laws.FnExactGreatestAfter': WHATEVER THE INPUT: true; the input reads as it did. -/
def fnExactGreatestAfterSpec : ChangeSpec := { name := "fnExactGreatestAfter", fn := fun _ => fun
  | [d1, d2, d3] => { results := [.lit (.bool true)], args := [d1, d2, d3] }
  | _ => none }
def fnExactGreatestAfterRow : OpenClaim := { program := "ytpmebacdmilecaa", sum := "68b816cb42c2e91e220b27075c216145889b1bea55a1a1540fa47595ac39b079", func := "loop.example/g00941/laws.FnExactGreatestAfter", spec := "fnExactGreatestAfter", unfollowed := true, recurses := true, apart := false }
def FnExactGreatestAfterSaid : Prop := fnExactGreatestAfterRow.holds Try.pinned (OpenSpec.ofChange fnExactGreatestAfterSpec)

/-- ITS FALSE NEIGHBOUR: 'it returns false'. Refute it at one input. -/
def fnExactGreatestAfterWrong : ChangeSpec := { name := "fnExactGreatestAfter", fn := fun _ => fun
  | [d1, d2, d3] => { results := [.lit (.bool false)], args := [d1, d2, d3] }
  | _ => none }
def FnExactGreatestAfterWrongFalsely : Prop := fnExactGreatestAfterRow.holds Try.pinned (OpenSpec.ofChange fnExactGreatestAfterWrong)

/-- 'laws.FnExactRelabelGraph': WHATEVER THE INPUT: true; the input reads as it did. -/
def fnExactRelabelGraphSpec : ChangeSpec := { name := "fnExactRelabelGraph", fn := fun _ => fun
  | [d1, d2] => { results := [.lit (.bool true)], args := [d1, d2] }
  | _ => none }
def fnExactRelabelGraphRow : OpenClaim := { program := "ytpmebacdmilecaa", sum := "68b816cb42c2e91e220b27075c216145889b1bea55a1a1540fa47595ac39b079", func := "loop.example/g00941/laws.FnExactRelabelGraph", spec := "fnExactRelabelGraph", unfollowed := true, recurses := true, apart := false }
def FnExactRelabelGraphSaid : Prop := fnExactRelabelGraphRow.holds Try.pinned (OpenSpec.ofChange fnExactRelabelGraphSpec)

/-- ITS FALSE NEIGHBOUR: 'it returns false'. Refute it at one input. -/
def fnExactRelabelGraphWrong : ChangeSpec := { name := "fnExactRelabelGraph", fn := fun _ => fun
  | [d1, d2] => { results := [.lit (.bool false)], args := [d1, d2] }
  | _ => none }
def FnExactRelabelGraphWrongFalsely : Prop := fnExactRelabelGraphRow.holds Try.pinned (OpenSpec.ofChange fnExactRelabelGraphWrong)

/-- 'laws.FnExactPartOfGraph': WHATEVER THE INPUT: true; the input reads as it did. -/
def fnExactPartOfGraphSpec : ChangeSpec := { name := "fnExactPartOfGraph", fn := fun _ => fun
  | [d1, d2] => { results := [.lit (.bool true)], args := [d1, d2] }
  | _ => none }
def fnExactPartOfGraphRow : OpenClaim := { program := "ytpmebacdmilecaa", sum := "68b816cb42c2e91e220b27075c216145889b1bea55a1a1540fa47595ac39b079", func := "loop.example/g00941/laws.FnExactPartOfGraph", spec := "fnExactPartOfGraph", unfollowed := true, recurses := true, apart := false }
def FnExactPartOfGraphSaid : Prop := fnExactPartOfGraphRow.holds Try.pinned (OpenSpec.ofChange fnExactPartOfGraphSpec)

/-- ITS FALSE NEIGHBOUR: 'it returns false'. Refute it at one input. -/
def fnExactPartOfGraphWrong : ChangeSpec := { name := "fnExactPartOfGraph", fn := fun _ => fun
  | [d1, d2] => { results := [.lit (.bool false)], args := [d1, d2] }
  | _ => none }
def FnExactPartOfGraphWrongFalsely : Prop := fnExactPartOfGraphRow.holds Try.pinned (OpenSpec.ofChange fnExactPartOfGraphWrong)

/-- 'laws.FnExactDueOfLast': WHATEVER THE INPUT: true; the input reads as it did. -/
def fnExactDueOfLastSpec : ChangeSpec := { name := "fnExactDueOfLast", fn := fun _ => fun
  | [d1, d2, d3] => { results := [.lit (.bool true)], args := [d1, d2, d3] }
  | _ => none }
def fnExactDueOfLastRow : OpenClaim := { program := "ytpmebacdmilecaa", sum := "68b816cb42c2e91e220b27075c216145889b1bea55a1a1540fa47595ac39b079", func := "loop.example/g00941/laws.FnExactDueOfLast", spec := "fnExactDueOfLast", unfollowed := true, recurses := true, apart := false }
def FnExactDueOfLastSaid : Prop := fnExactDueOfLastRow.holds Try.pinned (OpenSpec.ofChange fnExactDueOfLastSpec)

/-- ITS FALSE NEIGHBOUR: 'it returns false'. Refute it at one input. -/
def fnExactDueOfLastWrong : ChangeSpec := { name := "fnExactDueOfLast", fn := fun _ => fun
  | [d1, d2, d3] => { results := [.lit (.bool false)], args := [d1, d2, d3] }
  | _ => none }
def FnExactDueOfLastWrongFalsely : Prop := fnExactDueOfLastRow.holds Try.pinned (OpenSpec.ofChange fnExactDueOfLastWrong)

/-- 'laws.FnExactParallelSystem': WHATEVER THE INPUT: true; the input reads as it did. -/
def fnExactParallelSystemSpec : ChangeSpec := { name := "fnExactParallelSystem", fn := fun _ => fun
  | [d1, d2] => { results := [.lit (.bool true)], args := [d1, d2] }
  | _ => none }
def fnExactParallelSystemRow : OpenClaim := { program := "ytpmebacdmilecaa", sum := "68b816cb42c2e91e220b27075c216145889b1bea55a1a1540fa47595ac39b079", func := "loop.example/g00941/laws.FnExactParallelSystem", spec := "fnExactParallelSystem", unfollowed := true, recurses := true, apart := false }
def FnExactParallelSystemSaid : Prop := fnExactParallelSystemRow.holds Try.pinned (OpenSpec.ofChange fnExactParallelSystemSpec)

/-- ITS FALSE NEIGHBOUR: 'it returns false'. Refute it at one input. -/
def fnExactParallelSystemWrong : ChangeSpec := { name := "fnExactParallelSystem", fn := fun _ => fun
  | [d1, d2] => { results := [.lit (.bool false)], args := [d1, d2] }
  | _ => none }
def FnExactParallelSystemWrongFalsely : Prop := fnExactParallelSystemRow.holds Try.pinned (OpenSpec.ofChange fnExactParallelSystemWrong)

/-- 'laws.FnExactSeriesSystem': WHATEVER THE INPUT: true; the input reads as it did. -/
def fnExactSeriesSystemSpec : ChangeSpec := { name := "fnExactSeriesSystem", fn := fun _ => fun
  | [d1, d2] => { results := [.lit (.bool true)], args := [d1, d2] }
  | _ => none }
def fnExactSeriesSystemRow : OpenClaim := { program := "ytpmebacdmilecaa", sum := "68b816cb42c2e91e220b27075c216145889b1bea55a1a1540fa47595ac39b079", func := "loop.example/g00941/laws.FnExactSeriesSystem", spec := "fnExactSeriesSystem", unfollowed := true, recurses := true, apart := false }
def FnExactSeriesSystemSaid : Prop := fnExactSeriesSystemRow.holds Try.pinned (OpenSpec.ofChange fnExactSeriesSystemSpec)

/-- ITS FALSE NEIGHBOUR: 'it returns false'. Refute it at one input. -/
def fnExactSeriesSystemWrong : ChangeSpec := { name := "fnExactSeriesSystem", fn := fun _ => fun
  | [d1, d2] => { results := [.lit (.bool false)], args := [d1, d2] }
  | _ => none }
def FnExactSeriesSystemWrongFalsely : Prop := fnExactSeriesSystemRow.holds Try.pinned (OpenSpec.ofChange fnExactSeriesSystemWrong)

/-- 'laws.FnExactTotalDelay': WHATEVER THE INPUT: true; the input reads as it did. -/
def fnExactTotalDelaySpec : ChangeSpec := { name := "fnExactTotalDelay", fn := fun _ => fun
  | [d1, d2, d3] => { results := [.lit (.bool true)], args := [d1, d2, d3] }
  | _ => none }
def fnExactTotalDelayRow : OpenClaim := { program := "ytpmebacdmilecaa", sum := "68b816cb42c2e91e220b27075c216145889b1bea55a1a1540fa47595ac39b079", func := "loop.example/g00941/laws.FnExactTotalDelay", spec := "fnExactTotalDelay", unfollowed := true, recurses := true, apart := false }
def FnExactTotalDelaySaid : Prop := fnExactTotalDelayRow.holds Try.pinned (OpenSpec.ofChange fnExactTotalDelaySpec)

/-- ITS FALSE NEIGHBOUR: 'it returns false'. Refute it at one input. -/
def fnExactTotalDelayWrong : ChangeSpec := { name := "fnExactTotalDelay", fn := fun _ => fun
  | [d1, d2, d3] => { results := [.lit (.bool false)], args := [d1, d2, d3] }
  | _ => none }
def FnExactTotalDelayWrongFalsely : Prop := fnExactTotalDelayRow.holds Try.pinned (OpenSpec.ofChange fnExactTotalDelayWrong)

/-- 'laws.FnExactLatestTimes': WHATEVER THE INPUT: true; the input reads as it did. -/
def fnExactLatestTimesSpec : ChangeSpec := { name := "fnExactLatestTimes", fn := fun _ => fun
  | [d1, d2] => { results := [.lit (.bool true)], args := [d1, d2] }
  | _ => none }
def fnExactLatestTimesRow : OpenClaim := { program := "ytpmebacdmilecaa", sum := "68b816cb42c2e91e220b27075c216145889b1bea55a1a1540fa47595ac39b079", func := "loop.example/g00941/laws.FnExactLatestTimes", spec := "fnExactLatestTimes", unfollowed := true, recurses := true, apart := false }
def FnExactLatestTimesSaid : Prop := fnExactLatestTimesRow.holds Try.pinned (OpenSpec.ofChange fnExactLatestTimesSpec)

/-- ITS FALSE NEIGHBOUR: 'it returns false'. Refute it at one input. -/
def fnExactLatestTimesWrong : ChangeSpec := { name := "fnExactLatestTimes", fn := fun _ => fun
  | [d1, d2] => { results := [.lit (.bool false)], args := [d1, d2] }
  | _ => none }
def FnExactLatestTimesWrongFalsely : Prop := fnExactLatestTimesRow.holds Try.pinned (OpenSpec.ofChange fnExactLatestTimesWrong)

/-- 'laws.FnExactFloatsOf': WHATEVER THE INPUT: true; the input reads as it did. -/
def fnExactFloatsOfSpec : ChangeSpec := { name := "fnExactFloatsOf", fn := fun _ => fun
  | [d1, d2] => { results := [.lit (.bool true)], args := [d1, d2] }
  | _ => none }
def fnExactFloatsOfRow : OpenClaim := { program := "ytpmebacdmilecaa", sum := "68b816cb42c2e91e220b27075c216145889b1bea55a1a1540fa47595ac39b079", func := "loop.example/g00941/laws.FnExactFloatsOf", spec := "fnExactFloatsOf", unfollowed := true, recurses := true, apart := false }
def FnExactFloatsOfSaid : Prop := fnExactFloatsOfRow.holds Try.pinned (OpenSpec.ofChange fnExactFloatsOfSpec)

/-- ITS FALSE NEIGHBOUR: 'it returns false'. Refute it at one input. -/
def fnExactFloatsOfWrong : ChangeSpec := { name := "fnExactFloatsOf", fn := fun _ => fun
  | [d1, d2] => { results := [.lit (.bool false)], args := [d1, d2] }
  | _ => none }
def FnExactFloatsOfWrongFalsely : Prop := fnExactFloatsOfRow.holds Try.pinned (OpenSpec.ofChange fnExactFloatsOfWrong)

/-- 'laws.FnExactCanMeet': WHATEVER THE INPUT: true; the input reads as it did. -/
def fnExactCanMeetSpec : ChangeSpec := { name := "fnExactCanMeet", fn := fun _ => fun
  | [d1, d2] => { results := [.lit (.bool true)], args := [d1, d2] }
  | _ => none }
def fnExactCanMeetRow : OpenClaim := { program := "ytpmebacdmilecaa", sum := "68b816cb42c2e91e220b27075c216145889b1bea55a1a1540fa47595ac39b079", func := "loop.example/g00941/laws.FnExactCanMeet", spec := "fnExactCanMeet", unfollowed := true, recurses := true, apart := false }
def FnExactCanMeetSaid : Prop := fnExactCanMeetRow.holds Try.pinned (OpenSpec.ofChange fnExactCanMeetSpec)

/-- ITS FALSE NEIGHBOUR: 'it returns false'. Refute it at one input. -/
def fnExactCanMeetWrong : ChangeSpec := { name := "fnExactCanMeet", fn := fun _ => fun
  | [d1, d2] => { results := [.lit (.bool false)], args := [d1, d2] }
  | _ => none }
def FnExactCanMeetWrongFalsely : Prop := fnExactCanMeetRow.holds Try.pinned (OpenSpec.ofChange fnExactCanMeetWrong)

/-- 'laws.FnExactCriticalFirings': WHATEVER THE INPUT: true; the input reads as it did. -/
def fnExactCriticalFiringsSpec : ChangeSpec := { name := "fnExactCriticalFirings", fn := fun _ => fun
  | [d1, d2] => { results := [.lit (.bool true)], args := [d1, d2] }
  | _ => none }
def fnExactCriticalFiringsRow : OpenClaim := { program := "ytpmebacdmilecaa", sum := "68b816cb42c2e91e220b27075c216145889b1bea55a1a1540fa47595ac39b079", func := "loop.example/g00941/laws.FnExactCriticalFirings", spec := "fnExactCriticalFirings", unfollowed := true, recurses := true, apart := false }
def FnExactCriticalFiringsSaid : Prop := fnExactCriticalFiringsRow.holds Try.pinned (OpenSpec.ofChange fnExactCriticalFiringsSpec)

/-- ITS FALSE NEIGHBOUR: 'it returns false'. Refute it at one input. -/
def fnExactCriticalFiringsWrong : ChangeSpec := { name := "fnExactCriticalFirings", fn := fun _ => fun
  | [d1, d2] => { results := [.lit (.bool false)], args := [d1, d2] }
  | _ => none }
def FnExactCriticalFiringsWrongFalsely : Prop := fnExactCriticalFiringsRow.holds Try.pinned (OpenSpec.ofChange fnExactCriticalFiringsWrong)

/- THE SECOND FORM. 'bulk': how many values and letters a reading holds, each counted each time it is reached (what is shared counts as often as it is met; a slice's spare places count too). A statement '..UptoSaid' is the law's where the arguments, and the package variables that the reading takes, are together of bulk at most 1048576: NARROWER than '..Said'. Prove '..Said' where nothing that the law and all that it calls make is longer than what came in: it says more and counts as full. Else prove '..UptoSaid'. A law counts once. -/
mutual
def uptoBulk {H : Type} : DataW H → Nat
  | .lit (.string bytes) => bytes.length + 1
  | .lit _ => 1
  | .nil => 1
  | .ptr d => uptoBulk d + 1
  | .slice elems spare => uptoBulkAll elems + uptoBulkAll spare + 1
  | .agg parts => uptoBulkAll parts + 1
  | .iface _ d => uptoBulk d + 1
  | .map entries => uptoBulkEntries entries + 1
  | .held _ => 1
def uptoBulkAll {H : Type} : List (DataW H) → Nat
  | [] => 0
  | d :: r => uptoBulk d + uptoBulkAll r
def uptoBulkEntries {H : Type} : List (Lit × DataW H) → Nat
  | [] => 0
  | x :: r => uptoBulkEntry x + uptoBulkEntries r
def uptoBulkEntry {H : Type} : Lit × DataW H → Nat
  | (.string bytes, d) => bytes.length + uptoBulk d + 1
  | (_, d) => uptoBulk d + 1
 end
def uptoSmall : (H : Type) → List (DataW H) → Bool := fun _ ds => decide (uptoBulkAll ds ≤ 1048576)
def OpenSpec.upto (s : _root_.Go.ChangeSpec) : _root_.Go.OpenSpec := { _root_.Go.OpenSpec.ofChange s with cond := some uptoSmall }

/-- 'laws.FnExactGreatestAfter', WHERE WHAT IT READS IS OF BULK AT MOST 1048576: true; the input reads as it did. -/
def fnExactGreatestAfterUptoRow : OpenClaim := { program := "ytpmebacdmilecaa", sum := "68b816cb42c2e91e220b27075c216145889b1bea55a1a1540fa47595ac39b079", func := "loop.example/g00941/laws.FnExactGreatestAfter", spec := "fnExactGreatestAfter", unfollowed := true, recurses := true, apart := false, narrowed := true }
def FnExactGreatestAfterUptoSaid : Prop := fnExactGreatestAfterUptoRow.holds Try.pinned (OpenSpec.upto fnExactGreatestAfterSpec)

/-- 'laws.FnExactRelabelGraph', WHERE WHAT IT READS IS OF BULK AT MOST 1048576: true; the input reads as it did. -/
def fnExactRelabelGraphUptoRow : OpenClaim := { program := "ytpmebacdmilecaa", sum := "68b816cb42c2e91e220b27075c216145889b1bea55a1a1540fa47595ac39b079", func := "loop.example/g00941/laws.FnExactRelabelGraph", spec := "fnExactRelabelGraph", unfollowed := true, recurses := true, apart := false, narrowed := true }
def FnExactRelabelGraphUptoSaid : Prop := fnExactRelabelGraphUptoRow.holds Try.pinned (OpenSpec.upto fnExactRelabelGraphSpec)

/-- 'laws.FnExactPartOfGraph', WHERE WHAT IT READS IS OF BULK AT MOST 1048576: true; the input reads as it did. -/
def fnExactPartOfGraphUptoRow : OpenClaim := { program := "ytpmebacdmilecaa", sum := "68b816cb42c2e91e220b27075c216145889b1bea55a1a1540fa47595ac39b079", func := "loop.example/g00941/laws.FnExactPartOfGraph", spec := "fnExactPartOfGraph", unfollowed := true, recurses := true, apart := false, narrowed := true }
def FnExactPartOfGraphUptoSaid : Prop := fnExactPartOfGraphUptoRow.holds Try.pinned (OpenSpec.upto fnExactPartOfGraphSpec)

/-- 'laws.FnExactDueOfLast', WHERE WHAT IT READS IS OF BULK AT MOST 1048576: true; the input reads as it did. -/
def fnExactDueOfLastUptoRow : OpenClaim := { program := "ytpmebacdmilecaa", sum := "68b816cb42c2e91e220b27075c216145889b1bea55a1a1540fa47595ac39b079", func := "loop.example/g00941/laws.FnExactDueOfLast", spec := "fnExactDueOfLast", unfollowed := true, recurses := true, apart := false, narrowed := true }
def FnExactDueOfLastUptoSaid : Prop := fnExactDueOfLastUptoRow.holds Try.pinned (OpenSpec.upto fnExactDueOfLastSpec)

/-- 'laws.FnExactParallelSystem', WHERE WHAT IT READS IS OF BULK AT MOST 1048576: true; the input reads as it did. -/
def fnExactParallelSystemUptoRow : OpenClaim := { program := "ytpmebacdmilecaa", sum := "68b816cb42c2e91e220b27075c216145889b1bea55a1a1540fa47595ac39b079", func := "loop.example/g00941/laws.FnExactParallelSystem", spec := "fnExactParallelSystem", unfollowed := true, recurses := true, apart := false, narrowed := true }
def FnExactParallelSystemUptoSaid : Prop := fnExactParallelSystemUptoRow.holds Try.pinned (OpenSpec.upto fnExactParallelSystemSpec)

/-- 'laws.FnExactSeriesSystem', WHERE WHAT IT READS IS OF BULK AT MOST 1048576: true; the input reads as it did. -/
def fnExactSeriesSystemUptoRow : OpenClaim := { program := "ytpmebacdmilecaa", sum := "68b816cb42c2e91e220b27075c216145889b1bea55a1a1540fa47595ac39b079", func := "loop.example/g00941/laws.FnExactSeriesSystem", spec := "fnExactSeriesSystem", unfollowed := true, recurses := true, apart := false, narrowed := true }
def FnExactSeriesSystemUptoSaid : Prop := fnExactSeriesSystemUptoRow.holds Try.pinned (OpenSpec.upto fnExactSeriesSystemSpec)

/-- 'laws.FnExactTotalDelay', WHERE WHAT IT READS IS OF BULK AT MOST 1048576: true; the input reads as it did. -/
def fnExactTotalDelayUptoRow : OpenClaim := { program := "ytpmebacdmilecaa", sum := "68b816cb42c2e91e220b27075c216145889b1bea55a1a1540fa47595ac39b079", func := "loop.example/g00941/laws.FnExactTotalDelay", spec := "fnExactTotalDelay", unfollowed := true, recurses := true, apart := false, narrowed := true }
def FnExactTotalDelayUptoSaid : Prop := fnExactTotalDelayUptoRow.holds Try.pinned (OpenSpec.upto fnExactTotalDelaySpec)

/-- 'laws.FnExactLatestTimes', WHERE WHAT IT READS IS OF BULK AT MOST 1048576: true; the input reads as it did. -/
def fnExactLatestTimesUptoRow : OpenClaim := { program := "ytpmebacdmilecaa", sum := "68b816cb42c2e91e220b27075c216145889b1bea55a1a1540fa47595ac39b079", func := "loop.example/g00941/laws.FnExactLatestTimes", spec := "fnExactLatestTimes", unfollowed := true, recurses := true, apart := false, narrowed := true }
def FnExactLatestTimesUptoSaid : Prop := fnExactLatestTimesUptoRow.holds Try.pinned (OpenSpec.upto fnExactLatestTimesSpec)

/-- 'laws.FnExactFloatsOf', WHERE WHAT IT READS IS OF BULK AT MOST 1048576: true; the input reads as it did. -/
def fnExactFloatsOfUptoRow : OpenClaim := { program := "ytpmebacdmilecaa", sum := "68b816cb42c2e91e220b27075c216145889b1bea55a1a1540fa47595ac39b079", func := "loop.example/g00941/laws.FnExactFloatsOf", spec := "fnExactFloatsOf", unfollowed := true, recurses := true, apart := false, narrowed := true }
def FnExactFloatsOfUptoSaid : Prop := fnExactFloatsOfUptoRow.holds Try.pinned (OpenSpec.upto fnExactFloatsOfSpec)

/-- 'laws.FnExactCanMeet', WHERE WHAT IT READS IS OF BULK AT MOST 1048576: true; the input reads as it did. -/
def fnExactCanMeetUptoRow : OpenClaim := { program := "ytpmebacdmilecaa", sum := "68b816cb42c2e91e220b27075c216145889b1bea55a1a1540fa47595ac39b079", func := "loop.example/g00941/laws.FnExactCanMeet", spec := "fnExactCanMeet", unfollowed := true, recurses := true, apart := false, narrowed := true }
def FnExactCanMeetUptoSaid : Prop := fnExactCanMeetUptoRow.holds Try.pinned (OpenSpec.upto fnExactCanMeetSpec)

/-- 'laws.FnExactCriticalFirings', WHERE WHAT IT READS IS OF BULK AT MOST 1048576: true; the input reads as it did. -/
def fnExactCriticalFiringsUptoRow : OpenClaim := { program := "ytpmebacdmilecaa", sum := "68b816cb42c2e91e220b27075c216145889b1bea55a1a1540fa47595ac39b079", func := "loop.example/g00941/laws.FnExactCriticalFirings", spec := "fnExactCriticalFirings", unfollowed := true, recurses := true, apart := false, narrowed := true }
def FnExactCriticalFiringsUptoSaid : Prop := fnExactCriticalFiringsUptoRow.holds Try.pinned (OpenSpec.upto fnExactCriticalFiringsSpec)

end Rows
end Go.Proofs.Ytpmebacdmilecaa
