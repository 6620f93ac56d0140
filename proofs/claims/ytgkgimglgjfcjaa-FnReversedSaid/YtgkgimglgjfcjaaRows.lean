/-
  No cell of these rows narrows 'for every input' (looked for: loops, veiled, ifaces, maps, wideKeys, modest, calm, conditions, laid).
  DERIVED. THE GIVEN ROWS OF THIS SEAT. 7 by the template 'for every input the law returns true; each argument reads behind the call as it read before'; 0 by the template 'total and deterministic' (their statements: YtgkgimglgjfcjaaTotals.lean).
  GIVEN WITH THE SEED: the statements are not yours to turn. If you find one false, say at which input.
  Laid BY PROGRAM, IN A SANDBOX (cutbox-rows.mjs): the forced cells as the released guide's own fill.sh prints them over the translation d210c6ee1d137059… (all of the seat's roots in one cut). By AI agents, Wed Nov 11 2026. No macro, syntax, notation, axiom, sorry.
-/
import Derived.Test.YtgkgimglgjfcjaaChecked
import GoSem.Claim
import GoSem.ClaimJoined
import GoSem.ClaimMapViews
import Derived.JoinedTies
import Derived.KernelRfl
namespace Go.Proofs.Ytgkgimglgjfcjaa
/- THE CELL 'sum', in the pinned program and in every row, IS THE sha256 OF THE DUMP (.gsa) THAT YtgkgimglgjfcjaaProg.lean LOADS. Nothing in Lean hashes anything: it is a label: what it is worth is what the hold of that sum in a sandbox is worth. -/
noncomputable def Try.pinned : Pinned := { name := "ytgkgimglgjfcjaa", sum := "d210c6ee1d137059a6061c3f8ded57b8dd1462aebb3177e41512879a7cdde408", checked := Try.checked }
namespace Rows
def none {H : Type} : Left H := { results := [], args := [] }

/-- 'laws.FnExactSeriesSystem': WHATEVER THE INPUT: true; the input reads as it did. -/
def fnExactSeriesSystemSpec : ChangeSpec := { name := "fnExactSeriesSystem", fn := fun _ => fun
  | [d1, d2] => { results := [.lit (.bool true)], args := [d1, d2] }
  | _ => none }
def fnExactSeriesSystemRow : OpenClaim := { program := "ytgkgimglgjfcjaa", sum := "d210c6ee1d137059a6061c3f8ded57b8dd1462aebb3177e41512879a7cdde408", func := "loop.example/g00941/laws.FnExactSeriesSystem", spec := "fnExactSeriesSystem", unfollowed := true, recurses := true, apart := false }
def FnExactSeriesSystemSaid : Prop := fnExactSeriesSystemRow.holds Try.pinned (OpenSpec.ofChange fnExactSeriesSystemSpec)

/-- ITS FALSE NEIGHBOUR: 'it returns false'. Refute it at one input. -/
def fnExactSeriesSystemWrong : ChangeSpec := { name := "fnExactSeriesSystem", fn := fun _ => fun
  | [d1, d2] => { results := [.lit (.bool false)], args := [d1, d2] }
  | _ => none }
def FnExactSeriesSystemWrongFalsely : Prop := fnExactSeriesSystemRow.holds Try.pinned (OpenSpec.ofChange fnExactSeriesSystemWrong)

/-- 'laws.FnSeries': WHATEVER THE INPUT: true; the input reads as it did. -/
def fnSeriesSpec : ChangeSpec := { name := "fnSeries", fn := fun _ => fun
  | [d] => { results := [.lit (.bool true)], args := [d] }
  | _ => none }
def fnSeriesRow : OpenClaim := { program := "ytgkgimglgjfcjaa", sum := "d210c6ee1d137059a6061c3f8ded57b8dd1462aebb3177e41512879a7cdde408", func := "loop.example/g00941/laws.FnSeries", spec := "fnSeries", unfollowed := true, recurses := true, apart := false }
def FnSeriesSaid : Prop := fnSeriesRow.holds Try.pinned (OpenSpec.ofChange fnSeriesSpec)

/-- ITS FALSE NEIGHBOUR: 'it returns false'. Refute it at one input. -/
def fnSeriesWrong : ChangeSpec := { name := "fnSeries", fn := fun _ => fun
  | [d] => { results := [.lit (.bool false)], args := [d] }
  | _ => none }
def FnSeriesWrongFalsely : Prop := fnSeriesRow.holds Try.pinned (OpenSpec.ofChange fnSeriesWrong)

/-- 'laws.FnOutputs': WHATEVER THE INPUT: true; the input reads as it did. -/
def fnOutputsSpec : ChangeSpec := { name := "fnOutputs", fn := fun _ => fun
  | [d] => { results := [.lit (.bool true)], args := [d] }
  | _ => none }
def fnOutputsRow : OpenClaim := { program := "ytgkgimglgjfcjaa", sum := "d210c6ee1d137059a6061c3f8ded57b8dd1462aebb3177e41512879a7cdde408", func := "loop.example/g00941/laws.FnOutputs", spec := "fnOutputs", unfollowed := true, recurses := true, apart := false }
def FnOutputsSaid : Prop := fnOutputsRow.holds Try.pinned (OpenSpec.ofChange fnOutputsSpec)

/-- ITS FALSE NEIGHBOUR: 'it returns false'. Refute it at one input. -/
def fnOutputsWrong : ChangeSpec := { name := "fnOutputs", fn := fun _ => fun
  | [d] => { results := [.lit (.bool false)], args := [d] }
  | _ => none }
def FnOutputsWrongFalsely : Prop := fnOutputsRow.holds Try.pinned (OpenSpec.ofChange fnOutputsWrong)

/-- 'laws.FnJustInTime': WHATEVER THE INPUT: true; the input reads as it did. -/
def fnJustInTimeSpec : ChangeSpec := { name := "fnJustInTime", fn := fun _ => fun
  | [d] => { results := [.lit (.bool true)], args := [d] }
  | _ => none }
def fnJustInTimeRow : OpenClaim := { program := "ytgkgimglgjfcjaa", sum := "d210c6ee1d137059a6061c3f8ded57b8dd1462aebb3177e41512879a7cdde408", func := "loop.example/g00941/laws.FnJustInTime", spec := "fnJustInTime", unfollowed := true, recurses := true, apart := false }
def FnJustInTimeSaid : Prop := fnJustInTimeRow.holds Try.pinned (OpenSpec.ofChange fnJustInTimeSpec)

/-- ITS FALSE NEIGHBOUR: 'it returns false'. Refute it at one input. -/
def fnJustInTimeWrong : ChangeSpec := { name := "fnJustInTime", fn := fun _ => fun
  | [d] => { results := [.lit (.bool false)], args := [d] }
  | _ => none }
def FnJustInTimeWrongFalsely : Prop := fnJustInTimeRow.holds Try.pinned (OpenSpec.ofChange fnJustInTimeWrong)

/-- 'laws.FnJoined': WHATEVER THE INPUT: true; the input reads as it did. -/
def fnJoinedSpec : ChangeSpec := { name := "fnJoined", fn := fun _ => fun
  | [d] => { results := [.lit (.bool true)], args := [d] }
  | _ => none }
def fnJoinedRow : OpenClaim := { program := "ytgkgimglgjfcjaa", sum := "d210c6ee1d137059a6061c3f8ded57b8dd1462aebb3177e41512879a7cdde408", func := "loop.example/g00941/laws.FnJoined", spec := "fnJoined", unfollowed := true, recurses := true, apart := false }
def FnJoinedSaid : Prop := fnJoinedRow.holds Try.pinned (OpenSpec.ofChange fnJoinedSpec)

/-- ITS FALSE NEIGHBOUR: 'it returns false'. Refute it at one input. -/
def fnJoinedWrong : ChangeSpec := { name := "fnJoined", fn := fun _ => fun
  | [d] => { results := [.lit (.bool false)], args := [d] }
  | _ => none }
def FnJoinedWrongFalsely : Prop := fnJoinedRow.holds Try.pinned (OpenSpec.ofChange fnJoinedWrong)

/-- 'laws.FnUnrolled': WHATEVER THE INPUT: true; the input reads as it did. -/
def fnUnrolledSpec : ChangeSpec := { name := "fnUnrolled", fn := fun _ => fun
  | [d] => { results := [.lit (.bool true)], args := [d] }
  | _ => none }
def fnUnrolledRow : OpenClaim := { program := "ytgkgimglgjfcjaa", sum := "d210c6ee1d137059a6061c3f8ded57b8dd1462aebb3177e41512879a7cdde408", func := "loop.example/g00941/laws.FnUnrolled", spec := "fnUnrolled", unfollowed := true, recurses := true, apart := false }
def FnUnrolledSaid : Prop := fnUnrolledRow.holds Try.pinned (OpenSpec.ofChange fnUnrolledSpec)

/-- ITS FALSE NEIGHBOUR: 'it returns false'. Refute it at one input. -/
def fnUnrolledWrong : ChangeSpec := { name := "fnUnrolled", fn := fun _ => fun
  | [d] => { results := [.lit (.bool false)], args := [d] }
  | _ => none }
def FnUnrolledWrongFalsely : Prop := fnUnrolledRow.holds Try.pinned (OpenSpec.ofChange fnUnrolledWrong)

/-- 'laws.FnReversed': WHATEVER THE INPUT: true; the input reads as it did. -/
def fnReversedSpec : ChangeSpec := { name := "fnReversed", fn := fun _ => fun
  | [d] => { results := [.lit (.bool true)], args := [d] }
  | _ => none }
def fnReversedRow : OpenClaim := { program := "ytgkgimglgjfcjaa", sum := "d210c6ee1d137059a6061c3f8ded57b8dd1462aebb3177e41512879a7cdde408", func := "loop.example/g00941/laws.FnReversed", spec := "fnReversed", unfollowed := true, recurses := true, apart := false }
def FnReversedSaid : Prop := fnReversedRow.holds Try.pinned (OpenSpec.ofChange fnReversedSpec)

/-- ITS FALSE NEIGHBOUR: 'it returns false'. Refute it at one input. -/
def fnReversedWrong : ChangeSpec := { name := "fnReversed", fn := fun _ => fun
  | [d] => { results := [.lit (.bool false)], args := [d] }
  | _ => none }
def FnReversedWrongFalsely : Prop := fnReversedRow.holds Try.pinned (OpenSpec.ofChange fnReversedWrong)

/- THE SECOND FORM. 'bulk': how many values and letters a reading holds, each counted each time it is reached (what is shared counts as often as it is met; a slice's spare places count too). A statement '..UptoSaid' is the law's where the arguments, and the package variables that the reading takes, are together of bulk at most 1048576: NARROWER than '..Said'. Prove '..Said' where nothing that the law and all that it calls make is longer than what came in: it says more and counts as full. Else prove '..UptoSaid'. A law counts once. -/
mutual
def uptoBulk {H : Type} : DataW H → Nat
  | .lit (.string bytes) => bytes.length + 1
  | .lit _ => 1
  | .nil => 1
  | .ptr d => uptoBulk d + 1
  | .slice elems spare => uptoBulkAll elems + uptoBulkAll spare + 1
  | .agg parts => uptoBulkAll parts + 1
  | .iface _ d => uptoBulk d + 1
  | .map entries => uptoBulkEntries entries + 1
  | .held _ => 1
def uptoBulkAll {H : Type} : List (DataW H) → Nat
  | [] => 0
  | d :: r => uptoBulk d + uptoBulkAll r
def uptoBulkEntries {H : Type} : List (Lit × DataW H) → Nat
  | [] => 0
  | x :: r => uptoBulkEntry x + uptoBulkEntries r
def uptoBulkEntry {H : Type} : Lit × DataW H → Nat
  | (.string bytes, d) => bytes.length + uptoBulk d + 1
  | (_, d) => uptoBulk d + 1
 end
def uptoSmall : (H : Type) → List (DataW H) → Bool := fun _ ds => decide (uptoBulkAll ds ≤ 1048576)
def OpenSpec.upto (s : _root_.Go.ChangeSpec) : _root_.Go.OpenSpec := { _root_.Go.OpenSpec.ofChange s with cond := some uptoSmall }

/-- 'laws.FnExactSeriesSystem', WHERE WHAT IT READS IS OF BULK AT MOST 1048576: true; the input reads as it did. -/
def fnExactSeriesSystemUptoRow : OpenClaim := { program := "ytgkgimglgjfcjaa", sum := "d210c6ee1d137059a6061c3f8ded57b8dd1462aebb3177e41512879a7cdde408", func := "loop.example/g00941/laws.FnExactSeriesSystem", spec := "fnExactSeriesSystem", unfollowed := true, recurses := true, apart := false, narrowed := true }
def FnExactSeriesSystemUptoSaid : Prop := fnExactSeriesSystemUptoRow.holds Try.pinned (OpenSpec.upto fnExactSeriesSystemSpec)

/-- 'laws.FnSeries', WHERE WHAT IT READS IS OF BULK AT MOST 1048576: true; the input reads as it did. -/
def fnSeriesUptoRow : OpenClaim := { program := "ytgkgimglgjfcjaa", sum := "d210c6ee1d137059a6061c3f8ded57b8dd1462aebb3177e41512879a7cdde408", func := "loop.example/g00941/laws.FnSeries", spec := "fnSeries", unfollowed := true, recurses := true, apart := false, narrowed := true }
def FnSeriesUptoSaid : Prop := fnSeriesUptoRow.holds Try.pinned (OpenSpec.upto fnSeriesSpec)

/-- 'laws.FnOutputs', WHERE WHAT IT READS IS OF BULK AT MOST 1048576: true; the input reads as it did. -/
def fnOutputsUptoRow : OpenClaim := { program := "ytgkgimglgjfcjaa", sum := "d210c6ee1d137059a6061c3f8ded57b8dd1462aebb3177e41512879a7cdde408", func := "loop.example/g00941/laws.FnOutputs", spec := "fnOutputs", unfollowed := true, recurses := true, apart := false, narrowed := true }
def FnOutputsUptoSaid : Prop := fnOutputsUptoRow.holds Try.pinned (OpenSpec.upto fnOutputsSpec)

/-- 'laws.FnJustInTime', WHERE WHAT IT READS IS OF BULK AT MOST 1048576: true; the input reads as it did. -/
def fnJustInTimeUptoRow : OpenClaim := { program := "ytgkgimglgjfcjaa", sum := "d210c6ee1d137059a6061c3f8ded57b8dd1462aebb3177e41512879a7cdde408", func := "loop.example/g00941/laws.FnJustInTime", spec := "fnJustInTime", unfollowed := true, recurses := true, apart := false, narrowed := true }
def FnJustInTimeUptoSaid : Prop := fnJustInTimeUptoRow.holds Try.pinned (OpenSpec.upto fnJustInTimeSpec)

/-- 'laws.FnJoined', WHERE WHAT IT READS IS OF BULK AT MOST 1048576: true; the input reads as it did. -/
def fnJoinedUptoRow : OpenClaim := { program := "ytgkgimglgjfcjaa", sum := "d210c6ee1d137059a6061c3f8ded57b8dd1462aebb3177e41512879a7cdde408", func := "loop.example/g00941/laws.FnJoined", spec := "fnJoined", unfollowed := true, recurses := true, apart := false, narrowed := true }
def FnJoinedUptoSaid : Prop := fnJoinedUptoRow.holds Try.pinned (OpenSpec.upto fnJoinedSpec)

/-- 'laws.FnUnrolled', WHERE WHAT IT READS IS OF BULK AT MOST 1048576: true; the input reads as it did. -/
def fnUnrolledUptoRow : OpenClaim := { program := "ytgkgimglgjfcjaa", sum := "d210c6ee1d137059a6061c3f8ded57b8dd1462aebb3177e41512879a7cdde408", func := "loop.example/g00941/laws.FnUnrolled", spec := "fnUnrolled", unfollowed := true, recurses := true, apart := false, narrowed := true }
def FnUnrolledUptoSaid : Prop := fnUnrolledUptoRow.holds Try.pinned (OpenSpec.upto fnUnrolledSpec)

/-- 'laws.FnReversed', WHERE WHAT IT READS IS OF BULK AT MOST 1048576: true; the input reads as it did. -/
def fnReversedUptoRow : OpenClaim := { program := "ytgkgimglgjfcjaa", sum := "d210c6ee1d137059a6061c3f8ded57b8dd1462aebb3177e41512879a7cdde408", func := "loop.example/g00941/laws.FnReversed", spec := "fnReversed", unfollowed := true, recurses := true, apart := false, narrowed := true }
def FnReversedUptoSaid : Prop := fnReversedUptoRow.holds Try.pinned (OpenSpec.upto fnReversedSpec)

end Rows
end Go.Proofs.Ytgkgimglgjfcjaa
