/- Closed facts of the program that read its order word, each by itself: they cost most. -/
import Derived.Test.YtmijmamolmoheaaRows
import Derived.Test.YtmijmamolmoheaaChecked
import Derived.JoinedOf
import Derived.Test.YtmijmamolmoheaaRow
namespace Go.Proofs.Ytmijmamolmoheaa
open Go.RowKit

theorem words_is : behindMainWord (wordsSigns Try.pinned.checked.prog.initOrder.toList) = ["cut".toList, "at".toList, "loop.example/g00941/laws.FnExactLeastPeriod".toList, "loop.example/g00941/laws.FnExactPositiveCycle".toList, "loop.example/g00941/laws.FnExactDeadCycle".toList, "loop.example/g00941/laws.FnExactConflictCircuit".toList, "loop.example/g00941/laws.FnExactFindTour".toList, "loop.example/g00941/laws.FnExactEarliestTimetable".toList, "loop.example/g00941/laws.FnExactLatestTimetable".toList, "loop.example/g00941/laws.FnExactEarliestTimes".toList, "loop.example/g00941/laws.FnExactLatestIn".toList, "loop.example/g00941/laws.FnExactTightWindows".toList, "loop.example/g00941/laws.FnExactHighestWord".toList, "loop.example/g00941/laws.FnExactLowestWord".toList, "loop.example/g00941/laws.FnExactFindSqueeze".toList] := by kernel_rfl

theorem mayEnter_is : Try.pinned.checked.prog.mayEnter = true := by
  unfold Program.mayEnter
  rw [words_is]
  kernel_rfl

theorem liftsFinal_is : Try.pinned.checked.prog.liftsFinal = false := by
  unfold Program.liftsFinal Program.headLifts
  rw [words_is]
  kernel_rfl

theorem make_is : Try.pinned.checked.prog.make = some .cut := by
  unfold Program.make
  rw [words_is]
  kernel_rfl

end Go.Proofs.Ytmijmamolmoheaa
