/- Closed facts of the program that read its order word, each by itself: they cost most. -/
import Derived.Test.YtgkgimglgjfcjaaRows
import Derived.Test.YtgkgimglgjfcjaaChecked
import Derived.JoinedOf
import Derived.Test.YtgkgimglgjfcjaaRow
namespace Go.Proofs.Ytgkgimglgjfcjaa
open Go.RowKit

theorem words_is : behindMainWord (wordsSigns Try.pinned.checked.prog.initOrder.toList) = ["cut".toList, "at".toList, "loop.example/g00941/laws.FnExactSeriesSystem".toList, "loop.example/g00941/laws.FnSeries".toList, "loop.example/g00941/laws.FnOutputs".toList, "loop.example/g00941/laws.FnJustInTime".toList, "loop.example/g00941/laws.FnJoined".toList, "loop.example/g00941/laws.FnUnrolled".toList, "loop.example/g00941/laws.FnReversed".toList] := by kernel_rfl

theorem mayEnter_is : Try.pinned.checked.prog.mayEnter = true := by
  unfold Program.mayEnter
  rw [words_is]
  kernel_rfl

theorem liftsFinal_is : Try.pinned.checked.prog.liftsFinal = false := by
  unfold Program.liftsFinal Program.headLifts
  rw [words_is]
  kernel_rfl

theorem make_is : Try.pinned.checked.prog.make = some .cut := by
  unfold Program.make
  rw [words_is]
  kernel_rfl

end Go.Proofs.Ytgkgimglgjfcjaa
