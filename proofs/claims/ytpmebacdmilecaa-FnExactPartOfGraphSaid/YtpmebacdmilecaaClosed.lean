/- Closed facts of the program that read its order word, each by itself: they cost most. -/
import Derived.Test.YtpmebacdmilecaaRows
import Derived.Test.YtpmebacdmilecaaChecked
import Derived.JoinedOf
import Derived.Test.YtpmebacdmilecaaRow
namespace Go.Proofs.Ytpmebacdmilecaa
open Go.RowKit

theorem words_is : behindMainWord (wordsSigns Try.pinned.checked.prog.initOrder.toList) = ["cut".toList, "at".toList, "loop.example/g00941/laws.FnExactGreatestAfter".toList, "loop.example/g00941/laws.FnExactRelabelGraph".toList, "loop.example/g00941/laws.FnExactPartOfGraph".toList, "loop.example/g00941/laws.FnExactDueOfLast".toList, "loop.example/g00941/laws.FnExactParallelSystem".toList, "loop.example/g00941/laws.FnExactSeriesSystem".toList, "loop.example/g00941/laws.FnExactTotalDelay".toList, "loop.example/g00941/laws.FnExactLatestTimes".toList, "loop.example/g00941/laws.FnExactFloatsOf".toList, "loop.example/g00941/laws.FnExactCanMeet".toList, "loop.example/g00941/laws.FnExactCriticalFirings".toList] := by kernel_rfl

theorem mayEnter_is : Try.pinned.checked.prog.mayEnter = true := by
  unfold Program.mayEnter
  rw [words_is]
  kernel_rfl

theorem liftsFinal_is : Try.pinned.checked.prog.liftsFinal = false := by
  unfold Program.liftsFinal Program.headLifts
  rw [words_is]
  kernel_rfl

theorem make_is : Try.pinned.checked.prog.make = some .cut := by
  unfold Program.make
  rw [words_is]
  kernel_rfl

end Go.Proofs.Ytpmebacdmilecaa
