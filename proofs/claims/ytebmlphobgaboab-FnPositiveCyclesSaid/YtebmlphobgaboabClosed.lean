/- Closed facts of the program that read its order word, each by itself: they cost most. -/
import Derived.Test.YtebmlphobgaboabRows
import Derived.Test.YtebmlphobgaboabChecked
import Derived.JoinedOf
import Derived.Test.YtebmlphobgaboabRow
namespace Go.Proofs.Ytebmlphobgaboab
open Go.RowKit

theorem words_is : behindMainWord (wordsSigns Try.pinned.checked.prog.initOrder.toList) = ["cut".toList, "at".toList, "loop.example/g00941/laws.FnTasks".toList, "loop.example/g00941/laws.FnStars".toList, "loop.example/g00941/laws.FnPositiveCycles".toList, "loop.example/g00941/laws.FnLatest".toList, "loop.example/g00941/laws.FnLatestTables".toList, "loop.example/g00941/laws.FnDelays".toList] := by kernel_rfl

theorem mayEnter_is : Try.pinned.checked.prog.mayEnter = true := by
  unfold Program.mayEnter
  rw [words_is]
  kernel_rfl

theorem liftsFinal_is : Try.pinned.checked.prog.liftsFinal = false := by
  unfold Program.liftsFinal Program.headLifts
  rw [words_is]
  kernel_rfl

theorem make_is : Try.pinned.checked.prog.make = some .cut := by
  unfold Program.make
  rw [words_is]
  kernel_rfl

end Go.Proofs.Ytebmlphobgaboab
