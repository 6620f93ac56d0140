/- Closed facts of the program that read its order word, each by itself: they cost most. -/
import Derived.Test.YtebmlphobgaboaaRows
import Derived.Test.YtebmlphobgaboaaChecked
import Derived.JoinedOf
import Derived.Test.YtebmlphobgaboaaRow
namespace Go.Proofs.Ytebmlphobgaboaa
open Go.RowKit

theorem words_is : behindMainWord (wordsSigns Try.pinned.checked.prog.initOrder.toList) = ["cut".toList, "at".toList, "loop.example/g00941/laws.FnExactHighestWord".toList, "loop.example/g00941/laws.FnExactLowestWord".toList, "loop.example/g00941/laws.FnExactFindSqueeze".toList, "loop.example/g00941/laws.FnSettled".toList, "loop.example/g00941/laws.FnFreeSlacks".toList, "loop.example/g00941/laws.FnDue".toList] := by kernel_rfl

theorem mayEnter_is : Try.pinned.checked.prog.mayEnter = true := by
  unfold Program.mayEnter
  rw [words_is]
  kernel_rfl

theorem liftsFinal_is : Try.pinned.checked.prog.liftsFinal = false := by
  unfold Program.liftsFinal Program.headLifts
  rw [words_is]
  kernel_rfl

theorem make_is : Try.pinned.checked.prog.make = some .cut := by
  unfold Program.make
  rw [words_is]
  kernel_rfl

end Go.Proofs.Ytebmlphobgaboaa
