/- Arguments as lists. -/
import Derived.Test.YtebmlphobgaboabLiftX
import Derived.Test.YtebmlphobgaboabMem
namespace Go.Proofs.Ytebmlphobgaboab
open Go.RowKit

end Go.Proofs.Ytebmlphobgaboab
