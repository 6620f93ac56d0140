/- Arguments as lists. -/
import Derived.Test.YtebmlphobgaboaaLiftX
import Derived.Test.YtebmlphobgaboaaMem
namespace Go.Proofs.Ytebmlphobgaboaa
open Go.RowKit

end Go.Proofs.Ytebmlphobgaboaa
