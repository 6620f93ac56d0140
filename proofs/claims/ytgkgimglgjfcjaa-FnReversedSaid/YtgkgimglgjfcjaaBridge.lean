/- Arguments as lists. -/
import Derived.Test.YtgkgimglgjfcjaaLiftX
import Derived.Test.YtgkgimglgjfcjaaMem
namespace Go.Proofs.Ytgkgimglgjfcjaa
open Go.RowKit

end Go.Proofs.Ytgkgimglgjfcjaa
