/-
  Parts of slices that came in.
-/
import Derived.Test.YtebmlphobgaboabLiftQ
namespace Go.Proofs.Ytebmlphobgaboab
open Go.RowKit
variable {dd : List Deferred}

section
variable {P : Program} {W w : World} {μ : List Nat} {L : List Res} {N : Nat} {E : Env} {o : Oper} {a : Act}
end
end Go.Proofs.Ytebmlphobgaboab
