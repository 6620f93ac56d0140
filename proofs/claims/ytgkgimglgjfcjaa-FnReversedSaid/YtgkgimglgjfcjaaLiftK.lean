/-
  copy, as an operation of the calculus.
-/
import Derived.Test.YtgkgimglgjfcjaaLiftC
import Derived.Laws.IdiomCopy
namespace Go.Proofs.Ytgkgimglgjfcjaa
open Go.RowKit
variable {dd : List Deferred}

section
variable {P : Program} {N : Nat} {E : Env} {W w : World} {L : List Res} {μ : List Nat} {o : Oper} {ops : Array Oper} {Q : Exit → Act → World → Prop} {K : Act → World → Prop} {rest : List Oper} {a : Act}

/-! ### Two writers that may come up in either order -/
section
variable {l : List Oper} {L0 : List Res} {fuel k : Nat} {listed : Array Bool} {K' : Act → World → Prop}
end

end
end Go.Proofs.Ytgkgimglgjfcjaa
