/-
  Slices of slices of slices that a call makes, reads and writes.
-/
import Derived.Test.YtgkgimglgjfcjaaLiftK
namespace Go.Proofs.Ytgkgimglgjfcjaa
open Go.RowKit
variable {dd : List Deferred}

section
variable {P : Program} {W : World} {μ : List Nat} {L : List Res} {N : Nat} {E : Env} {o : Oper} {ops : Array Oper} {Q : Exit → Act → World → Prop} {K : Act → World → Prop} {a : Act} {w : World} {rest : List Oper}

/-! ### Reading -/
/-! ### A row of a part -/
/-! ### A call that writes one of the parts -/
end
end Go.Proofs.Ytgkgimglgjfcjaa
