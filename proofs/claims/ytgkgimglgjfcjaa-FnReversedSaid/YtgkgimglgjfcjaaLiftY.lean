/-
  Slices of slices of slices: written out with one part; parts appended.
-/
import Derived.Test.YtgkgimglgjfcjaaLiftP
import Derived.Laws.StructEq
namespace Go.Proofs.Ytgkgimglgjfcjaa
open Go.RowKit
variable {dd : List Deferred}

section
variable {P : Program} {W : World} {μ : List Nat} {L : List Res} {N : Nat} {E : Env} {o : Oper} {ops : Array Oper} {Q : Exit → Act → World → Prop} {K : Act → World → Prop} {a : Act} {w : World} {rest : List Oper}

/-- records held against each other -/
theorem Y_eqlS {t yt : TypeId} {x y : Operand} {xs ys : Array Value} {b : Bool} (ho : o.op = .binOp .eql t x y yt) (hx : evalE E x = some (.agg xs)) (hy : evalE E y = some (.agg ys)) (hg : P.eqGuardType P.depth t = false) (he : ∀ w, (Op.equalIn 10000 t (.agg xs) (.agg ys)).run P w = .ok b w) : Y P μ W L N E o (.bool b) := fun a w hf _ => by
  simp [execOp, ho, hf.eval hx, hf.eval hy, run_eqGuard_agg, hg, run_eql_struct, he]
theorem Y_neqS {t yt : TypeId} {x y : Operand} {xs ys : Array Value} {b : Bool} (ho : o.op = .binOp .neq t x y yt) (hx : evalE E x = some (.agg xs)) (hy : evalE E y = some (.agg ys)) (hg : P.eqGuardType P.depth t = false) (he : ∀ w, (Op.equalIn 10000 t (.agg xs) (.agg ys)).run P w = .ok b w) : Y P μ W L N E o (.bool (!b)) := fun a w hf _ => by
  simp [execOp, ho, hf.eval hx, hf.eval hy, run_eqGuard_agg, hg, run_neq_struct, he]

end

end Go.Proofs.Ytgkgimglgjfcjaa
