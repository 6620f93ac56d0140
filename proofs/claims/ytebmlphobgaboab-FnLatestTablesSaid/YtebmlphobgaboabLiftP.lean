/-
  Slices of borrowed rows, guarded ones; copy into a row of an own matrix.
-/
import Derived.Test.YtebmlphobgaboabLiftH
namespace Go.Proofs.Ytebmlphobgaboab
open Go.RowKit
variable {dd : List Deferred}

theorem RdM.one {w : World} {A R : Option Addr} {n c : Nat} {xs : List Int} (h : Rd w A [.slice R n c]) (hn : n = xs.length) (h2 : Rd w R (ints xs)) : RdM w A [xs] := by
  subst hn
  refine ⟨_, h, fun i row hi => ?_⟩
  match i with
  | 0 => simp only [List.getElem?_cons_zero, Option.some.injEq] at hi; subst hi; exact ⟨R, c, rfl, h2⟩
  | i + 1 => simp at hi
/-- bytes -/
def bytes (xs : List Int) : List Value := xs.map (Value.int .u8)
theorem bytes_at {xs : List Int} {i : Nat} {x : Int} (h : xs[i]? = some x) : (bytes xs)[i]? = some (.int .u8 x) := by unfold bytes; simp [h]
section
variable {P : Program} {N : Nat} {E : Env} {W w : World} {L : List Res} {μ : List Nat} {o : Oper} {ops : Array Oper} {Q : Exit → Act → World → Prop} {K : Act → World → Prop} {rest : List Oper} {a : Act}

theorem Y_convert {t t' : TypeId} {k k' : IntKind} {x : Operand} {m : Int} (ho : o.op = .convert t t' x) (hx : evalE E x = some (.int k m)) (h1 : P.underlying t = some (.int k)) (h2 : P.underlying t' = some (.int k')) : Y P μ W L N E o (.int k' (k'.wrap m)) := fun a w hf _ => by
  simp [execOp, ho, hf.eval hx, convert, run_underlying h1, run_underlying h2, Conv.intToInt]

end

end Go.Proofs.Ytebmlphobgaboab
