/-
  Slices of borrowed rows, guarded ones; copy into a row of an own matrix.
-/
import Derived.Test.YtebmlphobgaboaaLiftH
namespace Go.Proofs.Ytebmlphobgaboaa
open Go.RowKit
variable {dd : List Deferred}

theorem RdM.one {w : World} {A R : Option Addr} {n c : Nat} {xs : List Int} (h : Rd w A [.slice R n c]) (hn : n = xs.length) (h2 : Rd w R (ints xs)) : RdM w A [xs] := by
  subst hn
  refine ⟨_, h, fun i row hi => ?_⟩
  match i with
  | 0 => simp only [List.getElem?_cons_zero, Option.some.injEq] at hi; subst hi; exact ⟨R, c, rfl, h2⟩
  | i + 1 => simp at hi
/-- an own row, or a row of an own matrix that lives on -/
def Pk (A : Option Addr) (n c : Nat) (xs : List Int) (B : Option Addr) (m d : Nat) (ys : List Int) (vs : List Value) (rows : List (List Int)) : Prop :=
  (A = B ∧ n = m ∧ c = d ∧ xs = ys) ∨ ∃ q : Nat, rows[q]? = some xs ∧ vs[q]? = some (.slice A n c)
theorem St.pickRow {μ : List Nat} {W w : World} {L : List Res} {A B R : Option Addr} {n c i j m d k f : Nat} {e e2 : TypeId} {vs : List Value} {rows : List (List Int)} {xs ys : List Int} (hs : St μ W w L) (hi : L[i]? = some (.mat R k f e e2 vs rows)) (hj : L[j]? = some (.row B m d e2 1 (ints ys))) (hn : n = xs.length) (he : Pk A n c xs B m d ys vs rows) : St μ W w [.row A n c e2 1 (ints xs)] := by
  rcases he with ⟨rfl, rfl, rfl, rfl⟩ | ⟨q, h1, h2⟩
  · have := hs.sel [j] (by simp)
    simpa [pickL, hj] using this
  · subst hn
    have hil : i < L.length := (List.getElem?_eq_some_iff.1 hi).1
    have := (hs.takeRow hi ⟨h1, h2⟩).sel [i] (by simp)
    simpa [pickL, List.getElem?_set_self hil] using this

/-- bytes -/
def bytes (xs : List Int) : List Value := xs.map (Value.int .u8)
theorem bytes_at {xs : List Int} {i : Nat} {x : Int} (h : xs[i]? = some x) : (bytes xs)[i]? = some (.int .u8 x) := by unfold bytes; simp [h]
section
variable {P : Program} {N : Nat} {E : Env} {W w : World} {L : List Res} {μ : List Nat} {o : Oper} {ops : Array Oper} {Q : Exit → Act → World → Prop} {K : Act → World → Prop} {rest : List Oper} {a : Act}

theorem Y_convert {t t' : TypeId} {k k' : IntKind} {x : Operand} {m : Int} (ho : o.op = .convert t t' x) (hx : evalE E x = some (.int k m)) (h1 : P.underlying t = some (.int k)) (h2 : P.underlying t' = some (.int k')) : Y P μ W L N E o (.int k' (k'.wrap m)) := fun a w hf _ => by
  simp [execOp, ho, hf.eval hx, convert, run_underlying h1, run_underlying h2, Conv.intToInt]

end

end Go.Proofs.Ytebmlphobgaboaa
