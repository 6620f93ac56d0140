/-
  Slices of slices of slices that a call makes, reads and writes.
-/
import Derived.Test.YtebmlphobgaboabLiftK
namespace Go.Proofs.Ytebmlphobgaboab
open Go.RowKit
variable {dd : List Deferred}

section
variable {P : Program} {W : World} {μ : List Nat} {L : List Res} {N : Nat} {E : Env} {o : Oper} {ops : Array Oper} {Q : Exit → Act → World → Prop} {K : Act → World → Prop} {a : Act} {w : World} {rest : List Oper}

/-! ### Reading -/
theorem MatH.rd {lo : Nat} {A : Option Addr} {n c : Nat} {e e2 : TypeId} {vs : List Value} {rows : List (List Int)} (h : MatH lo w A n c e e2 vs rows) : RdM w A rows :=
  ⟨vs, owns_rd h.1, fun i row hrow => by obtain ⟨R, c', h1, h2⟩ := h.2.1.2 i row hrow; exact ⟨R, c', h1, owns_rd h2⟩⟩
/-! ### A call that writes one of the parts -/
end
end Go.Proofs.Ytebmlphobgaboab
