/-
  Max-plus closures of square tables: walks of at most k arcs, the elimination of nodes, positive cycles.
-/
import Derived.Test.YtebmlphobgaboaaCyc
namespace Go.Proofs.Ytebmlphobgaboaa

/-! ### The algebra's product and greatest terms -/
/-- a value or nothing, of a size -/
def Okw (M x : Int) : Prop := x = -1000000000000000 ∨ (-M ≤ x ∧ x ≤ M)
/-! ### Walks of at most k arcs -/
def TabOk (a : Nat → Nat → Int) (n : Nat) : Prop := ∀ i j, i < n → j < n → Okw 1000000 (a i j)

section walks
variable {a : Nat → Nat → Int} {n : Nat} (ha : TabOk a n)
include ha

/-! ### Where the powers do not settle there is a positive closed walk -/
end walks

/-- an arc from u to v -/
def arcB (a : Nat → Nat → Int) (u v : Nat) : Bool := decide (a v u ≠ -1000000000000000)
theorem arcB_true {a : Nat → Nat → Int} {u v : Nat} : arcB a u v = true ↔ a v u ≠ -1000000000000000 := by unfold arcB; simp
/-! ### The elimination of nodes -/
section elim
variable {a : Nat → Nat → Int} {n : Nat} (ha : TabOk a n)
include ha

end elim

end Go.Proofs.Ytebmlphobgaboaa
