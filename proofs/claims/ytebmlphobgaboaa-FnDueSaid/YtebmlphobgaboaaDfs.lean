/-
  Searches in depth: a path grows by candidates in order, the first path that is accepted is the answer.
-/
import Derived.Test.YtebmlphobgaboaaStarT
namespace Go.Proofs.Ytebmlphobgaboaa

/-- a path grows by candidates -/
def Steps (cand : List Nat → Nat → Bool) : List Nat → List Nat → Prop
  | _, [] => True
  | p, v :: q => cand p v = true ∧ Steps cand (p ++ [v]) q
/-! ### Cycles in a table -/
def lastN (p : List Nat) : Nat := p.getLastD 0
def headN (p : List Nat) : Nat := p.headD 0
theorem lastN_snoc (p : List Nat) (v : Nat) : lastN (p ++ [v]) = v := by unfold lastN; simp
theorem headN_snoc {p : List Nat} (h : p ≠ []) (q : List Nat) : headN (p ++ q) = headN p := by
  cases p with
  | nil => exact absurd rfl h
  | cons x p => rfl
/-- a path's weight -/
def pathw (a : Nat → Nat → Int) : List Nat → Int
  | [] => 0
  | [_] => 0
  | u :: v :: q => a v u + pathw a (v :: q)
theorem pathw_snoc (a : Nat → Nat → Int) (v : Nat) : ∀ {p : List Nat}, p ≠ [] → pathw a (p ++ [v]) = pathw a p + a v (lastN p)
  | [], h => absurd rfl h
  | [u], _ => by show a v u + 0 = 0 + a v u; omega
  | u :: w :: q, _ => by
    show a w u + pathw a ((w :: q) ++ [v]) = a w u + pathw a (w :: q) + a v (lastN (u :: w :: q))
    rw [pathw_snoc a v (p := w :: q) (by simp)]
    have : lastN (u :: w :: q) = lastN (w :: q) := by unfold lastN; simp [List.getLastD]
    rw [this]; omega
def candW (a : Nat → Nat → Int) (p : List Nat) (v : Nat) : Bool := decide (headN p < v) && arcB a (lastN p) v && !p.contains v
/-! ### The first of a range -/
end Go.Proofs.Ytebmlphobgaboaa
