/-
  Rounds of relaxations over a list of arcs (Bellman and Ford): they come to rest within as many rounds as there are nodes exactly where no cycle is positive.
-/
import Derived.Test.YtebmlphobgaboaaDfs
namespace Go.Proofs.Ytebmlphobgaboaa

/-- a list of arcs and its table -/
structure Arcs {α : Type} (a : Nat → Nat → Int) (n : Nat) (t f : α → Nat) (w : α → Int) (ps : List α) : Prop where
  lt : ∀ p, p ∈ ps → t p < n ∧ f p < n
  bd : ∀ p, p ∈ ps → -1000000 ≤ w p ∧ w p ≤ 1000000
  ge : ∀ p, p ∈ ps → w p ≤ a (t p) (f p)
  cs : ∀ i j, a i j = -1000000000000000 ∨ ∃ p, p ∈ ps ∧ t p = i ∧ f p = j ∧ a i j = w p
theorem Arcs.ok {α : Type} {a : Nat → Nat → Int} {n : Nat} {t f : α → Nat} {w : α → Int} {ps : List α} (h : Arcs a n t f w ps) : TabOk a n := fun i j _ _ => by
  rcases h.cs i j with e | ⟨p, hp, _, _, e⟩
  · exact .inl e
  · rw [e]; exact .inr (h.bd p hp)
section bf
variable {α : Type} (t f : α → Nat) (w : α → Int)
variable {t f w}
variable {a : Nat → Nat → Int} {n : Nat} {ps : List α}
end bf

end Go.Proofs.Ytebmlphobgaboaa
