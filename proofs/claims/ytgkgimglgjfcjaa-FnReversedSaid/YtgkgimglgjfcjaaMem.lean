/-
  Plain words on memory: a slice of numbers, of records of numbers, of slices, as it reads in a world; kept over what leaves old blocks alone.
-/
import Derived.WalkKit
import Derived.WalkSpells
import Derived.WalkLawsBesides
import Derived.Deep.Draws
import Derived.Deep.OwnRows
namespace Go.Proofs.Ytgkgimglgjfcjaa
open Go.RowKit

/-- a slice of n numbers at address A reads as f -/
def RI (w : World) (A : Option Addr) (n : Nat) (f : Nat → Int) : Prop :=
  ∀ i, i < n → ∃ b off, A = some ⟨b, off, none⟩ ∧ b < w.heap.size ∧ w.cell? ⟨b, off + i, none⟩ = some (.int .i64 (f i))

open Classical in
/-- the world as it was, but for draws -/
def Drew (w w' : World) : Prop := ∃ m, w' = w.drewN m
theorem Drew.step {w w' : World} (h : Drew w w') (n : Nat) : Drew w (w'.drewN n) := by
  obtain ⟨m, rfl⟩ := h; exact ⟨m + n, by rw [World.drewN_drewN]⟩
theorem Drew.trans {a b c : World} (h : Drew a b) (k : Drew b c) : Drew a c := by
  obtain ⟨m, rfl⟩ := k; exact h.step m
/-! three new blocks, two new blocks, one: what their cells hold -/
section
variable (W : World) (a b c : Array Value) (s t u : TypeId) (i : Nat)
end

theorem RI.drewN {w : World} {A : Option Addr} {n : Nat} {f : Nat → Int} (h : RI w A n f) (k : Nat) : RI (w.drewN k) A n f := h

/-- a slice of n slices of numbers, the i-th of L i numbers, reads as f -/
def RM (w : World) (A : Option Addr) (n : Nat) (L : Nat → Nat) (f : Nat → Nat → Int) : Prop :=
  ∀ i, i < n → ∃ b off R c, A = some ⟨b, off, none⟩ ∧ b < w.heap.size ∧ w.cell? ⟨b, off + i, none⟩ = some (.slice R (L i) c) ∧ RI w R (L i) (f i)

theorem RM.drewN {w : World} {A : Option Addr} {n : Nat} {L : Nat → Nat} {f : Nat → Nat → Int} (h : RM w A n L f) (k : Nat) : RM (w.drewN k) A n L f := h

end Go.Proofs.Ytgkgimglgjfcjaa
