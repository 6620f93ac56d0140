/-
  Plain words on memory: a slice of numbers, of records of numbers, of slices, as it reads in a world; kept over what leaves old blocks alone.
-/
import Derived.WalkKit
import Derived.WalkSpells
import Derived.WalkLawsBesides
import Derived.Deep.Draws
import Derived.Deep.OwnRows
namespace Go.Proofs.Ytebmlphobgaboab
open Go.RowKit

/-- a slice of n numbers at address A reads as f -/
def RI (w : World) (A : Option Addr) (n : Nat) (f : Nat → Int) : Prop :=
  ∀ i, i < n → ∃ b off, A = some ⟨b, off, none⟩ ∧ b < w.heap.size ∧ w.cell? ⟨b, off + i, none⟩ = some (.int .i64 (f i))

/-- a slice of n records of s numbers at address A reads as f -/
def RR (w : World) (s : Nat) (A : Option Addr) (n : Nat) (f : Nat → Nat → Int) : Prop :=
  ∀ i, i < n → ∃ b off, A = some ⟨b, off, none⟩ ∧ b < w.heap.size ∧ ∀ j, j < s → w.cell? ⟨b, off + i * s + j, none⟩ = some (.int .i64 (f i j))

theorem RI.below {B : Nat} {w w' : World} {A : Option Addr} {n : Nat} {f : Nat → Int} (h : RI w A n f) (hb : Below B w w') (hB : w.heap.size ≤ B) : RI w' A n f := fun i hi => by
  obtain ⟨b, off, e, hl, hc⟩ := h i hi
  exact ⟨b, off, e, Nat.lt_of_lt_of_le hl hb.size, (hb.cell (p := ⟨b, off + i, none⟩) (Nat.lt_of_lt_of_le hl hB)).trans hc⟩

theorem RR.below {B : Nat} {w w' : World} {s : Nat} {A : Option Addr} {n : Nat} {f : Nat → Nat → Int} (h : RR w s A n f) (hb : Below B w w') (hB : w.heap.size ≤ B) : RR w' s A n f := fun i hi => by
  obtain ⟨b, off, e, hl, hc⟩ := h i hi
  exact ⟨b, off, e, Nat.lt_of_lt_of_le hl hb.size, fun j hj => (hb.cell (p := ⟨b, off + i * s + j, none⟩) (Nat.lt_of_lt_of_le hl hB)).trans (hc j hj)⟩

theorem below_N {B : Nat} {a w : World} (h : Below B a w) (n : Nat) : Below B a (w.drewN n) := ⟨h.os, h.tape, h.output, h.size, h.block⟩

open Classical in
/-- the world as it was, but for draws -/
def Drew (w w' : World) : Prop := ∃ m, w' = w.drewN m
theorem Drew.refl (w : World) : Drew w w := ⟨0, rfl⟩
theorem Drew.step {w w' : World} (h : Drew w w') (n : Nat) : Drew w (w'.drewN n) := by
  obtain ⟨m, rfl⟩ := h; exact ⟨m + n, by rw [World.drewN_drewN]⟩
theorem Drew.trans {a b c : World} (h : Drew a b) (k : Drew b c) : Drew a c := by
  obtain ⟨m, rfl⟩ := k; exact h.step m
theorem Drew.below {B : Nat} {w w' : World} (h : Drew w w') : Below B w w' := by
  obtain ⟨m, rfl⟩ := h; exact below_N (Below.refl _ _) _
/-! three new blocks, two new blocks, one: what their cells hold -/
section
variable (W : World) (a b c : Array Value) (s t u : TypeId) (i : Nat)
end

theorem RI.drewN {w : World} {A : Option Addr} {n : Nat} {f : Nat → Int} (h : RI w A n f) (k : Nat) : RI (w.drewN k) A n f := h

theorem RI.congr {w : World} {A : Option Addr} {n : Nat} {f g : Nat → Int} (h : RI w A n f) (e : ∀ i, i < n → f i = g i) : RI w A n g := fun i hi => by
  obtain ⟨b, off, h1, h2, h3⟩ := h i hi
  exact ⟨b, off, h1, h2, by rw [h3, e i hi]⟩

/-- a slice of n slices of numbers, the i-th of L i numbers, reads as f -/
def RM (w : World) (A : Option Addr) (n : Nat) (L : Nat → Nat) (f : Nat → Nat → Int) : Prop :=
  ∀ i, i < n → ∃ b off R c, A = some ⟨b, off, none⟩ ∧ b < w.heap.size ∧ w.cell? ⟨b, off + i, none⟩ = some (.slice R (L i) c) ∧ RI w R (L i) (f i)

theorem RM.below {B : Nat} {w w' : World} {A : Option Addr} {n : Nat} {L : Nat → Nat} {f : Nat → Nat → Int} (h : RM w A n L f) (hb : Below B w w') (hB : w.heap.size ≤ B) : RM w' A n L f := fun i hi => by
  obtain ⟨b, off, R, c, e, hl, hc, hr⟩ := h i hi
  exact ⟨b, off, R, c, e, Nat.lt_of_lt_of_le hl hb.size, (hb.cell (p := ⟨b, off + i, none⟩) (Nat.lt_of_lt_of_le hl hB)).trans hc, hr.below hb hB⟩

theorem RM.drewN {w : World} {A : Option Addr} {n : Nat} {L : Nat → Nat} {f : Nat → Nat → Int} (h : RM w A n L f) (k : Nat) : RM (w.drewN k) A n L f := h

/-- a slice of n slices of slices of numbers -/
def RC (w : World) (A : Option Addr) (n : Nat) (N : Nat → Nat) (L : Nat → Nat → Nat) (f : Nat → Nat → Nat → Int) : Prop :=
  ∀ i, i < n → ∃ b off R c, A = some ⟨b, off, none⟩ ∧ b < w.heap.size ∧ w.cell? ⟨b, off + i, none⟩ = some (.slice R (N i) c) ∧ RM w R (N i) (L i) (f i)

theorem RC.below {B : Nat} {w w' : World} {A : Option Addr} {n : Nat} {N : Nat → Nat} {L : Nat → Nat → Nat} {f : Nat → Nat → Nat → Int} (h : RC w A n N L f) (hb : Below B w w') (hB : w.heap.size ≤ B) : RC w' A n N L f := fun i hi => by
  obtain ⟨b, off, R, c, e, hl, hc, hr⟩ := h i hi
  exact ⟨b, off, R, c, e, Nat.lt_of_lt_of_le hl hb.size, (hb.cell (p := ⟨b, off + i, none⟩) (Nat.lt_of_lt_of_le hl hB)).trans hc, hr.below hb hB⟩

end Go.Proofs.Ytebmlphobgaboab
