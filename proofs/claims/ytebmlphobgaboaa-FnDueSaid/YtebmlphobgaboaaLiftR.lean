/-
  Parts of slices that came in.
-/
import Derived.Test.YtebmlphobgaboaaLiftQ
namespace Go.Proofs.Ytebmlphobgaboaa
open Go.RowKit
variable {dd : List Deferred}

/-- from an element on -/
def cutFrom {α : Type} (xs : List α) (l : Int) : Option (List α) := if 0 ≤ l ∧ l ≤ (xs.length : Int) then some (xs.drop l.toNat) else none
theorem cutFrom_some {α : Type} {xs ys : List α} {l : Int} (h : cutFrom xs l = some ys) : 0 ≤ l ∧ l ≤ (xs.length : Int) ∧ ys = xs.drop l.toNat := by
  unfold cutFrom at h
  split at h
  · rename_i hc; cases h; exact ⟨hc.1, hc.2, rfl⟩
  · cases h
def cutA (A : Option Addr) (c l s : Nat) : Option Addr := if c = l then A else A.map (·.add (l * s))
theorem Rd.cut {w : World} {A : Option Addr} {cells : List Value} {s l n c : Nat} (h : Rd w A cells) (hn : cells.length = n * s) (hc : n ≤ c) (hl : l ≤ n) : Rd w (cutA A c l s) (cells.drop (l * s)) := by
  unfold cutA
  by_cases e : c = l
  · have : n = l := by omega
    subst this
    rw [if_pos e, ← hn, List.drop_length]; exact Rd.nil _ _
  · rw [if_neg e]
    intro j u hj
    rw [List.getElem?_drop] at hj
    obtain ⟨b, off, rfl, hb, hcell⟩ := h _ u hj
    exact ⟨b, off + l * s, by simp [add_mk], hb, by rw [Nat.add_assoc]; exact hcell⟩
theorem Rd.pre {w : World} {A : Option Addr} {cells : List Value} (k : Nat) (h : Rd w A cells) : Rd w A (cells.take k) := fun j u hj => by
  rw [List.getElem?_take] at hj
  split at hj
  · exact h j u hj
  · cases hj
theorem RdM.cut {w : World} {A : Option Addr} {xs ys : List (List Int)} {l : Int} {n c : Nat} (h : RdM w A xs) (hn : n = xs.length) (hc : n ≤ c) (hy : cutFrom xs l = some ys) : RdM w (cutA A c l.toNat 1) ys := by
  obtain ⟨h0, h1, rfl⟩ := cutFrom_some hy
  obtain ⟨vs, hv, hr⟩ := h
  have hv' : Rd w A (vs.take n) := hv.pre n
  by_cases hlen : n ≤ vs.length
  · have := hv'.cut (s := 1) (l := l.toNat) (n := n) (c := c) (by rw [List.length_take]; omega) hc (by omega)
    rw [Nat.mul_one] at this
    refine ⟨_, this, fun i row hrow => ?_⟩
    rw [List.getElem?_drop] at hrow
    obtain ⟨R, c', e1, e2⟩ := hr _ row hrow
    refine ⟨R, c', ?_, e2⟩
    rw [List.getElem?_drop, List.getElem?_take, if_pos (by have := (List.getElem?_eq_some_iff.1 hrow).1; omega), e1]
  · exfalso
    obtain ⟨R, c', e1, _⟩ := hr (n - 1) xs[n - 1] (List.getElem?_eq_getElem (by omega))
    have := (List.getElem?_eq_some_iff.1 e1).1
    omega
theorem RdC.cut {w : World} {A : Option Addr} {xs ys : List (List (List Int))} {l : Int} {n c : Nat} (h : RdC w A xs) (hn : n = xs.length) (hc : n ≤ c) (hy : cutFrom xs l = some ys) : RdC w (cutA A c l.toNat 1) ys := by
  obtain ⟨h0, h1, rfl⟩ := cutFrom_some hy
  obtain ⟨vs, hv, hr⟩ := h
  have hv' : Rd w A (vs.take n) := hv.pre n
  by_cases hlen : n ≤ vs.length
  · have := hv'.cut (s := 1) (l := l.toNat) (n := n) (c := c) (by rw [List.length_take]; omega) hc (by omega)
    rw [Nat.mul_one] at this
    refine ⟨_, this, fun i row hrow => ?_⟩
    rw [List.getElem?_drop] at hrow
    obtain ⟨R, c', e1, e2⟩ := hr _ row hrow
    refine ⟨R, c', ?_, e2⟩
    rw [List.getElem?_drop, List.getElem?_take, if_pos (by have := (List.getElem?_eq_some_iff.1 hrow).1; omega), e1]
  · exfalso
    obtain ⟨R, c', e1, _⟩ := hr (n - 1) xs[n - 1] (List.getElem?_eq_getElem (by omega))
    have := (List.getElem?_eq_some_iff.1 e1).1
    omega
section
variable {P : Program} {W w : World} {μ : List Nat} {L : List Res} {N : Nat} {E : Env} {o : Oper} {a : Act}
end
end Go.Proofs.Ytebmlphobgaboaa
