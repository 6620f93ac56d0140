/-
  Parts of slices that came in.
-/
import Derived.Test.YtgkgimglgjfcjaaLiftQ
namespace Go.Proofs.Ytgkgimglgjfcjaa
open Go.RowKit
variable {dd : List Deferred}

/-- from an element on -/
def cutFrom {α : Type} (xs : List α) (l : Int) : Option (List α) := if 0 ≤ l ∧ l ≤ (xs.length : Int) then some (xs.drop l.toNat) else none
theorem cutFrom_some {α : Type} {xs ys : List α} {l : Int} (h : cutFrom xs l = some ys) : 0 ≤ l ∧ l ≤ (xs.length : Int) ∧ ys = xs.drop l.toNat := by
  unfold cutFrom at h
  split at h
  · rename_i hc; cases h; exact ⟨hc.1, hc.2, rfl⟩
  · cases h
/-- up to an element -/
def cutTo {α : Type} (xs : List α) (l : Int) : Option (List α) := if 0 ≤ l ∧ l ≤ (xs.length : Int) then some (xs.take l.toNat) else none
theorem cutTo_some {α : Type} {xs ys : List α} {l : Int} (h : cutTo xs l = some ys) : 0 ≤ l ∧ l ≤ (xs.length : Int) ∧ ys = xs.take l.toNat := by
  unfold cutTo at h
  split at h
  · rename_i hc; cases h; exact ⟨hc.1, hc.2, rfl⟩
  · cases h

def cutA (A : Option Addr) (c l s : Nat) : Option Addr := if c = l then A else A.map (·.add (l * s))
theorem Rd.cut {w : World} {A : Option Addr} {cells : List Value} {s l n c : Nat} (h : Rd w A cells) (hn : cells.length = n * s) (hc : n ≤ c) (hl : l ≤ n) : Rd w (cutA A c l s) (cells.drop (l * s)) := by
  unfold cutA
  by_cases e : c = l
  · have : n = l := by omega
    subst this
    rw [if_pos e, ← hn, List.drop_length]; exact Rd.nil _ _
  · rw [if_neg e]
    intro j u hj
    rw [List.getElem?_drop] at hj
    obtain ⟨b, off, rfl, hb, hcell⟩ := h _ u hj
    exact ⟨b, off + l * s, by simp [add_mk], hb, by rw [Nat.add_assoc]; exact hcell⟩
theorem Rd.pre {w : World} {A : Option Addr} {cells : List Value} (k : Nat) (h : Rd w A cells) : Rd w A (cells.take k) := fun j u hj => by
  rw [List.getElem?_take] at hj
  split at hj
  · exact h j u hj
  · cases hj
theorem Rd.cutInts {w : World} {A : Option Addr} {xs ys : List Int} {l : Int} {n c : Nat} (h : Rd w A (ints xs)) (hn : n = xs.length) (hc : n ≤ c) (hy : cutFrom xs l = some ys) : Rd w (cutA A c l.toNat 1) (ints ys) := by
  obtain ⟨h0, h1, rfl⟩ := cutFrom_some hy
  have := h.cut (s := 1) (l := l.toNat) (n := n) (c := c) (by rw [ints_length]; omega) hc (by omega)
  rw [Nat.mul_one] at this
  unfold ints at this ⊢
  rw [List.map_drop]; exact this
theorem Rd.preInts {w : World} {A : Option Addr} {xs ys : List Int} {l : Int} (h : Rd w A (ints xs)) (hy : cutTo xs l = some ys) : Rd w A (ints ys) := by
  obtain ⟨h0, h1, rfl⟩ := cutTo_some hy
  have := h.pre l.toNat
  unfold ints at this ⊢
  rw [List.map_take]; exact this
theorem leN {n m : Nat} {l : Int} (h : n = m) (hl : l ≤ (m : Int)) : l ≤ (n : Int) := by omega
theorem leC {α : Type} {xs ys : List α} {l : Int} {n c : Nat} (hn : n = xs.length) (hc : n ≤ c) (hy : cutTo xs l = some ys) : l ≤ (c : Int) := by
  have := (cutTo_some hy).2.1
  omega
theorem cut_len {α : Type} {xs ys : List α} {l : Int} {n : Nat} (hn : n = xs.length) (hy : cutFrom xs l = some ys) : n - l.toNat = ys.length := by
  obtain ⟨h0, h1, rfl⟩ := cutFrom_some hy
  rw [List.length_drop, hn]
theorem pre_len {α : Type} {xs ys : List α} {l : Int} (hy : cutTo xs l = some ys) : l.toNat = ys.length := by
  obtain ⟨h0, h1, rfl⟩ := cutTo_some hy
  rw [List.length_take]; omega

section
variable {P : Program} {W w : World} {μ : List Nat} {L : List Res} {N : Nat} {E : Env} {o : Oper} {a : Act}
theorem owns_cap {lo : Nat} {e : TypeId} {s n c : Nat} {A : Option Addr} {xs : List Value} (h : w.ownsRow lo e s (.slice A n c) n xs) : n ≤ c := by
  rcases h.2 with ⟨e1, e2⟩ | ⟨g, cap, cur, e1, _, _, hn, _⟩
  · omega
  · simp only [Value.slice.injEq] at e1
    omega
theorem St.capR {i : Nat} {A : Option Addr} {n c : Nat} {e : TypeId} {s : Nat} {xs : List Value} (h : St μ W w L) (hi : L[i]? = some (.row A n c e s xs)) : n ≤ c := owns_cap (h.res _ _ hi)
theorem elem_is {t e : TypeId} (he : EL P t e) : P.elem t = e := by
  have he' : P.underlying t = some (.slice e) := he
  simp [Program.elem, he']
theorem Y_sliceL {t e : TypeId} {x lo : Operand} {A : Option Addr} {n c by' : Nat} {k : IntKind} {l : Int} {zs : List Value} (ho : o.op = .slice t x (some lo) none none) (hx : evalE E x = some (.slice A n c)) (hlo : evalE E lo = some (.int k l))
    (h0 : 0 ≤ l) (h1 : l ≤ (n : Int)) (he : EL P t e) (hz : TI P e zs by') : Y P μ W L N E o (.slice (cutA A c l.toNat zs.length) (n - l.toNat) (c - l.toNat)) := fun a w hf _ => by
  have ht : P.underlying t = some (.slice (P.elem t)) := by rw [elem_is he]; exact he
  have hs := hz.size w
  simp only [execOp, ho, hf.eval hx, hf.eval hlo, Option.map_some, Option.map_none, Sem.run_bind, run_sliceAt_slice w t _ _ _ _ ht, run_slice_l w t A n c ht k l h0 h1, elem_is he, hs, Result.andThen_ok]
  rfl
theorem Y_sliceH {t e : TypeId} {x hi : Operand} {A : Option Addr} {n c by' : Nat} {k : IntKind} {l : Int} {zs : List Value} (ho : o.op = .slice t x none (some hi) none) (hx : evalE E x = some (.slice A n c)) (hhi : evalE E hi = some (.int k l))
    (h0 : 0 ≤ l) (h1 : l ≤ (c : Int)) (he : EL P t e) (hz : TI P e zs by') : Y P μ W L N E o (.slice A l.toNat c) := fun a w hf _ => by
  have ht : P.underlying t = some (.slice (P.elem t)) := by rw [elem_is he]; exact he
  have hs := hz.size w
  have hA : (if c = 0 then A else A.map (·.add (0 * zs.length))) = A := by
    split
    · rfl
    · cases A with
      | none => rfl
      | some p => simp [Addr.add]
  simp only [execOp, ho, hf.eval hx, hf.eval hhi, Option.map_some, Option.map_none, Sem.run_bind, run_sliceAt_slice w t _ _ _ _ ht, run_slice_h w t A n c ht k l h0 h1, elem_is he, hs, Result.andThen_ok, sliced, hA, Nat.sub_zero]
  rfl
end
end Go.Proofs.Ytgkgimglgjfcjaa
