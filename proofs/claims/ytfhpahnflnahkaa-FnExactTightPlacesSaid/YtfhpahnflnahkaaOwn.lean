/- Memory that a call made: where it lies, that it may be written, and what marking it leaves. -/
import Derived.Test.YtfhpahnflnahkaaMem
namespace Go.Proofs.Ytfhpahnflnahkaa
open Go.RowKit

/-- nothing has turned but in the blocks from l to h -/
structure Only (l h : Nat) (w w' : World) : Prop where
  os : w'.os = w.os
  tape : w'.tape = w.tape
  output : w'.output = w.output
  size : w'.heap.size = w.heap.size
  block : ∀ k, k < l ∨ h ≤ k → w'.heap[k]? = w.heap[k]?

theorem Only.refl (l h : Nat) (w : World) : Only l h w w := ⟨rfl, rfl, rfl, rfl, fun _ _ => rfl⟩
theorem Only.trans {l h : Nat} {a b c : World} (p : Only l h a b) (q : Only l h b c) : Only l h a c :=
  ⟨q.os.trans p.os, q.tape.trans p.tape, q.output.trans p.output, q.size.trans p.size, fun k hk => (q.block k hk).trans (p.block k hk)⟩
theorem Only.wide {l h l' h' : Nat} {a b : World} (p : Only l h a b) (hl : l' ≤ l) (hh : h ≤ h') : Only l' h' a b :=
  ⟨p.os, p.tape, p.output, p.size, fun k hk => p.block k (by omega)⟩
theorem Only.below {l h B : Nat} {a b : World} (p : Only l h a b) (hB : B ≤ l) : Below B a b :=
  ⟨p.os, p.tape, p.output, Nat.le_of_eq p.size.symm, fun k hk => p.block k (by omega)⟩
theorem Only.setCell {l h : Nat} {w : World} {p : Addr} (h1 : l ≤ p.block) (h2 : p.block < h) (u : Value) : Only l h w (w.setCell p u) :=
  ⟨rfl, rfl, rfl, by simp [World.setCell], fun k hk => Below.heap_setCell w p u k (by omega)⟩
theorem Only.drewN {l h : Nat} {a b : World} (p : Only l h a b) (n : Nat) : Only l h a (b.drewN n) := ⟨p.os, p.tape, p.output, p.size, p.block⟩

/-- n numbers at A, in blocks from lo to hi, that may be written -/
def SI (w : World) (lo hi : Nat) (A : Option Addr) (n : Nat) (f : Nat → Int) : Prop :=
  ∀ i, i < n → ∃ b off, A = some ⟨b, off, none⟩ ∧ lo ≤ b ∧ b < hi ∧ b < w.heap.size ∧ w.cell? ⟨b, off + i, none⟩ = some (.int .i64 (f i)) ∧ ∀ o, w.frozen? ⟨b, o, none⟩ = false

/-- n records of s numbers at A -/
def SR (w : World) (lo hi s : Nat) (A : Option Addr) (n : Nat) (f : Nat → Nat → Int) : Prop :=
  ∀ i, i < n → ∃ b off, A = some ⟨b, off, none⟩ ∧ lo ≤ b ∧ b < hi ∧ b < w.heap.size ∧ (∀ j, j < s → w.cell? ⟨b, off + i * s + j, none⟩ = some (.int .i64 (f i j))) ∧ ∀ o, w.frozen? ⟨b, o, none⟩ = false

section
variable {w w' : World} {lo hi : Nat} {A : Option Addr} {n : Nat}
theorem SI.ri {f : Nat → Int} (h : SI w lo hi A n f) : RI w A n f := fun i hi' => by
  obtain ⟨b, off, e, _, _, hl, hc, _⟩ := h i hi'
  exact ⟨b, off, e, hl, hc⟩
theorem SI.congr {f g : Nat → Int} (h : SI w lo hi A n f) (e : ∀ i, i < n → f i = g i) : SI w lo hi A n g := fun i hi' => by
  obtain ⟨b, off, h1, h2, h3, h4, h5, h6⟩ := h i hi'
  exact ⟨b, off, h1, h2, h3, h4, by rw [h5, e i hi'], h6⟩
theorem SI.wide {f : Nat → Int} {lo' hi' : Nat} (h : SI w lo hi A n f) (hl : lo' ≤ lo) (hh : hi ≤ hi') : SI w lo' hi' A n f := fun i hi'' => by
  obtain ⟨b, off, h1, h2, h3, h4⟩ := h i hi''
  exact ⟨b, off, h1, by omega, by omega, h4⟩
theorem SI.of_block {f : Nat → Int} (h : SI w lo hi A n f) (hs : w.heap.size ≤ w'.heap.size) (hb : ∀ k, lo ≤ k → k < hi → k < w.heap.size → w'.heap[k]? = w.heap[k]?) : SI w' lo hi A n f := fun i hi' => by
  obtain ⟨b, off, h1, h2, h3, h4, h5, h6⟩ := h i hi'
  have e := hb b h2 h3 h4
  exact ⟨b, off, h1, h2, h3, by omega, (World.cell?_of_block (a := ⟨b, off + i, none⟩) e).trans h5, fun o => (World.frozen?_of_block (a := ⟨b, o, none⟩) e).trans (h6 o)⟩
theorem SI.below {f : Nat → Int} {B : Nat} (h : SI w lo hi A n f) (hb : Below B w w') (hB : w.heap.size ≤ B) : SI w' lo hi A n f :=
  h.of_block hb.size fun k _ _ hk => hb.block k (by omega)
theorem SI.only {f : Nat → Int} {l m : Nat} (h : SI w lo hi A n f) (ho : Only l m w w') (hd : hi ≤ l ∨ m ≤ lo) : SI w' lo hi A n f :=
  h.of_block (Nat.le_of_eq ho.size.symm) fun k h1 h2 _ => ho.block k (by omega)
theorem SI.of_row {f : Nat → Int} {g t : Nat} (h : w.rowIs g t n (fun q => .int .i64 (f q))) (hl : lo ≤ g) (hh : g < hi) : SI w lo hi (some ⟨g, 0, none⟩) n f := fun i hi' =>
  ⟨g, 0, rfl, hl, hh, h.lt, by rw [Nat.zero_add]; exact h.cell hi', fun o => h.frozen o⟩
theorem SI.nil (f : Nat → Int) : SI w lo hi A 0 f := fun _ hi' => absurd hi' (Nat.not_lt_zero _)

theorem SR.rr {s : Nat} {f : Nat → Nat → Int} (h : SR w lo hi s A n f) : RR w s A n f := fun i hi' => by
  obtain ⟨b, off, e, _, _, hl, hc, _⟩ := h i hi'
  exact ⟨b, off, e, hl, hc⟩
theorem SR.congr {s : Nat} {f g : Nat → Nat → Int} (h : SR w lo hi s A n f) (e : ∀ i, i < n → ∀ j, j < s → f i j = g i j) : SR w lo hi s A n g := fun i hi' => by
  obtain ⟨b, off, h1, h2, h3, h4, h5, h6⟩ := h i hi'
  exact ⟨b, off, h1, h2, h3, h4, fun j hj => by rw [h5 j hj, e i hi' j hj], h6⟩
theorem SR.wide {s : Nat} {f : Nat → Nat → Int} {lo' hi' : Nat} (h : SR w lo hi s A n f) (hl : lo' ≤ lo) (hh : hi ≤ hi') : SR w lo' hi' s A n f := fun i hi'' => by
  obtain ⟨b, off, h1, h2, h3, h4⟩ := h i hi''
  exact ⟨b, off, h1, by omega, by omega, h4⟩
theorem SR.of_block {s : Nat} {f : Nat → Nat → Int} (h : SR w lo hi s A n f) (hs : w.heap.size ≤ w'.heap.size) (hb : ∀ k, lo ≤ k → k < hi → k < w.heap.size → w'.heap[k]? = w.heap[k]?) : SR w' lo hi s A n f := fun i hi' => by
  obtain ⟨b, off, h1, h2, h3, h4, h5, h6⟩ := h i hi'
  have e := hb b h2 h3 h4
  exact ⟨b, off, h1, h2, h3, by omega, fun j hj => (World.cell?_of_block (a := ⟨b, off + i * s + j, none⟩) e).trans (h5 j hj), fun o => (World.frozen?_of_block (a := ⟨b, o, none⟩) e).trans (h6 o)⟩
theorem SR.below {s : Nat} {f : Nat → Nat → Int} {B : Nat} (h : SR w lo hi s A n f) (hb : Below B w w') (hB : w.heap.size ≤ B) : SR w' lo hi s A n f :=
  h.of_block hb.size fun k _ _ hk => hb.block k (by omega)
theorem SR.only {s : Nat} {f : Nat → Nat → Int} {l m : Nat} (h : SR w lo hi s A n f) (ho : Only l m w w') (hd : hi ≤ l ∨ m ≤ lo) : SR w' lo hi s A n f :=
  h.of_block (Nat.le_of_eq ho.size.symm) fun k h1 h2 _ => ho.block k (by omega)
theorem SR.of_row {s : Nat} {f : Nat → Nat → Int} {g t : Nat} (h : w.rowIs g t (n * s) (fillF s n f)) (hl : lo ≤ g) (hh : g < hi) : SR w lo hi s (some ⟨g, 0, none⟩) n f := fun i hi' => by
  obtain ⟨b, off, e, h1, h2⟩ := RR.of_row h i hi'
  simp only [Option.some.injEq, Addr.mk.injEq, and_true] at e
  obtain ⟨rfl, rfl⟩ := e
  exact ⟨g, 0, rfl, hl, hh, h1, h2, fun o => h.frozen o⟩
theorem SR.nil {s : Nat} (f : Nat → Nat → Int) : SR w lo hi s A 0 f := fun _ hi' => absurd hi' (Nat.not_lt_zero _)

/-- one number stored -/
theorem SI.set {f : Nat → Int} {b off j : Nat} {z : Int} (h : SI w lo hi (some ⟨b, off, none⟩) n f) (hj : j < n) :
    SI (w.setCell ⟨b, off + j, none⟩ (.int .i64 z)) lo hi (some ⟨b, off, none⟩) n (fun i => if i = j then z else f i) := fun i hi' => by
  obtain ⟨b1, off1, h1, h2, h3, h4, h5, h6⟩ := h i hi'
  simp only [Option.some.injEq, Addr.mk.injEq, and_true] at h1
  obtain ⟨rfl, rfl⟩ := h1
  refine ⟨b, off, rfl, h2, h3, by simpa using h4, ?_, fun o => by rw [World.frozen?_setCell]; exact h6 o⟩
  show _ = some (Value.int .i64 (if i = j then z else f i))
  by_cases e : i = j
  · subst e
    rw [if_pos rfl]
    exact World.cell?_setCell_same _ _ _ h5
  · rw [if_neg e]
    exact (World.cell?_setCell_other _ _ _ _ (by simp <;> omega)).trans h5

/-- one number of a record stored -/
theorem SR.set {s : Nat} {f : Nat → Nat → Int} {b off k c : Nat} {z : Int} (h : SR w lo hi s (some ⟨b, off, none⟩) n f) (hc : c < s) :
    SR (w.setCell ⟨b, off + k * s + c, none⟩ (.int .i64 z)) lo hi s (some ⟨b, off, none⟩) n (fun i j => if i = k ∧ j = c then z else f i j) := fun i hi' => by
  obtain ⟨b1, off1, h1, h2, h3, h4, h5, h6⟩ := h i hi'
  simp only [Option.some.injEq, Addr.mk.injEq, and_true] at h1
  obtain ⟨rfl, rfl⟩ := h1
  refine ⟨b, off, rfl, h2, h3, by simpa using h4, fun j hj => ?_, fun o => by rw [World.frozen?_setCell]; exact h6 o⟩
  show _ = some (Value.int .i64 (if i = k ∧ j = c then z else f i j))
  by_cases e : i = k ∧ j = c
  · obtain ⟨rfl, rfl⟩ := e
    rw [if_pos ⟨rfl, rfl⟩]
    exact World.cell?_setCell_same _ _ _ (h5 j hj)
  · rw [if_neg e]
    refine (World.cell?_setCell_other _ _ _ _ ?_).trans (h5 j hj)
    simp only [ne_eq, Addr.mk.injEq, true_and, and_true]
    intro e'
    apply e
    have hmul : k * s + c = i * s + j := by omega
    have hk : k = i := by
      rcases Nat.lt_trichotomy k i with hlt | heq | hgt
      · have : (k + 1) * s ≤ i * s := Nat.mul_le_mul_right _ hlt
        rw [Nat.add_mul] at this; omega
      · exact heq
      · have : (i + 1) * s ≤ k * s := Nat.mul_le_mul_right _ hgt
        rw [Nat.add_mul] at this; omega
    subst hk
    exact ⟨rfl, by omega⟩
end

end Go.Proofs.Ytfhpahnflnahkaa
