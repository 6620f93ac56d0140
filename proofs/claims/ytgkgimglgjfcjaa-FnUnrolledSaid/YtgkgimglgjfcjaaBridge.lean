/- Arguments as lists. -/
import Derived.Test.YtgkgimglgjfcjaaLiftX
import Derived.Test.YtgkgimglgjfcjaaMem
namespace Go.Proofs.Ytgkgimglgjfcjaa
open Go.RowKit

theorem RI.rd {w : World} {A : Option Addr} {n : Nat} {f : Nat → Int} (h : RI w A n f) : Rd w A (ints ((List.range n).map f)) := by
  intro j u hj
  unfold ints at hj
  rw [List.map_map, List.getElem?_map] at hj
  by_cases hn : j < n
  · rw [List.getElem?_range hn] at hj
    obtain rfl : u = .int .i64 (f j) := by simpa using hj.symm
    exact h j hn
  · rw [List.getElem?_eq_none (by simp; omega)] at hj; simp at hj
theorem recs_inv {α : Type} {g : α → List Value} {s : Nat} (hg : ∀ x, (g x).length = s) {xs : List α} {j : Nat} {u : Value} (h : (recs g xs)[j]? = some u) : ∃ i o x, j = i * s + o ∧ o < s ∧ xs[i]? = some x ∧ (g x)[o]? = some u := by
  induction xs generalizing j with
  | nil => simp [recs] at h
  | cons y xs ih =>
    have e : recs g (y :: xs) = g y ++ recs g xs := rfl
    rw [e] at h
    by_cases hj : j < s
    · rw [List.getElem?_append_left (by rw [hg]; exact hj)] at h
      exact ⟨0, j, y, by omega, hj, rfl, h⟩
    · rw [List.getElem?_append_right (by rw [hg]; omega), hg] at h
      obtain ⟨i, o, x, e1, e2, e3, e4⟩ := ih h
      exact ⟨i + 1, o, x, by rw [Nat.add_mul]; omega, e2, e3, e4⟩
theorem RR.rd {α : Type} {g : α → List Value} {s : Nat} {mkα : (Nat → Int) → α} {w : World} {A : Option Addr} {n : Nat} {f : Nat → Nat → Int} (h : RR w s A n f) (hg : ∀ x, (g x).length = s) (hm : ∀ z j, j < s → (g (mkα z))[j]? = some (.int .i64 (z j))) : Rd w A (recs g ((List.range n).map fun i => mkα (f i))) := by
  intro j u hj
  obtain ⟨i, o, x, e1, e2, e3, e4⟩ := recs_inv hg hj
  rw [List.getElem?_map] at e3
  by_cases hn : i < n
  · rw [List.getElem?_range hn] at e3
    obtain rfl : x = mkα (f i) := by simpa using e3.symm
    obtain ⟨b, off, ha, hb, hc⟩ := h i hn
    rw [hm _ _ e2] at e4
    obtain rfl : u = .int .i64 (f i o) := by simpa using e4.symm
    exact ⟨b, off, ha, hb, by rw [e1, ← Nat.add_assoc]; exact hc o e2⟩
  · rw [List.getElem?_eq_none (by simp; omega)] at e3; simp at e3
def rowsOf (n : Nat) (L : Nat → Nat) (f : Nat → Nat → Int) : List (List Int) := (List.range n).map fun i => (List.range (L i)).map (f i)
theorem rowsOf_length (n : Nat) (L : Nat → Nat) (f : Nat → Nat → Int) : (rowsOf n L f).length = n := by simp [rowsOf]
theorem rowsOf_at {n : Nat} {L : Nat → Nat} {f : Nat → Nat → Int} {i : Nat} {row : List Int} (h : (rowsOf n L f)[i]? = some row) : i < n ∧ row = (List.range (L i)).map (f i) := by
  unfold rowsOf at h
  rw [List.getElem?_map] at h
  by_cases hn : i < n
  · rw [List.getElem?_range hn] at h
    exact ⟨hn, by simpa using h.symm⟩
  · rw [List.getElem?_eq_none (by simp; omega)] at h; simp at h
theorem RM.rdM {w : World} {A : Option Addr} {n : Nat} {L : Nat → Nat} {f : Nat → Nat → Int} (h : RM w A n L f) : RdM w A (rowsOf n L f) := by
  have each : ∀ i, ∃ p : Option Addr × Nat, i < n → ∃ b off, A = some ⟨b, off, none⟩ ∧ b < w.heap.size ∧ w.cell? ⟨b, off + i, none⟩ = some (.slice p.1 (L i) p.2) ∧ RI w p.1 (L i) (f i) := by
    intro i
    by_cases hi : i < n
    · obtain ⟨b, off, R, c, e⟩ := h i hi
      exact ⟨(R, c), fun _ => ⟨b, off, e⟩⟩
    · exact ⟨(none, 0), fun h => absurd h hi⟩
  obtain ⟨p, hp⟩ := Classical.axiomOfChoice each
  refine ⟨(List.range n).map fun i => .slice (p i).1 (L i) (p i).2, ?_, ?_⟩
  · intro j u hj
    rw [List.getElem?_map] at hj
    by_cases hn : j < n
    · rw [List.getElem?_range hn] at hj
      obtain rfl : u = .slice (p j).1 (L j) (p j).2 := by simpa using hj.symm
      obtain ⟨b, off, h1, h2, h3, _⟩ := hp j hn
      exact ⟨b, off, h1, h2, h3⟩
    · rw [List.getElem?_eq_none (by simp; omega)] at hj; simp at hj
  · intro i row hr
    obtain ⟨hi, rfl⟩ := rowsOf_at hr
    obtain ⟨b, off, h1, h2, h3, h4⟩ := hp i hi
    refine ⟨(p i).1, (p i).2, ?_, h4.rd⟩
    rw [List.getElem?_map, List.getElem?_range hi]; simp
def cubeOf (n : Nat) (N : Nat → Nat) (L : Nat → Nat → Nat) (f : Nat → Nat → Nat → Int) : List (List (List Int)) := (List.range n).map fun i => rowsOf (N i) (L i) (f i)
theorem cubeOf_length (n : Nat) (N : Nat → Nat) (L : Nat → Nat → Nat) (f : Nat → Nat → Nat → Int) : (cubeOf n N L f).length = n := by simp [cubeOf]
theorem cubeOf_at {n : Nat} {N : Nat → Nat} {L : Nat → Nat → Nat} {f : Nat → Nat → Nat → Int} {i : Nat} {m : List (List Int)} (h : (cubeOf n N L f)[i]? = some m) : i < n ∧ m = rowsOf (N i) (L i) (f i) := by
  unfold cubeOf at h
  rw [List.getElem?_map] at h
  by_cases hn : i < n
  · rw [List.getElem?_range hn] at h
    exact ⟨hn, by simpa using h.symm⟩
  · rw [List.getElem?_eq_none (by simp; omega)] at h; simp at h
theorem RC.rdC {w : World} {A : Option Addr} {n : Nat} {N : Nat → Nat} {L : Nat → Nat → Nat} {f : Nat → Nat → Nat → Int} (h : RC w A n N L f) : RdC w A (cubeOf n N L f) := by
  have each : ∀ i, ∃ p : Option Addr × Nat, i < n → ∃ b off, A = some ⟨b, off, none⟩ ∧ b < w.heap.size ∧ w.cell? ⟨b, off + i, none⟩ = some (.slice p.1 (N i) p.2) ∧ RM w p.1 (N i) (L i) (f i) := by
    intro i
    by_cases hi : i < n
    · obtain ⟨b, off, R, c, e⟩ := h i hi
      exact ⟨(R, c), fun _ => ⟨b, off, e⟩⟩
    · exact ⟨(none, 0), fun h => absurd h hi⟩
  obtain ⟨p, hp⟩ := Classical.axiomOfChoice each
  refine ⟨(List.range n).map fun i => .slice (p i).1 (N i) (p i).2, ?_, ?_⟩
  · intro j u hj
    rw [List.getElem?_map] at hj
    by_cases hn : j < n
    · rw [List.getElem?_range hn] at hj
      obtain rfl : u = .slice (p j).1 (N j) (p j).2 := by simpa using hj.symm
      obtain ⟨b, off, h1, h2, h3, _⟩ := hp j hn
      exact ⟨b, off, h1, h2, h3⟩
    · rw [List.getElem?_eq_none (by simp; omega)] at hj; simp at hj
  · intro i m hr
    obtain ⟨hi, rfl⟩ := cubeOf_at hr
    obtain ⟨b, off, h1, h2, h3, h4⟩ := hp i hi
    refine ⟨(p i).1, (p i).2, ?_, h4.rdM⟩
    rw [List.getElem?_map, List.getElem?_range hi, rowsOf_length]; simp
theorem rowsOf_le {n : Nat} {L : Nat → Nat} {f : Nat → Nat → Int} (h : ∀ i, i < n → L i ≤ 9223372036854775807) : ∀ row, row ∈ rowsOf n L f → row.length ≤ 9223372036854775807 := by
  intro row hr
  obtain ⟨i, hi, rfl⟩ := List.getElem_of_mem hr
  obtain ⟨h1, h2⟩ := rowsOf_at (List.getElem?_eq_getElem hi)
  rw [h2, List.length_map, List.length_range]; exact h i h1
theorem cubeOf_le {n : Nat} {N : Nat → Nat} {L : Nat → Nat → Nat} {f : Nat → Nat → Nat → Int} (h : ∀ i, i < n → N i ≤ 9223372036854775807) : ∀ m, m ∈ cubeOf n N L f → m.length ≤ 9223372036854775807 := by
  intro m hm
  obtain ⟨i, hi, rfl⟩ := List.getElem_of_mem hm
  obtain ⟨h1, h2⟩ := cubeOf_at (List.getElem?_eq_getElem hi)
  rw [h2, rowsOf_length]; exact h i h1
theorem cubeOf_le2 {n : Nat} {N : Nat → Nat} {L : Nat → Nat → Nat} {f : Nat → Nat → Nat → Int} (h : ∀ i, i < n → ∀ j, j < N i → L i j ≤ 9223372036854775807) : ∀ m, m ∈ cubeOf n N L f → ∀ row, row ∈ m → row.length ≤ 9223372036854775807 := by
  intro m hm
  obtain ⟨i, hi, rfl⟩ := List.getElem_of_mem hm
  obtain ⟨h1, h2⟩ := cubeOf_at (List.getElem?_eq_getElem hi)
  rw [h2]; exact rowsOf_le (h i h1)
theorem int_wf {n : Int} (h : (Lit.int .i64 n).wf = true) : -9223372036854775808 ≤ n ∧ n ≤ 9223372036854775807 := by
  simp only [Lit.wf, Bool.and_eq_true, decide_eq_true_eq] at h
  have h1 : IntKind.i64.min = -9223372036854775808 := by decide
  have h2 : IntKind.i64.max = 9223372036854775807 := by decide
  rw [h1, h2] at h; exact h
end Go.Proofs.Ytgkgimglgjfcjaa
