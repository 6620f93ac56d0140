/- A byte slice opened: a list of numbers from 0 to 255. -/
import Derived.Test.YtgkgimglgjfcjaaRow
import Derived.Test.YtgkgimglgjfcjaaLiftP
import Derived.Test.YtgkgimglgjfcjaaBridge
namespace Go.Proofs.Ytgkgimglgjfcjaa
open Go.ChangeShapes Go.WideShapes Go.ChangeAt Go.RowKit Go.Deep

section
variable {H : Type} {enc : TypeId × Value → H} {P : Program} {w : World} {base : Nat} {held : Bool}
theorem u8_wf {n : Int} (h : (Lit.int .u8 n).wf = true) : 0 ≤ n ∧ n ≤ 255 := by
  simp only [Lit.wf, Bool.and_eq_true, decide_eq_true_eq] at h
  have h1 : IntKind.u8.min = 0 := by decide
  have h2 : IntKind.u8.max = 255 := by decide
  rw [h1, h2] at h; exact h
theorem open_bytes_cells {t e : TypeId} {fuel : Nat} {cs : List Value} {x : DataW H × List MemPlace} (ht : P.underlying t = some (.slice e)) (he : P.underlying e = some (.int .u8)) (hC : P.cellsOf e = 1) (h : DataW.trod enc P w base (fun _ => true) held fuel t cs = some x) :
    ∃ (A : Option Addr) (c : Nat) (xs : List Int), cs = [.slice A xs.length c] ∧ xs.length ≤ maxLen ∧ (∀ y, y ∈ xs → 0 ≤ y ∧ y ≤ 255) ∧ Rd w A (bytes xs) := by
  obtain ⟨A, n, c, k, hcs, hn, hi⟩ := open_one ht hC h
  have each : ∀ i, i < n → ∃ z : Int, (0 ≤ z ∧ z ≤ 255) ∧ ∃ b off, A = some ⟨b, off, none⟩ ∧ b < w.heap.size ∧ w.cell? ⟨b, off + i, none⟩ = some (.int .u8 z) := by
    intro i hin
    obtain ⟨b, off, v, y, hA, hb, hv, ht'⟩ := hi i hin
    obtain ⟨z, hz, _, hw⟩ := DataW.trod_int he ht'
    simp only [List.cons.injEq, and_true] at hz
    exact ⟨z, u8_wf hw, b, off, hA, hb, by rw [hv, hz]⟩
  obtain ⟨f, hf⟩ := choose_lt each
  refine ⟨A, c, (List.range n).map f, by simpa using hcs, by simpa using hn, ?_, ?_⟩
  · intro y hy
    obtain ⟨i, hi, rfl⟩ := List.mem_map.1 hy
    exact (hf i (List.mem_range.1 hi)).1
  · intro j u hj
    unfold bytes at hj
    rw [List.map_map, List.getElem?_map] at hj
    by_cases hjn : j < n
    · rw [List.getElem?_range hjn] at hj
      obtain rfl : u = .int .u8 (f j) := by simpa using hj.symm
      exact (hf j hjn).2
    · rw [List.getElem?_eq_none (by simp; omega)] at hj; simp at hj
theorem open_bytes {t e : TypeId} {v : Value} {d : DataW H} {p : List MemPlace} {r : Reach} {b0 : Nat} (ht : P.underlying t = some (.slice e)) (he : P.underlying e = some (.int .u8)) (hC : P.cellsOf e = 1) (hv : Value.okWide P w r b0 t v) (h : DataW.Trod enc P w base (fun _ => true) held t v d p) :
    ∃ (A : Option Addr) (c : Nat) (xs : List Int), v = .slice A xs.length c ∧ xs.length ≤ maxLen ∧ (∀ y, y ∈ xs → 0 ≤ y ∧ y ≤ 255) ∧ Rd w A (bytes xs) := by
  obtain ⟨a, len, cap, rfl⟩ := okWide_slice ht hv
  obtain ⟨fuel, hf⟩ := h
  obtain ⟨A, c, xs, hcs, hn, hb, hr⟩ := open_bytes_cells ht he hC hf
  simp [Value.cells] at hcs
  obtain ⟨rfl, rfl, rfl⟩ := hcs
  exact ⟨_, _, xs, rfl, hn, hb, hr⟩
end
end Go.Proofs.Ytgkgimglgjfcjaa
