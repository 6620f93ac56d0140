/- The law's model answers true. -/
import Derived.Test.YtebmlphobgaboaaHighestWordMath
namespace Go.Proofs.Ytebmlphobgaboaa

theorem law_HighestWord {F : Nat} {x0 : List (List (List Int))} {x1 : List Int} {x2 : Int} (hF0 : 9223372036854775808 ≤ F) (hl0 : x0.length ≤ 9223372036854775807) (hm00 : ∀ m, m ∈ x0 → m.length ≤ 9223372036854775807) (hr0 : ∀ m, m ∈ x0 → ∀ row, row ∈ m → row.length ≤ 9223372036854775807) (_ : x1.length ≤ 9223372036854775807) (_ : -9223372036854775808 ≤ x2) (_ : x2 ≤ 9223372036854775807) : laws_FnExactHighestWord F x0 x1 x2 = some true := by
  have hF : 134217728 ≤ F := by omega
  unfold laws_FnExactHighestWord
  by_cases px1 : (1048576 : Int) < (x1.length : Int)
  · rw [bdT px1]
  rw [bdF px1]
  obtain ⟨r0, hz0, hs0⟩ := szInt64SSS_is (F := F) (ps := x0) (left := 1048576) (by omega) (by omega) hF0 hl0 hm00 hr0
  rw [bind_of hz0]
  by_cases hc0 : r0 < 0
  · rw [bdT hc0]
  rw [bdF hc0]
  have b0 : x0.length ≤ 1048576 := by omega
  have c0 : offW x0 x0.length ≤ 1048576 := by omega
  have d0 : ∀ m, m ∈ x0 → ∀ row, row ∈ m → row.length ≤ 1048576 := fun m hm => rows_le (by have := offW_mem hm; omega)
  have b1 : x1.length ≤ 1048576 := by omega
  have to0 := toInt64SSS_is (F := F) (ps := x0) hF b0 c0
  have to1 := toInt64S_same (F := F) (ps := x1) hF b1
  obtain ⟨⟨q, z⟩, hs, hi, hq⟩ := same_HighestWord (F := F) (x0 := x0) (x1 := x1) (x2 := x2) hF b0 d0 b1
  simp only at hq
  have eq0 := eqInt64SSS_same (F := F) (xs := x0) hF b0 c0
  have eq1 := eqInt64S_same (F := F) (xs := x1) hF (by omega)
  obtain ⟨k0, ms0, hm0, hk0, hK0⟩ := markInt64SSS_is (F := F) (k := 1) (ps := x0) hF b0 c0 (by omega) (by omega)
  obtain ⟨ms1, hm1, -, -⟩ := markInt64S_is (F := F) (k := k0) (ps := x1) hF (by omega) (by omega) (by omega)
  have hqe := eqInt64S_same (F := F) (xs := q) hF (by omega)
  obtain ⟨ms, hm, hml, hmi⟩ := markInt64S_is (F := F) (k := 1) (ps := q) hF (by omega) (by decide) (by decide)
  have hh := heldInt64S_is (F := F) (k := 1) (ms := ms) hF (by omega) (by decide) (by decide) (fun i hi => hmi i (by omega))
  rw [hml] at hh
  have hkk : ¬ k0 + 1 * (x1.length : Int) < 0 := by omega
  simp only [hs, hi, to0, eq0, hm0, to1, eq1, hm1, hqe, hm, hh, Option.bind_some, Bool.not_true, cond_false, bne_self_eq_false, dF hkk, dF (show ¬ 1 + 1 * (q.length : Int) < 0 by omega)]

end Go.Proofs.Ytebmlphobgaboaa
