/- The law's model answers true. -/
import Derived.Test.YtmijmamolmoheaaPositiveCycleMath
namespace Go.Proofs.Ytmijmamolmoheaa

theorem law_PositiveCycle {F : Nat} {x0 : List (List Int)} (hF0 : 9223372036854775808 ≤ F) (hl0 : x0.length ≤ 9223372036854775807) (hr0 : ∀ row, row ∈ x0 → row.length ≤ 9223372036854775807) : laws_FnExactPositiveCycle F x0 = some true := by
  have hF : 134217728 ≤ F := by omega
  unfold laws_FnExactPositiveCycle
  obtain ⟨r0, hz0, hs0⟩ := szInt64SS_is (F := F) (ps := x0) (left := 1048576) (by omega) (by omega) hF0 hl0 hr0
  rw [bind_of hz0]
  by_cases hc0 : r0 < 0
  · rw [bdT hc0]
  rw [bdF hc0]
  have b0 : x0.length ≤ 1048576 := by omega
  have c0 : offR x0 x0.length ≤ 1048576 := by omega
  have to0 := toInt64SS_is (F := F) (ps := x0) hF b0 c0
  obtain ⟨⟨q, z⟩, hs, hi, hq⟩ := same_PositiveCycle (F := F) (x0 := x0) hF b0 c0
  simp only at hq
  have eq0 := eqInt64SS_same (F := F) (xs := x0) hF (by omega) (rows_le (show offR x0 x0.length ≤ 16777216 by omega))
  obtain ⟨ms0, hm0, -⟩ := markInt64SS_is (F := F) (k := 1) (ps := x0) hF (by omega) (by omega) (by omega) (by omega)
  have hqe := eqInt64S_same (F := F) (xs := q) hF (by omega)
  obtain ⟨ms, hm, hml, hmi⟩ := markInt64S_is (F := F) (k := 1) (ps := q) hF (by omega) (by decide) (by decide)
  have hh := heldInt64S_is (F := F) (k := 1) (ms := ms) hF (by omega) (by decide) (by decide) (fun i hi => hmi i (by omega))
  rw [hml] at hh
  have hkk : ¬ 1 + (offR x0 x0.length : Int) < 0 := by omega
  simp only [hs, hi, to0, eq0, hm0, hqe, hm, hh, Option.bind_some, Bool.not_true, cond_false, bne_self_eq_false, dF hkk, dF (show ¬ 1 + 1 * (q.length : Int) < 0 by omega)]

end Go.Proofs.Ytmijmamolmoheaa
