/- The law's model answers true. -/
import Derived.Test.YtpmebacdmilecaaCriticalFiringsMath
namespace Go.Proofs.Ytpmebacdmilecaa

theorem law_CriticalFirings {F : Nat} {x0 : LEventGraph} {x1 : List (List Int)} (hF0 : 9223372036854775808 ≤ F) (h0 : x0.Places.length ≤ 9223372036854775807) (hl1 : x1.length ≤ 9223372036854775807) (hr1 : ∀ row, row ∈ x1 → row.length ≤ 9223372036854775807) : laws_FnExactCriticalFirings F x0 x1 = some true := by
  have hF : 134217728 ≤ F := by omega
  unfold laws_FnExactCriticalFirings
  obtain ⟨r0, hz0, hs0⟩ := szEventGraph_is (F := F) (left := 1048576) (by omega) (by omega) h0
  rw [bind_of hz0]
  by_cases hc0 : r0 < 0
  · rw [bdT hc0]
  rw [bdF hc0]
  obtain ⟨r1, hz1, hs1⟩ := szInt64SS_is (F := F) (ps := x1) (left := r0) (by omega) (by omega) hF0 hl1 hr1
  rw [bind_of hz1]
  by_cases hc1 : r1 < 0
  · rw [bdT hc1]
  rw [bdF hc1]
  have b0 : x0.Places.length ≤ 1048576 := by omega
  have bP0 : (toP_EventGraph x0).Places.length ≤ 1048576 := by simp only [toP_EventGraph, List.length_map]; exact b0
  have b1 : x1.length ≤ 1048576 := by omega
  have c1 : offR x1 x1.length ≤ 1048576 := by omega
  have to0 := toEventGraph_is (F := F) hF b0
  have to1 := toInt64SS_is (F := F) (ps := x1) hF b1 c1
  obtain ⟨⟨q, z⟩, hs, hi, hq⟩ := same_CriticalFirings (F := F) (x0 := (toP_EventGraph x0)) (x1 := x1) hF bP0 b1 c1
  simp only at hq
  have eq0 := eqEventGraph_same (F := F) (toP_EventGraph x0) hF (by omega)
  have eq1 := eqInt64SS_same (F := F) (xs := x1) hF (by omega) (rows_le (show offR x1 x1.length ≤ 16777216 by omega))
  obtain ⟨ms0, hm0, -, -⟩ := markEventGraph_is (F := F) (k := 1) (g := toP_EventGraph x0) hF (by omega) (by omega) (by omega)
  obtain ⟨ms1, hm1, -⟩ := markInt64SS_is (F := F) (k := 1 + 4 * ((toP_EventGraph x0).Places.length : Int)) (ps := x1) hF (by omega) (by omega) (by omega) (by omega)
  have hqe := eqInt64SS_same (F := F) (xs := q) hF (by omega) (rows_le (show offR q q.length ≤ 16777216 by omega))
  obtain ⟨ms, hm, hmi⟩ := markInt64SS_is (F := F) (k := 1) (ps := q) hF (by omega) (by omega) (by decide) (by decide)
  have hh := heldInt64SS_is (F := F) (k := 1) (ps := q) (ms := ms) hF (by omega) (by omega) (by decide) (by decide) hmi
  have hkk : ¬ 1 + 4 * ((toP_EventGraph x0).Places.length : Int) + (offR x1 x1.length : Int) < 0 := by omega
  simp only [hs, hi, to0, eq0, hm0, to1, eq1, hm1, hqe, hm, hh, Option.bind_some, Bool.not_true, cond_false, bne_self_eq_false, dF hkk, dF (show ¬ 1 + (offR q q.length : Int) < 0 by omega)]

end Go.Proofs.Ytpmebacdmilecaa
