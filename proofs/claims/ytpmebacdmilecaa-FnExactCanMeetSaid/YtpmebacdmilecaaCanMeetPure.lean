/- The law's model answers true. -/
import Derived.Test.YtpmebacdmilecaaCanMeetMath
namespace Go.Proofs.Ytpmebacdmilecaa

theorem law_CanMeet {F : Nat} {x0 : LEventGraph} {x1 : List (List Int)} (hF0 : 9223372036854775808 ≤ F) (h0 : x0.Places.length ≤ 9223372036854775807) (hl1 : x1.length ≤ 9223372036854775807) (hr1 : ∀ row, row ∈ x1 → row.length ≤ 9223372036854775807) : laws_FnExactCanMeet F x0 x1 = some true := by
  have hF : 134217728 ≤ F := by omega
  unfold laws_FnExactCanMeet
  obtain ⟨r0, hz0, hs0⟩ := szEventGraph_is (F := F) (left := 1048576) (by omega) (by omega) h0
  rw [bind_of hz0]
  by_cases hc0 : r0 < 0
  · rw [bdT hc0]
  rw [bdF hc0]
  obtain ⟨r1, hz1, hs1⟩ := szInt64SS_is (F := F) (ps := x1) (left := r0) (by omega) (by omega) hF0 hl1 hr1
  rw [bind_of hz1]
  by_cases hc1 : r1 < 0
  · rw [bdT hc1]
  rw [bdF hc1]
  have b0 : x0.Places.length ≤ 1048576 := by omega
  have bP0 : (toP_EventGraph x0).Places.length ≤ 1048576 := by simp only [toP_EventGraph, List.length_map]; exact b0
  have b1 : x1.length ≤ 1048576 := by omega
  have c1 : offR x1 x1.length ≤ 1048576 := by omega
  have to0 := toEventGraph_is (F := F) hF b0
  have to1 := toInt64SS_is (F := F) (ps := x1) hF b1 c1
  obtain ⟨⟨q, z⟩, hs, hi⟩ := same_CanMeet (F := F) (x0 := (toP_EventGraph x0)) (x1 := x1) hF bP0 b1 c1
  have eq0 := eqEventGraph_same (F := F) (toP_EventGraph x0) hF (by omega)
  have eq1 := eqInt64SS_same (F := F) (xs := x1) hF (by omega) (rows_le (show offR x1 x1.length ≤ 16777216 by omega))
  simp only [hs, hi, to0, eq0, to1, eq1, Option.bind_some, Bool.not_true, cond_false, bne_self_eq_false]

end Go.Proofs.Ytpmebacdmilecaa
