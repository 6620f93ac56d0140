/- The law's model answers true. -/
import Derived.Test.YtmijmamolmoheaaLeastPeriodMath
namespace Go.Proofs.Ytmijmamolmoheaa

theorem law_LeastPeriod {F : Nat} {x0 : LEventGraph} (hF0 : 9223372036854775808 ≤ F) (h0 : x0.Places.length ≤ 9223372036854775807) : laws_FnExactLeastPeriod F x0 = some true := by
  have hF : 134217728 ≤ F := by omega
  unfold laws_FnExactLeastPeriod
  obtain ⟨r0, hz0, hs0⟩ := szEventGraph_is (F := F) (left := 1048576) (by omega) (by omega) h0
  rw [bind_of hz0]
  by_cases hc0 : r0 < 0
  · rw [bdT hc0]
  rw [bdF hc0]
  have b0 : x0.Places.length ≤ 1048576 := by omega
  have bP0 : (toP_EventGraph x0).Places.length ≤ 1048576 := by simp only [toP_EventGraph, List.length_map]; exact b0
  have to0 := toEventGraph_is (F := F) hF b0
  obtain ⟨⟨q, z⟩, hs, hi⟩ := same_LeastPeriod (F := F) (x0 := (toP_EventGraph x0)) hF bP0
  have eq0 := eqEventGraph_same (F := F) (toP_EventGraph x0) hF (by omega)
  simp only [hs, hi, to0, eq0, Option.bind_some, Bool.not_true, cond_false, bne_self_eq_false]

end Go.Proofs.Ytmijmamolmoheaa
