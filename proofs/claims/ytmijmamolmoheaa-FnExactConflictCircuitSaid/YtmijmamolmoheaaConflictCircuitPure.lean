/- The law's model answers true. -/
import Derived.Test.YtmijmamolmoheaaConflictCircuitMath
namespace Go.Proofs.Ytmijmamolmoheaa

theorem law_ConflictCircuit {F : Nat} {x0 : LEventGraph} {x1 : Int} (hF0 : 9223372036854775808 ≤ F) (h0 : x0.Places.length ≤ 9223372036854775807) (_ : -9223372036854775808 ≤ x1) (_ : x1 ≤ 9223372036854775807) : laws_FnExactConflictCircuit F x0 x1 = some true := by
  have hF : 134217728 ≤ F := by omega
  unfold laws_FnExactConflictCircuit
  obtain ⟨r0, hz0, hs0⟩ := szEventGraph_is (F := F) (left := 1048576) (by omega) (by omega) h0
  rw [bind_of hz0]
  by_cases hc0 : r0 < 0
  · rw [bdT hc0]
  rw [bdF hc0]
  have b0 : x0.Places.length ≤ 1048576 := by omega
  have bP0 : (toP_EventGraph x0).Places.length ≤ 1048576 := by simp only [toP_EventGraph, List.length_map]; exact b0
  have to0 := toEventGraph_is (F := F) hF b0
  obtain ⟨⟨q, z⟩, hs, hi, hq⟩ := same_ConflictCircuit (F := F) (x0 := (toP_EventGraph x0)) (x1 := x1) hF bP0
  simp only at hq
  have eq0 := eqEventGraph_same (F := F) (toP_EventGraph x0) hF (by omega)
  obtain ⟨ms0, hm0, -, -⟩ := markEventGraph_is (F := F) (k := 1) (g := toP_EventGraph x0) hF (by omega) (by omega) (by omega)
  have hqe := eqInt64S_same (F := F) (xs := q) hF (by omega)
  obtain ⟨ms, hm, hml, hmi⟩ := markInt64S_is (F := F) (k := 1) (ps := q) hF (by omega) (by decide) (by decide)
  have hh := heldInt64S_is (F := F) (k := 1) (ms := ms) hF (by omega) (by decide) (by decide) (fun i hi => hmi i (by omega))
  rw [hml] at hh
  have hkk : ¬ 1 + 4 * ((toP_EventGraph x0).Places.length : Int) < 0 := by omega
  simp only [hs, hi, to0, eq0, hm0, hqe, hm, hh, Option.bind_some, Bool.not_true, cond_false, bne_self_eq_false, dF hkk, dF (show ¬ 1 + 1 * (q.length : Int) < 0 by omega)]

end Go.Proofs.Ytmijmamolmoheaa
