/- The law's model answers true. -/
import Derived.Test.YtpmebacdmilecaaPartOfGraphMath
namespace Go.Proofs.Ytpmebacdmilecaa

theorem law_PartOfGraph {F : Nat} {x0 : LEventGraph} {x1 : List Int} (hF0 : 9223372036854775808 ≤ F) (h0 : x0.Places.length ≤ 9223372036854775807) (_ : x1.length ≤ 9223372036854775807) : laws_FnExactPartOfGraph F x0 x1 = some true := by
  have hF : 134217728 ≤ F := by omega
  unfold laws_FnExactPartOfGraph
  by_cases px1 : (1048576 : Int) < (x1.length : Int)
  · rw [bdT px1]
  rw [bdF px1]
  obtain ⟨r0, hz0, hs0⟩ := szEventGraph_is (F := F) (left := 1048576) (by omega) (by omega) h0
  rw [bind_of hz0]
  by_cases hc0 : r0 < 0
  · rw [bdT hc0]
  rw [bdF hc0]
  have b0 : x0.Places.length ≤ 1048576 := by omega
  have bP0 : (toP_EventGraph x0).Places.length ≤ 1048576 := by simp only [toP_EventGraph, List.length_map]; exact b0
  have b1 : x1.length ≤ 1048576 := by omega
  have to0 := toEventGraph_is (F := F) hF b0
  have to1 := toInt64S_same (F := F) (ps := x1) hF b1
  obtain ⟨⟨q, z⟩, hs, hi, hq⟩ := same_PartOfGraph (F := F) (x0 := (toP_EventGraph x0)) (x1 := x1) hF bP0 b1
  simp only at hq
  have eq0 := eqEventGraph_same (F := F) (toP_EventGraph x0) hF (by omega)
  have eq1 := eqInt64S_same (F := F) (xs := x1) hF (by omega)
  obtain ⟨ms0, hm0, -, -⟩ := markEventGraph_is (F := F) (k := 1) (g := toP_EventGraph x0) hF (by omega) (by omega) (by omega)
  obtain ⟨ms1, hm1, -, -⟩ := markInt64S_is (F := F) (k := 1 + 4 * ((toP_EventGraph x0).Places.length : Int)) (ps := x1) hF (by omega) (by omega) (by omega)
  have hqe := eqEventGraph_same (F := F) q hF (by omega)
  obtain ⟨ms, hm, hml, hmi⟩ := markEventGraph_is (F := F) (k := 1) (g := q) hF (by omega) (by decide) (by decide)
  have hh := heldEventGraph_is (F := F) (k := 1) (g := ⟨q.Events, ms⟩) hF (by simp only; omega) (by decide) (by decide) (by intro i hi; simp only at hi ⊢; exact hmi i (by omega))
  simp only [hml] at hh
  have hkk : ¬ 1 + 4 * ((toP_EventGraph x0).Places.length : Int) + 1 * (x1.length : Int) < 0 := by omega
  simp only [hs, hi, to0, eq0, hm0, to1, eq1, hm1, hqe, hm, hh, Option.bind_some, Bool.not_true, cond_false, bne_self_eq_false, dF hkk, dF (show ¬ 1 + 4 * (q.Places.length : Int) < 0 by omega)]

end Go.Proofs.Ytpmebacdmilecaa
