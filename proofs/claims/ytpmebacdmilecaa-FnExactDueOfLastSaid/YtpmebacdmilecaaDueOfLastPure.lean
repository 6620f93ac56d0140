/- The law's model answers true. -/
import Derived.Test.YtpmebacdmilecaaDueOfLastMath
namespace Go.Proofs.Ytpmebacdmilecaa

theorem law_DueOfLast {F : Nat} {x0 : LEventGraph} {x1 : Int} {x2 : List Int} (hF0 : 9223372036854775808 ≤ F) (h0 : x0.Places.length ≤ 9223372036854775807) (_ : -9223372036854775808 ≤ x1) (_ : x1 ≤ 9223372036854775807) (_ : x2.length ≤ 9223372036854775807) : laws_FnExactDueOfLast F x0 x1 x2 = some true := by
  have hF : 134217728 ≤ F := by omega
  unfold laws_FnExactDueOfLast
  by_cases px2 : (1048576 : Int) < (x2.length : Int)
  · rw [bdT px2]
  rw [bdF px2]
  obtain ⟨r0, hz0, hs0⟩ := szEventGraph_is (F := F) (left := 1048576) (by omega) (by omega) h0
  rw [bind_of hz0]
  by_cases hc0 : r0 < 0
  · rw [bdT hc0]
  rw [bdF hc0]
  have b0 : x0.Places.length ≤ 1048576 := by omega
  have bP0 : (toP_EventGraph x0).Places.length ≤ 1048576 := by simp only [toP_EventGraph, List.length_map]; exact b0
  have b2 : x2.length ≤ 1048576 := by omega
  have to0 := toEventGraph_is (F := F) hF b0
  have to2 := toInt64S_same (F := F) (ps := x2) hF b2
  obtain ⟨⟨q, z⟩, hs, hi, hq⟩ := same_DueOfLast (F := F) (x0 := (toP_EventGraph x0)) (x1 := x1) (x2 := x2) hF bP0 b2
  simp only at hq
  have eq0 := eqEventGraph_same (F := F) (toP_EventGraph x0) hF (by omega)
  have eq2 := eqInt64S_same (F := F) (xs := x2) hF (by omega)
  obtain ⟨ms0, hm0, -, -⟩ := markEventGraph_is (F := F) (k := 1) (g := toP_EventGraph x0) hF (by omega) (by omega) (by omega)
  obtain ⟨ms2, hm2, -, -⟩ := markInt64S_is (F := F) (k := 1 + 4 * ((toP_EventGraph x0).Places.length : Int)) (ps := x2) hF (by omega) (by omega) (by omega)
  have hqe := eqInt64SS_same (F := F) (xs := q) hF (by omega) (rows_le (show offR q q.length ≤ 16777216 by omega))
  obtain ⟨ms, hm, hmi⟩ := markInt64SS_is (F := F) (k := 1) (ps := q) hF (by omega) (by omega) (by decide) (by decide)
  have hh := heldInt64SS_is (F := F) (k := 1) (ps := q) (ms := ms) hF (by omega) (by omega) (by decide) (by decide) hmi
  have hkk : ¬ 1 + 4 * ((toP_EventGraph x0).Places.length : Int) + 1 * (x2.length : Int) < 0 := by omega
  simp only [hs, hi, to0, eq0, hm0, to2, eq2, hm2, hqe, hm, hh, Option.bind_some, Bool.not_true, cond_false, bne_self_eq_false, dF hkk, dF (show ¬ 1 + (offR q q.length : Int) < 0 by omega)]

end Go.Proofs.Ytpmebacdmilecaa
