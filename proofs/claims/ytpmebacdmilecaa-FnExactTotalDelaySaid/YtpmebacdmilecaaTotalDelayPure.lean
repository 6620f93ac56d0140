/- The law's model answers true. -/
import Derived.Test.YtpmebacdmilecaaTotalDelayMath
namespace Go.Proofs.Ytpmebacdmilecaa

theorem law_TotalDelay {F : Nat} {x0 : LEventGraph} {x1 : LTimetable} {x2 : List Int} (hF0 : 9223372036854775808 ≤ F) (h0 : x0.Places.length ≤ 9223372036854775807) (h1 : x1.Starts.length ≤ 9223372036854775807) (_ : x2.length ≤ 9223372036854775807) : laws_FnExactTotalDelay F x0 x1 x2 = some true := by
  have hF : 134217728 ≤ F := by omega
  unfold laws_FnExactTotalDelay
  by_cases px2 : (1048576 : Int) < (x2.length : Int)
  · rw [bdT px2]
  rw [bdF px2]
  obtain ⟨r0, hz0, hs0⟩ := szEventGraph_is (F := F) (left := 1048576) (by omega) (by omega) h0
  rw [bind_of hz0]
  by_cases hc0 : r0 < 0
  · rw [bdT hc0]
  rw [bdF hc0]
  obtain ⟨r1, hz1, hs1⟩ := szTimetable_is (F := F) (left := r0) (by omega) (by omega) h1
  rw [bind_of hz1]
  by_cases hc1 : r1 < 0
  · rw [bdT hc1]
  rw [bdF hc1]
  have b0 : x0.Places.length ≤ 1048576 := by omega
  have bP0 : (toP_EventGraph x0).Places.length ≤ 1048576 := by simp only [toP_EventGraph, List.length_map]; exact b0
  have b1 : x1.Starts.length ≤ 1048576 := by omega
  have bP1 : (toP_Timetable x1).Starts.length ≤ 1048576 := by simp only [toP_Timetable, List.length_map]; exact b1
  have b2 : x2.length ≤ 1048576 := by omega
  have to0 := toEventGraph_is (F := F) hF b0
  have to1 := toTimetable_is (F := F) hF b1
  have to2 := toInt64S_same (F := F) (ps := x2) hF b2
  obtain ⟨⟨q, z⟩, hs, hi⟩ := same_TotalDelay (F := F) (x0 := (toP_EventGraph x0)) (x1 := (toP_Timetable x1)) (x2 := x2) hF bP0 bP1 b2
  have eq0 := eqEventGraph_same (F := F) (toP_EventGraph x0) hF (by omega)
  have eq1 := eqTimetable_same (F := F) (toP_Timetable x1) hF (by omega)
  have eq2 := eqInt64S_same (F := F) (xs := x2) hF (by omega)
  simp only [hs, hi, to0, eq0, to1, eq1, to2, eq2, Option.bind_some, Bool.not_true, cond_false, bne_self_eq_false]

end Go.Proofs.Ytpmebacdmilecaa
