/- The law's model answers true. -/
import Derived.Test.YthbcakdjdbfepaaDelayedEventsMath
namespace Go.Proofs.Ythbcakdjdbfepaa

theorem law_DelayedEvents {F : Nat} {x0 : LEventGraph} {x1 : LTimetable} {x2 : Int} {x3 : Int} (hF0 : 9223372036854775808 ≤ F) (h0 : x0.Places.length ≤ 9223372036854775807) (h1 : x1.Starts.length ≤ 9223372036854775807) (_ : -9223372036854775808 ≤ x2) (_ : x2 ≤ 9223372036854775807) (_ : -9223372036854775808 ≤ x3) (_ : x3 ≤ 9223372036854775807) : laws_FnExactDelayedEvents F x0 x1 x2 x3 = some true := by
  have hF : 134217728 ≤ F := by omega
  unfold laws_FnExactDelayedEvents
  obtain ⟨r0, hz0, hs0⟩ := szEventGraph_is (F := F) (left := 1048576) (by omega) (by omega) h0
  rw [bind_of hz0]
  by_cases hc0 : r0 < 0
  · rw [bdT hc0]
  rw [bdF hc0]
  obtain ⟨r1, hz1, hs1⟩ := szTimetable_is (F := F) (left := r0) (by omega) (by omega) h1
  rw [bind_of hz1]
  by_cases hc1 : r1 < 0
  · rw [bdT hc1]
  rw [bdF hc1]
  have b0 : x0.Places.length ≤ 1048576 := by omega
  have bP0 : (toP_EventGraph x0).Places.length ≤ 1048576 := by simp only [toP_EventGraph, List.length_map]; exact b0
  have b1 : x1.Starts.length ≤ 1048576 := by omega
  have bP1 : (toP_Timetable x1).Starts.length ≤ 1048576 := by simp only [toP_Timetable, List.length_map]; exact b1
  have to0 := toEventGraph_is (F := F) hF b0
  have to1 := toTimetable_is (F := F) hF b1
  obtain ⟨⟨q, z⟩, hs, hi, hq⟩ := same_DelayedEvents (F := F) (x0 := (toP_EventGraph x0)) (x1 := (toP_Timetable x1)) (x2 := x2) (x3 := x3) hF bP0 bP1
  simp only at hq
  have eq0 := eqEventGraph_same (F := F) (toP_EventGraph x0) hF (by omega)
  have eq1 := eqTimetable_same (F := F) (toP_Timetable x1) hF (by omega)
  obtain ⟨ms0, hm0, -, -⟩ := markEventGraph_is (F := F) (k := 1) (g := toP_EventGraph x0) hF (by omega) (by omega) (by omega)
  obtain ⟨ms1, hm1, -, -⟩ := markTimetable_is (F := F) (k := 1 + 4 * ((toP_EventGraph x0).Places.length : Int)) (g := toP_Timetable x1) hF (by omega) (by omega) (by omega)
  have hqe := eqInt64S_same (F := F) (xs := q) hF (by omega)
  obtain ⟨ms, hm, hml, hmi⟩ := markInt64S_is (F := F) (k := 1) (ps := q) hF (by omega) (by decide) (by decide)
  have hh := heldInt64S_is (F := F) (k := 1) (ms := ms) hF (by omega) (by decide) (by decide) (fun i hi => hmi i (by omega))
  rw [hml] at hh
  have hkk : ¬ 1 + 4 * ((toP_EventGraph x0).Places.length : Int) + 1 * ((toP_Timetable x1).Starts.length : Int) < 0 := by omega
  simp only [hs, hi, to0, eq0, hm0, to1, eq1, hm1, hqe, hm, hh, Option.bind_some, Bool.not_true, cond_false, bne_self_eq_false, dF hkk, dF (show ¬ 1 + 1 * (q.length : Int) < 0 by omega)]

end Go.Proofs.Ythbcakdjdbfepaa
