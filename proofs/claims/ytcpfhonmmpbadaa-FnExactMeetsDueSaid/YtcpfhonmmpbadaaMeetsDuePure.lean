/- The law's model answers true. -/
import Derived.Test.YtcpfhonmmpbadaaMeetsDueMath
namespace Go.Proofs.Ytcpfhonmmpbadaa

theorem law_MeetsDue {F : Nat} {x0 : LSystem} {x1 : List Int} {x2 : List Int} {x3 : List Int} (hF0 : 9223372036854775808 ≤ F) (hA0 : x0.A.length ≤ 9223372036854775807) (hr0 : ∀ row, row ∈ x0.A → row.length ≤ 9223372036854775807) (hB0 : x0.B.length ≤ 9223372036854775807) (hC0 : x0.C.length ≤ 9223372036854775807) (_ : x1.length ≤ 9223372036854775807) (_ : x2.length ≤ 9223372036854775807) (_ : x3.length ≤ 9223372036854775807) : laws_FnExactMeetsDue F x0 x1 x2 x3 = some true := by
  have hF : 134217728 ≤ F := by omega
  unfold laws_FnExactMeetsDue
  by_cases px1 : (1048576 : Int) < (x1.length : Int)
  · rw [bdT px1]
  rw [bdF px1]
  by_cases px2 : (1048576 : Int) < (x2.length : Int)
  · rw [bdT px2]
  rw [bdF px2]
  by_cases px3 : (1048576 : Int) < (x3.length : Int)
  · rw [bdT px3]
  rw [bdF px3]
  obtain ⟨r0, hz0, hs0⟩ := szSystem_is (F := F) (g := x0) (left := 1048576) (by omega) (by omega) hF0 hA0 hr0 hB0 hC0
  rw [bind_of hz0]
  by_cases hc0 : r0 < 0
  · rw [bdT hc0]
  rw [bdF hc0]
  have b0 : x0.A.length ≤ 1048576 := by omega
  have c0 : offR x0.A x0.A.length ≤ 1048576 := by omega
  have d0 : x0.B.length ≤ 1048576 := by omega
  have e0 : x0.C.length ≤ 1048576 := by omega
  have b1 : x1.length ≤ 1048576 := by omega
  have b2 : x2.length ≤ 1048576 := by omega
  have b3 : x3.length ≤ 1048576 := by omega
  have to0 := toSystem_is (F := F) (g := x0) hF b0 c0 d0 e0
  have to1 := toInt64S_same (F := F) (ps := x1) hF b1
  have to2 := toInt64S_same (F := F) (ps := x2) hF b2
  have to3 := toInt64S_same (F := F) (ps := x3) hF b3
  obtain ⟨⟨q, z⟩, hs, hi⟩ := same_MeetsDue (F := F) (x0 := (toP_System x0)) (x1 := x1) (x2 := x2) (x3 := x3) hF (rows_le c0) d0 e0 b1 b2 b3
  have eq0 := eqSystem_same (F := F) (g := toP_System x0) hF (show x0.A.length ≤ 16777216 by omega) (show offR x0.A x0.A.length ≤ 16777216 by omega) (show x0.B.length ≤ 16777216 by omega) (show x0.C.length ≤ 16777216 by omega)
  have eq1 := eqInt64S_same (F := F) (xs := x1) hF (by omega)
  have eq2 := eqInt64S_same (F := F) (xs := x2) hF (by omega)
  have eq3 := eqInt64S_same (F := F) (xs := x3) hF (by omega)
  simp only [hs, hi, to0, eq0, to1, eq1, to2, eq2, to3, eq3, Option.bind_some, Bool.not_true, cond_false, bne_self_eq_false]

end Go.Proofs.Ytcpfhonmmpbadaa
