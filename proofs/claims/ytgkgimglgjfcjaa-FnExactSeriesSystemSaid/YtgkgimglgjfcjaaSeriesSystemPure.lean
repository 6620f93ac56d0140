/- The law's model answers true. -/
import Derived.Test.YtgkgimglgjfcjaaSeriesSystemMath
namespace Go.Proofs.Ytgkgimglgjfcjaa

theorem law_SeriesSystem {F : Nat} {x0 : LSystem} {x1 : LSystem} (hF0 : 9223372036854775808 ≤ F) (hA0 : x0.A.length ≤ 9223372036854775807) (hr0 : ∀ row, row ∈ x0.A → row.length ≤ 9223372036854775807) (hB0 : x0.B.length ≤ 9223372036854775807) (hC0 : x0.C.length ≤ 9223372036854775807) (hA1 : x1.A.length ≤ 9223372036854775807) (hr1 : ∀ row, row ∈ x1.A → row.length ≤ 9223372036854775807) (hB1 : x1.B.length ≤ 9223372036854775807) (hC1 : x1.C.length ≤ 9223372036854775807) : laws_FnExactSeriesSystem F x0 x1 = some true := by
  have hF : 134217728 ≤ F := by omega
  unfold laws_FnExactSeriesSystem
  obtain ⟨r0, hz0, hs0⟩ := szSystem_is (F := F) (g := x0) (left := 1048576) (by omega) (by omega) hF0 hA0 hr0 hB0 hC0
  rw [bind_of hz0]
  by_cases hc0 : r0 < 0
  · rw [bdT hc0]
  rw [bdF hc0]
  obtain ⟨r1, hz1, hs1⟩ := szSystem_is (F := F) (g := x1) (left := r0) (by omega) (by omega) hF0 hA1 hr1 hB1 hC1
  rw [bind_of hz1]
  by_cases hc1 : r1 < 0
  · rw [bdT hc1]
  rw [bdF hc1]
  have b0 : x0.A.length ≤ 1048576 := by omega
  have c0 : offR x0.A x0.A.length ≤ 1048576 := by omega
  have d0 : x0.B.length ≤ 1048576 := by omega
  have e0 : x0.C.length ≤ 1048576 := by omega
  have b1 : x1.A.length ≤ 1048576 := by omega
  have c1 : offR x1.A x1.A.length ≤ 1048576 := by omega
  have d1 : x1.B.length ≤ 1048576 := by omega
  have e1 : x1.C.length ≤ 1048576 := by omega
  have to0 := toSystem_is (F := F) (g := x0) hF b0 c0 d0 e0
  have to1 := toSystem_is (F := F) (g := x1) hF b1 c1 d1 e1
  obtain ⟨⟨q, z⟩, hs, hi, hq⟩ := same_SeriesSystem (F := F) (x0 := (toP_System x0)) (x1 := (toP_System x1)) hF (rows_le c0) d0 e0 (rows_le c1) d1 e1
  simp only at hq
  have eq0 := eqSystem_same (F := F) (g := toP_System x0) hF (show x0.A.length ≤ 16777216 by omega) (show offR x0.A x0.A.length ≤ 16777216 by omega) (show x0.B.length ≤ 16777216 by omega) (show x0.C.length ≤ 16777216 by omega)
  have eq1 := eqSystem_same (F := F) (g := toP_System x1) hF (show x1.A.length ≤ 16777216 by omega) (show offR x1.A x1.A.length ≤ 16777216 by omega) (show x1.B.length ≤ 16777216 by omega) (show x1.C.length ≤ 16777216 by omega)
  obtain ⟨k0, ms0, hm0, hk0, hK0⟩ := markSystem_is (F := F) (k := 1) (g := toP_System x0) hF (by omega) (by omega) (show x0.A.length ≤ 16777216 by omega) (show offR x0.A x0.A.length ≤ 16777216 by omega) (show x0.B.length ≤ 16777216 by omega) (show x0.C.length ≤ 16777216 by omega)
  obtain ⟨k1, ms1, hm1, hk1, hK1⟩ := markSystem_is (F := F) (k := k0) (g := toP_System x1) hF (by omega) (by omega) (show x1.A.length ≤ 16777216 by omega) (show offR x1.A x1.A.length ≤ 16777216 by omega) (show x1.B.length ≤ 16777216 by omega) (show x1.C.length ≤ 16777216 by omega)
  have hqe := eqSystem_same (F := F) (g := q) hF (show q.A.length ≤ 16777216 by omega) (show offR q.A q.A.length ≤ 16777216 by omega) (show q.B.length ≤ 16777216 by omega) (show q.C.length ≤ 16777216 by omega)
  obtain ⟨kq, ma, mb, mc, hm, hh, hk9⟩ := markedSystem (F := F) (q := q) hF hq.1 hq.2.1 hq.2.2.1 hq.2.2.2
  have hkk : ¬ k1 < 0 := by omega
  simp only [hs, hi, to0, eq0, hm0, to1, eq1, hm1, hqe, hm, hh, Option.bind_some, Bool.not_true, cond_false, bne_self_eq_false, dF hkk, dF (show ¬ kq < 0 by omega)]

end Go.Proofs.Ytgkgimglgjfcjaa
