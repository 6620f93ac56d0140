/- The law's model answers true. -/
import Derived.Test.YtlpigpplfaehbaaResponseOfMath
namespace Go.Proofs.Ytlpigpplfaehbaa

theorem law_ResponseOf {F : Nat} {g : LSystem} {n : Int} (hF0 : 9223372036854775808 ≤ F) (hA : g.A.length ≤ 9223372036854775807) (hr : ∀ row, row ∈ g.A → row.length ≤ 9223372036854775807) (hB : g.B.length ≤ 9223372036854775807) (hC : g.C.length ≤ 9223372036854775807) (_ : -9223372036854775808 ≤ n) (_ : n ≤ 9223372036854775807) : laws_FnExactResponseOf F g n = some true := by
  have hF : 134217728 ≤ F := by omega
  obtain ⟨r, hr1, h2⟩ := szSystem_is hF0 hA hr hB hC
  unfold laws_FnExactResponseOf
  rw [bind_of hr1]
  by_cases hc : r < 0
  · rw [bdT hc]
  rw [bdF hc]
  have a1 : g.A.length ≤ 1048576 := by omega
  have a2 : offR g.A g.A.length ≤ 1048576 := by omega
  have a3 : g.B.length ≤ 1048576 := by omega
  have a4 : g.C.length ≤ 1048576 := by omega
  have hto := toSystem_is hF a1 a2 a3 a4
  obtain ⟨⟨q, z⟩, hs, hi, hq⟩ := resp_same (F := F) (s := toP_System g) (n := n) hF (rows_le a2) a3 a4
  simp only at hq
  have hqe := eqInt64S_same (F := F) (xs := q) hF (by omega)
  have hxe := eqSystem_same (F := F) (g := toP_System g) hF (show g.A.length ≤ 16777216 by omega) (show offR g.A g.A.length ≤ 16777216 by omega) (show g.B.length ≤ 16777216 by omega) (show g.C.length ≤ 16777216 by omega)
  obtain ⟨k0, ms0, hm0, hk0⟩ := markSystem_is (F := F) (g := toP_System g) hF (show g.A.length ≤ 16777216 by omega) (show offR g.A g.A.length ≤ 16777216 by omega) (show g.B.length ≤ 16777216 by omega) (show g.C.length ≤ 16777216 by omega)
  obtain ⟨ms, hm, hml, hmi⟩ := markInt64S_is (F := F) (k := 1) (ps := q) hF (by omega) (by decide) (by decide)
  have hh := heldInt64S_is (F := F) (k := 1) (ms := ms) hF (by omega) (by decide) (by decide) (fun i hi => hmi i (by omega))
  rw [hml] at hh
  simp only [hto, hs, hi, hqe, hxe, hm0, hm, hh, Option.bind_some, Bool.not_true, cond_false, bne_self_eq_false, dF hk0, dF (show ¬ 1 + 1 * (q.length : Int) < 0 by omega)]

end Go.Proofs.Ytlpigpplfaehbaa
