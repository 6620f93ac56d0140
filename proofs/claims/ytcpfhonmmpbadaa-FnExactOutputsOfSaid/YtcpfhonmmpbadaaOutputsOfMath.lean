/- The reference and the program answer alike. -/
import Derived.Test.YtcpfhonmmpbadaaOutputsOfSmall
namespace Go.Proofs.Ytcpfhonmmpbadaa

theorem same_OutputsOf {F : Nat} {x0 : GSystem} {x1 x2 : List Int} (hF : 134217728 ≤ F) (hr : ∀ row, row ∈ x0.A → row.length ≤ 1048576) (hB : x0.B.length ≤ 1048576) (hC : x0.C.length ≤ 1048576) (h1 : x1.length ≤ 1048576) (h2 : x2.length ≤ 1048576) :
    ∃ r : List Int × Int, spec_OutputsOf F x0 x1 x2 = some r ∧ impl_OutputsOf F x0 x1 x2 = some r ∧ r.1.length ≤ 1048576 := by
  unfold spec_OutputsOf impl_OutputsOf
  rw [bind_of (specRunCode_is hF hr hB hC h1 h2), bind_of (implRunCode_is hF hr hB hC h1 h2)]
  cases hok : runOk x0 x1 x2 with
  | false => exact ⟨([], 1), rfl, rfl, by simp⟩
  | true =>
    obtain ⟨o, e1, e2, e3⟩ := run_same hF hok
    simp only [cond_true, bne_self_eq_false, cond_false, e1, e2, Option.bind_some]
    cases o with
    | none => exact ⟨([], 3), rfl, rfl, by simp⟩
    | some p => exact ⟨(p.2, 0), rfl, rfl, by have := e3 p rfl; simp only; omega⟩

end Go.Proofs.Ytcpfhonmmpbadaa
