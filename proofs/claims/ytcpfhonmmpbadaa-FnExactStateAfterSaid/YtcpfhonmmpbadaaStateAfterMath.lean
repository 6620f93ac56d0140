/- The reference and the program answer alike. -/
import Derived.Test.YtcpfhonmmpbadaaStateAfterSmall
namespace Go.Proofs.Ytcpfhonmmpbadaa

theorem same_StateAfter {F : Nat} {x0 : GSystem} {x1 x2 : List Int} (hF : 134217728 ≤ F) (hr : ∀ row, row ∈ x0.A → row.length ≤ 1048576) (hB : x0.B.length ≤ 1048576) (hC : x0.C.length ≤ 1048576) (h1 : x1.length ≤ 1048576) (h2 : x2.length ≤ 1048576) :
    ∃ r : List Int × Int, spec_StateAfter F x0 x1 x2 = some r ∧ impl_StateAfter F x0 x1 x2 = some r ∧ r.1.length ≤ 1048576 := by
  unfold spec_StateAfter impl_StateAfter
  rw [bind_of (specRunCode_is hF hr hB hC h1 h2), bind_of (implRunCode_is hF hr hB hC h1 h2)]
  cases hok : runOk x0 x1 x2 with
  | false => exact ⟨([], 1), rfl, rfl, by simp⟩
  | true =>
    obtain ⟨o, e1, e2, e3⟩ := run_same hF hok
    simp only [cond_true, bne_self_eq_false, cond_false, e1, e2, Option.bind_some]
    cases o with
    | none => exact ⟨([], 3), rfl, rfl, by simp⟩
    | some p =>
      have hp := (e3 p rfl).1
      refine ⟨(p.1, 0), ?_, rfl, by simp only; omega⟩
      simp only [Bool.not_true, cond_false, specOwn_is (show p.1.length ≤ 1048576 by omega), Option.bind_some]

end Go.Proofs.Ytcpfhonmmpbadaa
