/- The reference and the program answer alike. -/
import Derived.Test.YtmijmamolmoheaaLatestInSmall
namespace Go.Proofs.Ytmijmamolmoheaa

theorem same_LatestIn {F : Nat} {x0 : List GWindow} {x1 : List GBond} (hF : 134217728 ≤ F) (h0 : x0.length ≤ 1048576) (h1 : x1.length ≤ 1048576) :
    ∃ r : List Int × Int, spec_LatestIn F x0 x1 = some r ∧ impl_LatestIn F x0 x1 = some r ∧ r.1.length ≤ 1048576 := by
  unfold spec_LatestIn impl_LatestIn spec_l23Code
  rw [specTask_is hF h0 h1]
  cases ht : taskB x0 x1 with
  | false =>
    have : impl_solveTask F x0 x1 = some ([], [], 1) := by
      unfold impl_solveTask
      rw [implTask_is hF h0 h1, ht]; rfl
    rw [this]
    exact ⟨([], 1), rfl, rfl, by simp⟩
  | true =>
    obtain ⟨n1, _⟩ := taskB_true ht
    rcases solve_is (F := F) hF ht with ⟨es, ls, l1, l2, e1, e2, e3⟩ | ⟨e1, e2, e3⟩
    · rw [e1]
      simp only [Option.bind_some, Bool.not_true, cond_false, e3, beq_false_of_ne (show (ls.length : Int) ≠ 0 by omega)]
      exact ⟨(ls, 0), rfl, rfl, by simp only; omega⟩
    · rw [e1]
      simp only [Option.bind_some, Bool.not_true, cond_false, e3]
      exact ⟨([], 4), rfl, rfl, by simp⟩

end Go.Proofs.Ytmijmamolmoheaa
