/- The reference and the program answer alike. -/
import Derived.Test.YtebmlphobgaboaaLowestWordSmall
namespace Go.Proofs.Ytebmlphobgaboaa

theorem same_LowestWord {F : Nat} {x0 : List (List (List Int))} {x1 : List Int} {x2 : Int} (hF : 134217728 ≤ F) (h0 : x0.length ≤ 1048576) (hr : ∀ m, m ∈ x0 → ∀ row, row ∈ m → row.length ≤ 1048576) (h1 : x1.length ≤ 1048576) :
    ∃ r : List Int × Int × Int, spec_LowestWord F x0 x1 x2 = some r ∧ impl_LowestWord F x0 x1 x2 = some r ∧ r.1.length ≤ 1048576 := by
  obtain ⟨r, e1, e2, e3⟩ := best_same (F := F) (sg := (-1)) (most := false) (x0 := x0) (x1 := x1) (x2 := x2) (.inr ⟨rfl, rfl⟩) hF h0 hr h1
  unfold spec_LowestWord impl_LowestWord
  rw [e1, e2]
  exact ⟨r, rfl, rfl, e3⟩

end Go.Proofs.Ytebmlphobgaboaa
