/- The reference and the program answer alike. -/
import Derived.Test.YtgkgimglgjfcjaaSeriesSystemSmall
namespace Go.Proofs.Ytgkgimglgjfcjaa

theorem same_SeriesSystem {F : Nat} {x0 x1 : GSystem} (hF : 134217728 ≤ F) (r0 : ∀ row, row ∈ x0.A → row.length ≤ 1048576) (b0 : x0.B.length ≤ 1048576) (c0 : x0.C.length ≤ 1048576) (r1 : ∀ row, row ∈ x1.A → row.length ≤ 1048576) (b1 : x1.B.length ≤ 1048576) (c1 : x1.C.length ≤ 1048576) :
    ∃ r : GSystem × Int, spec_SeriesSystem F x0 x1 = some r ∧ impl_SeriesSystem F x0 x1 = some r ∧ (r.1.A.length ≤ 1048576 ∧ offR r.1.A r.1.A.length ≤ 1048576 ∧ r.1.B.length ≤ 1048576 ∧ r.1.C.length ≤ 1048576) := by
  rcases out_Series hF r0 b0 c0 r1 b1 c1 with ⟨c, _, h1, h2⟩ | ⟨_, _, hl, _, _, hs, h1, h2⟩
  · exact ⟨_, h1, h2, by simp [offR_zero]⟩
  · obtain ⟨l0, a0, lb0, lc0⟩ := systemB_true hs
    refine ⟨_, h1, h2, ?_, ?_, ?_, ?_⟩
    · show (serS x0 x1).A.length ≤ _; omega
    · show offR (serS x0 x1).A (serS x0 x1).A.length ≤ _
      rw [off_rows a0 _ (Nat.le_refl _)]
      have h4 := Nat.mul_le_mul l0 l0
      omega
    · show (serS x0 x1).B.length ≤ _; omega
    · show (serS x0 x1).C.length ≤ _; omega

end Go.Proofs.Ytgkgimglgjfcjaa
