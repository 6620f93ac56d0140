/- The reference and the program answer alike. -/
import Derived.Test.YthbcakdjdbfepaaSettledAfterSmall
namespace Go.Proofs.Ythbcakdjdbfepaa

theorem same_SettledAfter {F : Nat} {x0 : GEventGraph} {x1 : GTimetable} {x2 : List Int} (hF : 134217728 ≤ F) (h0 : x0.Places.length ≤ 1048576) (h1 : x1.Starts.length ≤ 1048576) (h2 : x2.length ≤ 1048576) :
    ∃ r : Int × Int, spec_SettledAfter F x0 x1 x2 = some r ∧ impl_SettledAfter F x0 x1 x2 = some r := by
  unfold spec_SettledAfter impl_SettledAfter
  rw [bind_of (specDelayCode_is hF h0 h1 h2), bind_of (implDelayCode_is hF h0 h1 h2)]
  by_cases hd : delayCode x0 x1 x2 true = 0
  · rw [bF (neF hd), bF (neF hd)]
    obtain ⟨T, _, _, _, e1, e2⟩ := settled_is hF hd
    rw [bind_of e1, bind_of e2]
    by_cases h : (lsz T 50 : Int) ≤ 45
    · rw [dT h, dF (show ¬ (45 : Int) < (lsz T 50 : Int) by omega)]
      exact ⟨_, rfl, rfl⟩
    · rw [dF h, dT (show (45 : Int) < (lsz T 50 : Int) by omega)]
      exact ⟨_, rfl, rfl⟩
  · rw [bT (neT hd), bT (neT hd)]
    exact ⟨_, rfl, rfl⟩

end Go.Proofs.Ythbcakdjdbfepaa
