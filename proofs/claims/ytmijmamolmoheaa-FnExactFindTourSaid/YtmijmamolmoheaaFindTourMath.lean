/- The reference and the program answer alike. -/
import Derived.Test.YtmijmamolmoheaaFindTourSmall
namespace Go.Proofs.Ytmijmamolmoheaa

theorem same_FindTour {F : Nat} {x0 : List GWindow} {x1 : List GBond} (hF : 134217728 ≤ F) (h0 : x0.length ≤ 1048576) (h1 : x1.length ≤ 1048576) :
    ∃ r : List Int × Int, spec_FindTour F x0 x1 = some r ∧ impl_FindTour F x0 x1 = some r ∧ r.1.length ≤ 1048576 := by
  unfold spec_FindTour impl_FindTour
  rw [specTask_is hF h0 h1, implTask_is hF h0 h1]
  cases ht : taskB x0 x1 with
  | false => exact ⟨([], 1), rfl, rfl, by simp⟩
  | true =>
    obtain ⟨n1, n10, _⟩ := taskB_true ht
    have hk := bT_ok ht x0.length
    simp only [Bool.not_true, cond_false, Option.bind_some, specBonds_is hF ht, implBonds_is hF ht, specOverT_is hF n10 hk, implPos_is hF n1 n10 hk]
    cases hc : firstCyc (bT' x1) x0.length (fun w => decide (0 < w)) F with
    | none => exact ⟨([], 4), rfl, rfl, by simp⟩
    | some r =>
      obtain ⟨r0, r1, _⟩ := firstCyc_ne hc
      have := List.length_pos_iff.2 r0
      simp only [Option.elim_some, nl_len, beq_false_of_ne (show (r.length : Int) ≠ 0 by omega), cond_false]
      exact ⟨(nl r, 0), rfl, rfl, by simp only [nl_len]; omega⟩

end Go.Proofs.Ytmijmamolmoheaa
