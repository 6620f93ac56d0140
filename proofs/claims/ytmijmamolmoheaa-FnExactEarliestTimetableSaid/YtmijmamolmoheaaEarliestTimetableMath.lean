/- The reference and the program answer alike. -/
import Derived.Test.YtmijmamolmoheaaEarliestTimetableSmall
namespace Go.Proofs.Ytmijmamolmoheaa

theorem same_EarliestTimetable {F : Nat} {x0 : GEventGraph} {x1 : Int} (hF : 134217728 ≤ F) (h0 : x0.Places.length ≤ 1048576) :
    ∃ r : GTimetable × Int, spec_EarliestTimetable F x0 x1 = some r ∧ impl_EarliestTimetable F x0 x1 = some r ∧ r.1.Starts.length ≤ 1048576 := by
  unfold spec_EarliestTimetable impl_EarliestTimetable spec_l20Period impl_checkPeriod
  simp only [specGraph_is hF h0, implGraph_is hF h0, specIn_is, within_is, Option.bind_some]
  cases hg : graphB x0 with
  | false => exact ⟨(⟨0, []⟩, 1), rfl, rfl, by simp⟩
  | true =>
    cases hb : inB x1 0 100000 with
    | false => exact ⟨(⟨0, []⟩, 2), rfl, rfl, by simp⟩
    | true =>
      obtain ⟨b0, b1⟩ := inB_true.1 hb
      obtain ⟨e1, e2, _⟩ := graphB_true hg
      have hk := wT_ok hg b0 b1 x0.Events.toNat
      have hmk : mk x0.Events (0 : Int) = some (List.replicate x0.Events.toNat 0) := mk_int 0 (by omega) (by omega)
      unfold impl_timePotential
      simp only [Bool.not_true, cond_false, bne_self_eq_false, Option.bind_some, specWeights_is hF hg b0 b1, implWeights_is hF hg b0 b1]
      rcases stars_is (F := F) hF (show 1 ≤ x0.Events.toNat by omega) (by omega) hk with ⟨_, h2, h3⟩ | ⟨_, h2, z, h3⟩
      · have hr : ∀ row, row ∈ tabM x0.Events.toNat x0.Events.toNat (fw (wT x0 x1) x0.Events.toNat) → row.length = (List.replicate x0.Events.toNat (0 : Int)).length := fun row hrow => by rw [tabM_rows row hrow]; simp
        have hl : (List.replicate x0.Events.toNat (0 : Int)).length ≤ 1048576 := by simp; omega
        rw [h2, h3]
        simp only [Option.bind_some, Bool.not_true, cond_false, hmk]
        rw [specApply_is hF (by rw [tabM_len]; omega) hl hr, implApply_is hF (by rw [tabM_len]; omega) hl hr]
        refine ⟨(⟨x1, applyv (tabM x0.Events.toNat x0.Events.toNat (fw (wT x0 x1) x0.Events.toNat)) (List.replicate x0.Events.toNat 0)⟩, 0), rfl, rfl, ?_⟩
        show (applyv _ _).length ≤ _
        unfold applyv; rw [List.length_map, tabM_len]; omega
      · rw [h2, h3]
        exact ⟨(⟨0, []⟩, 5), rfl, rfl, by simp⟩

end Go.Proofs.Ytmijmamolmoheaa
