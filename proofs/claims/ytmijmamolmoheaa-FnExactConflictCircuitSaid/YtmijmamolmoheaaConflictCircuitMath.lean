/- The reference and the program answer alike. -/
import Derived.Test.YtmijmamolmoheaaConflictCircuitSmall
namespace Go.Proofs.Ytmijmamolmoheaa

theorem same_ConflictCircuit {F : Nat} {x0 : GEventGraph} {x1 : Int} (hF : 134217728 ≤ F) (h0 : x0.Places.length ≤ 1048576) :
    ∃ r : List Int × Int, spec_ConflictCircuit F x0 x1 = some r ∧ impl_ConflictCircuit F x0 x1 = some r ∧ r.1.length ≤ 1048576 := by
  unfold spec_ConflictCircuit impl_ConflictCircuit spec_l20Period impl_checkPeriod
  simp only [specGraph_is hF h0, implGraph_is hF h0, specIn_is, within_is, Option.bind_some]
  cases hg : graphB x0 with
  | false => exact ⟨([], 1), rfl, rfl, by simp⟩
  | true =>
    cases hb : inB x1 0 100000 with
    | false => exact ⟨([], 2), rfl, rfl, by simp⟩
    | true =>
      obtain ⟨b0, b1⟩ := inB_true.1 hb
      obtain ⟨e1, e2, e3, _⟩ := graphB_true hg
      obtain ⟨c, hc, hz⟩ := implBetter_is (F := F) (r := x1) hF hg b0 b1
      simp only [Bool.not_true, cond_false, bne_self_eq_false, Option.bind_some, hc, specOverC_is (over := 0) hF hg b0 b1, implFirstConf_is hF hg b0 b1]
      cases hf : firstC x0 (fun d m => decide (0 < d - x1 * m)) F with
      | none =>
        have : c.isEmpty = true := hz.2 fun hp => firstC_none hg b0 b1 (by omega) hp hf
        rw [this]
        exact ⟨([], 4), rfl, rfl, by simp⟩
      | some q =>
        obtain ⟨hok, _, hgood, _⟩ := firstC_some hf
        have h2 : 0 < sumD x0 q - x1 * sumM x0 q := of_decide_eq_true hgood
        have : c.isEmpty = false := by
          cases he : c.isEmpty with
          | false => rfl
          | true =>
            have := circ_bound hg b0 b1 (hz.1 he) hf
            omega
        have hl := hok.len hg
        have hlen : ((nl q).length : Int) ≠ 0 := by
          have := List.length_pos_iff.2 hok.ne
          rw [nl_len]; omega
        rw [this]
        simp only [Option.elim_some, beq_false_of_ne hlen, cond_false, Option.bind_some]
        exact ⟨(nl q, 0), rfl, rfl, by show (nl q).length ≤ _; rw [nl_len]; omega⟩

end Go.Proofs.Ytmijmamolmoheaa
