/- The reference and the program answer alike. -/
import Derived.Test.YtmijmamolmoheaaPositiveCycleSmall
namespace Go.Proofs.Ytmijmamolmoheaa

theorem same_PositiveCycle {F : Nat} {x0 : List (List Int)} (hF : 134217728 ≤ F) (h0 : x0.length ≤ 1048576) (h1 : offR x0 x0.length ≤ 1048576) :
    ∃ r : List Int × Int, spec_PositiveCycle F x0 = some r ∧ impl_PositiveCycle F x0 = some r ∧ r.1.length ≤ 1048576 := by
  unfold spec_PositiveCycle impl_PositiveCycle
  rw [specSquare_is hF (rows_le h1), implSquare_is hF (rows_le h1)]
  cases hs : squareB x0 with
  | false => exact ⟨([], 1), rfl, rfl, by simp⟩
  | true =>
    obtain ⟨n1, n10, e, hk⟩ := square_tab hs
    generalize hn : x0.length = n at n1 n10 e hk
    generalize hf : entryOf x0 = f at e hk
    subst e
    have hW : ∀ (l : List Int) (w : Int), (fun x0 x1 => impl_PositiveCycle_c1 F x0 x1) l w = some (decide (0 < w)) := fun l w => rfl
    have hS := specOverT_is (F := F) (over := 0) hF n10 hk
    have hI := implFirst_is (F := F) (good := fun w => decide (0 < w)) hF n10 hk hW
    have hp := firstCyc_pos (a := f) (n := n) (K := F) (by omega)
    simp only [Bool.not_true, cond_false, Option.bind_some, hS, hI]
    rcases implStar_is (F := F) hF n1 n10 hk with ⟨hok, h2⟩ | ⟨hno, h2⟩
    · have hc : firstCyc f n (fun w => decide (0 < w)) F = none := by
        cases h : firstCyc f n (fun w => decide (0 < w)) F with
        | none => rfl
        | some r => exact absurd (hp.1 (by rw [h]; rfl)) (fwok_none hk (by omega) hok)
      rw [h2, hc]
      exact ⟨([], 4), rfl, rfl, by simp⟩
    · have hpos : PosCyc f n := Classical.byContradiction fun h => hno ((fwok_iff hk (by omega)).2 h)
      obtain ⟨r, hr⟩ := Option.isSome_iff_exists.1 (hp.2 hpos)
      obtain ⟨r0, r1, _⟩ := firstCyc_ne hr
      have := List.length_pos_iff.2 r0
      rw [h2, hr]
      simp only [Option.bind_some, Option.elim_some, cond_false, nl_len, beq_false_of_ne (show (r.length : Int) ≠ 0 by omega)]
      exact ⟨(nl r, 0), rfl, rfl, by simp only [nl_len]; omega⟩

end Go.Proofs.Ytmijmamolmoheaa
