/- The reference and the program split a place alike. -/
import Derived.Test.YtlpigpplfaehbaaSplitPlaceSmall
namespace Go.Proofs.Ytlpigpplfaehbaa

theorem specResult_is {F : Nat} {g : GEventGraph} (hF : 134217728 ≤ F) (hl : g.Places.length ≤ 1048576) : spec_l19Result F g = some (bif graphB g then (g, 0) else (⟨0, []⟩, 3)) := by
  unfold spec_l19Result
  rw [bind_of (specGraph_is hF hl)]
  cases graphB g <;> rfl
theorem implResult_is {F : Nat} {g : GEventGraph} (hF : 134217728 ≤ F) (hl : g.Places.length ≤ 1048576) : impl_checkedGraph F g = some (bif graphB g then (g, 0) else (⟨0, []⟩, 3)) := by
  unfold impl_checkedGraph
  rw [bind_of (implGraph_is hF hl)]
  cases graphB g <;> rfl

theorem split_same {F : Nat} {g : GEventGraph} {i d : Int} (hF : 134217728 ≤ F) (hl : g.Places.length ≤ 1048576) :
    ∃ r : GEventGraph × Int, spec_SplitPlace F g i d = some r ∧ impl_SplitPlace F g i d = some r ∧ r.1.Places.length ≤ 1048576 := by
  unfold spec_SplitPlace impl_SplitPlace spec_l11Index
  rw [bind_of (implGraph_is hF hl), bind_of (specGraph_is hF hl)]
  cases hg : graphB g with
  | false => exact ⟨(⟨0, []⟩, 1), rfl, rfl, by simp⟩
  | true =>
    obtain ⟨h1, h2, h3, hw, hp⟩ := graphB_true hg
    have hw2 : IntKind.i64.wrap ((g.Places.length : Int) - 1) = (g.Places.length : Int) - 1 := wr (by omega) (by omega)
    simp only [Bool.not_true, cond_false, specIn_is, within_is, Option.bind_some, hw2]
    cases hi : inB i 0 ((g.Places.length : Int) - 1) with
    | false => exact ⟨(⟨0, []⟩, 2), rfl, rfl, by simp⟩
    | true =>
      obtain ⟨i0, i1⟩ := inB_true.1 hi
      have hx := idx_int (xs := g.Places) i0 (by omega)
      simp only [Bool.not_true, cond_false, hx, Option.bind_some]
      cases hd : inB d 0 (g.Places[i.toNat]'(by omega)).Delay with
      | false => exact ⟨(⟨0, []⟩, 2), rfl, rfl, by simp⟩
      | true =>
        have hc : ((0 : Int) == 0) = true := rfl
        have hn : ((0 : Int) != 0) = false := rfl
        have ha : app ([] : List GPlace) g.Places = some g.Places := by rw [app_le (by simp only [List.length_nil]; omega)]; rfl
        simp only [hc, hn, cond_true, Bool.not_true, cond_false, Option.bind_some, spec_l11Own, impl_cloneGraph, slices_Clone_Place, ha, hx, upd_int _ i0 (show i < (g.Places.length : Int) by omega)]
        rw [app_le (by simp only [List.length_set, List.length_singleton]; omega)]
        simp only [Option.bind_some]
        rw [bind_of (specResult_is hF (by simp only [List.length_append, List.length_set, List.length_singleton]; omega)), bind_of (implResult_is hF (by simp only [List.length_append, List.length_set, List.length_singleton]; omega))]
        refine ⟨_, rfl, rfl, ?_⟩
        cases graphB _ with
        | false => simp
        | true => simp only [cond_true, List.length_append, List.length_set, List.length_singleton]; omega

end Go.Proofs.Ytlpigpplfaehbaa
