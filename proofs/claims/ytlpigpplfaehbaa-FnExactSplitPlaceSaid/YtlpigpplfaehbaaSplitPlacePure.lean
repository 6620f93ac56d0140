/- The law's model answers true. -/
import Derived.Test.YtlpigpplfaehbaaSplitPlaceMath
namespace Go.Proofs.Ytlpigpplfaehbaa

theorem law_SplitPlace {F : Nat} {g : LEventGraph} {a b : Int} (hF0 : 9223372036854775808 ≤ F) (h : g.Places.length ≤ 9223372036854775807) (_ : -9223372036854775808 ≤ a) (_ : a ≤ 9223372036854775807) (_ : -9223372036854775808 ≤ b) (_ : b ≤ 9223372036854775807) : laws_FnExactSplitPlace F g a b = some true := by
  have hF : 134217728 ≤ F := by omega
  obtain ⟨r, hr, h2⟩ := szEventGraph_is (F := F) (left := 1048576) (by decide) (by decide) h
  unfold laws_FnExactSplitPlace
  rw [bind_of hr]
  by_cases hc : r < 0
  · rw [bdT hc]
  rw [bdF hc]
  have hl : g.Places.length ≤ 1048576 := by omega
  have hto := toEventGraph_is hF hl
  have hx : (toP_EventGraph g).Places.length ≤ 1048576 := by simp only [toP_EventGraph, List.length_map]; exact hl
  obtain ⟨⟨q, z⟩, hs, hi, hq⟩ := split_same (i := a) (d := b) hF hx
  simp only at hq
  have hqe := eqEventGraph_same q hF (by omega)
  have hxe := eqEventGraph_same (toP_EventGraph g) hF (by omega)
  obtain ⟨ms0, hm0, -, -⟩ := markEventGraph_is (k := 1) (g := toP_EventGraph g) hF (by omega) (by decide) (by decide)
  obtain ⟨ms, hm, hml, hmi⟩ := markEventGraph_is (k := 1) (g := q) hF (by omega) (by decide) (by decide)
  have hh := heldEventGraph_is (k := 1) (g := ⟨q.Events, ms⟩) hF (by simp only; omega) (by decide) (by decide) (by intro i hi; simp only at hi ⊢; exact hmi i (by omega))
  simp only [hml] at hh
  simp only [hto, hs, hi, hqe, hxe, hm0, hm, hh, Option.bind_some, Bool.not_true, cond_false, bne_self_eq_false, dF (show ¬ 1 + 4 * ((toP_EventGraph g).Places.length : Int) < 0 by omega), dF (show ¬ 1 + 4 * (q.Places.length : Int) < 0 by omega)]

end Go.Proofs.Ytlpigpplfaehbaa
