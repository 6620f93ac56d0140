/- FnExactSeriesSystem returns true at every input and leaves its arguments as they were. -/
import Derived.Test.YtgkgimglgjfcjaaSeriesSystemPure
import Derived.Test.YtgkgimglgjfcjaaSeriesSystemLifted
import Derived.Test.YtgkgimglgjfcjaaBridge
import Derived.Test.YtgkgimglgjfcjaaRow
import Derived.Test.YtgkgimglgjfcjaaClosed
namespace Go.Proofs.Ytgkgimglgjfcjaa.lawSeriesSystem
open Go.ChangeShapes Go.WideShapes Go.ChangeAt Go.RowKit

theorem own : ownKnob Try.prog.godebug = none := by kernel_rfl
theorem laidOut : laidOutB Try.prog = true := by kernel_rfl

set_option maxRecDepth 100000 in
theorem lifted (os : Os) (started : os.Started) (H : Type) (enc : TypeId × Value → H) :
    ReturnsInHanded {} Try.checked os 3 .any (Rows.fnExactSeriesSystemSpec.pre6 enc Try.prog Try.f3 Rows.fnExactSeriesSystemRow.domain false) (Rows.fnExactSeriesSystemSpec.post enc Try.prog Try.f3 false true false false) := by
  refine returnsInHanded_of_change (C := Try.checked) own started (by kernel_rfl) Try.func3
    (ChangeSpec.witness6 (enc := enc) (C := Try.checked) false ⟨#[], #[.agg #[.slice none 0 0, .slice none 0 0, .slice none 0 0], .agg #[.slice none 0 0, .slice none 0 0, .slice none 0 0]], []⟩ 8 (by kernel_rfl) (by kernel_rfl) (by kernel_rfl) (by kernel_rfl)) ?_
  intro W base args ds gs before hval0 hW hcnd _
  have hval : ∀ (j : Nat) t v, Try.f3.params[j]? = some t → args[j]? = some v → Value.okWide Try.prog W .any base t v := hval0
  have hW' := hW
  obtain ⟨p, q, hA0, hV, rfl, hfz, hnd⟩ := hW
  have hA : DataW.TrodAll enc Try.prog W 0 (fun _ => true) true Try.f3.params.toList args.toList ds p := hA0
  rw [Try.params3] at hA hval
  obtain ⟨v0, vs0, d0, ds0, p0, q0, hargs, rfl, rfl, h0, r0⟩ := trodAll_cons hA
  obtain ⟨v1, vs1, d1, ds1, p1, q1, rfl, rfl, rfl, h1, r1⟩ := trodAll_cons r0
  obtain ⟨rfl, rfl, rfl⟩ := trodAll_nil r1
  obtain rfl : args = #[v0, v1] := by cases args; simp_all
  obtain ⟨rfl, rfl⟩ := trodVars_none hV
  clear hA0 hval0
  obtain ⟨F, hF⟩ : ∃ F, 9223372036854775808 ≤ F := ⟨_, Nat.le_refl _⟩
  obtain ⟨A0a, n0a, c0a, L0a, x0a, A0b, n0b, c0b, x0b, A0c, n0c, c0c, x0c, rfl, hn0a, hL0a, hn0b, hn0c, hf0a, hf0b, hf0c⟩ := open_system Try.underlying25 Try.underlying22 Try.underlying23 Try.underlying23 Try.underlying23 Try.underlying2 (by kernel_rfl) (by kernel_rfl) (by kernel_rfl) (by kernel_rfl) (hval 0 _ v0 rfl rfl) h0
  obtain ⟨A1a, n1a, c1a, L1a, x1a, A1b, n1b, c1b, x1b, A1c, n1c, c1c, x1c, rfl, hn1a, hL1a, hn1b, hn1c, hf1a, hf1b, hf1c⟩ := open_system Try.underlying25 Try.underlying22 Try.underlying23 Try.underlying23 Try.underlying23 Try.underlying2 (by kernel_rfl) (by kernel_rfl) (by kernel_rfl) (by kernel_rfl) (hval 1 _ v1 rfl rfl) h1
  simp only [maxLen_is] at hn0a hL0a hn0b hn0c hn1a hL1a hn1b hn1c
  refine (laws_FnExactSeriesSystem_ok F (LSystem.mk (rowsOf n0a L0a x0a) ((List.range n0b).map x0b) ((List.range n0c).map x0c)) A0a n0a c0a (by rw [rowsOf_length]) A0b n0b c0b (by simp) A0c n0c c0c (by simp) (LSystem.mk (rowsOf n1a L1a x1a) ((List.range n1b).map x1b) ((List.range n1c).map x1c)) A1a n1a c1a (by rw [rowsOf_length]) A1b n1b c1b (by simp) A1c n1c c1c (by simp) true W (law_SeriesSystem hF (by rw [rowsOf_length]; exact hn0a) (rowsOf_le hL0a) (by simp only [List.length_map, List.length_range]; exact hn0b) (by simp only [List.length_map, List.length_range]; exact hn0c) (by rw [rowsOf_length]; exact hn1a) (rowsOf_le hL1a) (by simp only [List.length_map, List.length_range]; exact hn1b) (by simp only [List.length_map, List.length_range]; exact hn1c)) hf0a.rdM hf0b.rd hf0c.rd hf1a.rdM hf1b.rd hf1c.rd).mono ?_
  rintro e W' ⟨v, rfl, rfl, hst⟩
  exact ⟨_, rfl, post_law laidOut (by kernel_rfl) (by kernel_rfl) Try.underlying4 rfl rfl rfl rfl hW' hst.below⟩

theorem proved : Rows.FnExactSeriesSystemSaid :=
  OpenClaim.holds_of_wide 3 Try.f3 rfl rfl rfl rfl rfl rfl rfl ⟨rfl, rfl, rfl, rfl, rfl⟩ rfl rfl rfl rfl rfl (by kernel_rfl) Try.func3 (by unfold joinedFacts; rw [mayEnter_is, liftsFinal_is, make_is]; kernel_rfl)
    (of_decide_eq_true (by kernel_rfl)) (by unfold Func.isWrapper; rw [if_neg (of_decide_eq_false (by kernel_rfl))]; exact ⟨rfl, rfl⟩)
    (fun os started H enc _ => lifted os started H enc)
end Go.Proofs.Ytgkgimglgjfcjaa.lawSeriesSystem
