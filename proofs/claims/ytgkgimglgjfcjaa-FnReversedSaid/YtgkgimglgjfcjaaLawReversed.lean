/- FnReversed returns true at every input and leaves its argument as it was. -/
import Derived.Test.YtgkgimglgjfcjaaReversedMath
import Derived.Test.YtgkgimglgjfcjaaReversedLifted
import Derived.Test.YtgkgimglgjfcjaaByte
import Derived.Test.YtgkgimglgjfcjaaClosed
namespace Go.Proofs.Ytgkgimglgjfcjaa.lawReversed
open Go.ChangeShapes Go.WideShapes Go.ChangeAt Go.RowKit

theorem own : ownKnob Try.prog.godebug = none := by kernel_rfl
theorem laidOut : laidOutB Try.prog = true := by kernel_rfl

set_option maxRecDepth 100000 in
theorem lifted (os : Os) (started : os.Started) (H : Type) (enc : TypeId × Value → H) :
    ReturnsInHanded {} Try.checked os 9 .any (Rows.fnReversedSpec.pre6 enc Try.prog Try.f9 Rows.fnReversedRow.domain false) (Rows.fnReversedSpec.post enc Try.prog Try.f9 false true false false) := by
  refine returnsInHanded_of_change (C := Try.checked) own started (by kernel_rfl) Try.func9
    (ChangeSpec.witness6 (enc := enc) (C := Try.checked) false ⟨#[], #[.slice none 0 0], []⟩ 8 (by kernel_rfl) (by kernel_rfl) (by kernel_rfl) (by kernel_rfl)) ?_
  intro W base args ds gs before hval0 hW hcnd _
  have hval : ∀ (j : Nat) t v, Try.f9.params[j]? = some t → args[j]? = some v → Value.okWide Try.prog W .any base t v := hval0
  have hW' := hW
  obtain ⟨p, q, hA0, hV, rfl, hfz, hnd⟩ := hW
  have hA : DataW.TrodAll enc Try.prog W 0 (fun _ => true) true Try.f9.params.toList args.toList ds p := hA0
  rw [Try.params9] at hA hval
  obtain ⟨v0, vs0, d0, ds0, p0, q0, hargs, rfl, rfl, h0, r0⟩ := trodAll_cons hA
  obtain ⟨rfl, rfl, rfl⟩ := trodAll_nil r0
  obtain rfl : args = #[v0] := by cases args; simp_all
  obtain ⟨rfl, rfl⟩ := trodVars_none hV
  clear hA0 hval0
  obtain ⟨F, hF⟩ : ∃ F, 9223372036854775808 ≤ F := ⟨_, Nat.le_refl _⟩
  obtain ⟨A0, c0, x0, rfl, hn0, hb0, hf0⟩ := open_bytes Try.underlying34 Try.underlying5 (by kernel_rfl) (hval 0 _ v0 rfl rfl) h0
  simp only [maxLen_is] at hn0
  refine (laws_FnReversed_ok F x0 A0 x0.length c0 rfl true W (law_Reversed hF hn0 hb0) hf0).mono ?_
  rintro e W' ⟨v, rfl, rfl, hst⟩
  exact ⟨_, rfl, post_law laidOut (by kernel_rfl) (by kernel_rfl) Try.underlying4 rfl rfl rfl rfl hW' hst.below⟩

theorem proved : Rows.FnReversedSaid :=
  OpenClaim.holds_of_wide 9 Try.f9 rfl rfl rfl rfl rfl rfl rfl ⟨rfl, rfl, rfl, rfl, rfl⟩ rfl rfl rfl rfl rfl (by kernel_rfl) Try.func9 (by unfold joinedFacts; rw [mayEnter_is, liftsFinal_is, make_is]; kernel_rfl)
    (of_decide_eq_true (by kernel_rfl)) (by unfold Func.isWrapper; rw [if_neg (of_decide_eq_false (by kernel_rfl))]; exact ⟨rfl, rfl⟩)
    (fun os started H enc _ => lifted os started H enc)
end Go.Proofs.Ytgkgimglgjfcjaa.lawReversed
