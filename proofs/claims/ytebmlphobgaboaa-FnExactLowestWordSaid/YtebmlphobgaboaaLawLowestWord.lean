/- FnExactLowestWord returns true at every input and leaves its arguments as they were. -/
import Derived.Test.YtebmlphobgaboaaLowestWordPure
import Derived.Test.YtebmlphobgaboaaLowestWordLifted
import Derived.Test.YtebmlphobgaboaaBridge
import Derived.Test.YtebmlphobgaboaaRow
import Derived.Test.YtebmlphobgaboaaClosed
namespace Go.Proofs.Ytebmlphobgaboaa.lawLowestWord
open Go.ChangeShapes Go.WideShapes Go.ChangeAt Go.RowKit

theorem own : ownKnob Try.prog.godebug = none := by kernel_rfl
theorem laidOut : laidOutB Try.prog = true := by kernel_rfl

set_option maxRecDepth 100000 in
theorem lifted (os : Os) (started : os.Started) (H : Type) (enc : TypeId × Value → H) :
    ReturnsInHanded {} Try.checked os 4 .any (Rows.fnExactLowestWordSpec.pre6 enc Try.prog Try.f4 Rows.fnExactLowestWordRow.domain false) (Rows.fnExactLowestWordSpec.post enc Try.prog Try.f4 false true false false) := by
  refine returnsInHanded_of_change (C := Try.checked) own started (by kernel_rfl) Try.func4
    (ChangeSpec.witness6 (enc := enc) (C := Try.checked) false ⟨#[], #[.slice none 0 0, .slice none 0 0, .int .i64 0], []⟩ 8 (by kernel_rfl) (by kernel_rfl) (by kernel_rfl) (by kernel_rfl)) ?_
  intro W base args ds gs before hval0 hW hcnd _
  have hval : ∀ (j : Nat) t v, Try.f4.params[j]? = some t → args[j]? = some v → Value.okWide Try.prog W .any base t v := hval0
  have hW' := hW
  obtain ⟨p, q, hA0, hV, rfl, hfz, hnd⟩ := hW
  have hA : DataW.TrodAll enc Try.prog W 0 (fun _ => true) true Try.f4.params.toList args.toList ds p := hA0
  rw [Try.params4] at hA hval
  obtain ⟨v0, vs0, d0, ds0, p0, q0, hargs, rfl, rfl, h0, r0⟩ := trodAll_cons hA
  obtain ⟨v1, vs1, d1, ds1, p1, q1, rfl, rfl, rfl, h1, r1⟩ := trodAll_cons r0
  obtain ⟨v2, vs2, d2, ds2, p2, q2, rfl, rfl, rfl, h2, r2⟩ := trodAll_cons r1
  obtain ⟨rfl, rfl, rfl⟩ := trodAll_nil r2
  obtain rfl : args = #[v0, v1, v2] := by cases args; simp_all
  obtain ⟨rfl, rfl⟩ := trodVars_none hV
  clear hA0 hval0
  obtain ⟨F, hF⟩ : ∃ F, 9223372036854775808 ≤ F := ⟨_, Nat.le_refl _⟩
  obtain ⟨A0, n0, c0, N0, L0, x0, rfl, hn0, hN0, hL0, hf0⟩ := open_i64sss Try.underlying22 Try.underlying59 Try.underlying23 Try.underlying2 (by kernel_rfl) (by kernel_rfl) (by kernel_rfl) (hval 0 _ v0 rfl rfl) h0
  obtain ⟨A1, n1, c1, x1, rfl, hn1, hf1⟩ := open_i64s Try.underlying23 Try.underlying2 (by kernel_rfl) (hval 1 _ v1 rfl rfl) h1
  obtain ⟨a2, rfl, rfl, rfl, wa2⟩ := open_int Try.underlying2 (hval 2 _ v2 rfl rfl) h2
  have wa2 := int_wf wa2
  simp only [maxLen_is] at hn0 hN0 hL0 hn1
  refine (laws_FnExactLowestWord_ok F (cubeOf n0 N0 L0 x0) A0 n0 c0 (by rw [cubeOf_length]) ((List.range n1).map x1) A1 n1 c1 (by simp) a2 true W (law_LowestWord hF (by rw [cubeOf_length]; exact hn0) (cubeOf_le hN0) (cubeOf_le2 hL0) (by simp only [List.length_map, List.length_range]; exact hn1) wa2.1 wa2.2) hf0.rdC hf1.rd).mono ?_
  rintro e W' ⟨v, rfl, rfl, hst⟩
  exact ⟨_, rfl, post_law laidOut (by kernel_rfl) (by kernel_rfl) Try.underlying4 rfl rfl rfl rfl hW' hst.below⟩

theorem proved : Rows.FnExactLowestWordSaid :=
  OpenClaim.holds_of_wide 4 Try.f4 rfl rfl rfl rfl rfl rfl rfl ⟨rfl, rfl, rfl, rfl, rfl⟩ rfl rfl rfl rfl rfl (by kernel_rfl) Try.func4 (by unfold joinedFacts; rw [mayEnter_is, liftsFinal_is, make_is]; kernel_rfl)
    (of_decide_eq_true (by kernel_rfl)) (by unfold Func.isWrapper; rw [if_neg (of_decide_eq_false (by kernel_rfl))]; exact ⟨rfl, rfl⟩)
    (fun os started H enc _ => lifted os started H enc)
end Go.Proofs.Ytebmlphobgaboaa.lawLowestWord
