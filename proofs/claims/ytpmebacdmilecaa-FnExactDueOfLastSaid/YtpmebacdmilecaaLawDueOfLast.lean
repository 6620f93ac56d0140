/- FnExactDueOfLast returns true at every input and leaves its arguments as they were. -/
import Derived.Test.YtpmebacdmilecaaDueOfLastPure
import Derived.Test.YtpmebacdmilecaaDueOfLastLifted
import Derived.Test.YtpmebacdmilecaaBridge
import Derived.Test.YtpmebacdmilecaaRow
import Derived.Test.YtpmebacdmilecaaClosed
namespace Go.Proofs.Ytpmebacdmilecaa.lawDueOfLast
open Go.ChangeShapes Go.WideShapes Go.ChangeAt Go.RowKit

theorem own : ownKnob Try.prog.godebug = none := by kernel_rfl
theorem laidOut : laidOutB Try.prog = true := by kernel_rfl

set_option maxRecDepth 100000 in
theorem lifted (os : Os) (started : os.Started) (H : Type) (enc : TypeId × Value → H) :
    ReturnsInHanded {} Try.checked os 6 .any (Rows.fnExactDueOfLastSpec.pre6 enc Try.prog Try.f6 Rows.fnExactDueOfLastRow.domain false) (Rows.fnExactDueOfLastSpec.post enc Try.prog Try.f6 false true false false) := by
  refine returnsInHanded_of_change (C := Try.checked) own started (by kernel_rfl) Try.func6
    (ChangeSpec.witness6 (enc := enc) (C := Try.checked) false ⟨#[], #[.agg #[.int .i64 0, .slice none 0 0], .int .i64 0, .slice none 0 0], []⟩ 8 (by kernel_rfl) (by kernel_rfl) (by kernel_rfl) (by kernel_rfl)) ?_
  intro W base args ds gs before hval0 hW hcnd _
  have hval : ∀ (j : Nat) t v, Try.f6.params[j]? = some t → args[j]? = some v → Value.okWide Try.prog W .any base t v := hval0
  have hW' := hW
  obtain ⟨p, q, hA0, hV, rfl, hfz, hnd⟩ := hW
  have hA : DataW.TrodAll enc Try.prog W 0 (fun _ => true) true Try.f6.params.toList args.toList ds p := hA0
  rw [Try.params6] at hA hval
  obtain ⟨v0, vs0, d0, ds0, p0, q0, hargs, rfl, rfl, h0, r0⟩ := trodAll_cons hA
  obtain ⟨v1, vs1, d1, ds1, p1, q1, rfl, rfl, rfl, h1, r1⟩ := trodAll_cons r0
  obtain ⟨v2, vs2, d2, ds2, p2, q2, rfl, rfl, rfl, h2, r2⟩ := trodAll_cons r1
  obtain ⟨rfl, rfl, rfl⟩ := trodAll_nil r2
  obtain rfl : args = #[v0, v1, v2] := by cases args; simp_all
  obtain ⟨rfl, rfl⟩ := trodVars_none hV
  clear hA0 hval0
  obtain ⟨F, hF⟩ : ∃ F, 9223372036854775808 ≤ F := ⟨_, Nat.le_refl _⟩
  obtain ⟨a0e, A0, n0, c0, x0, rfl, hn0, hf0⟩ := open_graph Try.underlying35 Try.underlying2 Try.underlying33 Try.underlying131 (by kernel_rfl) (by kernel_rfl) (by kernel_rfl) (by kernel_rfl) rfl (hval 0 _ v0 rfl rfl) h0
  obtain ⟨a1, rfl, rfl, rfl, wa1⟩ := open_int Try.underlying2 (hval 1 _ v1 rfl rfl) h1
  have wa1 := int_wf wa1
  obtain ⟨A2, n2, c2, x2, rfl, hn2, hf2⟩ := open_i64s Try.underlying23 Try.underlying2 (by kernel_rfl) (hval 2 _ v2 rfl rfl) h2
  simp only [maxLen_is] at hn0 hn2
  refine (laws_FnExactDueOfLast_ok F (LEventGraph.mk a0e ((List.range n0).map fun i => (fun z => LPlace.mk (z 0) (z 1) (z 2) (z 3)) (x0 i))) A0 n0 c0 (by simp) a1 ((List.range n2).map x2) A2 n2 c2 (by simp) true W (law_DueOfLast hF (by simp only [List.length_map, List.length_range]; exact hn0) wa1.1 wa1.2 (by simp only [List.length_map, List.length_range]; exact hn2)) (RR.rd (g := LPlace.cells) (mkα := fun z => LPlace.mk (z 0) (z 1) (z 2) (z 3)) hf0 LPlace.len (fun z j hj => by match j, hj with | 0, _ => rfl | 1, _ => rfl | 2, _ => rfl | 3, _ => rfl)) hf2.rd).mono ?_
  rintro e W' ⟨v, rfl, rfl, hst⟩
  exact ⟨_, rfl, post_law laidOut (by kernel_rfl) (by kernel_rfl) Try.underlying4 rfl rfl rfl rfl hW' hst.below⟩

theorem proved : Rows.FnExactDueOfLastSaid :=
  OpenClaim.holds_of_wide 6 Try.f6 rfl rfl rfl rfl rfl rfl rfl ⟨rfl, rfl, rfl, rfl, rfl⟩ rfl rfl rfl rfl rfl (by kernel_rfl) Try.func6 (by unfold joinedFacts; rw [mayEnter_is, liftsFinal_is, make_is]; kernel_rfl)
    (of_decide_eq_true (by kernel_rfl)) (by unfold Func.isWrapper; rw [if_neg (of_decide_eq_false (by kernel_rfl))]; exact ⟨rfl, rfl⟩)
    (fun os started H enc _ => lifted os started H enc)
end Go.Proofs.Ytpmebacdmilecaa.lawDueOfLast
