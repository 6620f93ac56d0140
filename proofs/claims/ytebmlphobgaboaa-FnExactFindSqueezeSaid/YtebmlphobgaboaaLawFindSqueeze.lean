/- FnExactFindSqueeze returns true at every input and leaves its arguments as they were. -/
import Derived.Test.YtebmlphobgaboaaFindSqueezePure
import Derived.Test.YtebmlphobgaboaaFindSqueezeLifted
import Derived.Test.YtebmlphobgaboaaBridge
import Derived.Test.YtebmlphobgaboaaRow
import Derived.Test.YtebmlphobgaboaaClosed
namespace Go.Proofs.Ytebmlphobgaboaa.lawFindSqueeze
open Go.ChangeShapes Go.WideShapes Go.ChangeAt Go.RowKit

theorem own : ownKnob Try.prog.godebug = none := by kernel_rfl
theorem laidOut : laidOutB Try.prog = true := by kernel_rfl

set_option maxRecDepth 100000 in
theorem lifted (os : Os) (started : os.Started) (H : Type) (enc : TypeId × Value → H) :
    ReturnsInHanded {} Try.checked os 5 .any (Rows.fnExactFindSqueezeSpec.pre6 enc Try.prog Try.f5 Rows.fnExactFindSqueezeRow.domain false) (Rows.fnExactFindSqueezeSpec.post enc Try.prog Try.f5 false true false false) := by
  refine returnsInHanded_of_change (C := Try.checked) own started (by kernel_rfl) Try.func5
    (ChangeSpec.witness6 (enc := enc) (C := Try.checked) false ⟨#[], #[.slice none 0 0, .slice none 0 0], []⟩ 8 (by kernel_rfl) (by kernel_rfl) (by kernel_rfl) (by kernel_rfl)) ?_
  intro W base args ds gs before hval0 hW hcnd _
  have hval : ∀ (j : Nat) t v, Try.f5.params[j]? = some t → args[j]? = some v → Value.okWide Try.prog W .any base t v := hval0
  have hW' := hW
  obtain ⟨p, q, hA0, hV, rfl, hfz, hnd⟩ := hW
  have hA : DataW.TrodAll enc Try.prog W 0 (fun _ => true) true Try.f5.params.toList args.toList ds p := hA0
  rw [Try.params5] at hA hval
  obtain ⟨v0, vs0, d0, ds0, p0, q0, hargs, rfl, rfl, h0, r0⟩ := trodAll_cons hA
  obtain ⟨v1, vs1, d1, ds1, p1, q1, rfl, rfl, rfl, h1, r1⟩ := trodAll_cons r0
  obtain ⟨rfl, rfl, rfl⟩ := trodAll_nil r1
  obtain rfl : args = #[v0, v1] := by cases args; simp_all
  obtain ⟨rfl, rfl⟩ := trodVars_none hV
  clear hA0 hval0
  obtain ⟨F, hF⟩ : ∃ F, 9223372036854775808 ≤ F := ⟨_, Nat.le_refl _⟩
  obtain ⟨A0, n0, c0, x0, rfl, hn0, hf0⟩ := open_recs (s := 2) Try.underlying33 Try.underlying89 (by kernel_rfl) (by kernel_rfl) rfl (by omega) (hval 0 _ v0 rfl rfl) h0
  obtain ⟨A1, n1, c1, x1, rfl, hn1, hf1⟩ := open_recs (s := 3) Try.underlying34 Try.underlying93 (by kernel_rfl) (by kernel_rfl) rfl (by omega) (hval 1 _ v1 rfl rfl) h1
  simp only [maxLen_is] at hn0 hn1
  refine (laws_FnExactFindSqueeze_ok F ((List.range n0).map fun i => (fun z => LWindow.mk (z 0) (z 1)) (x0 i)) A0 n0 c0 (by simp) ((List.range n1).map fun i => (fun z => LBond.mk (z 0) (z 1) (z 2)) (x1 i)) A1 n1 c1 (by simp) true W (law_FindSqueeze hF (by simp only [List.length_map, List.length_range]; exact hn0) (by simp only [List.length_map, List.length_range]; exact hn1)) (RR.rd (g := LWindow.cells) (mkα := fun z => LWindow.mk (z 0) (z 1)) hf0 LWindow.len (fun z j hj => by match j, hj with | 0, _ => rfl | 1, _ => rfl)) (RR.rd (g := LBond.cells) (mkα := fun z => LBond.mk (z 0) (z 1) (z 2)) hf1 LBond.len (fun z j hj => by match j, hj with | 0, _ => rfl | 1, _ => rfl | 2, _ => rfl))).mono ?_
  rintro e W' ⟨v, rfl, rfl, hst⟩
  exact ⟨_, rfl, post_law laidOut (by kernel_rfl) (by kernel_rfl) Try.underlying4 rfl rfl rfl rfl hW' hst.below⟩

theorem proved : Rows.FnExactFindSqueezeSaid :=
  OpenClaim.holds_of_wide 5 Try.f5 rfl rfl rfl rfl rfl rfl rfl ⟨rfl, rfl, rfl, rfl, rfl⟩ rfl rfl rfl rfl rfl (by kernel_rfl) Try.func5 (by unfold joinedFacts; rw [mayEnter_is, liftsFinal_is, make_is]; kernel_rfl)
    (of_decide_eq_true (by kernel_rfl)) (by unfold Func.isWrapper; rw [if_neg (of_decide_eq_false (by kernel_rfl))]; exact ⟨rfl, rfl⟩)
    (fun os started H enc _ => lifted os started H enc)
end Go.Proofs.Ytebmlphobgaboaa.lawFindSqueeze
