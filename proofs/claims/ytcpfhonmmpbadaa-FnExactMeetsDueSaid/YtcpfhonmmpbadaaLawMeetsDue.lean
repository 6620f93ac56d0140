/- FnExactMeetsDue returns true at every input and leaves its arguments as they were. -/
import Derived.Test.YtcpfhonmmpbadaaMeetsDuePure
import Derived.Test.YtcpfhonmmpbadaaMeetsDueLifted
import Derived.Test.YtcpfhonmmpbadaaBridge
import Derived.Test.YtcpfhonmmpbadaaRow
namespace Go.Proofs.Ytcpfhonmmpbadaa.lawMeetsDue
open Go.ChangeShapes Go.WideShapes Go.ChangeAt Go.RowKit

theorem own : ownKnob Try.prog.godebug = none := by kernel_rfl
theorem laidOut : laidOutB Try.prog = true := by kernel_rfl

set_option maxRecDepth 100000 in
theorem lifted (os : Os) (started : os.Started) (H : Type) (enc : TypeId × Value → H) :
    ReturnsInHanded {} Try.checked os 4 .any (Rows.fnExactMeetsDueSpec.pre6 enc Try.prog Try.f4 Rows.fnExactMeetsDueRow.domain false) (Rows.fnExactMeetsDueSpec.post enc Try.prog Try.f4 false true false false) := by
  refine returnsInHanded_of_change (C := Try.checked) own started (by kernel_rfl) Try.func4
    (ChangeSpec.witness6 (enc := enc) (C := Try.checked) false ⟨#[], #[.agg #[.slice none 0 0, .slice none 0 0, .slice none 0 0], .slice none 0 0, .slice none 0 0, .slice none 0 0], []⟩ 8 (by kernel_rfl) (by kernel_rfl) (by kernel_rfl) (by kernel_rfl)) ?_
  intro W base args ds gs before hval0 hW hcnd _
  have hval : ∀ (j : Nat) t v, Try.f4.params[j]? = some t → args[j]? = some v → Value.okWide Try.prog W .any base t v := hval0
  have hW' := hW
  obtain ⟨p, q, hA0, hV, rfl, hfz, hnd⟩ := hW
  have hA : DataW.TrodAll enc Try.prog W 0 (fun _ => true) true Try.f4.params.toList args.toList ds p := hA0
  rw [Try.params4] at hA hval
  obtain ⟨v0, vs0, d0, ds0, p0, q0, hargs, rfl, rfl, h0, r0⟩ := trodAll_cons hA
  obtain ⟨v1, vs1, d1, ds1, p1, q1, rfl, rfl, rfl, h1, r1⟩ := trodAll_cons r0
  obtain ⟨v2, vs2, d2, ds2, p2, q2, rfl, rfl, rfl, h2, r2⟩ := trodAll_cons r1
  obtain ⟨v3, vs3, d3, ds3, p3, q3, rfl, rfl, rfl, h3, r3⟩ := trodAll_cons r2
  obtain ⟨rfl, rfl, rfl⟩ := trodAll_nil r3
  obtain rfl : args = #[v0, v1, v2, v3] := by cases args; simp_all
  obtain ⟨rfl, rfl⟩ := trodVars_none hV
  clear hA0 hval0
  obtain ⟨F, hF⟩ : ∃ F, 9223372036854775808 ≤ F := ⟨_, Nat.le_refl _⟩
  obtain ⟨A0a, n0a, c0a, L0a, x0a, A0b, n0b, c0b, x0b, A0c, n0c, c0c, x0c, rfl, hn0a, hL0a, hn0b, hn0c, hf0a, hf0b, hf0c⟩ := open_system Try.underlying25 Try.underlying22 Try.underlying23 Try.underlying23 Try.underlying23 Try.underlying2 (by kernel_rfl) (by kernel_rfl) (by kernel_rfl) (by kernel_rfl) (hval 0 _ v0 rfl rfl) h0
  obtain ⟨A1, n1, c1, x1, rfl, hn1, hf1⟩ := open_i64s Try.underlying23 Try.underlying2 (by kernel_rfl) (hval 1 _ v1 rfl rfl) h1
  obtain ⟨A2, n2, c2, x2, rfl, hn2, hf2⟩ := open_i64s Try.underlying23 Try.underlying2 (by kernel_rfl) (hval 2 _ v2 rfl rfl) h2
  obtain ⟨A3, n3, c3, x3, rfl, hn3, hf3⟩ := open_i64s Try.underlying23 Try.underlying2 (by kernel_rfl) (hval 3 _ v3 rfl rfl) h3
  simp only [maxLen_is] at hn0a hL0a hn0b hn0c hn1 hn2 hn3
  refine (laws_FnExactMeetsDue_ok F (LSystem.mk (rowsOf n0a L0a x0a) ((List.range n0b).map x0b) ((List.range n0c).map x0c)) A0a n0a c0a (by rw [rowsOf_length]) A0b n0b c0b (by simp) A0c n0c c0c (by simp) ((List.range n1).map x1) A1 n1 c1 (by simp) ((List.range n2).map x2) A2 n2 c2 (by simp) ((List.range n3).map x3) A3 n3 c3 (by simp) true W (law_MeetsDue hF (by rw [rowsOf_length]; exact hn0a) (rowsOf_le hL0a) (by simp only [List.length_map, List.length_range]; exact hn0b) (by simp only [List.length_map, List.length_range]; exact hn0c) (by simp only [List.length_map, List.length_range]; exact hn1) (by simp only [List.length_map, List.length_range]; exact hn2) (by simp only [List.length_map, List.length_range]; exact hn3)) hf0a.rdM hf0b.rd hf0c.rd hf1.rd hf2.rd hf3.rd).mono ?_
  rintro e W' ⟨v, rfl, rfl, hst⟩
  exact ⟨_, rfl, post_law laidOut (by kernel_rfl) (by kernel_rfl) Try.underlying4 rfl rfl rfl rfl hW' hst.below⟩

theorem proved : Rows.FnExactMeetsDueSaid :=
  OpenClaim.holds_of_wide 4 Try.f4 rfl rfl rfl rfl rfl rfl rfl ⟨rfl, rfl, rfl, rfl, rfl⟩ rfl rfl rfl rfl rfl (by kernel_rfl) Try.func4 (by kernel_rfl)
    (of_decide_eq_true (by kernel_rfl)) (by unfold Func.isWrapper; rw [if_neg (of_decide_eq_false (by kernel_rfl))]; exact ⟨rfl, rfl⟩)
    (fun os started H enc _ => lifted os started H enc)
end Go.Proofs.Ytcpfhonmmpbadaa.lawMeetsDue
