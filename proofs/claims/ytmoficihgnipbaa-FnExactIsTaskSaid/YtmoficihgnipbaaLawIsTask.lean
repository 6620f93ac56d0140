/- FnExactIsTask returns true at every input and leaves its arguments as they were. -/
import Derived.Test.YtmoficihgnipbaaToWindow
import Derived.Test.YtmoficihgnipbaaToBond
import Derived.Test.YtmoficihgnipbaaA4
import Derived.Test.YtmoficihgnipbaaRow
namespace Go.Proofs.Ytmoficihgnipbaa
open Go.ChangeShapes Go.WideShapes Go.ChangeAt Go.RowKit

theorem sz1_neg {a b : Int} (h : a < b) : sz1 a b = -1 := by unfold sz1; rw [if_pos h]
theorem sz1_pos {a b : Int} (h : b ≤ a) : sz1 a b = a - b := by unfold sz1; rw [if_neg (by omega)]

set_option maxRecDepth 100000 in
set_option maxHeartbeats 1000000 in
theorem lawIsTask_any (A B : Option Addr) (n m c d : Nat) (f g : Nat → Nat → Int) (W : World) (hn : n ≤ 9223372036854775807) (hm : m ≤ 9223372036854775807) (hf : RR W 2 A n f) (hg : RR W 3 B m g) :
    Calls Try.prog 3 #[.slice A n c, .slice B m d] W fun e w' => e = .returned (.bool true) ∧ Below W.heap.size W w' := by
  by_cases h1 : n ≤ 1048576
  · by_cases h2 : n + m ≤ 1048576
    · go_enter Try.func3, Try.ntmps3
      go_wp2_with fail
      refine (szWindowS_any A n c 1048576 _ hn (by omega) (by omega)).mono ?_
      rintro e w1 ⟨rfl, rfl⟩
      rw [sz1_pos (by omega)]
      go_wp2_with fail
      refine (szBondS_any B m d _ _ hm (by omega) (by omega)).mono ?_
      rintro e w1 ⟨rfl, rfl⟩
      rw [sz1_pos (by omega)]
      go_wp2_with fail
      refine (toWindowS_any A n c f _ h1 hf).mono ?_
      rintro e w1 ⟨rfl, hb1, hr1⟩
      have s1 := hb1.size
      go_wp2_with fail
      refine (toBondS_any B m d g _ (by omega) (hg.below hb1 (Nat.le_refl _))).mono ?_
      rintro e w2 ⟨rfl, hb2, hr2⟩
      have s2 := hb2.size
      go_wp2_with fail
      have hx1 := (RR.of_row hr1).below hb2 (Nat.le_refl _)
      have hx2 := RR.of_row hr2
      refine (specIsTask_any _ _ n m _ _ f g _ h1 (by omega) hx1 hx2).mono ?_
      rintro e w3 ⟨rfl, hb3⟩
      have s3 := hb3.size
      have hW3 : Below W.heap.size W w3 := (hb1.trans (hb2.mono s1)).trans (hb3.mono (by omega))
      go_wp2_with fail
      refine (toWindowS_any A n c f _ h1 (hf.below hW3 (Nat.le_refl _))).mono ?_
      rintro e w4 ⟨rfl, hb4, hr4⟩
      have s4 := hb4.size
      have hW4 : Below W.heap.size W w4 := hW3.trans (hb4.mono hW3.size)
      go_wp2_with fail
      refine (toBondS_any B m d g _ (by omega) (hg.below hW4 (Nat.le_refl _))).mono ?_
      rintro e w5 ⟨rfl, hb5, hr5⟩
      have s5 := hb5.size
      have hW5 : Below W.heap.size W w5 := hW4.trans (hb5.mono hW4.size)
      have hy1 := (RR.of_row hr4).below hb5 (Nat.le_refl _)
      have hy2 := RR.of_row hr5
      go_wp2_with fail
      refine (implIsTask_any _ _ n m _ _ f g _ h1 (by omega) hy1 hy2).mono ?_
      rintro e w6 ⟨rfl, hb6⟩
      have s6 := hb6.size
      have hW6 : Below W.heap.size W w6 := hW5.trans (hb6.mono hW5.size)
      go_wp2_with fail
      refine (toWindowS_any A n c f _ h1 (hf.below hW6 (Nat.le_refl _))).mono ?_
      rintro e w7 ⟨rfl, hb7, hr7⟩
      have s7 := hb7.size
      have hW7 : Below W.heap.size W w7 := hW6.trans (hb7.mono hW6.size)
      go_wp2_with fail
      refine (eqWindowS_true _ _ n _ _ f _ h1 (((((RR.of_row hr4).below hb5 (Nat.le_refl _)).below hb6 (Nat.le_refl _)).below hb7 (Nat.le_refl _))) (RR.of_row hr7)).mono ?_
      rintro e w8 ⟨rfl, hb8⟩
      have s8 := hb8.size
      have hW8 : Below W.heap.size W w8 := hW7.trans (hb8.mono hW7.size)
      go_wp2_with fail
      refine (toBondS_any B m d g _ (by omega) (hg.below hW8 (Nat.le_refl _))).mono ?_
      rintro e w9 ⟨rfl, hb9, hr9⟩
      have s9 := hb9.size
      have hW9 : Below W.heap.size W w9 := hW8.trans (hb9.mono hW8.size)
      go_wp2_with fail
      refine (eqBondS_true _ _ m _ _ g _ (by omega) ((((((RR.of_row hr5).below hb6 (Nat.le_refl _)).below hb7 (Nat.le_refl _)).below hb8 (Nat.le_refl _)).below hb9 (Nat.le_refl _))) (RR.of_row hr9)).mono ?_
      rintro e w10 ⟨rfl, hb10⟩
      have hW10 : Below W.heap.size W w10 := hW9.trans (hb10.mono hW9.size)
      go_wp2
      go_ret
      exact ⟨rfl, hW10⟩
    · go_enter Try.func3, Try.ntmps3
      go_wp2_with fail
      refine (szWindowS_any A n c 1048576 _ hn (by omega) (by omega)).mono ?_
      rintro e w1 ⟨rfl, rfl⟩
      rw [sz1_pos (by omega)]
      go_wp2_with fail
      refine (szBondS_any B m d _ _ hm (by omega) (by omega)).mono ?_
      rintro e w1 ⟨rfl, rfl⟩
      rw [sz1_neg (by omega)]
      go_wp2
      go_ret
      exact ⟨rfl, Below.refl _ _⟩
  · go_enter Try.func3, Try.ntmps3
    go_wp2_with fail
    refine (szWindowS_any A n c 1048576 _ hn (by omega) (by omega)).mono ?_
    rintro e w1 ⟨rfl, rfl⟩
    rw [sz1_neg (by omega)]
    go_wp2
    go_ret
    exact ⟨rfl, Below.refl _ _⟩

namespace lawIsTask
theorem own : ownKnob Try.prog.godebug = none := by kernel_rfl
theorem laidOut : laidOutB Try.prog = true := by kernel_rfl

set_option maxRecDepth 100000 in
theorem lifted (os : Os) (started : os.Started) (H : Type) (enc : TypeId × Value → H) :
    ReturnsInHanded {} Try.checked os 3 .any (Rows.fnExactIsTaskSpec.pre6 enc Try.prog Try.f3 Rows.fnExactIsTaskRow.domain false) (Rows.fnExactIsTaskSpec.post enc Try.prog Try.f3 false true false false) := by
  refine returnsInHanded_of_change (C := Try.checked) own started (by kernel_rfl) Try.func3
    (ChangeSpec.witness6 (enc := enc) (C := Try.checked) false ⟨#[], #[.slice none 0 0, .slice none 0 0], []⟩ 8 (by kernel_rfl) (by kernel_rfl) (by kernel_rfl) (by kernel_rfl)) ?_
  intro W base args ds gs before hval0 hW hcnd _
  have hval : ∀ (j : Nat) t v, Try.f3.params[j]? = some t → args[j]? = some v → Value.okWide Try.prog W .any base t v := hval0
  have hW' := hW
  obtain ⟨p, q, hA0, hV, rfl, hfz, hnd⟩ := hW
  have hA : DataW.TrodAll enc Try.prog W 0 (fun _ => true) true Try.f3.params.toList args.toList ds p := hA0
  rw [Try.params3] at hA hval
  obtain ⟨v0, vs0, d0, ds0, p0, q0, hargs, rfl, rfl, h0, r0⟩ := trodAll_cons hA
  obtain ⟨v1, vs1, d1, ds1, p1, q1, rfl, rfl, rfl, h1, r1⟩ := trodAll_cons r0
  obtain ⟨rfl, rfl, rfl⟩ := trodAll_nil r1
  obtain rfl : args = #[v0, v1] := by cases args; simp_all
  obtain ⟨rfl, rfl⟩ := trodVars_none hV
  clear hA0 hval0
  obtain ⟨A, n, c, f, rfl, hn, hf⟩ := open_recs (s := 2) Try.underlying22 Try.underlying81 (by kernel_rfl) (by kernel_rfl) rfl (by omega) (hval 0 _ v0 rfl rfl) h0
  obtain ⟨B, m, d, g, rfl, hm, hg⟩ := open_recs (s := 3) Try.underlying23 Try.underlying83 (by kernel_rfl) (by kernel_rfl) rfl (by omega) (hval 1 _ v1 rfl rfl) h1
  unfold maxLen at hn hm
  refine (lawIsTask_any A B n m c d f g W hn hm hf hg).mono fun e W' ⟨he, hb⟩ => ?_
  subst he
  exact ⟨_, rfl, post_law laidOut (by kernel_rfl) (by kernel_rfl) Try.underlying4 rfl rfl rfl rfl hW' hb⟩

theorem proved : Rows.FnExactIsTaskSaid :=
  OpenClaim.holds_of_wide 3 Try.f3 rfl rfl rfl rfl rfl rfl rfl ⟨rfl, rfl, rfl, rfl, rfl⟩ rfl rfl rfl rfl rfl (by kernel_rfl) Try.func3 (by kernel_rfl)
    (of_decide_eq_true (by kernel_rfl)) (by unfold Func.isWrapper; rw [if_neg (of_decide_eq_false (by kernel_rfl))]; exact ⟨rfl, rfl⟩)
    (fun os started H enc _ => lifted os started H enc)
end lawIsTask
end Go.Proofs.Ytmoficihgnipbaa
