/- FnExactAreModes returns true at every input and leaves its arguments as they were. -/
import Derived.Test.YtmoficihgnipbaaModes
import Derived.Test.YtmoficihgnipbaaCube
import Derived.Test.YtmoficihgnipbaaRow
namespace Go.Proofs.Ytmoficihgnipbaa.lawAreModes
open Go.ChangeShapes Go.WideShapes Go.ChangeAt Go.RowKit

set_option maxRecDepth 100000 in
set_option maxHeartbeats 2000000 in
theorem walk (A0 : Option Addr) (n0 c0 : Nat) (N0 : Nat → Nat) (L0 : Nat → Nat → Nat) (x0 : Nat → Nat → Nat → Int) (W : World) (hn0 : n0 ≤ 9223372036854775807) (hN0 : ∀ i, i < n0 → N0 i ≤ 9223372036854775807) (hL0 : ∀ i, i < n0 → ∀ j, j < N0 i → L0 i j ≤ 9223372036854775807) (hf0 : RC W A0 n0 N0 L0 x0) :
    Calls Try.prog 5 #[.slice A0 n0 c0] W fun e w' => e = .returned (.bool true) ∧ Below W.heap.size W w' := by
  have hb0 : Below W.heap.size W W := Below.refl W.heap.size W
  have rf0w0 := hf0.below hb0 (Nat.le_refl _)
  have HN0 := Lib.hid hN0; clear hN0
  have HL0 := Lib.hid hL0; clear hL0
  have s0 : W.heap.size ≤ W.heap.size := by simp
  obtain ⟨m0, hm0⟩ : ∃ m : Nat, m = cnt3 n0 N0 L0 := ⟨_, rfl⟩
  have HM0 := Lib.hid hm0; clear hm0
  by_cases t0 : 1048576 < ((m0 : Nat) : Int)
  case pos =>
    go_enter Try.func5, Try.ntmps5
    go_wp2_with fail
    refine (szInt64SSS_any A0 n0 c0 N0 L0 x0 _ _ hn0 HN0.out HL0.out (by omega) (by omega) rf0w0).mono ?_
    rintro e z0 ⟨rfl, hbz0⟩
    have sz0 := hbz0.size
    have hBz0 : Below W.heap.size W z0 := hb0.trans (hbz0.mono (by simp <;> omega))
    have rf0z0 := rf0w0.below hbz0 (Nat.le_refl _)
    rw [← HM0.out]
    rw [show sz1 (1048576) (m0 : Nat) = -1 by unfold sz1; rw [if_pos (by omega)]]
    go_wp2
    go_ret
    exact ⟨rfl, hBz0⟩
  case neg =>
    have hm0 := HM0.out
    have hs0 : n0 ≤ 1048576 := by unfold cnt3 at hm0; omega
    have HNs0 := Lib.hid (show ∀ i, i < n0 → N0 i ≤ 1048576 from fun i hi => by have := sumL_le (L := fun i => N0 i + sumL (L0 i) (N0 i)) hi; unfold cnt3 at hm0; omega)
    have HLs0 := Lib.hid (show ∀ i, i < n0 → ∀ j, j < N0 i → L0 i j ≤ 1048576 from fun i hi k hk => by have := sumL_le (L := fun i => N0 i + sumL (L0 i) (N0 i)) hi; have := sumL_le (L := L0 i) hk; unfold cnt3 at hm0; omega)
    clear hm0
    go_enter Try.func5, Try.ntmps5
    go_wp2_with fail
    refine (szInt64SSS_any A0 n0 c0 N0 L0 x0 _ _ hn0 HN0.out HL0.out (by omega) (by omega) rf0w0).mono ?_
    rintro e z0 ⟨rfl, hbz0⟩
    have sz0 := hbz0.size
    have hBz0 : Below W.heap.size W z0 := hb0.trans (hbz0.mono (by simp <;> omega))
    have rf0z0 := rf0w0.below hbz0 (Nat.le_refl _)
    rw [← HM0.out]
    rw [show sz1 (1048576) (m0 : Nat) = 1048576 - (m0 : Nat) by unfold sz1; rw [if_neg (by omega)]]
    go_wp2_with fail
    refine (toInt64SSS_any A0 n0 c0 N0 L0 x0 _ hs0 HNs0.out HLs0.out rf0z0).mono ?_
    rintro e w1 ⟨rfl, hbw1, hgs0⟩
    have sw1 := hbw1.size
    have hBw1 : Below W.heap.size W w1 := hBz0.trans (hbw1.mono (by omega))
    have rf0w1 := rf0z0.below hbw1 (Nat.le_refl _)
    have rgs0w1 := hgs0
    go_wp2_with fail
    refine (specAreModes_any _ n0 _ N0 L0 x0 _ hs0 HNs0.out HLs0.out rgs0w1).mono ?_
    rintro e w2 ⟨rfl, hbw2⟩
    have sw2 := hbw2.size
    have hBw2 : Below W.heap.size W w2 := hBw1.trans (hbw2.mono (by omega))
    have rf0w2 := rf0w1.below hbw2 (Nat.le_refl _)
    go_wp2_with fail
    refine (toInt64SSS_any A0 n0 c0 N0 L0 x0 _ hs0 HNs0.out HLs0.out rf0w2).mono ?_
    rintro e w3 ⟨rfl, hbw3, hgx0⟩
    have sw3 := hbw3.size
    have hBw3 : Below W.heap.size W w3 := hBw2.trans (hbw3.mono (by omega))
    have rf0w3 := rf0w2.below hbw3 (Nat.le_refl _)
    have rgx0w3 := hgx0
    go_wp2_with fail
    refine (implAreModes_any _ n0 _ N0 L0 x0 _ hs0 HNs0.out HLs0.out rgx0w3).mono ?_
    rintro e w4 ⟨rfl, hbw4⟩
    have sw4 := hbw4.size
    have hBw4 : Below W.heap.size W w4 := hBw3.trans (hbw4.mono (by omega))
    have rf0w4 := rf0w3.below hbw4 (Nat.le_refl _)
    have rgx0w4 := rgx0w3.below hbw4 (Nat.le_refl _)
    go_wp2_with fail
    refine (toInt64SSS_any A0 n0 c0 N0 L0 x0 _ hs0 HNs0.out HLs0.out rf0w4).mono ?_
    rintro e w5 ⟨rfl, hbw5, hgy0⟩
    have sw5 := hbw5.size
    have hBw5 : Below W.heap.size W w5 := hBw4.trans (hbw5.mono (by omega))
    have rf0w5 := rf0w4.below hbw5 (Nat.le_refl _)
    have rgx0w5 := rgx0w4.below hbw5 (Nat.le_refl _)
    have rgy0w5 := hgy0
    go_wp2_with fail
    refine (eqInt64SSS_true _ _ n0 _ _ N0 L0 x0 _ hs0 HNs0.out HLs0.out rgx0w5 rgy0w5).mono ?_
    rintro e w6 ⟨rfl, hbw6⟩
    have sw6 := hbw6.size
    have hBw6 : Below W.heap.size W w6 := hBw5.trans (hbw6.mono (by omega))
    have rf0w6 := rf0w5.below hbw6 (Nat.le_refl _)
    have rgx0w6 := rgx0w5.below hbw6 (Nat.le_refl _)
    go_wp2
    go_ret
    exact ⟨rfl, hBw6⟩

theorem own : ownKnob Try.prog.godebug = none := by kernel_rfl
theorem laidOut : laidOutB Try.prog = true := by kernel_rfl

set_option maxRecDepth 100000 in
theorem lifted (os : Os) (started : os.Started) (H : Type) (enc : TypeId × Value → H) :
    ReturnsInHanded {} Try.checked os 5 .any (Rows.fnExactAreModesSpec.pre6 enc Try.prog Try.f5 Rows.fnExactAreModesRow.domain false) (Rows.fnExactAreModesSpec.post enc Try.prog Try.f5 false true false false) := by
  refine returnsInHanded_of_change (C := Try.checked) own started (by kernel_rfl) Try.func5
    (ChangeSpec.witness6 (enc := enc) (C := Try.checked) false ⟨#[], #[.slice none 0 0], []⟩ 8 (by kernel_rfl) (by kernel_rfl) (by kernel_rfl) (by kernel_rfl)) ?_
  intro W base args ds gs before hval0 hW hcnd _
  have hval : ∀ (j : Nat) t v, Try.f5.params[j]? = some t → args[j]? = some v → Value.okWide Try.prog W .any base t v := hval0
  have hW' := hW
  obtain ⟨p, q, hA0, hV, rfl, hfz, hnd⟩ := hW
  have hA : DataW.TrodAll enc Try.prog W 0 (fun _ => true) true Try.f5.params.toList args.toList ds p := hA0
  rw [Try.params5] at hA hval
  obtain ⟨v0, vs0, d0, ds0, p0, q0, hargs, rfl, rfl, h0, r0⟩ := trodAll_cons hA
  obtain ⟨rfl, rfl, rfl⟩ := trodAll_nil r0
  obtain rfl : args = #[v0] := by cases args; simp_all
  obtain ⟨rfl, rfl⟩ := trodVars_none hV
  clear hA0 hval0
  obtain ⟨A0, n0, c0, N0, L0, x0, rfl, hn0, hN0, hL0, hf0⟩ := open_i64sss Try.underlying44 Try.underlying34 Try.underlying35 Try.underlying2 (by kernel_rfl) (by kernel_rfl) (by kernel_rfl) (hval 0 _ v0 rfl rfl) h0
  simp only [maxLen_is] at hn0 hL0 hN0
  refine (walk A0 n0 c0 N0 L0 x0 W hn0 hN0 hL0 hf0).mono fun e W' ⟨he, hb⟩ => ?_
  subst he
  exact ⟨_, rfl, post_law laidOut (by kernel_rfl) (by kernel_rfl) Try.underlying4 rfl rfl rfl rfl hW' hb⟩

theorem proved : Rows.FnExactAreModesSaid :=
  OpenClaim.holds_of_wide 5 Try.f5 rfl rfl rfl rfl rfl rfl rfl ⟨rfl, rfl, rfl, rfl, rfl⟩ rfl rfl rfl rfl rfl (by kernel_rfl) Try.func5 (by kernel_rfl)
    (of_decide_eq_true (by kernel_rfl)) (by unfold Func.isWrapper; rw [if_neg (of_decide_eq_false (by kernel_rfl))]; exact ⟨rfl, rfl⟩)
    (fun os started H enc _ => lifted os started H enc)
end Go.Proofs.Ytmoficihgnipbaa.lawAreModes

