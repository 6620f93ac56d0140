/- FnExactIsWindowSolution returns true at every input and leaves its arguments as they were. -/
import Derived.Test.YtmoficihgnipbaaWinSol
import Derived.Test.YtmoficihgnipbaaToWindow
import Derived.Test.YtmoficihgnipbaaToBond
import Derived.Test.YtmoficihgnipbaaInts
import Derived.Test.YtmoficihgnipbaaRow
import Derived.Deep.RegionHeld3
namespace Go.Proofs.Ytmoficihgnipbaa.lawIsWindowSolution
open Go.ChangeShapes Go.WideShapes Go.ChangeAt Go.RowKit

set_option maxRecDepth 100000 in
set_option maxHeartbeats 2000000 in
theorem walk (A0 : Option Addr) (n0 c0 : Nat) (x0 : Nat → Nat → Int) (A1 : Option Addr) (n1 c1 : Nat) (x1 : Nat → Nat → Int) (A2 : Option Addr) (n2 c2 : Nat) (x2 : Nat → Int) (W : World) (hn0 : n0 ≤ 9223372036854775807) (hn1 : n1 ≤ 9223372036854775807) (hn2 : n2 ≤ 9223372036854775807) (hf0 : RR W 2 A0 n0 x0) (hf1 : RR W 3 A1 n1 x1) (hf2 : RI W A2 n2 x2) :
    Calls Try.prog 7 #[.slice A0 n0 c0, .slice A1 n1 c1, .slice A2 n2 c2] W fun e w' => e = .returned (.bool true) ∧ Below W.heap.size W w' := by
  have hb0 : Below W.heap.size W W := Below.refl W.heap.size W
  have rf0w0 := hf0.below hb0 (Nat.le_refl _)
  have rf1w0 := hf1.below hb0 (Nat.le_refl _)
  have rf2w0 := hf2.below hb0 (Nat.le_refl _)
  have s0 : W.heap.size ≤ W.heap.size := by simp <;> omega
  by_cases l2 : 1048576 < n2
  case pos =>
    go_enter Try.func7, Try.ntmps7
    go_wp2
    go_ret
    exact ⟨rfl, hb0⟩
  case neg =>
    by_cases t0 : 1048576 < ((n0 : Nat) : Int)
    case pos =>
      go_enter Try.func7, Try.ntmps7
      go_wp2_with fail
      refine (szWindowS_any A0 n0 c0 _ _ hn0 (by omega) (by omega)).mono ?_
      rintro e w' ⟨rfl, rfl⟩
      rw [show sz1 (1048576) (n0 : Nat) = -1 by unfold sz1; rw [if_pos (by omega)]]
      go_wp2
      go_ret
      exact ⟨rfl, hb0⟩
    case neg =>
      by_cases t1 : 1048576 - (n0 : Nat) < ((n1 : Nat) : Int)
      case pos =>
        go_enter Try.func7, Try.ntmps7
        go_wp2_with fail
        refine (szWindowS_any A0 n0 c0 _ _ hn0 (by omega) (by omega)).mono ?_
        rintro e w' ⟨rfl, rfl⟩
        rw [show sz1 (1048576) (n0 : Nat) = 1048576 - (n0 : Nat) by unfold sz1; rw [if_neg (by omega)]]
        go_wp2_with fail
        refine (szBondS_any A1 n1 c1 _ _ hn1 (by omega) (by omega)).mono ?_
        rintro e w' ⟨rfl, rfl⟩
        rw [show sz1 (1048576 - (n0 : Nat)) (n1 : Nat) = -1 by unfold sz1; rw [if_pos (by omega)]]
        go_wp2
        go_ret
        exact ⟨rfl, hb0⟩
      case neg =>
        have hs0 : n0 ≤ 1048576 := by omega
        have hs1 : n1 ≤ 1048576 := by omega
        have hs2 : n2 ≤ 1048576 := by omega
        go_enter Try.func7, Try.ntmps7
        go_wp2_with fail
        refine (szWindowS_any A0 n0 c0 _ _ hn0 (by omega) (by omega)).mono ?_
        rintro e w' ⟨rfl, rfl⟩
        rw [show sz1 (1048576) (n0 : Nat) = 1048576 - (n0 : Nat) by unfold sz1; rw [if_neg (by omega)]]
        go_wp2_with fail
        refine (szBondS_any A1 n1 c1 _ _ hn1 (by omega) (by omega)).mono ?_
        rintro e w' ⟨rfl, rfl⟩
        rw [show sz1 (1048576 - (n0 : Nat)) (n1 : Nat) = 1048576 - (n0 : Nat) - (n1 : Nat) by unfold sz1; rw [if_neg (by omega)]]
        go_wp2_with fail
        refine (toWindowS_any A0 n0 c0 x0 _ hs0 rf0w0).mono ?_
        rintro e w1 ⟨rfl, hbw1, hgs0⟩
        have sw1 := hbw1.size
        have hBw1 : Below W.heap.size W w1 := hb0.trans (hbw1.mono (by simp <;> omega))
        have rf0w1 := rf0w0.below hbw1 (Nat.le_refl _)
        have rf1w1 := rf1w0.below hbw1 (Nat.le_refl _)
        have rf2w1 := rf2w0.below hbw1 (Nat.le_refl _)
        have rgs0w1 := RR.of_row hgs0
        go_wp2_with fail
        refine (toBondS_any A1 n1 c1 x1 _ hs1 rf1w1).mono ?_
        rintro e w2 ⟨rfl, hbw2, hgs1⟩
        have sw2 := hbw2.size
        have hBw2 : Below W.heap.size W w2 := hBw1.trans (hbw2.mono (by omega))
        have rf0w2 := rf0w1.below hbw2 (Nat.le_refl _)
        have rf1w2 := rf1w1.below hbw2 (Nat.le_refl _)
        have rf2w2 := rf2w1.below hbw2 (Nat.le_refl _)
        have rgs0w2 := rgs0w1.below hbw2 (Nat.le_refl _)
        have rgs1w2 := RR.of_row hgs1
        go_wp2_with fail
        refine (toInt64S_any A2 n2 c2 x2 _ hs2 rf2w2).mono ?_
        rintro e w3 ⟨rfl, hbw3, hgs2⟩
        have sw3 := hbw3.size
        have hBw3 : Below W.heap.size W w3 := hBw2.trans (hbw3.mono (by omega))
        have rf0w3 := rf0w2.below hbw3 (Nat.le_refl _)
        have rf1w3 := rf1w2.below hbw3 (Nat.le_refl _)
        have rf2w3 := rf2w2.below hbw3 (Nat.le_refl _)
        have rgs0w3 := rgs0w2.below hbw3 (Nat.le_refl _)
        have rgs1w3 := rgs1w2.below hbw3 (Nat.le_refl _)
        have rgs2w3 := RI.of_row hgs2
        go_wp2_with fail
        refine (specIsWindowSolution_any _ n0 _ x0 _ n1 _ x1 _ n2 _ x2 _ hs0 hs1 hs2 rgs0w3 rgs1w3 rgs2w3).mono ?_
        rintro e w4 ⟨rfl, hbw4⟩
        have sw4 := hbw4.size
        have hBw4 : Below W.heap.size W w4 := hBw3.trans (hbw4.mono (by omega))
        have rf0w4 := rf0w3.below hbw4 (Nat.le_refl _)
        have rf1w4 := rf1w3.below hbw4 (Nat.le_refl _)
        have rf2w4 := rf2w3.below hbw4 (Nat.le_refl _)
        go_wp2_with fail
        refine (toWindowS_any A0 n0 c0 x0 _ hs0 rf0w4).mono ?_
        rintro e w5 ⟨rfl, hbw5, hgx0⟩
        have sw5 := hbw5.size
        have hBw5 : Below W.heap.size W w5 := hBw4.trans (hbw5.mono (by omega))
        have rf0w5 := rf0w4.below hbw5 (Nat.le_refl _)
        have rf1w5 := rf1w4.below hbw5 (Nat.le_refl _)
        have rf2w5 := rf2w4.below hbw5 (Nat.le_refl _)
        have rgx0w5 := RR.of_row hgx0
        go_wp2_with fail
        refine (toBondS_any A1 n1 c1 x1 _ hs1 rf1w5).mono ?_
        rintro e w6 ⟨rfl, hbw6, hgx1⟩
        have sw6 := hbw6.size
        have hBw6 : Below W.heap.size W w6 := hBw5.trans (hbw6.mono (by omega))
        have rf0w6 := rf0w5.below hbw6 (Nat.le_refl _)
        have rf1w6 := rf1w5.below hbw6 (Nat.le_refl _)
        have rf2w6 := rf2w5.below hbw6 (Nat.le_refl _)
        have rgx0w6 := rgx0w5.below hbw6 (Nat.le_refl _)
        have rgx1w6 := RR.of_row hgx1
        go_wp2_with fail
        refine (toInt64S_any A2 n2 c2 x2 _ hs2 rf2w6).mono ?_
        rintro e w7 ⟨rfl, hbw7, hgx2⟩
        have sw7 := hbw7.size
        have hBw7 : Below W.heap.size W w7 := hBw6.trans (hbw7.mono (by omega))
        have rf0w7 := rf0w6.below hbw7 (Nat.le_refl _)
        have rf1w7 := rf1w6.below hbw7 (Nat.le_refl _)
        have rf2w7 := rf2w6.below hbw7 (Nat.le_refl _)
        have rgx0w7 := rgx0w6.below hbw7 (Nat.le_refl _)
        have rgx1w7 := rgx1w6.below hbw7 (Nat.le_refl _)
        have rgx2w7 := RI.of_row hgx2
        go_wp2_with fail
        refine (implIsWindowSolution_any _ n0 _ x0 _ n1 _ x1 _ n2 _ x2 _ hs0 hs1 hs2 rgx0w7 rgx1w7 rgx2w7).mono ?_
        rintro e w8 ⟨rfl, hbw8⟩
        have sw8 := hbw8.size
        have hBw8 : Below W.heap.size W w8 := hBw7.trans (hbw8.mono (by omega))
        have rf0w8 := rf0w7.below hbw8 (Nat.le_refl _)
        have rf1w8 := rf1w7.below hbw8 (Nat.le_refl _)
        have rf2w8 := rf2w7.below hbw8 (Nat.le_refl _)
        have rgx0w8 := rgx0w7.below hbw8 (Nat.le_refl _)
        have rgx1w8 := rgx1w7.below hbw8 (Nat.le_refl _)
        have rgx2w8 := rgx2w7.below hbw8 (Nat.le_refl _)
        go_wp2_with fail
        refine (toWindowS_any A0 n0 c0 x0 _ hs0 rf0w8).mono ?_
        rintro e w9 ⟨rfl, hbw9, hgy0⟩
        have sw9 := hbw9.size
        have hBw9 : Below W.heap.size W w9 := hBw8.trans (hbw9.mono (by omega))
        have rf0w9 := rf0w8.below hbw9 (Nat.le_refl _)
        have rf1w9 := rf1w8.below hbw9 (Nat.le_refl _)
        have rf2w9 := rf2w8.below hbw9 (Nat.le_refl _)
        have rgx0w9 := rgx0w8.below hbw9 (Nat.le_refl _)
        have rgx1w9 := rgx1w8.below hbw9 (Nat.le_refl _)
        have rgx2w9 := rgx2w8.below hbw9 (Nat.le_refl _)
        have rgy0w9 := RR.of_row hgy0
        go_wp2_with fail
        refine (eqWindowS_true _ _ n0 _ _ x0 _ hs0 rgx0w9 rgy0w9).mono ?_
        rintro e w10 ⟨rfl, hbw10⟩
        have sw10 := hbw10.size
        have hBw10 : Below W.heap.size W w10 := hBw9.trans (hbw10.mono (by omega))
        have rf0w10 := rf0w9.below hbw10 (Nat.le_refl _)
        have rf1w10 := rf1w9.below hbw10 (Nat.le_refl _)
        have rf2w10 := rf2w9.below hbw10 (Nat.le_refl _)
        have rgx0w10 := rgx0w9.below hbw10 (Nat.le_refl _)
        have rgx1w10 := rgx1w9.below hbw10 (Nat.le_refl _)
        have rgx2w10 := rgx2w9.below hbw10 (Nat.le_refl _)
        go_wp2_with fail
        refine (toBondS_any A1 n1 c1 x1 _ hs1 rf1w10).mono ?_
        rintro e w11 ⟨rfl, hbw11, hgy1⟩
        have sw11 := hbw11.size
        have hBw11 : Below W.heap.size W w11 := hBw10.trans (hbw11.mono (by omega))
        have rf0w11 := rf0w10.below hbw11 (Nat.le_refl _)
        have rf1w11 := rf1w10.below hbw11 (Nat.le_refl _)
        have rf2w11 := rf2w10.below hbw11 (Nat.le_refl _)
        have rgx0w11 := rgx0w10.below hbw11 (Nat.le_refl _)
        have rgx1w11 := rgx1w10.below hbw11 (Nat.le_refl _)
        have rgx2w11 := rgx2w10.below hbw11 (Nat.le_refl _)
        have rgy1w11 := RR.of_row hgy1
        go_wp2_with fail
        refine (eqBondS_true _ _ n1 _ _ x1 _ hs1 rgx1w11 rgy1w11).mono ?_
        rintro e w12 ⟨rfl, hbw12⟩
        have sw12 := hbw12.size
        have hBw12 : Below W.heap.size W w12 := hBw11.trans (hbw12.mono (by omega))
        have rf0w12 := rf0w11.below hbw12 (Nat.le_refl _)
        have rf1w12 := rf1w11.below hbw12 (Nat.le_refl _)
        have rf2w12 := rf2w11.below hbw12 (Nat.le_refl _)
        have rgx0w12 := rgx0w11.below hbw12 (Nat.le_refl _)
        have rgx1w12 := rgx1w11.below hbw12 (Nat.le_refl _)
        have rgx2w12 := rgx2w11.below hbw12 (Nat.le_refl _)
        go_wp2_with fail
        refine (toInt64S_any A2 n2 c2 x2 _ hs2 rf2w12).mono ?_
        rintro e w13 ⟨rfl, hbw13, hgy2⟩
        have sw13 := hbw13.size
        have hBw13 : Below W.heap.size W w13 := hBw12.trans (hbw13.mono (by omega))
        have rf0w13 := rf0w12.below hbw13 (Nat.le_refl _)
        have rf1w13 := rf1w12.below hbw13 (Nat.le_refl _)
        have rf2w13 := rf2w12.below hbw13 (Nat.le_refl _)
        have rgx0w13 := rgx0w12.below hbw13 (Nat.le_refl _)
        have rgx1w13 := rgx1w12.below hbw13 (Nat.le_refl _)
        have rgx2w13 := rgx2w12.below hbw13 (Nat.le_refl _)
        have rgy2w13 := RI.of_row hgy2
        go_wp2_with fail
        refine (eqInt64S_true _ _ n2 _ _ x2 _ hs2 rgx2w13 rgy2w13).mono ?_
        rintro e w14 ⟨rfl, hbw14⟩
        have sw14 := hbw14.size
        have hBw14 : Below W.heap.size W w14 := hBw13.trans (hbw14.mono (by omega))
        have rf0w14 := rf0w13.below hbw14 (Nat.le_refl _)
        have rf1w14 := rf1w13.below hbw14 (Nat.le_refl _)
        have rf2w14 := rf2w13.below hbw14 (Nat.le_refl _)
        have rgx0w14 := rgx0w13.below hbw14 (Nat.le_refl _)
        have rgx1w14 := rgx1w13.below hbw14 (Nat.le_refl _)
        have rgx2w14 := rgx2w13.below hbw14 (Nat.le_refl _)
        go_wp2
        go_ret
        exact ⟨rfl, hBw14⟩

theorem own : ownKnob Try.prog.godebug = none := by kernel_rfl
theorem laidOut : laidOutB Try.prog = true := by kernel_rfl

set_option maxRecDepth 100000 in
theorem lifted (os : Os) (started : os.Started) (H : Type) (enc : TypeId × Value → H) :
    ReturnsInHanded {} Try.checked os 7 .any (Rows.fnExactIsWindowSolutionSpec.pre6 enc Try.prog Try.f7 Rows.fnExactIsWindowSolutionRow.domain false) (Rows.fnExactIsWindowSolutionSpec.post enc Try.prog Try.f7 false true false false) := by
  refine returnsInHanded_of_change (C := Try.checked) own started (by kernel_rfl) Try.func7
    (ChangeSpec.witness6 (enc := enc) (C := Try.checked) false ⟨#[], #[.slice none 0 0, .slice none 0 0, .slice none 0 0], []⟩ 8 (by kernel_rfl) (by kernel_rfl) (by kernel_rfl) (by kernel_rfl)) ?_
  intro W base args ds gs before hval0 hW hcnd _
  have hval : ∀ (j : Nat) t v, Try.f7.params[j]? = some t → args[j]? = some v → Value.okWide Try.prog W .any base t v := hval0
  have hW' := hW
  obtain ⟨p, q, hA0, hV, rfl, hfz, hnd⟩ := hW
  have hA : DataW.TrodAll enc Try.prog W 0 (fun _ => true) true Try.f7.params.toList args.toList ds p := hA0
  rw [Try.params7] at hA hval
  obtain ⟨v0, vs0, d0, ds0, p0, q0, hargs, rfl, rfl, h0, r0⟩ := trodAll_cons hA
  obtain ⟨v1, vs1, d1, ds1, p1, q1, rfl, rfl, rfl, h1, r1⟩ := trodAll_cons r0
  obtain ⟨v2, vs2, d2, ds2, p2, q2, rfl, rfl, rfl, h2, r2⟩ := trodAll_cons r1
  obtain ⟨rfl, rfl, rfl⟩ := trodAll_nil r2
  obtain rfl : args = #[v0, v1, v2] := by cases args; simp_all
  obtain ⟨rfl, rfl⟩ := trodVars_none hV
  clear hA0 hval0
  obtain ⟨A0, n0, c0, x0, rfl, hn0, hf0⟩ := open_recs (s := 2) Try.underlying22 Try.underlying81 (by kernel_rfl) (by kernel_rfl) rfl (by omega) (hval 0 _ v0 rfl rfl) h0
  obtain ⟨A1, n1, c1, x1, rfl, hn1, hf1⟩ := open_recs (s := 3) Try.underlying23 Try.underlying83 (by kernel_rfl) (by kernel_rfl) rfl (by omega) (hval 1 _ v1 rfl rfl) h1
  obtain ⟨A2, n2, c2, x2, rfl, hn2, hf2⟩ := open_i64s Try.underlying35 Try.underlying2 (by kernel_rfl) (hval 2 _ v2 rfl rfl) h2
  simp only [maxLen_is] at hn0 hn1 hn2
  refine (walk A0 n0 c0 x0 A1 n1 c1 x1 A2 n2 c2 x2 W hn0 hn1 hn2 hf0 hf1 hf2).mono fun e W' ⟨he, hb⟩ => ?_
  subst he
  exact ⟨_, rfl, post_law laidOut (by kernel_rfl) (by kernel_rfl) Try.underlying4 rfl rfl rfl rfl hW' hb⟩

theorem proved : Rows.FnExactIsWindowSolutionSaid :=
  OpenClaim.holds_of_wide 7 Try.f7 rfl rfl rfl rfl rfl rfl rfl ⟨rfl, rfl, rfl, rfl, rfl⟩ rfl rfl rfl rfl rfl (by kernel_rfl) Try.func7 (by kernel_rfl)
    (of_decide_eq_true (by kernel_rfl)) (by unfold Func.isWrapper; rw [if_neg (of_decide_eq_false (by kernel_rfl))]; exact ⟨rfl, rfl⟩)
    (fun os started H enc _ => lifted os started H enc)
end Go.Proofs.Ytmoficihgnipbaa.lawIsWindowSolution

