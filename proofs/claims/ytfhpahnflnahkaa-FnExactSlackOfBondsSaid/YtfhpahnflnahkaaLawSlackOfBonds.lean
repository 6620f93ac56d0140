/- FnExactSlackOfBonds returns true at every input and leaves its arguments as they were. -/
import Derived.Test.YtfhpahnflnahkaaSlackBonds
import Derived.Test.YtfhpahnflnahkaaToWindow
import Derived.Test.YtfhpahnflnahkaaToBond
import Derived.Test.YtfhpahnflnahkaaInts
import Derived.Test.YtfhpahnflnahkaaMarkInts
import Derived.Test.YtfhpahnflnahkaaMarkWindow
import Derived.Test.YtfhpahnflnahkaaMarkBond
import Derived.Test.YtfhpahnflnahkaaRow
import Derived.Deep.RegionHeld3
namespace Go.Proofs.Ytfhpahnflnahkaa.lawSlackOfBonds
open Go.ChangeShapes Go.WideShapes Go.ChangeAt Go.RowKit

set_option maxRecDepth 100000 in
set_option maxHeartbeats 2000000 in
theorem walk (A0 : Option Addr) (n0 c0 : Nat) (x0 : Nat → Nat → Int) (A1 : Option Addr) (n1 c1 : Nat) (x1 : Nat → Nat → Int) (A2 : Option Addr) (n2 c2 : Nat) (x2 : Nat → Int) (W : World) (hn0 : n0 ≤ 9223372036854775807) (hn1 : n1 ≤ 9223372036854775807) (hn2 : n2 ≤ 9223372036854775807) (hf0 : RR W 2 A0 n0 x0) (hf1 : RR W 3 A1 n1 x1) (hf2 : RI W A2 n2 x2) :
    Calls Try.prog 3 #[.slice A0 n0 c0, .slice A1 n1 c1, .slice A2 n2 c2] W fun e w' => e = .returned (.bool true) ∧ Below W.heap.size W w' := by
  have hBW : Below W.heap.size W W := Below.refl _ _
  by_cases l2 : 1048576 < n2
  case pos =>
    go_enter Try.func3, Try.ntmps3
    go_wp2
    go_ret
    exact ⟨rfl, hBW⟩
  case neg =>
    by_cases t0 : 1048576 < ((n0 : Nat) : Int)
    case pos =>
      go_enter Try.func3, Try.ntmps3
      go_wp2_with fail
      refine (szWindowS_any A0 n0 c0 _ _ hn0 (by omega) (by omega)).mono ?_
      rintro e w' ⟨rfl, rfl⟩
      rw [show sz1 (1048576) (n0 : Nat) = -1 by unfold sz1; rw [if_pos (by omega)]]
      go_wp2
      go_ret
      exact ⟨rfl, hBW⟩
    case neg =>
      by_cases t1 : 1048576 - (n0 : Nat) < ((n1 : Nat) : Int)
      case pos =>
        go_enter Try.func3, Try.ntmps3
        go_wp2_with fail
        refine (szWindowS_any A0 n0 c0 _ _ hn0 (by omega) (by omega)).mono ?_
        rintro e w' ⟨rfl, rfl⟩
        rw [show sz1 (1048576) (n0 : Nat) = 1048576 - (n0 : Nat) by unfold sz1; rw [if_neg (by omega)]]
        go_wp2_with fail
        refine (szBondS_any A1 n1 c1 _ _ hn1 (by omega) (by omega)).mono ?_
        rintro e w' ⟨rfl, rfl⟩
        rw [show sz1 (1048576 - (n0 : Nat)) (n1 : Nat) = -1 by unfold sz1; rw [if_pos (by omega)]]
        go_wp2
        go_ret
        exact ⟨rfl, hBW⟩
      case neg =>
        have hs0 : n0 ≤ 1048576 := by omega
        have hs1 : n1 ≤ 1048576 := by omega
        have hs2 : n2 ≤ 1048576 := by omega
        obtain ⟨N, HN0⟩ : ∃ N, len3 (TaskP n0 x0 n1 x1) (n2 = n0 ∧ AllInP n2 x2 0 1000000) n1 = N := ⟨_, rfl⟩
        have hN : N ≤ 1048576 := by rw [← HN0]; exact Nat.le_trans (len3_le _ _ _) hs1
        have HN := Lib.hid HN0; clear HN0
        obtain ⟨Z, HZ0⟩ : ∃ Z, code3 (TaskP n0 x0 n1 x1) (n2 = n0 ∧ AllInP n2 x2 0 1000000) = Z := ⟨_, rfl⟩
        have HZ := Lib.hid HZ0; clear HZ0
        have rf0W := hf0
        have rf1W := hf1
        have rf2W := hf2
        go_enter Try.func3, Try.ntmps3
        go_wp2_with fail
        refine (szWindowS_any A0 n0 c0 _ _ hn0 (by omega) (by omega)).mono ?_
        rintro e w' ⟨rfl, rfl⟩
        rw [show sz1 (1048576) (n0 : Nat) = 1048576 - (n0 : Nat) by unfold sz1; rw [if_neg (by omega)]]
        go_wp2_with fail
        refine (szBondS_any A1 n1 c1 _ _ hn1 (by omega) (by omega)).mono ?_
        rintro e w' ⟨rfl, rfl⟩
        rw [show sz1 (1048576 - (n0 : Nat)) (n1 : Nat) = 1048576 - (n0 : Nat) - (n1 : Nat) by unfold sz1; rw [if_neg (by omega)]]
        go_wp2_with fail
        refine (toWindowS_any A0 n0 c0 x0 _ hs0 rf0W).mono ?_
        rintro e w1 ⟨rfl, hbw1, hgs0⟩
        have sw1 := hbw1.size
        have hBw1 : Below W.heap.size W w1 := hBW.trans (hbw1.mono (by omega))
        have rf0w1 := hf0.below hBw1 (Nat.le_refl _)
        have rf1w1 := hf1.below hBw1 (Nat.le_refl _)
        have rf2w1 := hf2.below hBw1 (Nat.le_refl _)
        have tw1 := hgs0.lt
        have Ss0w1 := SR.of_row (lo := W.heap.size) (hi := W.heap.size + 1) hgs0 (Nat.le_refl _) (by omega)
        go_wp2_with fail
        refine (toBondS_any A1 n1 c1 x1 _ hs1 rf1w1).mono ?_
        rintro e w2 ⟨rfl, hbw2, hgs1⟩
        have sw2 := hbw2.size
        have hBw2 : Below W.heap.size W w2 := hBw1.trans (hbw2.mono (by omega))
        have rf0w2 := hf0.below hBw2 (Nat.le_refl _)
        have rf1w2 := hf1.below hBw2 (Nat.le_refl _)
        have rf2w2 := hf2.below hBw2 (Nat.le_refl _)
        have Ss0w2 := Ss0w1.below hbw2 (Nat.le_refl _)
        have tw2 := hgs1.lt
        have Ss1w2 := SR.of_row (lo := w1.heap.size) (hi := w1.heap.size + 1) hgs1 (Nat.le_refl _) (by omega)
        go_wp2_with fail
        refine (toInt64S_any A2 n2 c2 x2 _ hs2 rf2w2).mono ?_
        rintro e w3 ⟨rfl, hbw3, hgs2⟩
        have sw3 := hbw3.size
        have hBw3 : Below W.heap.size W w3 := hBw2.trans (hbw3.mono (by omega))
        have rf0w3 := hf0.below hBw3 (Nat.le_refl _)
        have rf1w3 := hf1.below hBw3 (Nat.le_refl _)
        have rf2w3 := hf2.below hBw3 (Nat.le_refl _)
        have Ss0w3 := Ss0w2.below hbw3 (Nat.le_refl _)
        have Ss1w3 := Ss1w2.below hbw3 (Nat.le_refl _)
        have tw3 := hgs2.lt
        have Ss2w3 := SI.of_row (lo := w2.heap.size) (hi := w2.heap.size + 1) hgs2 (Nat.le_refl _) (by omega)
        go_wp2_with fail
        refine (specSlackOfBonds_any _ n0 _ x0 _ n1 _ x1 _ n2 _ x2 _ hs0 hs1 hs2 Ss0w3.rr Ss1w3.rr Ss2w3.ri).mono ?_
        rw [HN.out, HZ.out]
        rintro e w4 ⟨Aw, cw, rfl, Sww4, hbw4⟩
        have sw4 := hbw4.size
        have hBw4 : Below W.heap.size W w4 := hBw3.trans (hbw4.mono (by omega))
        have rf0w4 := hf0.below hBw4 (Nat.le_refl _)
        have rf1w4 := hf1.below hBw4 (Nat.le_refl _)
        have rf2w4 := hf2.below hBw4 (Nat.le_refl _)
        have Ss0w4 := Ss0w3.below hbw4 (Nat.le_refl _)
        have Ss1w4 := Ss1w3.below hbw4 (Nat.le_refl _)
        have Ss2w4 := Ss2w3.below hbw4 (Nat.le_refl _)
        go_wp2_with fail
        refine (toWindowS_any A0 n0 c0 x0 _ hs0 rf0w4).mono ?_
        rintro e w5 ⟨rfl, hbw5, hgx0⟩
        have sw5 := hbw5.size
        have hBw5 : Below W.heap.size W w5 := hBw4.trans (hbw5.mono (by omega))
        have rf0w5 := hf0.below hBw5 (Nat.le_refl _)
        have rf1w5 := hf1.below hBw5 (Nat.le_refl _)
        have rf2w5 := hf2.below hBw5 (Nat.le_refl _)
        have Sww5 := Sww4.below hbw5 (Nat.le_refl _)
        have tw5 := hgx0.lt
        have Sx0w5 := SR.of_row (lo := w4.heap.size) (hi := w4.heap.size + 1) hgx0 (Nat.le_refl _) (by omega)
        go_wp2_with fail
        refine (toBondS_any A1 n1 c1 x1 _ hs1 rf1w5).mono ?_
        rintro e w6 ⟨rfl, hbw6, hgx1⟩
        have sw6 := hbw6.size
        have hBw6 : Below W.heap.size W w6 := hBw5.trans (hbw6.mono (by omega))
        have rf0w6 := hf0.below hBw6 (Nat.le_refl _)
        have rf1w6 := hf1.below hBw6 (Nat.le_refl _)
        have rf2w6 := hf2.below hBw6 (Nat.le_refl _)
        have Sww6 := Sww5.below hbw6 (Nat.le_refl _)
        have Sx0w6 := Sx0w5.below hbw6 (Nat.le_refl _)
        have tw6 := hgx1.lt
        have Sx1w6 := SR.of_row (lo := w5.heap.size) (hi := w5.heap.size + 1) hgx1 (Nat.le_refl _) (by omega)
        go_wp2_with fail
        refine (toInt64S_any A2 n2 c2 x2 _ hs2 rf2w6).mono ?_
        rintro e w7 ⟨rfl, hbw7, hgx2⟩
        have sw7 := hbw7.size
        have hBw7 : Below W.heap.size W w7 := hBw6.trans (hbw7.mono (by omega))
        have rf0w7 := hf0.below hBw7 (Nat.le_refl _)
        have rf1w7 := hf1.below hBw7 (Nat.le_refl _)
        have rf2w7 := hf2.below hBw7 (Nat.le_refl _)
        have Sww7 := Sww6.below hbw7 (Nat.le_refl _)
        have Sx0w7 := Sx0w6.below hbw7 (Nat.le_refl _)
        have Sx1w7 := Sx1w6.below hbw7 (Nat.le_refl _)
        have tw7 := hgx2.lt
        have Sx2w7 := SI.of_row (lo := w6.heap.size) (hi := w6.heap.size + 1) hgx2 (Nat.le_refl _) (by omega)
        go_wp2_with fail
        refine (implSlackOfBonds_any _ n0 _ x0 _ n1 _ x1 _ n2 _ x2 _ hs0 hs1 hs2 Sx0w7.rr Sx1w7.rr Sx2w7.ri).mono ?_
        rw [HN.out, HZ.out]
        rintro e w8 ⟨Ag, cg, rfl, Sgw8, hbw8⟩
        have sw8 := hbw8.size
        have hBw8 : Below W.heap.size W w8 := hBw7.trans (hbw8.mono (by omega))
        have rf0w8 := hf0.below hBw8 (Nat.le_refl _)
        have rf1w8 := hf1.below hBw8 (Nat.le_refl _)
        have rf2w8 := hf2.below hBw8 (Nat.le_refl _)
        have Sww8 := Sww7.below hbw8 (Nat.le_refl _)
        have Sx0w8 := Sx0w7.below hbw8 (Nat.le_refl _)
        have Sx1w8 := Sx1w7.below hbw8 (Nat.le_refl _)
        have Sx2w8 := Sx2w7.below hbw8 (Nat.le_refl _)
        go_wp2_with fail
        refine (eqInt64S_true _ _ N _ _ _ _ hN Sgw8.ri Sww8.ri).mono ?_
        rintro e w9 ⟨rfl, hbw9⟩
        have sw9 := hbw9.size
        have hBw9 : Below W.heap.size W w9 := hBw8.trans (hbw9.mono (by omega))
        have rf0w9 := hf0.below hBw9 (Nat.le_refl _)
        have rf1w9 := hf1.below hBw9 (Nat.le_refl _)
        have rf2w9 := hf2.below hBw9 (Nat.le_refl _)
        have Sww9 := Sww8.below hbw9 (Nat.le_refl _)
        have Sx0w9 := Sx0w8.below hbw9 (Nat.le_refl _)
        have Sx1w9 := Sx1w8.below hbw9 (Nat.le_refl _)
        have Sx2w9 := Sx2w8.below hbw9 (Nat.le_refl _)
        have Sgw9 := Sgw8.below hbw9 (Nat.le_refl _)
        go_wp2_with fail
        refine (toWindowS_any A0 n0 c0 x0 _ hs0 rf0w9).mono ?_
        rintro e w10 ⟨rfl, hbw10, hgy0⟩
        have sw10 := hbw10.size
        have hBw10 : Below W.heap.size W w10 := hBw9.trans (hbw10.mono (by omega))
        have rf0w10 := hf0.below hBw10 (Nat.le_refl _)
        have rf1w10 := hf1.below hBw10 (Nat.le_refl _)
        have rf2w10 := hf2.below hBw10 (Nat.le_refl _)
        have Sww10 := Sww9.below hbw10 (Nat.le_refl _)
        have Sx0w10 := Sx0w9.below hbw10 (Nat.le_refl _)
        have Sx1w10 := Sx1w9.below hbw10 (Nat.le_refl _)
        have Sx2w10 := Sx2w9.below hbw10 (Nat.le_refl _)
        have Sgw10 := Sgw9.below hbw10 (Nat.le_refl _)
        have tw10 := hgy0.lt
        have Sy0w10 := SR.of_row (lo := w9.heap.size) (hi := w9.heap.size + 1) hgy0 (Nat.le_refl _) (by omega)
        go_wp2_with fail
        refine (eqWindowS_true _ _ n0 _ _ x0 _ hs0 Sx0w10.rr Sy0w10.rr).mono ?_
        rintro e w11 ⟨rfl, hbw11⟩
        have sw11 := hbw11.size
        have hBw11 : Below W.heap.size W w11 := hBw10.trans (hbw11.mono (by omega))
        have rf0w11 := hf0.below hBw11 (Nat.le_refl _)
        have rf1w11 := hf1.below hBw11 (Nat.le_refl _)
        have rf2w11 := hf2.below hBw11 (Nat.le_refl _)
        have Sww11 := Sww10.below hbw11 (Nat.le_refl _)
        have Sx0w11 := Sx0w10.below hbw11 (Nat.le_refl _)
        have Sx1w11 := Sx1w10.below hbw11 (Nat.le_refl _)
        have Sx2w11 := Sx2w10.below hbw11 (Nat.le_refl _)
        have Sgw11 := Sgw10.below hbw11 (Nat.le_refl _)
        go_wp2_with fail
        refine (toBondS_any A1 n1 c1 x1 _ hs1 rf1w11).mono ?_
        rintro e w12 ⟨rfl, hbw12, hgy1⟩
        have sw12 := hbw12.size
        have hBw12 : Below W.heap.size W w12 := hBw11.trans (hbw12.mono (by omega))
        have rf0w12 := hf0.below hBw12 (Nat.le_refl _)
        have rf1w12 := hf1.below hBw12 (Nat.le_refl _)
        have rf2w12 := hf2.below hBw12 (Nat.le_refl _)
        have Sww12 := Sww11.below hbw12 (Nat.le_refl _)
        have Sx0w12 := Sx0w11.below hbw12 (Nat.le_refl _)
        have Sx1w12 := Sx1w11.below hbw12 (Nat.le_refl _)
        have Sx2w12 := Sx2w11.below hbw12 (Nat.le_refl _)
        have Sgw12 := Sgw11.below hbw12 (Nat.le_refl _)
        have tw12 := hgy1.lt
        have Sy1w12 := SR.of_row (lo := w11.heap.size) (hi := w11.heap.size + 1) hgy1 (Nat.le_refl _) (by omega)
        go_wp2_with fail
        refine (eqBondS_true _ _ n1 _ _ x1 _ hs1 Sx1w12.rr Sy1w12.rr).mono ?_
        rintro e w13 ⟨rfl, hbw13⟩
        have sw13 := hbw13.size
        have hBw13 : Below W.heap.size W w13 := hBw12.trans (hbw13.mono (by omega))
        have rf0w13 := hf0.below hBw13 (Nat.le_refl _)
        have rf1w13 := hf1.below hBw13 (Nat.le_refl _)
        have rf2w13 := hf2.below hBw13 (Nat.le_refl _)
        have Sww13 := Sww12.below hbw13 (Nat.le_refl _)
        have Sx0w13 := Sx0w12.below hbw13 (Nat.le_refl _)
        have Sx1w13 := Sx1w12.below hbw13 (Nat.le_refl _)
        have Sx2w13 := Sx2w12.below hbw13 (Nat.le_refl _)
        have Sgw13 := Sgw12.below hbw13 (Nat.le_refl _)
        go_wp2_with fail
        refine (toInt64S_any A2 n2 c2 x2 _ hs2 rf2w13).mono ?_
        rintro e w14 ⟨rfl, hbw14, hgy2⟩
        have sw14 := hbw14.size
        have hBw14 : Below W.heap.size W w14 := hBw13.trans (hbw14.mono (by omega))
        have rf0w14 := hf0.below hBw14 (Nat.le_refl _)
        have rf1w14 := hf1.below hBw14 (Nat.le_refl _)
        have rf2w14 := hf2.below hBw14 (Nat.le_refl _)
        have Sww14 := Sww13.below hbw14 (Nat.le_refl _)
        have Sx0w14 := Sx0w13.below hbw14 (Nat.le_refl _)
        have Sx1w14 := Sx1w13.below hbw14 (Nat.le_refl _)
        have Sx2w14 := Sx2w13.below hbw14 (Nat.le_refl _)
        have Sgw14 := Sgw13.below hbw14 (Nat.le_refl _)
        have tw14 := hgy2.lt
        have Sy2w14 := SI.of_row (lo := w13.heap.size) (hi := w13.heap.size + 1) hgy2 (Nat.le_refl _) (by omega)
        go_wp2_with fail
        refine (eqInt64S_true _ _ n2 _ _ x2 _ hs2 Sx2w14.ri Sy2w14.ri).mono ?_
        rintro e w15 ⟨rfl, hbw15⟩
        have sw15 := hbw15.size
        have hBw15 : Below W.heap.size W w15 := hBw14.trans (hbw15.mono (by omega))
        have rf0w15 := hf0.below hBw15 (Nat.le_refl _)
        have rf1w15 := hf1.below hBw15 (Nat.le_refl _)
        have rf2w15 := hf2.below hBw15 (Nat.le_refl _)
        have Sww15 := Sww14.below hbw15 (Nat.le_refl _)
        have Sx0w15 := Sx0w14.below hbw15 (Nat.le_refl _)
        have Sx1w15 := Sx1w14.below hbw15 (Nat.le_refl _)
        have Sx2w15 := Sx2w14.below hbw15 (Nat.le_refl _)
        have Sgw15 := Sgw14.below hbw15 (Nat.le_refl _)
        go_wp2_with fail
        refine (markWindowS_any _ n0 _ _ (1) _ _ _ hs0 (by omega) (by omega) Sx0w15).mono ?_
        rintro e w16 ⟨rfl, how16, Sx0w16⟩
        have sw16 := how16.size
        have hBw16 : Below W.heap.size W w16 := hBw15.trans (how16.below (by omega))
        have rf0w16 := hf0.below hBw16 (Nat.le_refl _)
        have rf1w16 := hf1.below hBw16 (Nat.le_refl _)
        have rf2w16 := hf2.below hBw16 (Nat.le_refl _)
        have Sww16 := Sww15.only how16 (by omega)
        have Sx1w16 := Sx1w15.only how16 (by omega)
        have Sx2w16 := Sx2w15.only how16 (by omega)
        have Sgw16 := Sgw15.only how16 (by omega)
        go_wp2_with fail
        refine (markBondS_any _ n1 _ _ (1 + 2 * n0) _ _ _ hs1 (by omega) (by omega) Sx1w16).mono ?_
        rintro e w17 ⟨rfl, how17, Sx1w17⟩
        have sw17 := how17.size
        have hBw17 : Below W.heap.size W w17 := hBw16.trans (how17.below (by omega))
        have rf0w17 := hf0.below hBw17 (Nat.le_refl _)
        have rf1w17 := hf1.below hBw17 (Nat.le_refl _)
        have rf2w17 := hf2.below hBw17 (Nat.le_refl _)
        have Sww17 := Sww16.only how17 (by omega)
        have Sx0w17 := Sx0w16.only how17 (by omega)
        have Sx2w17 := Sx2w16.only how17 (by omega)
        have Sgw17 := Sgw16.only how17 (by omega)
        go_wp2_with fail
        refine (markInt64S_any _ n2 _ _ (1 + 2 * n0 + 3 * n1) _ _ _ hs2 (by omega) (by omega) Sx2w17).mono ?_
        rintro e w18 ⟨rfl, how18, Sx2w18⟩
        have sw18 := how18.size
        have hBw18 : Below W.heap.size W w18 := hBw17.trans (how18.below (by omega))
        have rf0w18 := hf0.below hBw18 (Nat.le_refl _)
        have rf1w18 := hf1.below hBw18 (Nat.le_refl _)
        have rf2w18 := hf2.below hBw18 (Nat.le_refl _)
        have Sww18 := Sww17.only how18 (by omega)
        have Sx0w18 := Sx0w17.only how18 (by omega)
        have Sx1w18 := Sx1w17.only how18 (by omega)
        have Sgw18 := Sgw17.only how18 (by omega)
        go_wp2_with fail
        refine (eqInt64S_true _ _ N _ _ _ _ hN Sgw18.ri Sww18.ri).mono ?_
        rintro e w19 ⟨rfl, hbw19⟩
        have sw19 := hbw19.size
        have hBw19 : Below W.heap.size W w19 := hBw18.trans (hbw19.mono (by omega))
        have rf0w19 := hf0.below hBw19 (Nat.le_refl _)
        have rf1w19 := hf1.below hBw19 (Nat.le_refl _)
        have rf2w19 := hf2.below hBw19 (Nat.le_refl _)
        have Sww19 := Sww18.below hbw19 (Nat.le_refl _)
        have Sgw19 := Sgw18.below hbw19 (Nat.le_refl _)
        go_wp2_with fail
        refine (markInt64S_any _ N _ _ (1) _ _ _ hN (by omega) (by omega) Sgw19).mono ?_
        rintro e w20 ⟨rfl, how20, Sgw20⟩
        have sw20 := how20.size
        have hBw20 : Below W.heap.size W w20 := hBw19.trans (how20.below (by omega))
        have rf0w20 := hf0.below hBw20 (Nat.le_refl _)
        have rf1w20 := hf1.below hBw20 (Nat.le_refl _)
        have rf2w20 := hf2.below hBw20 (Nat.le_refl _)
        have Sww20 := Sww19.only how20 (by omega)
        go_wp2_with fail
        refine (heldInt64S_any _ N _ (1) _ hN (by omega) (by omega) Sgw20.ri).mono ?_
        rintro e w21 ⟨rfl, hbw21⟩
        have sw21 := hbw21.size
        have hBw21 : Below W.heap.size W w21 := hBw20.trans (hbw21.mono (by omega))
        have rf0w21 := hf0.below hBw21 (Nat.le_refl _)
        have rf1w21 := hf1.below hBw21 (Nat.le_refl _)
        have rf2w21 := hf2.below hBw21 (Nat.le_refl _)
        have Sww21 := Sww20.below hbw21 (Nat.le_refl _)
        have Sgw21 := Sgw20.below hbw21 (Nat.le_refl _)
        go_wp2_with fail
        refine (toWindowS_any A0 n0 c0 x0 _ hs0 rf0w21).mono ?_
        rintro e w22 ⟨rfl, hbw22, hgh0⟩
        have sw22 := hbw22.size
        have hBw22 : Below W.heap.size W w22 := hBw21.trans (hbw22.mono (by omega))
        have rf0w22 := hf0.below hBw22 (Nat.le_refl _)
        have rf1w22 := hf1.below hBw22 (Nat.le_refl _)
        have rf2w22 := hf2.below hBw22 (Nat.le_refl _)
        have Sww22 := Sww21.below hbw22 (Nat.le_refl _)
        have Sgw22 := Sgw21.below hbw22 (Nat.le_refl _)
        have tw22 := hgh0.lt
        have Sh0w22 := SR.of_row (lo := w21.heap.size) (hi := w21.heap.size + 1) hgh0 (Nat.le_refl _) (by omega)
        go_wp2_with fail
        refine (toBondS_any A1 n1 c1 x1 _ hs1 rf1w22).mono ?_
        rintro e w23 ⟨rfl, hbw23, hgh1⟩
        have sw23 := hbw23.size
        have hBw23 : Below W.heap.size W w23 := hBw22.trans (hbw23.mono (by omega))
        have rf0w23 := hf0.below hBw23 (Nat.le_refl _)
        have rf1w23 := hf1.below hBw23 (Nat.le_refl _)
        have rf2w23 := hf2.below hBw23 (Nat.le_refl _)
        have Sww23 := Sww22.below hbw23 (Nat.le_refl _)
        have Sgw23 := Sgw22.below hbw23 (Nat.le_refl _)
        have Sh0w23 := Sh0w22.below hbw23 (Nat.le_refl _)
        have tw23 := hgh1.lt
        have Sh1w23 := SR.of_row (lo := w22.heap.size) (hi := w22.heap.size + 1) hgh1 (Nat.le_refl _) (by omega)
        go_wp2_with fail
        refine (toInt64S_any A2 n2 c2 x2 _ hs2 rf2w23).mono ?_
        rintro e w24 ⟨rfl, hbw24, hgh2⟩
        have sw24 := hbw24.size
        have hBw24 : Below W.heap.size W w24 := hBw23.trans (hbw24.mono (by omega))
        have rf0w24 := hf0.below hBw24 (Nat.le_refl _)
        have rf1w24 := hf1.below hBw24 (Nat.le_refl _)
        have rf2w24 := hf2.below hBw24 (Nat.le_refl _)
        have Sww24 := Sww23.below hbw24 (Nat.le_refl _)
        have Sgw24 := Sgw23.below hbw24 (Nat.le_refl _)
        have Sh0w24 := Sh0w23.below hbw24 (Nat.le_refl _)
        have Sh1w24 := Sh1w23.below hbw24 (Nat.le_refl _)
        have tw24 := hgh2.lt
        have Sh2w24 := SI.of_row (lo := w23.heap.size) (hi := w23.heap.size + 1) hgh2 (Nat.le_refl _) (by omega)
        go_wp2_with fail
        refine (implSlackOfBonds_any _ n0 _ x0 _ n1 _ x1 _ n2 _ x2 _ hs0 hs1 hs2 Sh0w24.rr Sh1w24.rr Sh2w24.ri).mono ?_
        rw [HN.out, HZ.out]
        rintro e w25 ⟨Ah, ch, rfl, Shw25, hbw25⟩
        have sw25 := hbw25.size
        have hBw25 : Below W.heap.size W w25 := hBw24.trans (hbw25.mono (by omega))
        have rf0w25 := hf0.below hBw25 (Nat.le_refl _)
        have rf1w25 := hf1.below hBw25 (Nat.le_refl _)
        have rf2w25 := hf2.below hBw25 (Nat.le_refl _)
        have Sww25 := Sww24.below hbw25 (Nat.le_refl _)
        have Sgw25 := Sgw24.below hbw25 (Nat.le_refl _)
        have Sh0w25 := Sh0w24.below hbw25 (Nat.le_refl _)
        have Sh1w25 := Sh1w24.below hbw25 (Nat.le_refl _)
        have Sh2w25 := Sh2w24.below hbw25 (Nat.le_refl _)
        go_wp2_with fail
        refine (eqInt64S_true _ _ N _ _ _ _ hN Shw25.ri Sww25.ri).mono ?_
        rintro e w26 ⟨rfl, hbw26⟩
        have sw26 := hbw26.size
        have hBw26 : Below W.heap.size W w26 := hBw25.trans (hbw26.mono (by omega))
        have rf0w26 := hf0.below hBw26 (Nat.le_refl _)
        have rf1w26 := hf1.below hBw26 (Nat.le_refl _)
        have rf2w26 := hf2.below hBw26 (Nat.le_refl _)
        have Sww26 := Sww25.below hbw26 (Nat.le_refl _)
        have Sgw26 := Sgw25.below hbw26 (Nat.le_refl _)
        have Sh0w26 := Sh0w25.below hbw26 (Nat.le_refl _)
        have Sh1w26 := Sh1w25.below hbw26 (Nat.le_refl _)
        have Sh2w26 := Sh2w25.below hbw26 (Nat.le_refl _)
        have Shw26 := Shw25.below hbw26 (Nat.le_refl _)
        go_wp2_with fail
        refine (heldInt64S_any _ N _ (1) _ hN (by omega) (by omega) Sgw26.ri).mono ?_
        rintro e w27 ⟨rfl, hbw27⟩
        have sw27 := hbw27.size
        have hBw27 : Below W.heap.size W w27 := hBw26.trans (hbw27.mono (by omega))
        have rf0w27 := hf0.below hBw27 (Nat.le_refl _)
        have rf1w27 := hf1.below hBw27 (Nat.le_refl _)
        have rf2w27 := hf2.below hBw27 (Nat.le_refl _)
        have Sww27 := Sww26.below hbw27 (Nat.le_refl _)
        have Sgw27 := Sgw26.below hbw27 (Nat.le_refl _)
        have Sh0w27 := Sh0w26.below hbw27 (Nat.le_refl _)
        have Sh1w27 := Sh1w26.below hbw27 (Nat.le_refl _)
        have Sh2w27 := Sh2w26.below hbw27 (Nat.le_refl _)
        have Shw27 := Shw26.below hbw27 (Nat.le_refl _)
        go_wp2
        go_ret
        exact ⟨rfl, hBw27⟩

theorem own : ownKnob Try.prog.godebug = none := by kernel_rfl
theorem laidOut : laidOutB Try.prog = true := by kernel_rfl

set_option maxRecDepth 100000 in
theorem lifted (os : Os) (started : os.Started) (H : Type) (enc : TypeId × Value → H) :
    ReturnsInHanded {} Try.checked os 3 .any (Rows.fnExactSlackOfBondsSpec.pre6 enc Try.prog Try.f3 Rows.fnExactSlackOfBondsRow.domain false) (Rows.fnExactSlackOfBondsSpec.post enc Try.prog Try.f3 false true false false) := by
  refine returnsInHanded_of_change (C := Try.checked) own started (by kernel_rfl) Try.func3
    (ChangeSpec.witness6 (enc := enc) (C := Try.checked) false ⟨#[], #[.slice none 0 0, .slice none 0 0, .slice none 0 0], []⟩ 8 (by kernel_rfl) (by kernel_rfl) (by kernel_rfl) (by kernel_rfl)) ?_
  intro W base args ds gs before hval0 hW hcnd _
  have hval : ∀ (j : Nat) t v, Try.f3.params[j]? = some t → args[j]? = some v → Value.okWide Try.prog W .any base t v := hval0
  have hW' := hW
  obtain ⟨p, q, hA0, hV, rfl, hfz, hnd⟩ := hW
  have hA : DataW.TrodAll enc Try.prog W 0 (fun _ => true) true Try.f3.params.toList args.toList ds p := hA0
  rw [Try.params3] at hA hval
  obtain ⟨v0, vs0, d0, ds0, p0, q0, hargs, rfl, rfl, h0, r0⟩ := trodAll_cons hA
  obtain ⟨v1, vs1, d1, ds1, p1, q1, rfl, rfl, rfl, h1, r1⟩ := trodAll_cons r0
  obtain ⟨v2, vs2, d2, ds2, p2, q2, rfl, rfl, rfl, h2, r2⟩ := trodAll_cons r1
  obtain ⟨rfl, rfl, rfl⟩ := trodAll_nil r2
  obtain rfl : args = #[v0, v1, v2] := by cases args; simp_all
  obtain ⟨rfl, rfl⟩ := trodVars_none hV
  clear hA0 hval0
  obtain ⟨A0, n0, c0, x0, rfl, hn0, hf0⟩ := open_recs (s := 2) Try.underlying22 Try.underlying81 (by kernel_rfl) (by kernel_rfl) rfl (by omega) (hval 0 _ v0 rfl rfl) h0
  obtain ⟨A1, n1, c1, x1, rfl, hn1, hf1⟩ := open_recs (s := 3) Try.underlying23 Try.underlying83 (by kernel_rfl) (by kernel_rfl) rfl (by omega) (hval 1 _ v1 rfl rfl) h1
  obtain ⟨A2, n2, c2, x2, rfl, hn2, hf2⟩ := open_i64s Try.underlying24 Try.underlying2 (by kernel_rfl) (hval 2 _ v2 rfl rfl) h2
  simp only [maxLen_is] at hn0 hn1 hn2
  refine (walk A0 n0 c0 x0 A1 n1 c1 x1 A2 n2 c2 x2 W hn0 hn1 hn2 hf0 hf1 hf2).mono fun e W' ⟨he, hb⟩ => ?_
  subst he
  exact ⟨_, rfl, post_law laidOut (by kernel_rfl) (by kernel_rfl) Try.underlying4 rfl rfl rfl rfl hW' hb⟩

theorem proved : Rows.FnExactSlackOfBondsSaid :=
  OpenClaim.holds_of_wide 3 Try.f3 rfl rfl rfl rfl rfl rfl rfl ⟨rfl, rfl, rfl, rfl, rfl⟩ rfl rfl rfl rfl rfl (by kernel_rfl) Try.func3 (by kernel_rfl)
    (of_decide_eq_true (by kernel_rfl)) (by unfold Func.isWrapper; rw [if_neg (of_decide_eq_false (by kernel_rfl))]; exact ⟨rfl, rfl⟩)
    (fun os started H enc _ => lifted os started H enc)
end Go.Proofs.Ytfhpahnflnahkaa.lawSlackOfBonds

