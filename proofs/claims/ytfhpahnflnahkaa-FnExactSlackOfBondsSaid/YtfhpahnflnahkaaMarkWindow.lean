/- Marking what a call made, and looking whether the marks are still there. -/
import Derived.Test.YtfhpahnflnahkaaRows
import Derived.Test.YtfhpahnflnahkaaOwn
namespace Go.Proofs.Ytfhpahnflnahkaa
open Go.RowKit

set_option maxRecDepth 100000 in
set_option maxHeartbeats 1000000 in
theorem markWindowS_any (A : Option Addr) (n c : Nat) (f : Nat → Nat → Int) (k0 : Int) (lo hi : Nat) (W : World) (hn : n ≤ 1048576) (h0 : 0 ≤ k0) (h1 : k0 ≤ 1000000000000) (hs : SR W lo hi 2 A n f) :
    Calls Try.prog 21 #[.slice A n c, .int .i64 k0] W fun e w' => e = .returned (.int .i64 (k0 + 2 * n)) ∧ Only lo hi W w' ∧ SR w' lo hi 2 A n (fun i j => k0 + 2 * i + j) := by
  go_enter Try.func21, Try.ntmps21
  go_wp2
  go_loopw [1, 5] (fun l i wr => ∃ k : Nat, k ≤ n ∧ i = .int .i64 k ∧ l = .int .i64 (k0 + 2 * k) ∧ Only lo hi W wr ∧ SR wr lo hi 2 A n (fun i j => if i < k then k0 + 2 * i + j else f i j)) (fun _ i _ => n - (intOf i).toNat)
  case atStart => exact ⟨0, Nat.zero_le _, rfl, by simp, Only.refl _ _ _, hs.congr fun i _ j _ => by simp⟩
  case round =>
    obtain ⟨k, hk, rfl, rfl, hw, hr⟩ := hrel
    by_cases hlt : k < n
    · obtain ⟨b, off, rfl, hb1, hb2, hbl, hc, hz⟩ := hr k hlt
      have hc0 : wr.cell? ⟨b, off + k * 2, none⟩ = some (.int .i64 (if k < k then k0 + 2 * k + 0 else f k 0)) := hc 0 (by omega)
      have hz0 := hz (off + k * 2)
      have hc1 : wr.cell? ⟨b, off + k * 2 + 1, none⟩ = some (.int .i64 (if k < k then k0 + 2 * k + 1 else f k 1)) := hc 1 (by omega)
      have hz1 := hz (off + k * 2 + 1)
      clear hc hz
      have HR := Lib.hid hr; clear hr
      go_wp2
      go_roundw
      case rel =>
        refine ⟨k + 1, by omega, by go_num, by congr 1; omega, ((hw.trans (Only.setCell hb1 hb2 _)).trans (Only.setCell hb1 hb2 _)), ?_⟩
        have hset := ((HR.out.set (k := k) (c := 0) (z := k0 + 2 * (k : Int)) (by omega)).set (k := k) (c := 1) (z := k0 + 2 * (k : Int) + 1) (by omega))
        refine SR.congr hset fun i _ j hj => ?_
        · show (if i = k ∧ j = 1 then k0 + 2 * (k : Int) + 1 else (if i = k ∧ j = 0 then k0 + 2 * (k : Int) else if i < k then k0 + 2 * (i : Int) + (j : Int) else f i j)) = if i < k + 1 then k0 + 2 * (i : Int) + (j : Int) else f i j
          by_cases e : i = k
          · subst e
            rw [if_pos (show i < i + 1 by omega)]
            match j, hj with
            | 0, _ => (simp; try omega)
            | 1, _ => (simp; try omega)
          · simp only [e, false_and, if_false]
            by_cases e2 : i < k
            · rw [if_pos e2, if_pos (by omega)]
            · rw [if_neg e2, if_neg (by omega)]
      case measure => simp [intOf]; omega
    · obtain rfl : k = n := by omega
      have HR := Lib.hid hr; clear hr
      go_wp2
      go_ret
      exact ⟨rfl, hw, HR.out.congr fun i hi j _ => by rw [if_pos hi]⟩

end Go.Proofs.Ytfhpahnflnahkaa
