/- Marking what a call made, and looking whether the marks are still there. -/
import Derived.Test.YtfhpahnflnahkaaRows
import Derived.Test.YtfhpahnflnahkaaOwn
namespace Go.Proofs.Ytfhpahnflnahkaa
open Go.RowKit

set_option maxRecDepth 100000 in
set_option maxHeartbeats 1000000 in
theorem markPlaceS_any (A : Option Addr) (n c : Nat) (f : Nat → Nat → Int) (k0 : Int) (lo hi : Nat) (W : World) (hn : n ≤ 1048576) (h0 : 0 ≤ k0) (h1 : k0 ≤ 1000000000000) (hs : SR W lo hi 4 A n f) :
    Calls Try.prog 76 #[.slice A n c, .int .i64 k0] W fun e w' => e = .returned (.int .i64 (k0 + 4 * n)) ∧ Only lo hi W w' ∧ SR w' lo hi 4 A n (fun i j => k0 + 4 * i + j) := by
  go_enter Try.func76, Try.ntmps76
  go_wp2
  go_loopw [1, 5] (fun l i wr => ∃ k : Nat, k ≤ n ∧ i = .int .i64 k ∧ l = .int .i64 (k0 + 4 * k) ∧ Only lo hi W wr ∧ SR wr lo hi 4 A n (fun i j => if i < k then k0 + 4 * i + j else f i j)) (fun _ i _ => n - (intOf i).toNat)
  case atStart => exact ⟨0, Nat.zero_le _, rfl, by simp, Only.refl _ _ _, hs.congr fun i _ j _ => by simp⟩
  case round =>
    obtain ⟨k, hk, rfl, rfl, hw, hr⟩ := hrel
    by_cases hlt : k < n
    · obtain ⟨b, off, rfl, hb1, hb2, hbl, hc, hz⟩ := hr k hlt
      have hc0 : wr.cell? ⟨b, off + k * 4, none⟩ = some (.int .i64 (if k < k then k0 + 4 * k + 0 else f k 0)) := hc 0 (by omega)
      have hz0 := hz (off + k * 4)
      have hc1 : wr.cell? ⟨b, off + k * 4 + 1, none⟩ = some (.int .i64 (if k < k then k0 + 4 * k + 1 else f k 1)) := hc 1 (by omega)
      have hz1 := hz (off + k * 4 + 1)
      have hc2 : wr.cell? ⟨b, off + k * 4 + 2, none⟩ = some (.int .i64 (if k < k then k0 + 4 * k + 2 else f k 2)) := hc 2 (by omega)
      have hz2 := hz (off + k * 4 + 2)
      have hc3 : wr.cell? ⟨b, off + k * 4 + 3, none⟩ = some (.int .i64 (if k < k then k0 + 4 * k + 3 else f k 3)) := hc 3 (by omega)
      have hz3 := hz (off + k * 4 + 3)
      clear hc hz
      have HR := Lib.hid hr; clear hr
      go_wp2
      go_roundw
      case rel =>
        refine ⟨k + 1, by omega, by go_num, by congr 1; omega, ((((hw.trans (Only.setCell hb1 hb2 _)).trans (Only.setCell hb1 hb2 _)).trans (Only.setCell hb1 hb2 _)).trans (Only.setCell hb1 hb2 _)), ?_⟩
        have hset := ((((HR.out.set (k := k) (c := 0) (z := k0 + 4 * (k : Int)) (by omega)).set (k := k) (c := 1) (z := k0 + 4 * (k : Int) + 1) (by omega)).set (k := k) (c := 2) (z := k0 + 4 * (k : Int) + 1 + 1) (by omega)).set (k := k) (c := 3) (z := k0 + 4 * (k : Int) + 1 + 1 + 1) (by omega))
        refine SR.congr hset fun i _ j hj => ?_
        · show (if i = k ∧ j = 3 then k0 + 4 * (k : Int) + 1 + 1 + 1 else (if i = k ∧ j = 2 then k0 + 4 * (k : Int) + 1 + 1 else (if i = k ∧ j = 1 then k0 + 4 * (k : Int) + 1 else (if i = k ∧ j = 0 then k0 + 4 * (k : Int) else if i < k then k0 + 4 * (i : Int) + (j : Int) else f i j)))) = if i < k + 1 then k0 + 4 * (i : Int) + (j : Int) else f i j
          by_cases e : i = k
          · subst e
            rw [if_pos (show i < i + 1 by omega)]
            match j, hj with
            | 0, _ => (simp; try omega)
            | 1, _ => (simp; try omega)
            | 2, _ => (simp; try omega)
            | 3, _ => (simp; try omega)
          · simp only [e, false_and, if_false]
            by_cases e2 : i < k
            · rw [if_pos e2, if_pos (by omega)]
            · rw [if_neg e2, if_neg (by omega)]
      case measure => simp [intOf]; omega
    · obtain rfl : k = n := by omega
      have HR := Lib.hid hr; clear hr
      go_wp2
      go_ret
      exact ⟨rfl, hw, HR.out.congr fun i hi j _ => by rw [if_pos hi]⟩

set_option maxRecDepth 100000 in
set_option maxHeartbeats 1000000 in
theorem heldPlaceS_any (A : Option Addr) (n c : Nat) (k0 : Int) (W : World) (hn : n ≤ 1048576) (h0 : 0 ≤ k0) (h1 : k0 ≤ 1000000000000) (hs : RR W 4 A n (fun i j => k0 + 4 * i + j)) :
    Calls Try.prog 82 #[.slice A n c, .int .i64 k0] W fun e w' => e = .returned (.int .i64 (k0 + 4 * n)) ∧ Below W.heap.size W w' := by
  go_enter Try.func82, Try.ntmps82
  go_wp2
  go_loopw [1, 5] (fun l i wr => ∃ k : Nat, k ≤ n ∧ i = .int .i64 k ∧ l = .int .i64 (k0 + 4 * k) ∧ Below W.heap.size W wr) (fun _ i _ => n - (intOf i).toNat)
  case atStart => exact ⟨0, Nat.zero_le _, rfl, by simp, Below.refl _ _⟩
  case round =>
    obtain ⟨k, hk, rfl, rfl, hw⟩ := hrel
    by_cases hlt : k < n
    · obtain ⟨b, off, rfl, hbl, hc⟩ := (hs.below hw (Nat.le_refl _)) k hlt
      have hc0 : wr.cell? ⟨b, off + k * 4, none⟩ = some (.int .i64 (k0 + 4 * (k : Int))) := (hc 0 (by omega)).trans (by show some (Value.int .i64 (k0 + 4 * (k : Int) + ((0 : Nat) : Int))) = _; rw [show k0 + 4 * (k : Int) + ((0 : Nat) : Int) = k0 + 4 * (k : Int) by omega])
      have hc1 : wr.cell? ⟨b, off + k * 4 + 1, none⟩ = some (.int .i64 (k0 + 4 * (k : Int) + 1)) := (hc 1 (by omega)).trans (by show some (Value.int .i64 (k0 + 4 * (k : Int) + ((1 : Nat) : Int))) = _; rw [show k0 + 4 * (k : Int) + ((1 : Nat) : Int) = k0 + 4 * (k : Int) + 1 by omega])
      have hc2 : wr.cell? ⟨b, off + k * 4 + 2, none⟩ = some (.int .i64 (k0 + 4 * (k : Int) + 1 + 1)) := (hc 2 (by omega)).trans (by show some (Value.int .i64 (k0 + 4 * (k : Int) + ((2 : Nat) : Int))) = _; rw [show k0 + 4 * (k : Int) + ((2 : Nat) : Int) = k0 + 4 * (k : Int) + 1 + 1 by omega])
      have hc3 : wr.cell? ⟨b, off + k * 4 + 3, none⟩ = some (.int .i64 (k0 + 4 * (k : Int) + 1 + 1 + 1)) := (hc 3 (by omega)).trans (by show some (Value.int .i64 (k0 + 4 * (k : Int) + ((3 : Nat) : Int))) = _; rw [show k0 + 4 * (k : Int) + ((3 : Nat) : Int) = k0 + 4 * (k : Int) + 1 + 1 + 1 by omega])
      clear hc
      go_wp2
      go_roundw
      case rel => exact ⟨k + 1, by omega, by go_num, by congr 1; omega, hw⟩
      case measure => simp [intOf]; omega
    · obtain rfl : k = n := by omega
      go_wp2
      go_ret
      exact ⟨rfl, hw⟩

end Go.Proofs.Ytfhpahnflnahkaa
