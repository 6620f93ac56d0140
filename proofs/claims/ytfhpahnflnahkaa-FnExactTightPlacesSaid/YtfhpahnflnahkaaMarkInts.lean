/- Marking what a call made, and looking whether the marks are still there. -/
import Derived.Test.YtfhpahnflnahkaaRows
import Derived.Test.YtfhpahnflnahkaaOwn
namespace Go.Proofs.Ytfhpahnflnahkaa
open Go.RowKit

set_option maxRecDepth 100000 in
set_option maxHeartbeats 1000000 in
theorem markInt64S_any (A : Option Addr) (n c : Nat) (f : Nat → Int) (k0 : Int) (lo hi : Nat) (W : World) (hn : n ≤ 1048576) (h0 : 0 ≤ k0) (h1 : k0 ≤ 1000000000000) (hs : SI W lo hi A n f) :
    Calls Try.prog 23 #[.slice A n c, .int .i64 k0] W fun e w' => e = .returned (.int .i64 (k0 + n)) ∧ Only lo hi W w' ∧ SI w' lo hi A n (fun i => k0 + i) := by
  go_enter Try.func23, Try.ntmps23
  go_wp2
  go_loopw [1, 5] (fun l i wr => ∃ k : Nat, k ≤ n ∧ i = .int .i64 k ∧ l = .int .i64 (k0 + k) ∧ Only lo hi W wr ∧ SI wr lo hi A n (fun i => if i < k then k0 + i else f i)) (fun _ i _ => n - (intOf i).toNat)
  case atStart => exact ⟨0, Nat.zero_le _, rfl, by simp, Only.refl _ _ _, hs.congr fun i _ => by simp⟩
  case round =>
    obtain ⟨k, hk, rfl, rfl, hw, hr⟩ := hrel
    by_cases hlt : k < n
    · obtain ⟨b, off, rfl, hb1, hb2, hbl, hc, hz⟩ := hr k hlt
      have hz0 := hz (off + k)
      clear hz
      have HR := Lib.hid hr; clear hr
      go_wp2
      go_roundw
      case rel =>
        refine ⟨k + 1, by omega, by go_num, by rw [show k0 + ((k + 1 : Nat) : Int) = k0 + k + 1 by omega], hw.trans (Only.setCell hb1 hb2 _), (HR.out.set (z := k0 + k) hlt).congr fun i _ => ?_⟩
        show (if i = k then k0 + (k : Int) else if i < k then k0 + (i : Int) else f i) = if i < k + 1 then k0 + (i : Int) else f i
        by_cases e : i = k
        · subst e; rw [if_pos rfl, if_pos (by omega)]
        · rw [if_neg e]
          by_cases e2 : i < k
          · rw [if_pos e2, if_pos (by omega)]
          · rw [if_neg e2, if_neg (by omega)]
      case measure => simp [intOf]; omega
    · obtain rfl : k = n := by omega
      have HR := Lib.hid hr; clear hr
      go_wp2
      go_ret
      exact ⟨rfl, hw, HR.out.congr fun i hi => by rw [if_pos hi]⟩

set_option maxRecDepth 100000 in
set_option maxHeartbeats 1000000 in
theorem heldInt64S_any (A : Option Addr) (n c : Nat) (k0 : Int) (W : World) (hn : n ≤ 1048576) (h0 : 0 ≤ k0) (h1 : k0 ≤ 1000000000000) (hs : RI W A n (fun i => k0 + i)) :
    Calls Try.prog 24 #[.slice A n c, .int .i64 k0] W fun e w' => e = .returned (.int .i64 (k0 + n)) ∧ Below W.heap.size W w' := by
  go_enter Try.func24, Try.ntmps24
  go_wp2
  go_loopw [1, 5] (fun l i wr => ∃ k : Nat, k ≤ n ∧ i = .int .i64 k ∧ l = .int .i64 (k0 + k) ∧ Below W.heap.size W wr) (fun _ i _ => n - (intOf i).toNat)
  case atStart => exact ⟨0, Nat.zero_le _, rfl, by simp, Below.refl _ _⟩
  case round =>
    obtain ⟨k, hk, rfl, rfl, hw⟩ := hrel
    by_cases hlt : k < n
    · obtain ⟨b, off, rfl, hbl, hc⟩ := (hs.below hw (Nat.le_refl _)) k hlt
      go_wp2
      go_roundw
      case rel => exact ⟨k + 1, by omega, by go_num, by rw [show k0 + ((k + 1 : Nat) : Int) = k0 + k + 1 by omega], hw⟩
      case measure => simp [intOf]; omega
    · obtain rfl : k = n := by omega
      go_wp2
      go_ret
      exact ⟨rfl, hw⟩

end Go.Proofs.Ytfhpahnflnahkaa
