import Derived.Test.YtfhpahnflnahkaaRows
import Derived.Test.YtfhpahnflnahkaaMem
import Derived.Deep.QuietTactic
import Derived.BigQuiet
import Derived.StillTailTactics
import Derived.Test.YtfhpahnflnahkaaTask
namespace Go.Proofs.Ytfhpahnflnahkaa
open Go.RowKit

set_option maxRecDepth 100000 in
set_option maxHeartbeats 1000000 in
theorem specIsTask_any (A B : Option Addr) (n m c d : Nat) (f g : Nat → Nat → Int) (W : World) (hn : n ≤ 1048576) (hm : m ≤ 1048576) (hf : RR W 2 A n f) (hg : RR W 3 B m g) :
    Calls Try.prog 52 #[.slice A n c, .slice B m d] W fun e w' => e = .returned (.bool (taskB n f m g)) ∧ Below W.heap.size W w' := by
  by_cases ha : 1 ≤ n ∧ n ≤ 10 ∧ m ≤ 30
  · obtain ⟨ha1, ha2, ha3⟩ := ha
    have hd30 : decide ((30 : Int) < (m : Int)) = false := decide_eq_false (by omega)
    go_enter Try.func52, Try.ntmps52
    go_wp2
    go_loopw [6] (fun i wr => ∃ k : Nat, k ≤ n ∧ i = .int .i64 k ∧ Below W.heap.size W wr ∧ (∀ i, i < k → WinOk (f i 0) (f i 1))) (fun i _ => n - (intOf i).toNat)
    case atStart => exact ⟨0, Nat.zero_le _, rfl, Below.refl _ _, fun i hi => absurd hi (Nat.not_lt_zero _)⟩
    case round =>
      obtain ⟨k, hk, rfl, hbw, hok⟩ := hrel
      have HOK := Lib.hid hok; clear hok
      by_cases hlt : k < n
      · obtain ⟨b, off, rfl, hbl, hcell⟩ := (hf.below hbw (Nat.le_refl _)) k hlt
        have hc0 : wr.cell? ⟨b, off + k * 2, none⟩ = some (.int .i64 (f k 0)) := hcell 0 (by omega)
        have hc1 : wr.cell? ⟨b, off + k * 2 + 1, none⟩ = some (.int .i64 (f k 1)) := hcell 1 (by omega)
        clear hcell
        by_cases hwo : WinOk (f k 0) (f k 1)
        · have HW := Lib.hid hwo
          unfold WinOk at hwo
          have h1 : decide (f k 0 < 0) = false := decide_eq_false (by omega)
          have h2 : decide (1000000 < f k 1) = false := decide_eq_false (by omega)
          have h3 : decide (f k 1 < f k 0) = false := decide_eq_false (by omega)
          clear hwo
          go_wp2_with fail
          go_quiet (fail)
          go_wp2
          go_roundw
          case rel => exact ⟨k + 1, by omega, by go_num, below_N hbw _, fun i hi => by by_cases e : i = k; exact e ▸ HW.out; exact HOK.out i (by omega)⟩
          case measure => simp [intOf]; omega
        · have HNO := Lib.hid (taskB_false (n := n) (f := f) (m := m) (g := g) (fun h => hwo (h.2.2.2.1 k hlt)))
          have hor : f k 0 < 0 ∨ 1000000 < f k 1 ∨ f k 1 < f k 0 := by unfold WinOk at hwo; omega
          clear hwo
          rcases or3 (f k 0 < 0) (1000000 < f k 1) (f k 1 < f k 0) with h1 | ⟨h1, h2⟩ | ⟨h1, h2, h3⟩ | ⟨h1, h2, h3⟩
          case inr.inr.inr => simp only [decide_eq_false_iff_not] at h1 h2 h3; omega
          all_goals
            clear hor
            go_wp2_with fail
            go_quiet (fail)
            go_wp2
            go_ret
            exact ⟨ret_bool HNO.out.symm, below_N hbw _⟩
      · obtain rfl : k = n := by omega
        go_wp2
        go_loopw [7] (fun i wr => ∃ q : Nat, q ≤ m ∧ i = .int .i64 q ∧ Below W.heap.size W wr ∧ (∀ i, i < q → BondOk k (g i 0) (g i 1) (g i 2))) (fun i _ => m - (intOf i).toNat)
        case atStart => exact ⟨0, Nat.zero_le _, rfl, hbw, fun i hi => absurd hi (Nat.not_lt_zero _)⟩
        case round =>
          clear hbw
          obtain ⟨q, hq, rfl, hbw, hok⟩ := hrel
          have HOK2 := Lib.hid hok; clear hok
          by_cases hlt : q < m
          · obtain ⟨b, off, rfl, hbl, hcell⟩ := (hg.below hbw (Nat.le_refl _)) q hlt
            have hc0 : wr.cell? ⟨b, off + q * 3, none⟩ = some (.int .i64 (g q 0)) := hcell 0 (by omega)
            have hc1 : wr.cell? ⟨b, off + q * 3 + 1, none⟩ = some (.int .i64 (g q 1)) := hcell 1 (by omega)
            have hc2 : wr.cell? ⟨b, off + q * 3 + 2, none⟩ = some (.int .i64 (g q 2)) := hcell 2 (by omega)
            clear hcell
            by_cases hwo : BondOk k (g q 0) (g q 1) (g q 2)
            · have HW := Lib.hid hwo
              unfold BondOk at hwo
              obtain ⟨h1, h2, h3, h4, h5, h6⟩ := hwo
              go_wp2
              go_roundw
              case rel => exact ⟨q + 1, by omega, by go_num, hbw, fun i hi => by by_cases e : i = q; exact e ▸ HW.out; exact HOK2.out i (by omega)⟩
              case measure => simp [intOf]; omega
            · have HNO := Lib.hid (taskB_false (n := k) (f := f) (m := m) (g := g) (fun h => hwo (h.2.2.2.2 q hlt)))
              have hor : g q 0 < 0 ∨ (0 ≤ g q 0 ∧ k ≤ g q 0) ∨ (0 ≤ g q 0 ∧ g q 0 < k ∧ g q 1 < 0) ∨ (0 ≤ g q 0 ∧ g q 0 < k ∧ 0 ≤ g q 1 ∧ k ≤ g q 1) ∨ (0 ≤ g q 0 ∧ g q 0 < k ∧ 0 ≤ g q 1 ∧ g q 1 < k ∧ g q 2 < -1000000) ∨ (0 ≤ g q 0 ∧ g q 0 < k ∧ 0 ≤ g q 1 ∧ g q 1 < k ∧ -1000000 ≤ g q 2 ∧ 1000000 < g q 2) := by unfold BondOk at hwo; omega
              clear hwo
              rcases hor with h1 | ⟨h1, h2⟩ | ⟨h1, h2, h3⟩ | ⟨h1, h2, h3, h4⟩ | ⟨h1, h2, h3, h4, h5⟩ | ⟨h1, h2, h3, h4, h5, h6⟩
              all_goals
                try have hd6 : decide (g q 2 ≤ 1000000) = false := decide_eq_false (by omega)
                go_wp2
                go_ret
                exact ⟨ret_bool HNO.out.symm, hbw⟩
          · obtain rfl : q = m := by omega
            have HY := Lib.hid (taskB_true (f := f) (g := g) ⟨ha1, ha2, ha3, HOK.out, HOK2.out⟩)
            go_wp2
            go_ret
            exact ⟨ret_bool HY.out.symm, hbw⟩
  · have HNO := Lib.hid (taskB_false (n := n) (f := f) (m := m) (g := g) (fun h => ha ⟨h.1, h.2.1, h.2.2.1⟩))
    rcases (by omega : n < 1 ∨ (1 ≤ n ∧ 10 < n) ∨ (1 ≤ n ∧ n ≤ 10 ∧ 30 < m)) with h1 | ⟨h1, h2⟩ | ⟨h1, h2, h3⟩
    all_goals
      clear ha
      go_enter Try.func52, Try.ntmps52
      go_wp2
      go_ret
      exact ⟨ret_bool HNO.out.symm, Below.refl _ _⟩
end Go.Proofs.Ytfhpahnflnahkaa
