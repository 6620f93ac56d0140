import Derived.Test.YtfhpahnflnahkaaHasBond
import Derived.Test.YtfhpahnflnahkaaTask
namespace Go.Proofs.Ytfhpahnflnahkaa
open Go.RowKit

open Classical in
noncomputable def badBond (n : Nat) (a b c : Int) : Bool := decide (¬ BondOk n a b c)

set_option maxRecDepth 100000 in
set_option maxHeartbeats 1000000 in
theorem isTask1_any (a b c : Int) (n B : Nat) (W : World) (hn : n ≤ 10) (hc : W.cell? ⟨B, 0, none⟩ = some (.int .i64 ((n : Int) - 1))) :
    Calls Try.prog 98 #[.agg #[.int .i64 a, .int .i64 b, .int .i64 c], .pointer (some ⟨B, 0, none⟩)] W fun e w' => e = .returned (.bool (badBond n a b c)) ∧ Below W.heap.size W w' := by
  have hB := World.block_lt_of_cell? W _ hc
  by_cases hwo : BondOk n a b c
  · have HNO := Lib.hid (show badBond n a b c = false by unfold badBond; simp [hwo])
    unfold BondOk at hwo
    obtain ⟨h1, h2, h3, h4, h5, h6⟩ := hwo
    go_enter Try.func98, Try.ntmps98
    go_wp2
    go_ret
    exact ⟨ret_bool HNO.out.symm, (Below.refl _ _).alloc (Nat.le_refl _) _⟩
  · have HNO := Lib.hid (show badBond n a b c = true by unfold badBond; simp [hwo])
    have hor : a < 0 ∨ (0 ≤ a ∧ n ≤ a) ∨ (0 ≤ a ∧ a < n ∧ b < 0) ∨ (0 ≤ a ∧ a < n ∧ 0 ≤ b ∧ n ≤ b) ∨ (0 ≤ a ∧ a < n ∧ 0 ≤ b ∧ b < n ∧ c < -1000000) ∨ (0 ≤ a ∧ a < n ∧ 0 ≤ b ∧ b < n ∧ -1000000 ≤ c ∧ 1000000 < c) := by unfold BondOk at hwo; omega
    clear hwo
    rcases hor with h1 | ⟨h1, h2⟩ | ⟨h1, h2, h3⟩ | ⟨h1, h2, h3, h4⟩ | ⟨h1, h2, h3, h4, h5⟩ | ⟨h1, h2, h3, h4, h5, h6⟩
    all_goals
      try have hd6 : decide (c ≤ 1000000) = false := decide_eq_false (by omega)
      go_enter Try.func98, Try.ntmps98
      go_wp2
      go_ret
      exact ⟨ret_bool HNO.out.symm, (Below.refl _ _).alloc (Nat.le_refl _) _⟩

theorem isTask1_enters : ∀ (args : Array Value) (w : World), (callFunc 98 args).run Try.prog w = .ok (.enter 98 args) w := enters_by Try.func98 (by kernel_rfl) rfl

set_option maxRecDepth 100000 in
set_option maxHeartbeats 1000000 in
theorem implIsTask_any (A B : Option Addr) (n m c d : Nat) (f g : Nat → Nat → Int) (W : World) (hn : n ≤ 1048576) (hm : m ≤ 1048576) (hf : RR W 2 A n f) (hg : RR W 3 B m g) :
    Calls Try.prog 56 #[.slice A n c, .slice B m d] W fun e w' => e = .returned (.bool (taskB n f m g)) ∧ Below W.heap.size W w' := by
  by_cases ha : 1 ≤ n ∧ n ≤ 10 ∧ m ≤ 30
  · obtain ⟨ha1, ha2, ha3⟩ := ha
    have hd30 : decide ((30 : Int) < (m : Int)) = false := decide_eq_false (by omega)
    go_enter Try.func56, Try.ntmps56
    go_wp2
    go_loopw [19] (fun i wr => ∃ k : Nat, k ≤ n ∧ i = .int .i64 k ∧ Below W.heap.size W wr ∧ (∀ i, i < k → WinOk (f i 0) (f i 1))) (fun i _ => n - (intOf i).toNat)
    case atStart => exact ⟨0, Nat.zero_le _, rfl, Below.refl _ _, fun i hi => absurd hi (Nat.not_lt_zero _)⟩
    case round =>
      obtain ⟨k, hk, rfl, hbw, hok⟩ := hrel
      have HOK := Lib.hid hok; clear hok
      by_cases hlt : k < n
      · obtain ⟨b, off, rfl, hbl, hcell⟩ := (hf.below hbw (Nat.le_refl _)) k hlt
        have hc0 : wr.cell? ⟨b, off + k * 2, none⟩ = some (.int .i64 (f k 0)) := hcell 0 (by omega)
        have hc1 : wr.cell? ⟨b, off + k * 2 + 1, none⟩ = some (.int .i64 (f k 1)) := hcell 1 (by omega)
        clear hcell
        by_cases hwo : WinOk (f k 0) (f k 1)
        · have HW := Lib.hid hwo
          unfold WinOk at hwo
          have h1 : decide (f k 0 < 0) = false := decide_eq_false (by omega)
          have h2 : decide (1000000 < f k 1) = false := decide_eq_false (by omega)
          have h3 : decide (f k 1 < f k 0) = false := decide_eq_false (by omega)
          clear hwo
          go_wp2
          go_roundw
          case rel => exact ⟨k + 1, by omega, by go_num, hbw.alloc hbw.size _, fun i hi => by by_cases e : i = k; exact e ▸ HW.out; exact HOK.out i (by omega)⟩
          case measure => simp [intOf]; omega
        · have HNO := Lib.hid (taskB_false (n := n) (f := f) (m := m) (g := g) (fun h => hwo (h.2.2.2.1 k hlt)))
          have hor : f k 0 < 0 ∨ 1000000 < f k 1 ∨ f k 1 < f k 0 := by unfold WinOk at hwo; omega
          clear hwo
          rcases or3 (f k 0 < 0) (f k 1 < f k 0) (1000000 < f k 1) with h1 | ⟨h1, h2⟩ | ⟨h1, h2, h3⟩ | ⟨h1, h2, h3⟩
          case inr.inr.inr => simp only [decide_eq_false_iff_not] at h1 h2 h3; omega
          all_goals
            clear hor
            go_wp2
            go_ret
            exact ⟨ret_bool HNO.out.symm, hbw.alloc hbw.size _⟩
      · obtain rfl : k = n := by omega
        go_wp2_with fail
        have hgb := hg.below (hbw.alloc hbw.size (Obj.cells #[Value.int .i64 ((k : Int) - 1)] 2)) (Nat.le_refl _)
        refine (containsBond_any B m d g 98 _ (fun i => badBond k (g i 0) (g i 1) (g i 2)) _ (by omega) hgb isTask1_enters ?_).mono ?_
        · intro i hi w hb
          refine isTask1_any _ _ _ k wr.heap.size w ha2 ?_
          have := hb.cell (p := ⟨wr.heap.size, 0, none⟩) (by simp)
          rw [this]; simp
        · rintro e w1 ⟨rfl, hb1⟩
          cases hany : anyB (fun i => badBond k (g i 0) (g i 1) (g i 2)) m with
          | true =>
            obtain ⟨i, hi, hbad⟩ := anyB_is_true hany
            have HNO := Lib.hid (taskB_false (n := k) (f := f) (m := m) (g := g) (fun h => by unfold badBond at hbad; simp at hbad; exact hbad (h.2.2.2.2 i hi)))
            clear hany hbad
            go_wp2
            go_ret
            exact ⟨ret_bool HNO.out.symm, (hbw.alloc hbw.size _).trans (hb1.mono (by have := hbw.size; simp; omega))⟩
          | false =>
            have HY := Lib.hid (taskB_true (f := f) (g := g) ⟨ha1, ha2, ha3, HOK.out, fun i hi => by have := anyB_is_false hany i hi; unfold badBond at this; simpa using this⟩)
            clear hany
            go_wp2
            go_ret
            exact ⟨ret_bool HY.out.symm, (hbw.alloc hbw.size _).trans (hb1.mono (by have := hbw.size; simp; omega))⟩
  · have HNO := Lib.hid (taskB_false (n := n) (f := f) (m := m) (g := g) (fun h => ha ⟨h.1, h.2.1, h.2.2.1⟩))
    rcases (by omega : n < 1 ∨ (1 ≤ n ∧ 10 < n) ∨ (1 ≤ n ∧ n ≤ 10 ∧ 30 < m)) with h1 | ⟨h1, h2⟩ | ⟨h1, h2, h3⟩
    all_goals
      clear ha
      go_enter Try.func56, Try.ntmps56
      go_wp2
      go_ret
      exact ⟨ret_bool HNO.out.symm, Below.refl _ _⟩
end Go.Proofs.Ytfhpahnflnahkaa
