/- The law's own helpers over slices of numbers: copy, comparison, size. -/
import Derived.Test.YtfhpahnflnahkaaRows
import Derived.Test.YtfhpahnflnahkaaMem
import Derived.Deep.QuietTactic
import Derived.BigQuiet
import Derived.StillTailTactics
namespace Go.Proofs.Ytfhpahnflnahkaa
open Go.RowKit

theorem infoInt64 : (Try.prog.info? 2).map (fun i => (i.zero, i.size, i.bytes)) = some (some (.int .i64 0), 1, 8) := by kernel_rfl

/-- a row of numbers, the first k laid, the others 0 -/
theorem fillI {w : World} {g t n k : Nat} {f : Nat → Int} (h : w.rowIs g t n (fun q => .int .i64 (if q < k then f q else 0))) :
    (w.setCell ⟨g, k, none⟩ (.int .i64 (f k))).rowIs g t n (fun q => .int .i64 (if q < k + 1 then f q else 0)) := by
  refine (h.set _ _).congr (fun q _ => ?_)
  by_cases h0 : q = k
  · subst h0; simp
  · rw [if_neg h0]
    by_cases h2 : q < k
    · rw [if_pos h2, if_pos (by omega)]
    · rw [if_neg h2, if_neg (by omega)]

set_option maxHeartbeats 400000 in
theorem szInt64S_any (A : Option Addr) (n c : Nat) (left : Int) (w : World) (hn : n ≤ 9223372036854775807) (h0 : 0 ≤ left) (h1 : left ≤ 1048576) :
    Calls Try.prog 61 #[.slice A n c, .int .i64 left] w fun e w' => e = .returned (.int .i64 (sz1 left n)) ∧ w = w' := by
  by_cases hlt : left < (n : Int)
  · go_enter Try.func61, Try.ntmps61
    go_wp2
    go_ret
    exact ⟨ret_int (by unfold sz1; rw [if_pos hlt]), rfl⟩
  · go_enter Try.func61, Try.ntmps61
    go_wp2
    go_ret
    exact ⟨ret_int (by unfold sz1; rw [if_neg (by omega)]), rfl⟩

set_option maxHeartbeats 400000 in
theorem toInt64S_any (A : Option Addr) (n c : Nat) (f : Nat → Int) (W : World) (hn : n ≤ 1048576) (hf : RI W A n f) :
    Calls Try.prog 16 #[.slice A n c] W fun e w' => e = .returned (.slice (some ⟨W.heap.size, 0, none⟩) n n) ∧ Below W.heap.size W w' ∧ w'.rowIs W.heap.size 2 n (fun q => .int .i64 (f q)) := by
  obtain ⟨i0, hi0, hz0, hz1, hz2⟩ := info_parts infoInt64
  have hmk := fun w => run_make_row (P := Try.prog) 24 2 i0 (.int .i64 0) Try.underlying24 hi0 hz0 hz1 rfl .i64 .i64 n (by rw [hz2]; omega) (by omega) w
  have hrow0 : (W.alloc (Obj.cells (madeCells #[Value.int .i64 0] n) 2)).rowIs W.heap.size 2 n (fun q => .int .i64 (if q < 0 then f q else 0)) := World.rowIs_made _ _ _ _
  go_enter Try.func16, Try.ntmps16
  go_wp2
  go_loopw [4] (fun i wr => ∃ k : Nat, k ≤ n ∧ i = .int .i64 k ∧ Below W.heap.size W wr ∧ wr.rowIs W.heap.size 2 n (fun q => .int .i64 (if q < k then f q else 0))) (fun i _ => n - (intOf i).toNat)
  case atStart => exact ⟨0, Nat.zero_le _, rfl, (Below.refl _ _).alloc (Nat.le_refl _) _, hrow0⟩
  case round =>
    obtain ⟨k, hk, rfl, hbw, hrow⟩ := hrel
    by_cases hlt : k < n
    · obtain ⟨b, off, rfl, hbl, hc0⟩ := (hf.below hbw (Nat.le_refl _)) k hlt
      have hg0 := hrow.cell (i := k) (by omega)
      have hz0 := hrow.frozen k
      clear hmk
      go_wp2
      go_roundw
      case rel => exact ⟨k + 1, by omega, by go_num, hbw.setCell (Nat.le_refl _) _, fillI hrow⟩
      case measure => simp [intOf]; omega
    · obtain rfl : k = n := by omega
      go_wp2
      go_ret
      exact ⟨rfl, hbw, hrow.congr (fun q hq => by rw [if_pos hq])⟩

set_option maxRecDepth 100000 in
set_option maxHeartbeats 400000 in
theorem eqInt64S_true (A B : Option Addr) (n c d : Nat) (f : Nat → Int) (W : World) (hn : n ≤ 1048576) (hf : RI W A n f) (hg : RI W B n f) :
    Calls Try.prog 18 #[.slice A n c, .slice B n d] W fun e w' => e = .returned (.bool true) ∧ Below W.heap.size W w' := by
  go_enter Try.func18, Try.ntmps18
  go_wp2
  go_loopw [5] (fun i wr => ∃ k : Nat, k ≤ n ∧ i = .int .i64 k ∧ Below W.heap.size W wr) (fun i _ => n - (intOf i).toNat)
  case atStart => exact ⟨0, Nat.zero_le _, rfl, Below.refl _ _⟩
  case round =>
    obtain ⟨k, hk, rfl, hbw⟩ := hrel
    by_cases hlt : k < n
    · obtain ⟨b, off, rfl, hbl, hc0⟩ := (hf.below hbw (Nat.le_refl _)) k hlt
      obtain ⟨b', off', rfl, hbl', hd0⟩ := (hg.below hbw (Nat.le_refl _)) k hlt
      go_wp2_with fail
      go_quiet (fail)
      go_wp2
      go_roundw
      case rel => exact ⟨k + 1, by omega, by go_num, below_N hbw _⟩
      case measure => simp [intOf]; omega
    · obtain rfl : k = n := by omega
      go_wp2
      go_ret
      exact ⟨rfl, hbw⟩
end Go.Proofs.Ytfhpahnflnahkaa
