/- The law's own helpers over slices of records of numbers: size, copy, comparison. -/
import Derived.Test.YtfhpahnflnahkaaRows
import Derived.Test.YtfhpahnflnahkaaMem
import Derived.Deep.QuietTactic
import Derived.BigQuiet
import Derived.StillTailTactics
namespace Go.Proofs.Ytfhpahnflnahkaa
open Go.RowKit

set_option maxHeartbeats 400000 in
theorem szPlaceS_any (A : Option Addr) (n c : Nat) (left : Int) (w : World) (hn : n ≤ 9223372036854775807) (h0 : 0 ≤ left) (h1 : left ≤ 1048576) :
    Calls Try.prog 60 #[.slice A n c, .int .i64 left] w fun e w' => e = .returned (.int .i64 (sz1 left n)) ∧ w = w' := by
  by_cases hlt : left < (n : Int)
  · go_enter Try.func60, Try.ntmps60
    go_wp2
    go_ret
    exact ⟨ret_int (by unfold sz1; rw [if_pos hlt]), rfl⟩
  · go_enter Try.func60, Try.ntmps60
    go_wp2
    go_ret
    exact ⟨ret_int (by unfold sz1; rw [if_neg (by omega)]), rfl⟩

set_option maxHeartbeats 400000 in
theorem toPlace_any (x0 x1 x2 x3 : Int) (w : World) :
    Calls Try.prog 99 #[.agg #[.int .i64 x0, .int .i64 x1, .int .i64 x2, .int .i64 x3]] w fun e w' => e = .returned (.agg #[.int .i64 x0, .int .i64 x1, .int .i64 x2, .int .i64 x3]) ∧ Below w.heap.size w w' := by
  go_enter Try.func99, Try.ntmps99
  go_wp2
  refine bodyPost_ret (v := .agg #[.int .i64 x0, .int .i64 x1, .int .i64 x2, .int .i64 x3]) (by simp [results, Try.results99, go_sem]) rfl ⟨rfl, ?_⟩
  exact (((Below.refl _ _).alloc (Nat.le_refl _) _).alloc (by simp) _).alloc (by simp; omega) _

theorem infoPlace : (Try.prog.info? 108).map (fun i => (i.zero, i.size, i.bytes)) = some (some (.agg #[.int .i64 0, .int .i64 0, .int .i64 0, .int .i64 0]), 4, 32) := by kernel_rfl

set_option maxHeartbeats 400000 in
theorem toPlaceS_any (A : Option Addr) (n c : Nat) (f : Nat → Nat → Int) (W : World) (hn : n ≤ 1048576) (hf : RR W 4 A n f) :
    Calls Try.prog 64 #[.slice A n c] W fun e w' => e = .returned (.slice (some ⟨W.heap.size, 0, none⟩) n n) ∧ Below W.heap.size W w' ∧ w'.rowIs W.heap.size 108 (n * 4) (fillF 4 n f) := by
  obtain ⟨i0, hi0, hz0, hz1, hz2⟩ := info_parts infoPlace
  have hmk := fun w => run_make_rowN (P := Try.prog) 50 108 i0 (.agg #[.int .i64 0, .int .i64 0, .int .i64 0, .int .i64 0]) Try.underlying50 hi0 hz0 .i64 .i64 n n (Nat.le_refl _) (by rw [hz2]; omega) (by omega) w
  rw [hz1] at hmk
  have hrow0 : (W.alloc (Obj.cells (madeCells (Value.agg #[Value.int .i64 0, Value.int .i64 0, Value.int .i64 0, Value.int .i64 0]).cells (n * 4)) 108)).rowIs W.heap.size 108 (n * 4) (fillF 4 0 f) :=
    made_ints _ _ _ _ (by decide) (fun i hi => by match i, hi with | 0, _ => rfl | 1, _ => rfl | 2, _ => rfl | 3, _ => rfl) _ _
  go_enter Try.func64, Try.ntmps64
  go_wp2
  go_loopw [4] (fun i wr => ∃ k : Nat, k ≤ n ∧ i = .int .i64 k ∧ Below W.heap.size W wr ∧ wr.rowIs W.heap.size 108 (n * 4) (fillF 4 k f)) (fun i _ => n - (intOf i).toNat)
  case atStart => exact ⟨0, Nat.zero_le _, rfl, (Below.refl _ _).alloc (Nat.le_refl _) _, hrow0⟩
  case round =>
    obtain ⟨k, hk, rfl, hbw, hrow⟩ := hrel
    by_cases hlt : k < n
    · obtain ⟨b, off, rfl, hbl, hcell⟩ := (hf.below hbw (Nat.le_refl _)) k hlt
      have hc0 : wr.cell? ⟨b, off + k * 4, none⟩ = some (.int .i64 (f k 0)) := hcell 0 (by omega)
      have hc1 : wr.cell? ⟨b, off + k * 4 + 1, none⟩ = some (.int .i64 (f k 1)) := hcell 1 (by omega)
      have hc2 : wr.cell? ⟨b, off + k * 4 + 2, none⟩ = some (.int .i64 (f k 2)) := hcell 2 (by omega)
      have hc3 : wr.cell? ⟨b, off + k * 4 + 3, none⟩ = some (.int .i64 (f k 3)) := hcell 3 (by omega)
      clear hcell hmk
      go_wp2_with fail
      refine (toPlace_any (f k 0) (f k 1) (f k 2) (f k 3) _).mono ?_
      rintro e w1 ⟨rfl, hb1⟩
      have hrow1 : w1.rowIs W.heap.size 108 (n * 4) (fillF 4 k f) := hrow.of_block (hb1.block _ hrow.lt)
      have hg0 := hrow1.cell (i := k * 4) (by omega)
      have hzz0 := hrow1.frozen (k * 4)
      have hg1 := hrow1.cell (i := k * 4 + 1) (by omega)
      have hzz1 := hrow1.frozen (k * 4 + 1)
      have hg2 := hrow1.cell (i := k * 4 + 2) (by omega)
      have hzz2 := hrow1.frozen (k * 4 + 2)
      have hg3 := hrow1.cell (i := k * 4 + 3) (by omega)
      have hzz3 := hrow1.frozen (k * 4 + 3)
      go_wp2
      go_roundw
      case rel => exact ⟨k + 1, by omega, by go_num, ((((hbw.trans (hb1.mono hbw.size)).setCell (Nat.le_refl _) _).setCell (Nat.le_refl _) _).setCell (Nat.le_refl _) _).setCell (Nat.le_refl _) _, fill4 hrow1⟩
      case measure => simp [intOf]; omega
    · obtain rfl : k = n := by omega
      go_wp2
      go_ret
      exact ⟨rfl, hbw, hrow⟩

set_option maxHeartbeats 400000 in
theorem eqPlace_true (x0 x1 x2 x3 : Int) (w : World) :
    Calls Try.prog 102 #[.agg #[.int .i64 x0, .int .i64 x1, .int .i64 x2, .int .i64 x3], .agg #[.int .i64 x0, .int .i64 x1, .int .i64 x2, .int .i64 x3]] w fun e w' => e = .returned (.bool true) ∧ Below w.heap.size w w' := by
  go_enter Try.func102, Try.ntmps102
  go_wp2
  go_ret
  exact ⟨rfl, ((Below.refl _ _).alloc (Nat.le_refl _) _).alloc (by simp) _⟩

set_option maxRecDepth 100000 in
set_option maxHeartbeats 400000 in
theorem eqPlaceS_true (A B : Option Addr) (n c d : Nat) (f : Nat → Nat → Int) (W : World) (hn : n ≤ 1048576) (hf : RR W 4 A n f) (hg : RR W 4 B n f) :
    Calls Try.prog 67 #[.slice A n c, .slice B n d] W fun e w' => e = .returned (.bool true) ∧ Below W.heap.size W w' := by
  go_enter Try.func67, Try.ntmps67
  go_wp2
  go_loopw [5] (fun i wr => ∃ k : Nat, k ≤ n ∧ i = .int .i64 k ∧ Below W.heap.size W wr) (fun i _ => n - (intOf i).toNat)
  case atStart => exact ⟨0, Nat.zero_le _, rfl, Below.refl _ _⟩
  case round =>
    obtain ⟨k, hk, rfl, hbw⟩ := hrel
    by_cases hlt : k < n
    · obtain ⟨b, off, rfl, hbl, hcell⟩ := (hf.below hbw (Nat.le_refl _)) k hlt
      obtain ⟨b', off', rfl, hbl', hcell'⟩ := (hg.below hbw (Nat.le_refl _)) k hlt
      have hc0 : wr.cell? ⟨b, off + k * 4, none⟩ = some (.int .i64 (f k 0)) := hcell 0 (by omega)
      have hc1 : wr.cell? ⟨b, off + k * 4 + 1, none⟩ = some (.int .i64 (f k 1)) := hcell 1 (by omega)
      have hc2 : wr.cell? ⟨b, off + k * 4 + 2, none⟩ = some (.int .i64 (f k 2)) := hcell 2 (by omega)
      have hc3 : wr.cell? ⟨b, off + k * 4 + 3, none⟩ = some (.int .i64 (f k 3)) := hcell 3 (by omega)
      have hd0 : wr.cell? ⟨b', off' + k * 4, none⟩ = some (.int .i64 (f k 0)) := hcell' 0 (by omega)
      have hd1 : wr.cell? ⟨b', off' + k * 4 + 1, none⟩ = some (.int .i64 (f k 1)) := hcell' 1 (by omega)
      have hd2 : wr.cell? ⟨b', off' + k * 4 + 2, none⟩ = some (.int .i64 (f k 2)) := hcell' 2 (by omega)
      have hd3 : wr.cell? ⟨b', off' + k * 4 + 3, none⟩ = some (.int .i64 (f k 3)) := hcell' 3 (by omega)
      clear hcell hcell'
      go_wp2_with fail
      go_still_tail 8, (by kernel_rfl)
      go_wp2_with fail
      refine (eqPlace_true (f k 0) (f k 1) (f k 2) (f k 3) _).mono ?_
      rintro e w1 ⟨rfl, hb1⟩
      go_wp2
      go_roundw
      case rel => exact ⟨k + 1, by omega, by go_num, hbw.drew.trans (hb1.mono hbw.size)⟩
      case measure => simp [intOf]; omega
    · obtain rfl : k = n := by omega
      go_wp2
      go_ret
      exact ⟨rfl, hbw⟩

end Go.Proofs.Ytfhpahnflnahkaa
