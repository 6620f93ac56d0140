/- The law's own helpers over Timetable. -/
import Derived.Test.YtfhpahnflnahkaaInts
namespace Go.Proofs.Ytfhpahnflnahkaa
open Go.RowKit

/-- what the copy leaves: its parts lie in memory from where the call began on, one behind the other -/
def ToTimetableP (W : World) (v0 : Int) (n1 : Nat) (x1 : Nat → Int) (e : Ending) (w' : World) : Prop :=
  ∃ g1 : Nat, W.heap.size ≤ g1 ∧ e = .returned (.agg #[.int .i64 v0, .slice (some ⟨g1, 0, none⟩) n1 n1]) ∧ Below W.heap.size W w' ∧ w'.rowIs g1 2 n1 (fun q => .int .i64 (x1 q))

set_option maxRecDepth 100000 in
set_option maxHeartbeats 1000000 in
theorem toTimetable_any (v0 : Int) (A1 : Option Addr) (n1 c1 : Nat) (x1 : Nat → Int) (W : World) (hn1 : n1 ≤ 1048576) (hf1 : RI W A1 n1 x1) :
    Calls Try.prog 29 #[.agg #[.int .i64 v0, .slice A1 n1 c1]] W (ToTimetableP W v0 n1 x1) := by
  have hb0 : Below W.heap.size W (((W.alloc (Obj.cells #[Value.int .i64 v0, Value.slice A1 n1 c1] 45)).alloc (Obj.cells #[Value.int .i64 0, Value.slice none 0 0] 54)).alloc (Obj.cells #[Value.int .i64 v0, Value.slice none 0 0] 54)) := (((Below.refl _ _).alloc (Nat.le_refl _) _).alloc (by simp) _).alloc (by simp <;> omega) _
  go_enter Try.func29, Try.ntmps29
  go_wp2_with fail
  refine (toInt64S_any A1 n1 c1 x1 _ hn1 (hf1.below hb0 (Nat.le_refl _))).mono ?_
  rintro e w1 ⟨rfl, hb1, hr1⟩
  have s1 := hb1.size
  simp only [World.size_alloc] at s1 hr1
  have b0w1 : w1.cell? ⟨W.heap.size, 0, none⟩ = some (Value.int .i64 v0) := (hb1.cell (p := ⟨W.heap.size, 0, none⟩) (by simp <;> omega)).trans (c3a W _ _ _ _ _ _ 0)
  have b1w1 : w1.cell? ⟨W.heap.size, 1, none⟩ = some (Value.slice A1 n1 c1) := (hb1.cell (p := ⟨W.heap.size, 1, none⟩) (by simp <;> omega)).trans (c3a W _ _ _ _ _ _ 1)
  have q0w1 : w1.cell? ⟨W.heap.size + 1, 0, none⟩ = some (Value.int .i64 0) := (hb1.cell (p := ⟨W.heap.size + 1, 0, none⟩) (by simp <;> omega)).trans (c3b W _ _ _ _ _ _ 0)
  have q1w1 : w1.cell? ⟨W.heap.size + 1, 1, none⟩ = some (Value.slice none 0 0) := (hb1.cell (p := ⟨W.heap.size + 1, 1, none⟩) (by simp <;> omega)).trans (c3b W _ _ _ _ _ _ 1)
  have r0w1 : w1.cell? ⟨W.heap.size + 1 + 1, 0, none⟩ = some (Value.int .i64 v0) := (hb1.cell (p := ⟨W.heap.size + 1 + 1, 0, none⟩) (by simp <;> omega)).trans (c3c W _ _ _ _ _ _ 0)
  have r1w1 : w1.cell? ⟨W.heap.size + 1 + 1, 1, none⟩ = some (Value.slice none 0 0) := (hb1.cell (p := ⟨W.heap.size + 1 + 1, 1, none⟩) (by simp <;> omega)).trans (c3c W _ _ _ _ _ _ 1)
  have z0w1 : w1.frozen? ⟨W.heap.size + 1, 0, none⟩ = false := (hb1.frozen (p := ⟨W.heap.size + 1, 0, none⟩) (by simp <;> omega)).trans (f3b W _ _ _ _ _ _ 0)
  have z1w1 : w1.frozen? ⟨W.heap.size + 1, 1, none⟩ = false := (hb1.frozen (p := ⟨W.heap.size + 1, 1, none⟩) (by simp <;> omega)).trans (f3b W _ _ _ _ _ _ 1)
  have y0w1 : w1.frozen? ⟨W.heap.size + 1 + 1, 0, none⟩ = false := (hb1.frozen (p := ⟨W.heap.size + 1 + 1, 0, none⟩) (by simp <;> omega)).trans (f3c W _ _ _ _ _ _ 0)
  have y1w1 : w1.frozen? ⟨W.heap.size + 1 + 1, 1, none⟩ = false := (hb1.frozen (p := ⟨W.heap.size + 1 + 1, 1, none⟩) (by simp <;> omega)).trans (f3c W _ _ _ _ _ _ 1)
  have hB1 : Below W.heap.size W w1 := hb0.trans (hb1.mono (by simp <;> omega))
  go_wp2
  refine bodyPost_ret (v := .agg #[.int .i64 v0, .slice (some ⟨(W.heap.size + 1 + 1 + 1), 0, none⟩) n1 n1]) (by simp [results, Try.results29, go_sem, q0w1, q1w1]) rfl ?_
  exact ⟨W.heap.size + 1 + 1 + 1, by omega, rfl, (((hB1.setCell (p := ⟨W.heap.size + 1 + 1, 1, none⟩) (by simp <;> omega) _).setCell (p := ⟨W.heap.size + 1, 0, none⟩) (by simp) _).setCell (p := ⟨W.heap.size + 1, 1, none⟩) (by simp) _), (((hr1.setOther (a := ⟨W.heap.size + 1 + 1, 1, none⟩) (by simp <;> omega) _).setOther (a := ⟨W.heap.size + 1, 0, none⟩) (by simp <;> omega) _).setOther (a := ⟨W.heap.size + 1, 1, none⟩) (by simp <;> omega) _)⟩

set_option maxRecDepth 100000 in
set_option maxHeartbeats 1000000 in
theorem eqTimetable_true (v0 : Int) (A1 : Option Addr) (n1 c1 : Nat) (x1 : Nat → Int) (W : World) (hn1 : n1 ≤ 1048576) (hf1 : RI W A1 n1 x1) (B1 : Option Addr) (d1 : Nat) (hg1 : RI W B1 n1 x1) :
    Calls Try.prog 32 #[.agg #[.int .i64 v0, .slice A1 n1 c1], .agg #[.int .i64 v0, .slice B1 n1 d1]] W fun e w' => e = .returned (.bool true) ∧ Below W.heap.size W w' := by
  have hb0 : Below W.heap.size W ((W.alloc (Obj.cells #[Value.int .i64 v0, Value.slice A1 n1 c1] 54)).alloc (Obj.cells #[Value.int .i64 v0, Value.slice B1 n1 d1] 54)) := ((Below.refl _ _).alloc (Nat.le_refl _) _).alloc (by simp) _
  go_enter Try.func32, Try.ntmps32
  go_wp2_with fail
  refine (eqInt64S_true A1 B1 n1 c1 d1 x1 _ hn1 (hf1.below hb0 (Nat.le_refl _)) (hg1.below hb0 (Nat.le_refl _))).mono ?_
  rintro e w1 ⟨rfl, hb1⟩
  have s1 := hb1.size
  simp at s1
  have hB1 : Below W.heap.size W w1 := hb0.trans (hb1.mono (by simp <;> omega))
  have a0w1 : w1.cell? ⟨W.heap.size, 0, none⟩ = some (Value.int .i64 v0) := (hb1.cell (p := ⟨W.heap.size, 0, none⟩) (by simp <;> omega)).trans (c2a W _ _ _ _ 0)
  have b0w1 : w1.cell? ⟨W.heap.size + 1, 0, none⟩ = some (Value.int .i64 v0) := (hb1.cell (p := ⟨W.heap.size + 1, 0, none⟩) (by simp <;> omega)).trans (c2b W _ _ _ _ 0)
  have a1w1 : w1.cell? ⟨W.heap.size, 1, none⟩ = some (Value.slice A1 n1 c1) := (hb1.cell (p := ⟨W.heap.size, 1, none⟩) (by simp <;> omega)).trans (c2a W _ _ _ _ 1)
  have b1w1 : w1.cell? ⟨W.heap.size + 1, 1, none⟩ = some (Value.slice B1 n1 d1) := (hb1.cell (p := ⟨W.heap.size + 1, 1, none⟩) (by simp <;> omega)).trans (c2b W _ _ _ _ 1)
  go_wp2
  go_ret
  exact ⟨rfl, hB1⟩

set_option maxRecDepth 100000 in
set_option maxHeartbeats 1000000 in
theorem szTimetable_any (v0 : Int) (A1 : Option Addr) (n1 c1 : Nat) (left : Int) (W : World) (hn1 : n1 ≤ 9223372036854775807) (h0 : 0 ≤ left) (h1 : left ≤ 1048576) :
    Calls Try.prog 26 #[.agg #[.int .i64 v0, .slice A1 n1 c1], .int .i64 left] W fun e w' => e = .returned (.int .i64 (sz1 left ((n1 : Nat) : Int))) ∧ Below W.heap.size W w' := by
  have hb0 : Below W.heap.size W (W.alloc (Obj.cells #[Value.int .i64 v0, Value.slice A1 n1 c1] 45)) := (Below.refl _ _).alloc (Nat.le_refl _) _
  by_cases t0 : left < (n1 : Nat)
  case pos =>
    have HE := Lib.hid (show sz1 left ((n1 : Nat) : Int) = -1 by unfold sz1; rw [if_pos (by omega)])
    go_enter Try.func26, Try.ntmps26
    go_wp2_with fail
    refine (szInt64S_any A1 n1 c1 _ _ hn1 (by omega) (by omega)).mono ?_
    rintro e w1 ⟨rfl, rfl⟩
    rw [show sz1 (left) (n1 : Nat) = -1 by unfold sz1; rw [if_pos (by omega)]]
    go_wp2
    go_ret
    exact ⟨ret_int HE.out.symm, hb0⟩
  case neg =>
    have HE := Lib.hid (show sz1 left ((n1 : Nat) : Int) = left - (n1 : Nat) by unfold sz1; rw [if_neg (by omega)]; try omega)
    go_enter Try.func26, Try.ntmps26
    go_wp2_with fail
    refine (szInt64S_any A1 n1 c1 _ _ hn1 (by omega) (by omega)).mono ?_
    rintro e w1 ⟨rfl, rfl⟩
    rw [show sz1 (left) (n1 : Nat) = left - (n1 : Nat) by unfold sz1; rw [if_neg (by omega)]]
    go_wp2
    go_ret
    exact ⟨ret_int HE.out.symm, hb0⟩

end Go.Proofs.Ytfhpahnflnahkaa
