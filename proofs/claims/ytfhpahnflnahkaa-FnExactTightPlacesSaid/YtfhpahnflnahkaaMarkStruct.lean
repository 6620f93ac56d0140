/- Marking a graph, a timetable that a call made. -/
import Derived.Test.YtfhpahnflnahkaaMarkPlace
import Derived.Test.YtfhpahnflnahkaaMarkInts
namespace Go.Proofs.Ytfhpahnflnahkaa
open Go.RowKit

theorem only_cell {l h : Nat} {w w' : World} (ho : Only l h w w') {p : Addr} (hp : p.block < l ∨ h ≤ p.block) : w'.cell? p = w.cell? p := World.cell?_of_block (ho.block _ hp)

def MarkedEventGraph (W : World) (lo hi : Nat) (A : Option Addr) (n : Nat) (k0 : Int) (e : Ending) (w' : World) : Prop :=
  ∃ u, e = .returned (.int .i64 (k0 + 4 * n)) ∧ Below W.heap.size W u ∧ Only lo hi u w' ∧ SR w' lo hi 4 A n (fun i j => k0 + 4 * i + j)

set_option maxRecDepth 100000 in
set_option maxHeartbeats 1000000 in
theorem markEventGraph_any (v : Int) (A : Option Addr) (n c : Nat) (f : Nat → Nat → Int) (k0 : Int) (lo hi : Nat) (W : World) (hn : n ≤ 1048576) (h0 : 0 ≤ k0) (h1 : k0 ≤ 1000000000000) (hs : SR W lo hi 4 A n f) :
    Calls Try.prog 36 #[.agg #[.int .i64 v, .slice A n c], .int .i64 k0] W (MarkedEventGraph W lo hi A n k0) := by
  have hb0 : Below W.heap.size W (W.alloc (Obj.cells #[Value.int .i64 v, Value.slice A n c] 52)) := (Below.refl _ _).alloc (Nat.le_refl _) _
  go_enter Try.func36, Try.ntmps36
  go_wp2_with fail
  refine (markPlaceS_any A n c f k0 lo hi _ hn h0 h1 (hs.below hb0 (Nat.le_refl _))).mono ?_
  rintro e w1 ⟨rfl, ho, hs1⟩
  go_wp2
  go_ret
  exact ⟨_, rfl, hb0, ho, hs1⟩

set_option maxRecDepth 100000 in
set_option maxHeartbeats 1000000 in
theorem heldEventGraph_any (v : Int) (A : Option Addr) (n c : Nat) (k0 : Int) (W : World) (hn : n ≤ 1048576) (h0 : 0 ≤ k0) (h1 : k0 ≤ 1000000000000) (hs : RR W 4 A n (fun i j => k0 + 4 * i + j)) :
    Calls Try.prog 41 #[.agg #[.int .i64 v, .slice A n c], .int .i64 k0] W fun e w' => e = .returned (.int .i64 (k0 + 4 * n)) ∧ Below W.heap.size W w' := by
  have hb0 : Below W.heap.size W (W.alloc (Obj.cells #[Value.int .i64 v, Value.slice A n c] 52)) := (Below.refl _ _).alloc (Nat.le_refl _) _
  go_enter Try.func41, Try.ntmps41
  go_wp2_with fail
  refine (heldPlaceS_any A n c k0 _ hn h0 h1 (hs.below hb0 (Nat.le_refl _))).mono ?_
  rintro e w1 ⟨rfl, hb1⟩
  have hd : decide (k0 + 4 * n < 0) = false := decide_eq_false (by omega)
  go_wp2
  go_ret
  exact ⟨rfl, hb0.trans (hb1.mono (by simp))⟩

def MarkedTimetable (W : World) (lo hi : Nat) (A : Option Addr) (n : Nat) (k0 : Int) (e : Ending) (w' : World) : Prop :=
  ∃ u, e = .returned (.int .i64 (k0 + n)) ∧ Below W.heap.size W u ∧ Only lo hi u w' ∧ SI w' lo hi A n (fun i => k0 + i)

set_option maxRecDepth 100000 in
set_option maxHeartbeats 1000000 in
theorem markTimetable_any (v : Int) (A : Option Addr) (n c : Nat) (f : Nat → Int) (k0 : Int) (lo hi : Nat) (W : World) (hn : n ≤ 1048576) (h0 : 0 ≤ k0) (h1 : k0 ≤ 1000000000000) (hs : SI W lo hi A n f) :
    Calls Try.prog 44 #[.agg #[.int .i64 v, .slice A n c], .int .i64 k0] W (MarkedTimetable W lo hi A n k0) := by
  have hb0 : Below W.heap.size W (W.alloc (Obj.cells #[Value.int .i64 v, Value.slice A n c] 54)) := (Below.refl _ _).alloc (Nat.le_refl _) _
  go_enter Try.func44, Try.ntmps44
  go_wp2_with fail
  refine (markInt64S_any A n c f k0 lo hi _ hn h0 h1 (hs.below hb0 (Nat.le_refl _))).mono ?_
  rintro e w1 ⟨rfl, ho, hs1⟩
  go_wp2
  go_ret
  exact ⟨_, rfl, hb0, ho, hs1⟩

set_option maxRecDepth 100000 in
set_option maxHeartbeats 1000000 in
theorem heldTimetable_any (v : Int) (A : Option Addr) (n c : Nat) (k0 : Int) (W : World) (hn : n ≤ 1048576) (h0 : 0 ≤ k0) (h1 : k0 ≤ 1000000000000) (hs : RI W A n (fun i => k0 + i)) :
    Calls Try.prog 51 #[.agg #[.int .i64 v, .slice A n c], .int .i64 k0] W fun e w' => e = .returned (.int .i64 (k0 + n)) ∧ Below W.heap.size W w' := by
  have hb0 : Below W.heap.size W (W.alloc (Obj.cells #[Value.int .i64 v, Value.slice A n c] 54)) := (Below.refl _ _).alloc (Nat.le_refl _) _
  go_enter Try.func51, Try.ntmps51
  go_wp2_with fail
  refine (heldInt64S_any A n c k0 _ hn h0 h1 (hs.below hb0 (Nat.le_refl _))).mono ?_
  rintro e w1 ⟨rfl, hb1⟩
  have hd : decide (k0 + n < 0) = false := decide_eq_false (by omega)
  go_wp2
  go_ret
  exact ⟨rfl, hb0.trans (hb1.mono (by simp))⟩

end Go.Proofs.Ytfhpahnflnahkaa
