/- FnExactTightPlaces returns true at every input and leaves its arguments as they were. -/
import Derived.Test.YtfhpahnflnahkaaTight
import Derived.Test.YtfhpahnflnahkaaToEventGraph
import Derived.Test.YtfhpahnflnahkaaToTimetable
import Derived.Test.YtfhpahnflnahkaaInts
import Derived.Test.YtfhpahnflnahkaaMarkInts
import Derived.Test.YtfhpahnflnahkaaMarkStruct
import Derived.Test.YtfhpahnflnahkaaRow
import Derived.Deep.RegionHeld3
namespace Go.Proofs.Ytfhpahnflnahkaa.lawTightPlaces
open Go.ChangeShapes Go.WideShapes Go.ChangeAt Go.RowKit

set_option maxRecDepth 100000 in
set_option maxHeartbeats 4000000 in
theorem walk (v0e : Int) (A0 : Option Addr) (n0 c0 : Nat) (x0 : Nat → Nat → Int) (v1e : Int) (A1 : Option Addr) (n1 c1 : Nat) (x1 : Nat → Int) (W : World) (hn0 : n0 ≤ 9223372036854775807) (hn1 : n1 ≤ 9223372036854775807) (hf0 : RR W 4 A0 n0 x0) (hf1 : RI W A1 n1 x1) :
    Calls Try.prog 9 #[.agg #[.int .i64 v0e, .slice A0 n0 c0], .agg #[.int .i64 v1e, .slice A1 n1 c1]] W fun e w' => e = .returned (.bool true) ∧ Below W.heap.size W w' := by
  have hBw0 : Below W.heap.size W ((W.alloc (Obj.cells #[Value.int .i64 v0e, Value.slice A0 n0 c0] 43)).alloc (Obj.cells #[Value.int .i64 v1e, Value.slice A1 n1 c1] 45)) := ((Below.refl W.heap.size W).alloc (Nat.le_refl _) _).alloc (by simp <;> omega) _
  have bx0q0w0 : ((W.alloc (Obj.cells #[Value.int .i64 v0e, Value.slice A0 n0 c0] 43)).alloc (Obj.cells #[Value.int .i64 v1e, Value.slice A1 n1 c1] 45)).cell? ⟨W.heap.size, 0, none⟩ = some (Value.int .i64 v0e) := c2a W _ _ _ _ 0
  have bx0q1w0 : ((W.alloc (Obj.cells #[Value.int .i64 v0e, Value.slice A0 n0 c0] 43)).alloc (Obj.cells #[Value.int .i64 v1e, Value.slice A1 n1 c1] 45)).cell? ⟨W.heap.size, 1, none⟩ = some (Value.slice A0 n0 c0) := c2a W _ _ _ _ 1
  have bx1q0w0 : ((W.alloc (Obj.cells #[Value.int .i64 v0e, Value.slice A0 n0 c0] 43)).alloc (Obj.cells #[Value.int .i64 v1e, Value.slice A1 n1 c1] 45)).cell? ⟨W.heap.size + 1, 0, none⟩ = some (Value.int .i64 v1e) := c2b W _ _ _ _ 0
  have bx1q1w0 : ((W.alloc (Obj.cells #[Value.int .i64 v0e, Value.slice A0 n0 c0] 43)).alloc (Obj.cells #[Value.int .i64 v1e, Value.slice A1 n1 c1] 45)).cell? ⟨W.heap.size + 1, 1, none⟩ = some (Value.slice A1 n1 c1) := c2b W _ _ _ _ 1
  have rf0w0 := hf0.below hBw0 (Nat.le_refl _)
  have rf1w0 := hf1.below hBw0 (Nat.le_refl _)
  by_cases t0 : 1048576 < ((n0 : Nat) : Int)
  case pos =>
    go_enter Try.func9, Try.ntmps9
    go_wp2_with fail
    refine (szEventGraph_any v0e A0 n0 c0 _ _ hn0 (by omega) (by omega)).mono ?_
    rintro e u0 ⟨rfl, hbu0⟩
    have su0 := hbu0.size
    simp only [World.size_alloc] at su0
    have hBu0 : Below W.heap.size W u0 := hBw0.trans (hbu0.mono (by first | omega | (simp <;> omega)))
    have bx0q0u0 : u0.cell? ⟨W.heap.size, 0, none⟩ = some (Value.int .i64 v0e) := (hbu0.cell (p := ⟨W.heap.size, 0, none⟩) (by simp <;> omega)).trans bx0q0w0
    have bx0q1u0 : u0.cell? ⟨W.heap.size, 1, none⟩ = some (Value.slice A0 n0 c0) := (hbu0.cell (p := ⟨W.heap.size, 1, none⟩) (by simp <;> omega)).trans bx0q1w0
    have bx1q0u0 : u0.cell? ⟨W.heap.size + 1, 0, none⟩ = some (Value.int .i64 v1e) := (hbu0.cell (p := ⟨W.heap.size + 1, 0, none⟩) (by simp <;> omega)).trans bx1q0w0
    have bx1q1u0 : u0.cell? ⟨W.heap.size + 1, 1, none⟩ = some (Value.slice A1 n1 c1) := (hbu0.cell (p := ⟨W.heap.size + 1, 1, none⟩) (by simp <;> omega)).trans bx1q1w0
    have rf0u0 := hf0.below hBu0 (Nat.le_refl _)
    have rf1u0 := hf1.below hBu0 (Nat.le_refl _)
    rw [show sz1 (1048576) (n0 : Nat) = -1 by unfold sz1; rw [if_pos (by omega)]]
    go_wp2
    go_ret
    exact ⟨rfl, hBu0⟩
  case neg =>
    by_cases t1 : 1048576 - (n0 : Nat) < ((n1 : Nat) : Int)
    case pos =>
      go_enter Try.func9, Try.ntmps9
      go_wp2_with fail
      refine (szEventGraph_any v0e A0 n0 c0 _ _ hn0 (by omega) (by omega)).mono ?_
      rintro e u0 ⟨rfl, hbu0⟩
      have su0 := hbu0.size
      simp only [World.size_alloc] at su0
      have hBu0 : Below W.heap.size W u0 := hBw0.trans (hbu0.mono (by first | omega | (simp <;> omega)))
      have bx0q0u0 : u0.cell? ⟨W.heap.size, 0, none⟩ = some (Value.int .i64 v0e) := (hbu0.cell (p := ⟨W.heap.size, 0, none⟩) (by simp <;> omega)).trans bx0q0w0
      have bx0q1u0 : u0.cell? ⟨W.heap.size, 1, none⟩ = some (Value.slice A0 n0 c0) := (hbu0.cell (p := ⟨W.heap.size, 1, none⟩) (by simp <;> omega)).trans bx0q1w0
      have bx1q0u0 : u0.cell? ⟨W.heap.size + 1, 0, none⟩ = some (Value.int .i64 v1e) := (hbu0.cell (p := ⟨W.heap.size + 1, 0, none⟩) (by simp <;> omega)).trans bx1q0w0
      have bx1q1u0 : u0.cell? ⟨W.heap.size + 1, 1, none⟩ = some (Value.slice A1 n1 c1) := (hbu0.cell (p := ⟨W.heap.size + 1, 1, none⟩) (by simp <;> omega)).trans bx1q1w0
      have rf0u0 := hf0.below hBu0 (Nat.le_refl _)
      have rf1u0 := hf1.below hBu0 (Nat.le_refl _)
      rw [show sz1 (1048576) (n0 : Nat) = 1048576 - (n0 : Nat) by unfold sz1; rw [if_neg (by omega)]]
      go_wp2_with fail
      refine (szTimetable_any v1e A1 n1 c1 _ _ hn1 (by omega) (by omega)).mono ?_
      rintro e u1 ⟨rfl, hbu1⟩
      have su1 := hbu1.size
      have hBu1 : Below W.heap.size W u1 := hBu0.trans (hbu1.mono (by first | omega | (simp <;> omega)))
      have bx0q0u1 : u1.cell? ⟨W.heap.size, 0, none⟩ = some (Value.int .i64 v0e) := (hbu1.cell (p := ⟨W.heap.size, 0, none⟩) (by simp <;> omega)).trans bx0q0u0
      have bx0q1u1 : u1.cell? ⟨W.heap.size, 1, none⟩ = some (Value.slice A0 n0 c0) := (hbu1.cell (p := ⟨W.heap.size, 1, none⟩) (by simp <;> omega)).trans bx0q1u0
      have bx1q0u1 : u1.cell? ⟨W.heap.size + 1, 0, none⟩ = some (Value.int .i64 v1e) := (hbu1.cell (p := ⟨W.heap.size + 1, 0, none⟩) (by simp <;> omega)).trans bx1q0u0
      have bx1q1u1 : u1.cell? ⟨W.heap.size + 1, 1, none⟩ = some (Value.slice A1 n1 c1) := (hbu1.cell (p := ⟨W.heap.size + 1, 1, none⟩) (by simp <;> omega)).trans bx1q1u0
      have rf0u1 := hf0.below hBu1 (Nat.le_refl _)
      have rf1u1 := hf1.below hBu1 (Nat.le_refl _)
      rw [show sz1 (1048576 - (n0 : Nat)) (n1 : Nat) = -1 by unfold sz1; rw [if_pos (by omega)]]
      go_wp2
      go_ret
      exact ⟨rfl, hBu1⟩
    case neg =>
      have hs0 : n0 ≤ 1048576 := by omega
      have hs1 : n1 ≤ 1048576 := by omega
      obtain ⟨N, HN0⟩ : ∃ N, len3 (GraphP v0e n0 x0) (TimeP v0e v1e n1 x1) (tl (slk x0 x1 v1e) n0).length = N := ⟨_, rfl⟩
      have hN : N ≤ 1048576 := by rw [← HN0]; exact Nat.le_trans (len3_le _ _ _) (Nat.le_trans (tl_len_le _ _) hs0)
      have HN := Lib.hid HN0; clear HN0
      obtain ⟨Z, HZ0⟩ : ∃ Z, code3 (GraphP v0e n0 x0) (TimeP v0e v1e n1 x1) = Z := ⟨_, rfl⟩
      have HZ := Lib.hid HZ0; clear HZ0
      go_enter Try.func9, Try.ntmps9
      go_wp2_with fail
      refine (szEventGraph_any v0e A0 n0 c0 _ _ hn0 (by omega) (by omega)).mono ?_
      rintro e u0 ⟨rfl, hbu0⟩
      have su0 := hbu0.size
      simp only [World.size_alloc] at su0
      have hBu0 : Below W.heap.size W u0 := hBw0.trans (hbu0.mono (by first | omega | (simp <;> omega)))
      have bx0q0u0 : u0.cell? ⟨W.heap.size, 0, none⟩ = some (Value.int .i64 v0e) := (hbu0.cell (p := ⟨W.heap.size, 0, none⟩) (by simp <;> omega)).trans bx0q0w0
      have bx0q1u0 : u0.cell? ⟨W.heap.size, 1, none⟩ = some (Value.slice A0 n0 c0) := (hbu0.cell (p := ⟨W.heap.size, 1, none⟩) (by simp <;> omega)).trans bx0q1w0
      have bx1q0u0 : u0.cell? ⟨W.heap.size + 1, 0, none⟩ = some (Value.int .i64 v1e) := (hbu0.cell (p := ⟨W.heap.size + 1, 0, none⟩) (by simp <;> omega)).trans bx1q0w0
      have bx1q1u0 : u0.cell? ⟨W.heap.size + 1, 1, none⟩ = some (Value.slice A1 n1 c1) := (hbu0.cell (p := ⟨W.heap.size + 1, 1, none⟩) (by simp <;> omega)).trans bx1q1w0
      have rf0u0 := hf0.below hBu0 (Nat.le_refl _)
      have rf1u0 := hf1.below hBu0 (Nat.le_refl _)
      rw [show sz1 (1048576) (n0 : Nat) = 1048576 - (n0 : Nat) by unfold sz1; rw [if_neg (by omega)]]
      go_wp2_with fail
      refine (szTimetable_any v1e A1 n1 c1 _ _ hn1 (by omega) (by omega)).mono ?_
      rintro e u1 ⟨rfl, hbu1⟩
      have su1 := hbu1.size
      have hBu1 : Below W.heap.size W u1 := hBu0.trans (hbu1.mono (by first | omega | (simp <;> omega)))
      have bx0q0u1 : u1.cell? ⟨W.heap.size, 0, none⟩ = some (Value.int .i64 v0e) := (hbu1.cell (p := ⟨W.heap.size, 0, none⟩) (by simp <;> omega)).trans bx0q0u0
      have bx0q1u1 : u1.cell? ⟨W.heap.size, 1, none⟩ = some (Value.slice A0 n0 c0) := (hbu1.cell (p := ⟨W.heap.size, 1, none⟩) (by simp <;> omega)).trans bx0q1u0
      have bx1q0u1 : u1.cell? ⟨W.heap.size + 1, 0, none⟩ = some (Value.int .i64 v1e) := (hbu1.cell (p := ⟨W.heap.size + 1, 0, none⟩) (by simp <;> omega)).trans bx1q0u0
      have bx1q1u1 : u1.cell? ⟨W.heap.size + 1, 1, none⟩ = some (Value.slice A1 n1 c1) := (hbu1.cell (p := ⟨W.heap.size + 1, 1, none⟩) (by simp <;> omega)).trans bx1q1u0
      have rf0u1 := hf0.below hBu1 (Nat.le_refl _)
      have rf1u1 := hf1.below hBu1 (Nat.le_refl _)
      rw [show sz1 (1048576 - (n0 : Nat)) (n1 : Nat) = 1048576 - (n0 : Nat) - (n1 : Nat) by unfold sz1; rw [if_neg (by omega)]]
      go_wp2_with fail
      go_region_held3 (fun w' => w'.cell? ⟨W.heap.size, 0, none⟩ = some (Value.int .i64 v0e) ∧ w'.cell? ⟨W.heap.size, 1, none⟩ = some (Value.slice A0 n0 c0) ∧ w'.cell? ⟨W.heap.size + 1, 0, none⟩ = some (Value.int .i64 v1e) ∧ w'.cell? ⟨W.heap.size + 1, 1, none⟩ = some (Value.slice A1 n1 c1))
        (first | go_keep | exact ⟨bx0q0w1, bx0q1w1, bx1q0w1, bx1q1w1⟩ | exact ⟨bx0q0w2, bx0q1w2, bx1q0w2, bx1q1w2⟩ | exact ⟨bx0q0w3, bx0q1w3, bx1q0w3, bx1q1w3⟩)
        (first
        | (go_at_call 28
           refine (toEventGraph_any v0e A0 n0 c0 x0 _ hs0 (rf0u1.below (B := u1.heap.size) (by first | exact Below.refl _ _ | exact (Below.refl _ _).drew | exact below_N (Below.refl _ _) _) (Nat.le_refl _))).mono ?_
           rintro e w1 ⟨gs0, ogs0, rfl, hbw1', hgs0⟩
           have hbw1 : Below u1.heap.size u1 w1 := ⟨hbw1'.os, hbw1'.tape, hbw1'.output, hbw1'.size, hbw1'.block⟩
           have sw1 := hbw1.size
           have hBw1 : Below W.heap.size W w1 := hBu1.trans (hbw1.mono (by first | omega | (simp <;> omega)))
           have bx0q0w1 : w1.cell? ⟨W.heap.size, 0, none⟩ = some (Value.int .i64 v0e) := (hbw1.cell (p := ⟨W.heap.size, 0, none⟩) (by simp <;> omega)).trans bx0q0u1
           have bx0q1w1 : w1.cell? ⟨W.heap.size, 1, none⟩ = some (Value.slice A0 n0 c0) := (hbw1.cell (p := ⟨W.heap.size, 1, none⟩) (by simp <;> omega)).trans bx0q1u1
           have bx1q0w1 : w1.cell? ⟨W.heap.size + 1, 0, none⟩ = some (Value.int .i64 v1e) := (hbw1.cell (p := ⟨W.heap.size + 1, 0, none⟩) (by simp <;> omega)).trans bx1q0u1
           have bx1q1w1 : w1.cell? ⟨W.heap.size + 1, 1, none⟩ = some (Value.slice A1 n1 c1) := (hbw1.cell (p := ⟨W.heap.size + 1, 1, none⟩) (by simp <;> omega)).trans bx1q1u1
           have rf0w1 := hf0.below hBw1 (Nat.le_refl _)
           have rf1w1 := hf1.below hBw1 (Nat.le_refl _)
           have Ss0w1 := SR.of_row (lo := u1.heap.size) (hi := w1.heap.size) hgs0 ogs0 hgs0.lt)
        | (go_at_call 29
           refine (toTimetable_any v1e A1 n1 c1 x1 _ hs1 (rf1w1.below (B := w1.heap.size) (by first | exact Below.refl _ _ | exact (Below.refl _ _).drew | exact below_N (Below.refl _ _) _) (Nat.le_refl _))).mono ?_
           rintro e w2 ⟨gs1, ogs1, rfl, hbw2', hgs1⟩
           have hbw2 : Below w1.heap.size w1 w2 := ⟨hbw2'.os, hbw2'.tape, hbw2'.output, hbw2'.size, hbw2'.block⟩
           have sw2 := hbw2.size
           have hBw2 : Below W.heap.size W w2 := hBw1.trans (hbw2.mono (by first | omega | (simp <;> omega)))
           have bx0q0w2 : w2.cell? ⟨W.heap.size, 0, none⟩ = some (Value.int .i64 v0e) := (hbw2.cell (p := ⟨W.heap.size, 0, none⟩) (by simp <;> omega)).trans bx0q0w1
           have bx0q1w2 : w2.cell? ⟨W.heap.size, 1, none⟩ = some (Value.slice A0 n0 c0) := (hbw2.cell (p := ⟨W.heap.size, 1, none⟩) (by simp <;> omega)).trans bx0q1w1
           have bx1q0w2 : w2.cell? ⟨W.heap.size + 1, 0, none⟩ = some (Value.int .i64 v1e) := (hbw2.cell (p := ⟨W.heap.size + 1, 0, none⟩) (by simp <;> omega)).trans bx1q0w1
           have bx1q1w2 : w2.cell? ⟨W.heap.size + 1, 1, none⟩ = some (Value.slice A1 n1 c1) := (hbw2.cell (p := ⟨W.heap.size + 1, 1, none⟩) (by simp <;> omega)).trans bx1q1w1
           have Ss0w2 := Ss0w1.below hbw2 (Nat.le_refl _)
           have rf0w2 := hf0.below hBw2 (Nat.le_refl _)
           have rf1w2 := hf1.below hBw2 (Nat.le_refl _)
           have Ss1w2 := SI.of_row (lo := w1.heap.size) (hi := w2.heap.size) hgs1 ogs1 hgs1.lt)
        | (go_at_call 47
           refine (specTightPlaces_any v0e _ n0 _ x0 v1e _ n1 _ x1 _ hs0 hs1 (Ss0w2.rr.below (B := w2.heap.size) (by first | exact Below.refl _ _ | exact (Below.refl _ _).drew | exact below_N (Below.refl _ _) _) (Nat.le_refl _)) (Ss1w2.ri.below (B := w2.heap.size) (by first | exact Below.refl _ _ | exact (Below.refl _ _).drew | exact below_N (Below.refl _ _) _) (Nat.le_refl _))).mono ?_
           rw [HN.out, HZ.out]
           rintro e w3 ⟨Aw, cw, rfl, Sww3', hbw3'⟩
           have hbw3 : Below w2.heap.size w2 w3 := ⟨hbw3'.os, hbw3'.tape, hbw3'.output, hbw3'.size, hbw3'.block⟩
           have sw3 := hbw3.size
           have hBw3 : Below W.heap.size W w3 := hBw2.trans (hbw3.mono (by first | omega | (simp <;> omega)))
           have bx0q0w3 : w3.cell? ⟨W.heap.size, 0, none⟩ = some (Value.int .i64 v0e) := (hbw3.cell (p := ⟨W.heap.size, 0, none⟩) (by simp <;> omega)).trans bx0q0w2
           have bx0q1w3 : w3.cell? ⟨W.heap.size, 1, none⟩ = some (Value.slice A0 n0 c0) := (hbw3.cell (p := ⟨W.heap.size, 1, none⟩) (by simp <;> omega)).trans bx0q1w2
           have bx1q0w3 : w3.cell? ⟨W.heap.size + 1, 0, none⟩ = some (Value.int .i64 v1e) := (hbw3.cell (p := ⟨W.heap.size + 1, 0, none⟩) (by simp <;> omega)).trans bx1q0w2
           have bx1q1w3 : w3.cell? ⟨W.heap.size + 1, 1, none⟩ = some (Value.slice A1 n1 c1) := (hbw3.cell (p := ⟨W.heap.size + 1, 1, none⟩) (by simp <;> omega)).trans bx1q1w2
           have rf0w3 := hf0.below hBw3 (Nat.le_refl _)
           have rf1w3 := hf1.below hBw3 (Nat.le_refl _)
           have Sww3 : SI w3 w2.heap.size w3.heap.size Aw N _ := Sww3'))
      all_goals
        go_wp2_with fail
        refine (toEventGraph_any v0e A0 n0 c0 x0 _ hs0 rf0w3).mono ?_
        rintro e w4 ⟨gx0, ogx0, rfl, hbw4, hgx0⟩
        have sw4 := hbw4.size
        have hBw4 : Below W.heap.size W w4 := hBw3.trans (hbw4.mono (by first | omega | (simp <;> omega)))
        have bx0q0w4 : w4.cell? ⟨W.heap.size, 0, none⟩ = some (Value.int .i64 v0e) := (hbw4.cell (p := ⟨W.heap.size, 0, none⟩) (by simp <;> omega)).trans bx0q0w3
        have bx0q1w4 : w4.cell? ⟨W.heap.size, 1, none⟩ = some (Value.slice A0 n0 c0) := (hbw4.cell (p := ⟨W.heap.size, 1, none⟩) (by simp <;> omega)).trans bx0q1w3
        have bx1q0w4 : w4.cell? ⟨W.heap.size + 1, 0, none⟩ = some (Value.int .i64 v1e) := (hbw4.cell (p := ⟨W.heap.size + 1, 0, none⟩) (by simp <;> omega)).trans bx1q0w3
        have bx1q1w4 : w4.cell? ⟨W.heap.size + 1, 1, none⟩ = some (Value.slice A1 n1 c1) := (hbw4.cell (p := ⟨W.heap.size + 1, 1, none⟩) (by simp <;> omega)).trans bx1q1w3
        have Sww4 := Sww3.below hbw4 (Nat.le_refl _)
        have rf0w4 := hf0.below hBw4 (Nat.le_refl _)
        have rf1w4 := hf1.below hBw4 (Nat.le_refl _)
        have Sx0w4 := SR.of_row (lo := w3.heap.size) (hi := w4.heap.size) hgx0 ogx0 hgx0.lt
        have hbaw4 : Below w4.heap.size w4 (w4.alloc (Obj.cells #[Value.int .i64 v0e, Value.slice (some ⟨gx0, 0, none⟩) n0 n0] 52)) := (Below.refl _ _).alloc (Nat.le_refl _) _
        have zaw4 : w4.heap.size + 1 = (w4.alloc (Obj.cells #[Value.int .i64 v0e, Value.slice (some ⟨gx0, 0, none⟩) n0 n0] 52)).heap.size := by simp
        have saw4 := hbaw4.size
        have hBaw4 : Below W.heap.size W (w4.alloc (Obj.cells #[Value.int .i64 v0e, Value.slice (some ⟨gx0, 0, none⟩) n0 n0] 52)) := hBw4.trans (hbaw4.mono (by first | omega | (simp <;> omega)))
        have bx0q0aw4 : (w4.alloc (Obj.cells #[Value.int .i64 v0e, Value.slice (some ⟨gx0, 0, none⟩) n0 n0] 52)).cell? ⟨W.heap.size, 0, none⟩ = some (Value.int .i64 v0e) := (hbaw4.cell (p := ⟨W.heap.size, 0, none⟩) (by simp <;> omega)).trans bx0q0w4
        have bx0q1aw4 : (w4.alloc (Obj.cells #[Value.int .i64 v0e, Value.slice (some ⟨gx0, 0, none⟩) n0 n0] 52)).cell? ⟨W.heap.size, 1, none⟩ = some (Value.slice A0 n0 c0) := (hbaw4.cell (p := ⟨W.heap.size, 1, none⟩) (by simp <;> omega)).trans bx0q1w4
        have bx1q0aw4 : (w4.alloc (Obj.cells #[Value.int .i64 v0e, Value.slice (some ⟨gx0, 0, none⟩) n0 n0] 52)).cell? ⟨W.heap.size + 1, 0, none⟩ = some (Value.int .i64 v1e) := (hbaw4.cell (p := ⟨W.heap.size + 1, 0, none⟩) (by simp <;> omega)).trans bx1q0w4
        have bx1q1aw4 : (w4.alloc (Obj.cells #[Value.int .i64 v0e, Value.slice (some ⟨gx0, 0, none⟩) n0 n0] 52)).cell? ⟨W.heap.size + 1, 1, none⟩ = some (Value.slice A1 n1 c1) := (hbaw4.cell (p := ⟨W.heap.size + 1, 1, none⟩) (by simp <;> omega)).trans bx1q1w4
        have Swaw4 := Sww4.below hbaw4 (Nat.le_refl _)
        have Sx0aw4 := Sx0w4.below hbaw4 (Nat.le_refl _)
        have rf0aw4 := hf0.below hBaw4 (Nat.le_refl _)
        have rf1aw4 := hf1.below hBaw4 (Nat.le_refl _)
        have nx0q0aw4 : (w4.alloc (Obj.cells #[Value.int .i64 v0e, Value.slice (some ⟨gx0, 0, none⟩) n0 n0] 52)).cell? ⟨w4.heap.size, 0, none⟩ = some (Value.int .i64 v0e) := c1a _ _ _ 0
        have nx0q1aw4 : (w4.alloc (Obj.cells #[Value.int .i64 v0e, Value.slice (some ⟨gx0, 0, none⟩) n0 n0] 52)).cell? ⟨w4.heap.size, 1, none⟩ = some (Value.slice (some ⟨gx0, 0, none⟩) n0 n0) := c1a _ _ _ 1
        go_wp2_with fail
        refine (toTimetable_any v1e A1 n1 c1 x1 _ hs1 rf1aw4).mono ?_
        rintro e w5 ⟨gx1, ogx1, rfl, hbw5, hgx1⟩
        have sw5 := hbw5.size
        have hBw5 : Below W.heap.size W w5 := hBaw4.trans (hbw5.mono (by first | omega | (simp <;> omega)))
        have bx0q0w5 : w5.cell? ⟨W.heap.size, 0, none⟩ = some (Value.int .i64 v0e) := (hbw5.cell (p := ⟨W.heap.size, 0, none⟩) (by simp <;> omega)).trans bx0q0aw4
        have bx0q1w5 : w5.cell? ⟨W.heap.size, 1, none⟩ = some (Value.slice A0 n0 c0) := (hbw5.cell (p := ⟨W.heap.size, 1, none⟩) (by simp <;> omega)).trans bx0q1aw4
        have bx1q0w5 : w5.cell? ⟨W.heap.size + 1, 0, none⟩ = some (Value.int .i64 v1e) := (hbw5.cell (p := ⟨W.heap.size + 1, 0, none⟩) (by simp <;> omega)).trans bx1q0aw4
        have bx1q1w5 : w5.cell? ⟨W.heap.size + 1, 1, none⟩ = some (Value.slice A1 n1 c1) := (hbw5.cell (p := ⟨W.heap.size + 1, 1, none⟩) (by simp <;> omega)).trans bx1q1aw4
        have nx0q0w5 : w5.cell? ⟨w4.heap.size, 0, none⟩ = some (Value.int .i64 v0e) := (hbw5.cell (p := ⟨w4.heap.size, 0, none⟩) (by simp <;> omega)).trans nx0q0aw4
        have nx0q1w5 : w5.cell? ⟨w4.heap.size, 1, none⟩ = some (Value.slice (some ⟨gx0, 0, none⟩) n0 n0) := (hbw5.cell (p := ⟨w4.heap.size, 1, none⟩) (by simp <;> omega)).trans nx0q1aw4
        have Sww5 := Swaw4.below hbw5 (Nat.le_refl _)
        have Sx0w5 := Sx0aw4.below hbw5 (Nat.le_refl _)
        have rf0w5 := hf0.below hBw5 (Nat.le_refl _)
        have rf1w5 := hf1.below hBw5 (Nat.le_refl _)
        have Sx1w5 := SI.of_row (lo := (w4.alloc (Obj.cells #[Value.int .i64 v0e, Value.slice (some ⟨gx0, 0, none⟩) n0 n0] 52)).heap.size) (hi := w5.heap.size) hgx1 ogx1 hgx1.lt
        have hbaw5 : Below w5.heap.size w5 (w5.alloc (Obj.cells #[Value.int .i64 v1e, Value.slice (some ⟨gx1, 0, none⟩) n1 n1] 54)) := (Below.refl _ _).alloc (Nat.le_refl _) _
        have zaw5 : w5.heap.size + 1 = (w5.alloc (Obj.cells #[Value.int .i64 v1e, Value.slice (some ⟨gx1, 0, none⟩) n1 n1] 54)).heap.size := by simp
        have saw5 := hbaw5.size
        have hBaw5 : Below W.heap.size W (w5.alloc (Obj.cells #[Value.int .i64 v1e, Value.slice (some ⟨gx1, 0, none⟩) n1 n1] 54)) := hBw5.trans (hbaw5.mono (by first | omega | (simp <;> omega)))
        have bx0q0aw5 : (w5.alloc (Obj.cells #[Value.int .i64 v1e, Value.slice (some ⟨gx1, 0, none⟩) n1 n1] 54)).cell? ⟨W.heap.size, 0, none⟩ = some (Value.int .i64 v0e) := (hbaw5.cell (p := ⟨W.heap.size, 0, none⟩) (by simp <;> omega)).trans bx0q0w5
        have bx0q1aw5 : (w5.alloc (Obj.cells #[Value.int .i64 v1e, Value.slice (some ⟨gx1, 0, none⟩) n1 n1] 54)).cell? ⟨W.heap.size, 1, none⟩ = some (Value.slice A0 n0 c0) := (hbaw5.cell (p := ⟨W.heap.size, 1, none⟩) (by simp <;> omega)).trans bx0q1w5
        have bx1q0aw5 : (w5.alloc (Obj.cells #[Value.int .i64 v1e, Value.slice (some ⟨gx1, 0, none⟩) n1 n1] 54)).cell? ⟨W.heap.size + 1, 0, none⟩ = some (Value.int .i64 v1e) := (hbaw5.cell (p := ⟨W.heap.size + 1, 0, none⟩) (by simp <;> omega)).trans bx1q0w5
        have bx1q1aw5 : (w5.alloc (Obj.cells #[Value.int .i64 v1e, Value.slice (some ⟨gx1, 0, none⟩) n1 n1] 54)).cell? ⟨W.heap.size + 1, 1, none⟩ = some (Value.slice A1 n1 c1) := (hbaw5.cell (p := ⟨W.heap.size + 1, 1, none⟩) (by simp <;> omega)).trans bx1q1w5
        have nx0q0aw5 : (w5.alloc (Obj.cells #[Value.int .i64 v1e, Value.slice (some ⟨gx1, 0, none⟩) n1 n1] 54)).cell? ⟨w4.heap.size, 0, none⟩ = some (Value.int .i64 v0e) := (hbaw5.cell (p := ⟨w4.heap.size, 0, none⟩) (by simp <;> omega)).trans nx0q0w5
        have nx0q1aw5 : (w5.alloc (Obj.cells #[Value.int .i64 v1e, Value.slice (some ⟨gx1, 0, none⟩) n1 n1] 54)).cell? ⟨w4.heap.size, 1, none⟩ = some (Value.slice (some ⟨gx0, 0, none⟩) n0 n0) := (hbaw5.cell (p := ⟨w4.heap.size, 1, none⟩) (by simp <;> omega)).trans nx0q1w5
        have Swaw5 := Sww5.below hbaw5 (Nat.le_refl _)
        have Sx0aw5 := Sx0w5.below hbaw5 (Nat.le_refl _)
        have Sx1aw5 := Sx1w5.below hbaw5 (Nat.le_refl _)
        have rf0aw5 := hf0.below hBaw5 (Nat.le_refl _)
        have rf1aw5 := hf1.below hBaw5 (Nat.le_refl _)
        have nx1q0aw5 : (w5.alloc (Obj.cells #[Value.int .i64 v1e, Value.slice (some ⟨gx1, 0, none⟩) n1 n1] 54)).cell? ⟨w5.heap.size, 0, none⟩ = some (Value.int .i64 v1e) := c1a _ _ _ 0
        have nx1q1aw5 : (w5.alloc (Obj.cells #[Value.int .i64 v1e, Value.slice (some ⟨gx1, 0, none⟩) n1 n1] 54)).cell? ⟨w5.heap.size, 1, none⟩ = some (Value.slice (some ⟨gx1, 0, none⟩) n1 n1) := c1a _ _ _ 1
        go_wp2_with fail
        refine (implTightPlaces_any v0e _ n0 _ x0 v1e _ n1 _ x1 _ hs0 hs1 Sx0aw5.rr Sx1aw5.ri).mono ?_
        rw [HN.out, HZ.out]
        rintro e w6 ⟨Ag, cg, rfl, Sgw6, hbw6⟩
        have sw6 := hbw6.size
        have hBw6 : Below W.heap.size W w6 := hBaw5.trans (hbw6.mono (by first | omega | (simp <;> omega)))
        have bx0q0w6 : w6.cell? ⟨W.heap.size, 0, none⟩ = some (Value.int .i64 v0e) := (hbw6.cell (p := ⟨W.heap.size, 0, none⟩) (by simp <;> omega)).trans bx0q0aw5
        have bx0q1w6 : w6.cell? ⟨W.heap.size, 1, none⟩ = some (Value.slice A0 n0 c0) := (hbw6.cell (p := ⟨W.heap.size, 1, none⟩) (by simp <;> omega)).trans bx0q1aw5
        have bx1q0w6 : w6.cell? ⟨W.heap.size + 1, 0, none⟩ = some (Value.int .i64 v1e) := (hbw6.cell (p := ⟨W.heap.size + 1, 0, none⟩) (by simp <;> omega)).trans bx1q0aw5
        have bx1q1w6 : w6.cell? ⟨W.heap.size + 1, 1, none⟩ = some (Value.slice A1 n1 c1) := (hbw6.cell (p := ⟨W.heap.size + 1, 1, none⟩) (by simp <;> omega)).trans bx1q1aw5
        have nx0q0w6 : w6.cell? ⟨w4.heap.size, 0, none⟩ = some (Value.int .i64 v0e) := (hbw6.cell (p := ⟨w4.heap.size, 0, none⟩) (by simp <;> omega)).trans nx0q0aw5
        have nx0q1w6 : w6.cell? ⟨w4.heap.size, 1, none⟩ = some (Value.slice (some ⟨gx0, 0, none⟩) n0 n0) := (hbw6.cell (p := ⟨w4.heap.size, 1, none⟩) (by simp <;> omega)).trans nx0q1aw5
        have nx1q0w6 : w6.cell? ⟨w5.heap.size, 0, none⟩ = some (Value.int .i64 v1e) := (hbw6.cell (p := ⟨w5.heap.size, 0, none⟩) (by simp <;> omega)).trans nx1q0aw5
        have nx1q1w6 : w6.cell? ⟨w5.heap.size, 1, none⟩ = some (Value.slice (some ⟨gx1, 0, none⟩) n1 n1) := (hbw6.cell (p := ⟨w5.heap.size, 1, none⟩) (by simp <;> omega)).trans nx1q1aw5
        have Sww6 := Swaw5.below hbw6 (Nat.le_refl _)
        have Sx0w6 := Sx0aw5.below hbw6 (Nat.le_refl _)
        have Sx1w6 := Sx1aw5.below hbw6 (Nat.le_refl _)
        have rf0w6 := hf0.below hBw6 (Nat.le_refl _)
        have rf1w6 := hf1.below hBw6 (Nat.le_refl _)
        go_wp2_with fail
        refine (eqInt64S_true _ _ N _ _ _ _ hN Sgw6.ri Sww6.ri).mono ?_
        rintro e w7 ⟨rfl, hbw7⟩
        have sw7 := hbw7.size
        have hBw7 : Below W.heap.size W w7 := hBw6.trans (hbw7.mono (by first | omega | (simp <;> omega)))
        have bx0q0w7 : w7.cell? ⟨W.heap.size, 0, none⟩ = some (Value.int .i64 v0e) := (hbw7.cell (p := ⟨W.heap.size, 0, none⟩) (by simp <;> omega)).trans bx0q0w6
        have bx0q1w7 : w7.cell? ⟨W.heap.size, 1, none⟩ = some (Value.slice A0 n0 c0) := (hbw7.cell (p := ⟨W.heap.size, 1, none⟩) (by simp <;> omega)).trans bx0q1w6
        have bx1q0w7 : w7.cell? ⟨W.heap.size + 1, 0, none⟩ = some (Value.int .i64 v1e) := (hbw7.cell (p := ⟨W.heap.size + 1, 0, none⟩) (by simp <;> omega)).trans bx1q0w6
        have bx1q1w7 : w7.cell? ⟨W.heap.size + 1, 1, none⟩ = some (Value.slice A1 n1 c1) := (hbw7.cell (p := ⟨W.heap.size + 1, 1, none⟩) (by simp <;> omega)).trans bx1q1w6
        have nx0q0w7 : w7.cell? ⟨w4.heap.size, 0, none⟩ = some (Value.int .i64 v0e) := (hbw7.cell (p := ⟨w4.heap.size, 0, none⟩) (by simp <;> omega)).trans nx0q0w6
        have nx0q1w7 : w7.cell? ⟨w4.heap.size, 1, none⟩ = some (Value.slice (some ⟨gx0, 0, none⟩) n0 n0) := (hbw7.cell (p := ⟨w4.heap.size, 1, none⟩) (by simp <;> omega)).trans nx0q1w6
        have nx1q0w7 : w7.cell? ⟨w5.heap.size, 0, none⟩ = some (Value.int .i64 v1e) := (hbw7.cell (p := ⟨w5.heap.size, 0, none⟩) (by simp <;> omega)).trans nx1q0w6
        have nx1q1w7 : w7.cell? ⟨w5.heap.size, 1, none⟩ = some (Value.slice (some ⟨gx1, 0, none⟩) n1 n1) := (hbw7.cell (p := ⟨w5.heap.size, 1, none⟩) (by simp <;> omega)).trans nx1q1w6
        have Sww7 := Sww6.below hbw7 (Nat.le_refl _)
        have Sx0w7 := Sx0w6.below hbw7 (Nat.le_refl _)
        have Sx1w7 := Sx1w6.below hbw7 (Nat.le_refl _)
        have Sgw7 := Sgw6.below hbw7 (Nat.le_refl _)
        have rf0w7 := hf0.below hBw7 (Nat.le_refl _)
        have rf1w7 := hf1.below hBw7 (Nat.le_refl _)
        go_wp2_with fail
        go_region_held3 (fun w' => w'.cell? ⟨W.heap.size, 0, none⟩ = some (Value.int .i64 v0e) ∧ w'.cell? ⟨W.heap.size, 1, none⟩ = some (Value.slice A0 n0 c0) ∧ w'.cell? ⟨w4.heap.size, 0, none⟩ = some (Value.int .i64 v0e) ∧ w'.cell? ⟨w4.heap.size, 1, none⟩ = some (Value.slice (some ⟨gx0, 0, none⟩) n0 n0))
          (first | go_keep | exact ⟨bx0q0w8, bx0q1w8, nx0q0w8, nx0q1w8⟩)
          (first
          | (go_at_call 28
             refine (toEventGraph_any v0e A0 n0 c0 x0 _ hs0 (rf0w7.below (B := w7.heap.size) (by first | exact Below.refl _ _ | exact (Below.refl _ _).drew | exact below_N (Below.refl _ _) _) (Nat.le_refl _))).mono ?_
             rintro e w8 ⟨gy0, ogy0, rfl, hbw8', hgy0⟩
             have hbw8 : Below w7.heap.size w7 w8 := ⟨hbw8'.os, hbw8'.tape, hbw8'.output, hbw8'.size, hbw8'.block⟩
             have sw8 := hbw8.size
             have hBw8 : Below W.heap.size W w8 := hBw7.trans (hbw8.mono (by first | omega | (simp <;> omega)))
             have bx0q0w8 : w8.cell? ⟨W.heap.size, 0, none⟩ = some (Value.int .i64 v0e) := (hbw8.cell (p := ⟨W.heap.size, 0, none⟩) (by simp <;> omega)).trans bx0q0w7
             have bx0q1w8 : w8.cell? ⟨W.heap.size, 1, none⟩ = some (Value.slice A0 n0 c0) := (hbw8.cell (p := ⟨W.heap.size, 1, none⟩) (by simp <;> omega)).trans bx0q1w7
             have bx1q0w8 : w8.cell? ⟨W.heap.size + 1, 0, none⟩ = some (Value.int .i64 v1e) := (hbw8.cell (p := ⟨W.heap.size + 1, 0, none⟩) (by simp <;> omega)).trans bx1q0w7
             have bx1q1w8 : w8.cell? ⟨W.heap.size + 1, 1, none⟩ = some (Value.slice A1 n1 c1) := (hbw8.cell (p := ⟨W.heap.size + 1, 1, none⟩) (by simp <;> omega)).trans bx1q1w7
             have nx0q0w8 : w8.cell? ⟨w4.heap.size, 0, none⟩ = some (Value.int .i64 v0e) := (hbw8.cell (p := ⟨w4.heap.size, 0, none⟩) (by simp <;> omega)).trans nx0q0w7
             have nx0q1w8 : w8.cell? ⟨w4.heap.size, 1, none⟩ = some (Value.slice (some ⟨gx0, 0, none⟩) n0 n0) := (hbw8.cell (p := ⟨w4.heap.size, 1, none⟩) (by simp <;> omega)).trans nx0q1w7
             have nx1q0w8 : w8.cell? ⟨w5.heap.size, 0, none⟩ = some (Value.int .i64 v1e) := (hbw8.cell (p := ⟨w5.heap.size, 0, none⟩) (by simp <;> omega)).trans nx1q0w7
             have nx1q1w8 : w8.cell? ⟨w5.heap.size, 1, none⟩ = some (Value.slice (some ⟨gx1, 0, none⟩) n1 n1) := (hbw8.cell (p := ⟨w5.heap.size, 1, none⟩) (by simp <;> omega)).trans nx1q1w7
             have Sww8 := Sww7.below hbw8 (Nat.le_refl _)
             have Sx0w8 := Sx0w7.below hbw8 (Nat.le_refl _)
             have Sx1w8 := Sx1w7.below hbw8 (Nat.le_refl _)
             have Sgw8 := Sgw7.below hbw8 (Nat.le_refl _)
             have rf0w8 := hf0.below hBw8 (Nat.le_refl _)
             have rf1w8 := hf1.below hBw8 (Nat.le_refl _)
             have Sy0w8 := SR.of_row (lo := w7.heap.size) (hi := w8.heap.size) hgy0 ogy0 hgy0.lt)
          | (go_at_call 31
             refine (eqEventGraph_true v0e _ n0 _ x0 _ hs0 (Sx0w8.rr.below (B := w8.heap.size) (by first | exact Below.refl _ _ | exact (Below.refl _ _).drew | exact below_N (Below.refl _ _) _) (Nat.le_refl _)) _ _ (Sy0w8.rr.below (B := w8.heap.size) (by first | exact Below.refl _ _ | exact (Below.refl _ _).drew | exact below_N (Below.refl _ _) _) (Nat.le_refl _))).mono ?_
             rintro e w9 ⟨rfl, hbw9'⟩
             have hbw9 : Below w8.heap.size w8 w9 := ⟨hbw9'.os, hbw9'.tape, hbw9'.output, hbw9'.size, hbw9'.block⟩
             have sw9 := hbw9.size
             have hBw9 : Below W.heap.size W w9 := hBw8.trans (hbw9.mono (by first | omega | (simp <;> omega)))
             have bx0q0w9 : w9.cell? ⟨W.heap.size, 0, none⟩ = some (Value.int .i64 v0e) := (hbw9.cell (p := ⟨W.heap.size, 0, none⟩) (by simp <;> omega)).trans bx0q0w8
             have bx0q1w9 : w9.cell? ⟨W.heap.size, 1, none⟩ = some (Value.slice A0 n0 c0) := (hbw9.cell (p := ⟨W.heap.size, 1, none⟩) (by simp <;> omega)).trans bx0q1w8
             have bx1q0w9 : w9.cell? ⟨W.heap.size + 1, 0, none⟩ = some (Value.int .i64 v1e) := (hbw9.cell (p := ⟨W.heap.size + 1, 0, none⟩) (by simp <;> omega)).trans bx1q0w8
             have bx1q1w9 : w9.cell? ⟨W.heap.size + 1, 1, none⟩ = some (Value.slice A1 n1 c1) := (hbw9.cell (p := ⟨W.heap.size + 1, 1, none⟩) (by simp <;> omega)).trans bx1q1w8
             have nx0q0w9 : w9.cell? ⟨w4.heap.size, 0, none⟩ = some (Value.int .i64 v0e) := (hbw9.cell (p := ⟨w4.heap.size, 0, none⟩) (by simp <;> omega)).trans nx0q0w8
             have nx0q1w9 : w9.cell? ⟨w4.heap.size, 1, none⟩ = some (Value.slice (some ⟨gx0, 0, none⟩) n0 n0) := (hbw9.cell (p := ⟨w4.heap.size, 1, none⟩) (by simp <;> omega)).trans nx0q1w8
             have nx1q0w9 : w9.cell? ⟨w5.heap.size, 0, none⟩ = some (Value.int .i64 v1e) := (hbw9.cell (p := ⟨w5.heap.size, 0, none⟩) (by simp <;> omega)).trans nx1q0w8
             have nx1q1w9 : w9.cell? ⟨w5.heap.size, 1, none⟩ = some (Value.slice (some ⟨gx1, 0, none⟩) n1 n1) := (hbw9.cell (p := ⟨w5.heap.size, 1, none⟩) (by simp <;> omega)).trans nx1q1w8
             have Sww9 := Sww8.below hbw9 (Nat.le_refl _)
             have Sx0w9 := Sx0w8.below hbw9 (Nat.le_refl _)
             have Sx1w9 := Sx1w8.below hbw9 (Nat.le_refl _)
             have Sgw9 := Sgw8.below hbw9 (Nat.le_refl _)
             have rf0w9 := hf0.below hBw9 (Nat.le_refl _)
             have rf1w9 := hf1.below hBw9 (Nat.le_refl _)))
        all_goals
          go_wp2_with fail
          go_region_held3 (fun w' => w'.cell? ⟨W.heap.size + 1, 0, none⟩ = some (Value.int .i64 v1e) ∧ w'.cell? ⟨W.heap.size + 1, 1, none⟩ = some (Value.slice A1 n1 c1) ∧ w'.cell? ⟨w5.heap.size, 0, none⟩ = some (Value.int .i64 v1e) ∧ w'.cell? ⟨w5.heap.size, 1, none⟩ = some (Value.slice (some ⟨gx1, 0, none⟩) n1 n1))
            (first | go_keep | exact ⟨bx1q0w10, bx1q1w10, nx1q0w10, nx1q1w10⟩)
            (first
            | (go_at_call 29
               refine (toTimetable_any v1e A1 n1 c1 x1 _ hs1 (rf1w9.below (B := w9.heap.size) (by first | exact Below.refl _ _ | exact (Below.refl _ _).drew | exact below_N (Below.refl _ _) _) (Nat.le_refl _))).mono ?_
               rintro e w10 ⟨gy1, ogy1, rfl, hbw10', hgy1⟩
               have hbw10 : Below w9.heap.size w9 w10 := ⟨hbw10'.os, hbw10'.tape, hbw10'.output, hbw10'.size, hbw10'.block⟩
               have sw10 := hbw10.size
               have hBw10 : Below W.heap.size W w10 := hBw9.trans (hbw10.mono (by first | omega | (simp <;> omega)))
               have bx0q0w10 : w10.cell? ⟨W.heap.size, 0, none⟩ = some (Value.int .i64 v0e) := (hbw10.cell (p := ⟨W.heap.size, 0, none⟩) (by simp <;> omega)).trans bx0q0w9
               have bx0q1w10 : w10.cell? ⟨W.heap.size, 1, none⟩ = some (Value.slice A0 n0 c0) := (hbw10.cell (p := ⟨W.heap.size, 1, none⟩) (by simp <;> omega)).trans bx0q1w9
               have bx1q0w10 : w10.cell? ⟨W.heap.size + 1, 0, none⟩ = some (Value.int .i64 v1e) := (hbw10.cell (p := ⟨W.heap.size + 1, 0, none⟩) (by simp <;> omega)).trans bx1q0w9
               have bx1q1w10 : w10.cell? ⟨W.heap.size + 1, 1, none⟩ = some (Value.slice A1 n1 c1) := (hbw10.cell (p := ⟨W.heap.size + 1, 1, none⟩) (by simp <;> omega)).trans bx1q1w9
               have nx0q0w10 : w10.cell? ⟨w4.heap.size, 0, none⟩ = some (Value.int .i64 v0e) := (hbw10.cell (p := ⟨w4.heap.size, 0, none⟩) (by simp <;> omega)).trans nx0q0w9
               have nx0q1w10 : w10.cell? ⟨w4.heap.size, 1, none⟩ = some (Value.slice (some ⟨gx0, 0, none⟩) n0 n0) := (hbw10.cell (p := ⟨w4.heap.size, 1, none⟩) (by simp <;> omega)).trans nx0q1w9
               have nx1q0w10 : w10.cell? ⟨w5.heap.size, 0, none⟩ = some (Value.int .i64 v1e) := (hbw10.cell (p := ⟨w5.heap.size, 0, none⟩) (by simp <;> omega)).trans nx1q0w9
               have nx1q1w10 : w10.cell? ⟨w5.heap.size, 1, none⟩ = some (Value.slice (some ⟨gx1, 0, none⟩) n1 n1) := (hbw10.cell (p := ⟨w5.heap.size, 1, none⟩) (by simp <;> omega)).trans nx1q1w9
               have Sww10 := Sww9.below hbw10 (Nat.le_refl _)
               have Sx0w10 := Sx0w9.below hbw10 (Nat.le_refl _)
               have Sx1w10 := Sx1w9.below hbw10 (Nat.le_refl _)
               have Sgw10 := Sgw9.below hbw10 (Nat.le_refl _)
               have rf0w10 := hf0.below hBw10 (Nat.le_refl _)
               have rf1w10 := hf1.below hBw10 (Nat.le_refl _)
               have Sy1w10 := SI.of_row (lo := w9.heap.size) (hi := w10.heap.size) hgy1 ogy1 hgy1.lt)
            | (go_at_call 32
               refine (eqTimetable_true v1e _ n1 _ x1 _ hs1 (Sx1w10.ri.below (B := w10.heap.size) (by first | exact Below.refl _ _ | exact (Below.refl _ _).drew | exact below_N (Below.refl _ _) _) (Nat.le_refl _)) _ _ (Sy1w10.ri.below (B := w10.heap.size) (by first | exact Below.refl _ _ | exact (Below.refl _ _).drew | exact below_N (Below.refl _ _) _) (Nat.le_refl _))).mono ?_
               rintro e w11 ⟨rfl, hbw11'⟩
               have hbw11 : Below w10.heap.size w10 w11 := ⟨hbw11'.os, hbw11'.tape, hbw11'.output, hbw11'.size, hbw11'.block⟩
               have sw11 := hbw11.size
               have hBw11 : Below W.heap.size W w11 := hBw10.trans (hbw11.mono (by first | omega | (simp <;> omega)))
               have bx0q0w11 : w11.cell? ⟨W.heap.size, 0, none⟩ = some (Value.int .i64 v0e) := (hbw11.cell (p := ⟨W.heap.size, 0, none⟩) (by simp <;> omega)).trans bx0q0w10
               have bx0q1w11 : w11.cell? ⟨W.heap.size, 1, none⟩ = some (Value.slice A0 n0 c0) := (hbw11.cell (p := ⟨W.heap.size, 1, none⟩) (by simp <;> omega)).trans bx0q1w10
               have bx1q0w11 : w11.cell? ⟨W.heap.size + 1, 0, none⟩ = some (Value.int .i64 v1e) := (hbw11.cell (p := ⟨W.heap.size + 1, 0, none⟩) (by simp <;> omega)).trans bx1q0w10
               have bx1q1w11 : w11.cell? ⟨W.heap.size + 1, 1, none⟩ = some (Value.slice A1 n1 c1) := (hbw11.cell (p := ⟨W.heap.size + 1, 1, none⟩) (by simp <;> omega)).trans bx1q1w10
               have nx0q0w11 : w11.cell? ⟨w4.heap.size, 0, none⟩ = some (Value.int .i64 v0e) := (hbw11.cell (p := ⟨w4.heap.size, 0, none⟩) (by simp <;> omega)).trans nx0q0w10
               have nx0q1w11 : w11.cell? ⟨w4.heap.size, 1, none⟩ = some (Value.slice (some ⟨gx0, 0, none⟩) n0 n0) := (hbw11.cell (p := ⟨w4.heap.size, 1, none⟩) (by simp <;> omega)).trans nx0q1w10
               have nx1q0w11 : w11.cell? ⟨w5.heap.size, 0, none⟩ = some (Value.int .i64 v1e) := (hbw11.cell (p := ⟨w5.heap.size, 0, none⟩) (by simp <;> omega)).trans nx1q0w10
               have nx1q1w11 : w11.cell? ⟨w5.heap.size, 1, none⟩ = some (Value.slice (some ⟨gx1, 0, none⟩) n1 n1) := (hbw11.cell (p := ⟨w5.heap.size, 1, none⟩) (by simp <;> omega)).trans nx1q1w10
               have Sww11 := Sww10.below hbw11 (Nat.le_refl _)
               have Sx0w11 := Sx0w10.below hbw11 (Nat.le_refl _)
               have Sx1w11 := Sx1w10.below hbw11 (Nat.le_refl _)
               have Sgw11 := Sgw10.below hbw11 (Nat.le_refl _)
               have rf0w11 := hf0.below hBw11 (Nat.le_refl _)
               have rf1w11 := hf1.below hBw11 (Nat.le_refl _)))
          all_goals
            go_wp2_with fail
            refine (markEventGraph_any _ _ n0 _ _ (1) _ _ _ hs0 (by omega) (by omega) Sx0w11).mono ?_
            rintro e w13 ⟨w12, rfl, hbw12, how13, Sx0w13⟩
            have sw12 := hbw12.size
            have hBw12 : Below W.heap.size W w12 := hBw11.trans (hbw12.mono (by first | omega | (simp <;> omega)))
            have bx0q0w12 : w12.cell? ⟨W.heap.size, 0, none⟩ = some (Value.int .i64 v0e) := (hbw12.cell (p := ⟨W.heap.size, 0, none⟩) (by simp <;> omega)).trans bx0q0w11
            have bx0q1w12 : w12.cell? ⟨W.heap.size, 1, none⟩ = some (Value.slice A0 n0 c0) := (hbw12.cell (p := ⟨W.heap.size, 1, none⟩) (by simp <;> omega)).trans bx0q1w11
            have bx1q0w12 : w12.cell? ⟨W.heap.size + 1, 0, none⟩ = some (Value.int .i64 v1e) := (hbw12.cell (p := ⟨W.heap.size + 1, 0, none⟩) (by simp <;> omega)).trans bx1q0w11
            have bx1q1w12 : w12.cell? ⟨W.heap.size + 1, 1, none⟩ = some (Value.slice A1 n1 c1) := (hbw12.cell (p := ⟨W.heap.size + 1, 1, none⟩) (by simp <;> omega)).trans bx1q1w11
            have nx0q0w12 : w12.cell? ⟨w4.heap.size, 0, none⟩ = some (Value.int .i64 v0e) := (hbw12.cell (p := ⟨w4.heap.size, 0, none⟩) (by simp <;> omega)).trans nx0q0w11
            have nx0q1w12 : w12.cell? ⟨w4.heap.size, 1, none⟩ = some (Value.slice (some ⟨gx0, 0, none⟩) n0 n0) := (hbw12.cell (p := ⟨w4.heap.size, 1, none⟩) (by simp <;> omega)).trans nx0q1w11
            have nx1q0w12 : w12.cell? ⟨w5.heap.size, 0, none⟩ = some (Value.int .i64 v1e) := (hbw12.cell (p := ⟨w5.heap.size, 0, none⟩) (by simp <;> omega)).trans nx1q0w11
            have nx1q1w12 : w12.cell? ⟨w5.heap.size, 1, none⟩ = some (Value.slice (some ⟨gx1, 0, none⟩) n1 n1) := (hbw12.cell (p := ⟨w5.heap.size, 1, none⟩) (by simp <;> omega)).trans nx1q1w11
            have Sww12 := Sww11.below hbw12 (Nat.le_refl _)
            have Sx1w12 := Sx1w11.below hbw12 (Nat.le_refl _)
            have Sgw12 := Sgw11.below hbw12 (Nat.le_refl _)
            have rf0w12 := hf0.below hBw12 (Nat.le_refl _)
            have rf1w12 := hf1.below hBw12 (Nat.le_refl _)
            have sw13 := how13.size
            have hBw13 : Below W.heap.size W w13 := hBw12.trans (how13.below (by omega))
            have bx0q0w13 : w13.cell? ⟨W.heap.size, 0, none⟩ = some (Value.int .i64 v0e) := (only_cell how13 (p := ⟨W.heap.size, 0, none⟩) (by simp <;> omega)).trans bx0q0w12
            have bx0q1w13 : w13.cell? ⟨W.heap.size, 1, none⟩ = some (Value.slice A0 n0 c0) := (only_cell how13 (p := ⟨W.heap.size, 1, none⟩) (by simp <;> omega)).trans bx0q1w12
            have bx1q0w13 : w13.cell? ⟨W.heap.size + 1, 0, none⟩ = some (Value.int .i64 v1e) := (only_cell how13 (p := ⟨W.heap.size + 1, 0, none⟩) (by simp <;> omega)).trans bx1q0w12
            have bx1q1w13 : w13.cell? ⟨W.heap.size + 1, 1, none⟩ = some (Value.slice A1 n1 c1) := (only_cell how13 (p := ⟨W.heap.size + 1, 1, none⟩) (by simp <;> omega)).trans bx1q1w12
            have nx0q0w13 : w13.cell? ⟨w4.heap.size, 0, none⟩ = some (Value.int .i64 v0e) := (only_cell how13 (p := ⟨w4.heap.size, 0, none⟩) (by simp <;> omega)).trans nx0q0w12
            have nx0q1w13 : w13.cell? ⟨w4.heap.size, 1, none⟩ = some (Value.slice (some ⟨gx0, 0, none⟩) n0 n0) := (only_cell how13 (p := ⟨w4.heap.size, 1, none⟩) (by simp <;> omega)).trans nx0q1w12
            have nx1q0w13 : w13.cell? ⟨w5.heap.size, 0, none⟩ = some (Value.int .i64 v1e) := (only_cell how13 (p := ⟨w5.heap.size, 0, none⟩) (by simp <;> omega)).trans nx1q0w12
            have nx1q1w13 : w13.cell? ⟨w5.heap.size, 1, none⟩ = some (Value.slice (some ⟨gx1, 0, none⟩) n1 n1) := (only_cell how13 (p := ⟨w5.heap.size, 1, none⟩) (by simp <;> omega)).trans nx1q1w12
            have Sww13 := Sww12.only how13 (by omega)
            have Sx1w13 := Sx1w12.only how13 (by omega)
            have Sgw13 := Sgw12.only how13 (by omega)
            have rf0w13 := hf0.below hBw13 (Nat.le_refl _)
            have rf1w13 := hf1.below hBw13 (Nat.le_refl _)
            go_wp2_with fail
            refine (markTimetable_any _ _ n1 _ _ (1 + 4 * n0) _ _ _ hs1 (by omega) (by omega) Sx1w13).mono ?_
            rintro e w15 ⟨w14, rfl, hbw14, how15, Sx1w15⟩
            have sw14 := hbw14.size
            have hBw14 : Below W.heap.size W w14 := hBw13.trans (hbw14.mono (by first | omega | (simp <;> omega)))
            have bx0q0w14 : w14.cell? ⟨W.heap.size, 0, none⟩ = some (Value.int .i64 v0e) := (hbw14.cell (p := ⟨W.heap.size, 0, none⟩) (by simp <;> omega)).trans bx0q0w13
            have bx0q1w14 : w14.cell? ⟨W.heap.size, 1, none⟩ = some (Value.slice A0 n0 c0) := (hbw14.cell (p := ⟨W.heap.size, 1, none⟩) (by simp <;> omega)).trans bx0q1w13
            have bx1q0w14 : w14.cell? ⟨W.heap.size + 1, 0, none⟩ = some (Value.int .i64 v1e) := (hbw14.cell (p := ⟨W.heap.size + 1, 0, none⟩) (by simp <;> omega)).trans bx1q0w13
            have bx1q1w14 : w14.cell? ⟨W.heap.size + 1, 1, none⟩ = some (Value.slice A1 n1 c1) := (hbw14.cell (p := ⟨W.heap.size + 1, 1, none⟩) (by simp <;> omega)).trans bx1q1w13
            have nx0q0w14 : w14.cell? ⟨w4.heap.size, 0, none⟩ = some (Value.int .i64 v0e) := (hbw14.cell (p := ⟨w4.heap.size, 0, none⟩) (by simp <;> omega)).trans nx0q0w13
            have nx0q1w14 : w14.cell? ⟨w4.heap.size, 1, none⟩ = some (Value.slice (some ⟨gx0, 0, none⟩) n0 n0) := (hbw14.cell (p := ⟨w4.heap.size, 1, none⟩) (by simp <;> omega)).trans nx0q1w13
            have nx1q0w14 : w14.cell? ⟨w5.heap.size, 0, none⟩ = some (Value.int .i64 v1e) := (hbw14.cell (p := ⟨w5.heap.size, 0, none⟩) (by simp <;> omega)).trans nx1q0w13
            have nx1q1w14 : w14.cell? ⟨w5.heap.size, 1, none⟩ = some (Value.slice (some ⟨gx1, 0, none⟩) n1 n1) := (hbw14.cell (p := ⟨w5.heap.size, 1, none⟩) (by simp <;> omega)).trans nx1q1w13
            have Sww14 := Sww13.below hbw14 (Nat.le_refl _)
            have Sx0w14 := Sx0w13.below hbw14 (Nat.le_refl _)
            have Sgw14 := Sgw13.below hbw14 (Nat.le_refl _)
            have rf0w14 := hf0.below hBw14 (Nat.le_refl _)
            have rf1w14 := hf1.below hBw14 (Nat.le_refl _)
            have sw15 := how15.size
            have hBw15 : Below W.heap.size W w15 := hBw14.trans (how15.below (by omega))
            have bx0q0w15 : w15.cell? ⟨W.heap.size, 0, none⟩ = some (Value.int .i64 v0e) := (only_cell how15 (p := ⟨W.heap.size, 0, none⟩) (by simp <;> omega)).trans bx0q0w14
            have bx0q1w15 : w15.cell? ⟨W.heap.size, 1, none⟩ = some (Value.slice A0 n0 c0) := (only_cell how15 (p := ⟨W.heap.size, 1, none⟩) (by simp <;> omega)).trans bx0q1w14
            have bx1q0w15 : w15.cell? ⟨W.heap.size + 1, 0, none⟩ = some (Value.int .i64 v1e) := (only_cell how15 (p := ⟨W.heap.size + 1, 0, none⟩) (by simp <;> omega)).trans bx1q0w14
            have bx1q1w15 : w15.cell? ⟨W.heap.size + 1, 1, none⟩ = some (Value.slice A1 n1 c1) := (only_cell how15 (p := ⟨W.heap.size + 1, 1, none⟩) (by simp <;> omega)).trans bx1q1w14
            have nx0q0w15 : w15.cell? ⟨w4.heap.size, 0, none⟩ = some (Value.int .i64 v0e) := (only_cell how15 (p := ⟨w4.heap.size, 0, none⟩) (by simp <;> omega)).trans nx0q0w14
            have nx0q1w15 : w15.cell? ⟨w4.heap.size, 1, none⟩ = some (Value.slice (some ⟨gx0, 0, none⟩) n0 n0) := (only_cell how15 (p := ⟨w4.heap.size, 1, none⟩) (by simp <;> omega)).trans nx0q1w14
            have nx1q0w15 : w15.cell? ⟨w5.heap.size, 0, none⟩ = some (Value.int .i64 v1e) := (only_cell how15 (p := ⟨w5.heap.size, 0, none⟩) (by simp <;> omega)).trans nx1q0w14
            have nx1q1w15 : w15.cell? ⟨w5.heap.size, 1, none⟩ = some (Value.slice (some ⟨gx1, 0, none⟩) n1 n1) := (only_cell how15 (p := ⟨w5.heap.size, 1, none⟩) (by simp <;> omega)).trans nx1q1w14
            have Sww15 := Sww14.only how15 (by omega)
            have Sx0w15 := Sx0w14.only how15 (by omega)
            have Sgw15 := Sgw14.only how15 (by omega)
            have rf0w15 := hf0.below hBw15 (Nat.le_refl _)
            have rf1w15 := hf1.below hBw15 (Nat.le_refl _)
            go_wp2_with fail
            refine (eqInt64S_true _ _ N _ _ _ _ hN Sgw15.ri Sww15.ri).mono ?_
            rintro e w16 ⟨rfl, hbw16⟩
            have sw16 := hbw16.size
            have hBw16 : Below W.heap.size W w16 := hBw15.trans (hbw16.mono (by first | omega | (simp <;> omega)))
            have bx0q0w16 : w16.cell? ⟨W.heap.size, 0, none⟩ = some (Value.int .i64 v0e) := (hbw16.cell (p := ⟨W.heap.size, 0, none⟩) (by simp <;> omega)).trans bx0q0w15
            have bx0q1w16 : w16.cell? ⟨W.heap.size, 1, none⟩ = some (Value.slice A0 n0 c0) := (hbw16.cell (p := ⟨W.heap.size, 1, none⟩) (by simp <;> omega)).trans bx0q1w15
            have bx1q0w16 : w16.cell? ⟨W.heap.size + 1, 0, none⟩ = some (Value.int .i64 v1e) := (hbw16.cell (p := ⟨W.heap.size + 1, 0, none⟩) (by simp <;> omega)).trans bx1q0w15
            have bx1q1w16 : w16.cell? ⟨W.heap.size + 1, 1, none⟩ = some (Value.slice A1 n1 c1) := (hbw16.cell (p := ⟨W.heap.size + 1, 1, none⟩) (by simp <;> omega)).trans bx1q1w15
            have Sww16 := Sww15.below hbw16 (Nat.le_refl _)
            have Sgw16 := Sgw15.below hbw16 (Nat.le_refl _)
            have rf0w16 := hf0.below hBw16 (Nat.le_refl _)
            have rf1w16 := hf1.below hBw16 (Nat.le_refl _)
            go_wp2_with fail
            refine (markInt64S_any _ N _ _ (1) _ _ _ hN (by omega) (by omega) Sgw16).mono ?_
            rintro e w17 ⟨rfl, how17, Sgw17⟩
            have sw17 := how17.size
            have hBw17 : Below W.heap.size W w17 := hBw16.trans (how17.below (by omega))
            have bx0q0w17 : w17.cell? ⟨W.heap.size, 0, none⟩ = some (Value.int .i64 v0e) := (only_cell how17 (p := ⟨W.heap.size, 0, none⟩) (by simp <;> omega)).trans bx0q0w16
            have bx0q1w17 : w17.cell? ⟨W.heap.size, 1, none⟩ = some (Value.slice A0 n0 c0) := (only_cell how17 (p := ⟨W.heap.size, 1, none⟩) (by simp <;> omega)).trans bx0q1w16
            have bx1q0w17 : w17.cell? ⟨W.heap.size + 1, 0, none⟩ = some (Value.int .i64 v1e) := (only_cell how17 (p := ⟨W.heap.size + 1, 0, none⟩) (by simp <;> omega)).trans bx1q0w16
            have bx1q1w17 : w17.cell? ⟨W.heap.size + 1, 1, none⟩ = some (Value.slice A1 n1 c1) := (only_cell how17 (p := ⟨W.heap.size + 1, 1, none⟩) (by simp <;> omega)).trans bx1q1w16
            have Sww17 := Sww16.only how17 (by omega)
            have rf0w17 := hf0.below hBw17 (Nat.le_refl _)
            have rf1w17 := hf1.below hBw17 (Nat.le_refl _)
            go_wp2_with fail
            refine (heldInt64S_any _ N _ (1) _ hN (by omega) (by omega) Sgw17.ri).mono ?_
            rintro e w18 ⟨rfl, hbw18⟩
            have sw18 := hbw18.size
            have hBw18 : Below W.heap.size W w18 := hBw17.trans (hbw18.mono (by first | omega | (simp <;> omega)))
            have bx0q0w18 : w18.cell? ⟨W.heap.size, 0, none⟩ = some (Value.int .i64 v0e) := (hbw18.cell (p := ⟨W.heap.size, 0, none⟩) (by simp <;> omega)).trans bx0q0w17
            have bx0q1w18 : w18.cell? ⟨W.heap.size, 1, none⟩ = some (Value.slice A0 n0 c0) := (hbw18.cell (p := ⟨W.heap.size, 1, none⟩) (by simp <;> omega)).trans bx0q1w17
            have bx1q0w18 : w18.cell? ⟨W.heap.size + 1, 0, none⟩ = some (Value.int .i64 v1e) := (hbw18.cell (p := ⟨W.heap.size + 1, 0, none⟩) (by simp <;> omega)).trans bx1q0w17
            have bx1q1w18 : w18.cell? ⟨W.heap.size + 1, 1, none⟩ = some (Value.slice A1 n1 c1) := (hbw18.cell (p := ⟨W.heap.size + 1, 1, none⟩) (by simp <;> omega)).trans bx1q1w17
            have Sww18 := Sww17.below hbw18 (Nat.le_refl _)
            have Sgw18 := Sgw17.below hbw18 (Nat.le_refl _)
            have rf0w18 := hf0.below hBw18 (Nat.le_refl _)
            have rf1w18 := hf1.below hBw18 (Nat.le_refl _)
            go_wp2_with fail
            go_region_held3 (fun w' => w'.cell? ⟨W.heap.size, 0, none⟩ = some (Value.int .i64 v0e) ∧ w'.cell? ⟨W.heap.size, 1, none⟩ = some (Value.slice A0 n0 c0) ∧ w'.cell? ⟨W.heap.size + 1, 0, none⟩ = some (Value.int .i64 v1e) ∧ w'.cell? ⟨W.heap.size + 1, 1, none⟩ = some (Value.slice A1 n1 c1))
              (first | go_keep | exact ⟨bx0q0w19, bx0q1w19, bx1q0w19, bx1q1w19⟩ | exact ⟨bx0q0w20, bx0q1w20, bx1q0w20, bx1q1w20⟩ | exact ⟨bx0q0w21, bx0q1w21, bx1q0w21, bx1q1w21⟩)
              (first
              | (go_at_call 28
                 refine (toEventGraph_any v0e A0 n0 c0 x0 _ hs0 (rf0w18.below (B := w18.heap.size) (by first | exact Below.refl _ _ | exact (Below.refl _ _).drew | exact below_N (Below.refl _ _) _) (Nat.le_refl _))).mono ?_
                 rintro e w19 ⟨gh0, ogh0, rfl, hbw19', hgh0⟩
                 have hbw19 : Below w18.heap.size w18 w19 := ⟨hbw19'.os, hbw19'.tape, hbw19'.output, hbw19'.size, hbw19'.block⟩
                 have sw19 := hbw19.size
                 have hBw19 : Below W.heap.size W w19 := hBw18.trans (hbw19.mono (by first | omega | (simp <;> omega)))
                 have bx0q0w19 : w19.cell? ⟨W.heap.size, 0, none⟩ = some (Value.int .i64 v0e) := (hbw19.cell (p := ⟨W.heap.size, 0, none⟩) (by simp <;> omega)).trans bx0q0w18
                 have bx0q1w19 : w19.cell? ⟨W.heap.size, 1, none⟩ = some (Value.slice A0 n0 c0) := (hbw19.cell (p := ⟨W.heap.size, 1, none⟩) (by simp <;> omega)).trans bx0q1w18
                 have bx1q0w19 : w19.cell? ⟨W.heap.size + 1, 0, none⟩ = some (Value.int .i64 v1e) := (hbw19.cell (p := ⟨W.heap.size + 1, 0, none⟩) (by simp <;> omega)).trans bx1q0w18
                 have bx1q1w19 : w19.cell? ⟨W.heap.size + 1, 1, none⟩ = some (Value.slice A1 n1 c1) := (hbw19.cell (p := ⟨W.heap.size + 1, 1, none⟩) (by simp <;> omega)).trans bx1q1w18
                 have Sww19 := Sww18.below hbw19 (Nat.le_refl _)
                 have Sgw19 := Sgw18.below hbw19 (Nat.le_refl _)
                 have rf0w19 := hf0.below hBw19 (Nat.le_refl _)
                 have rf1w19 := hf1.below hBw19 (Nat.le_refl _)
                 have Sh0w19 := SR.of_row (lo := w18.heap.size) (hi := w19.heap.size) hgh0 ogh0 hgh0.lt)
              | (go_at_call 29
                 refine (toTimetable_any v1e A1 n1 c1 x1 _ hs1 (rf1w19.below (B := w19.heap.size) (by first | exact Below.refl _ _ | exact (Below.refl _ _).drew | exact below_N (Below.refl _ _) _) (Nat.le_refl _))).mono ?_
                 rintro e w20 ⟨gh1, ogh1, rfl, hbw20', hgh1⟩
                 have hbw20 : Below w19.heap.size w19 w20 := ⟨hbw20'.os, hbw20'.tape, hbw20'.output, hbw20'.size, hbw20'.block⟩
                 have sw20 := hbw20.size
                 have hBw20 : Below W.heap.size W w20 := hBw19.trans (hbw20.mono (by first | omega | (simp <;> omega)))
                 have bx0q0w20 : w20.cell? ⟨W.heap.size, 0, none⟩ = some (Value.int .i64 v0e) := (hbw20.cell (p := ⟨W.heap.size, 0, none⟩) (by simp <;> omega)).trans bx0q0w19
                 have bx0q1w20 : w20.cell? ⟨W.heap.size, 1, none⟩ = some (Value.slice A0 n0 c0) := (hbw20.cell (p := ⟨W.heap.size, 1, none⟩) (by simp <;> omega)).trans bx0q1w19
                 have bx1q0w20 : w20.cell? ⟨W.heap.size + 1, 0, none⟩ = some (Value.int .i64 v1e) := (hbw20.cell (p := ⟨W.heap.size + 1, 0, none⟩) (by simp <;> omega)).trans bx1q0w19
                 have bx1q1w20 : w20.cell? ⟨W.heap.size + 1, 1, none⟩ = some (Value.slice A1 n1 c1) := (hbw20.cell (p := ⟨W.heap.size + 1, 1, none⟩) (by simp <;> omega)).trans bx1q1w19
                 have Sww20 := Sww19.below hbw20 (Nat.le_refl _)
                 have Sgw20 := Sgw19.below hbw20 (Nat.le_refl _)
                 have Sh0w20 := Sh0w19.below hbw20 (Nat.le_refl _)
                 have rf0w20 := hf0.below hBw20 (Nat.le_refl _)
                 have rf1w20 := hf1.below hBw20 (Nat.le_refl _)
                 have Sh1w20 := SI.of_row (lo := w19.heap.size) (hi := w20.heap.size) hgh1 ogh1 hgh1.lt)
              | (go_at_call 48
                 refine (implTightPlaces_any v0e _ n0 _ x0 v1e _ n1 _ x1 _ hs0 hs1 (Sh0w20.rr.below (B := w20.heap.size) (by first | exact Below.refl _ _ | exact (Below.refl _ _).drew | exact below_N (Below.refl _ _) _) (Nat.le_refl _)) (Sh1w20.ri.below (B := w20.heap.size) (by first | exact Below.refl _ _ | exact (Below.refl _ _).drew | exact below_N (Below.refl _ _) _) (Nat.le_refl _))).mono ?_
                 rw [HN.out, HZ.out]
                 rintro e w21 ⟨Ah, ch, rfl, Shw21', hbw21'⟩
                 have hbw21 : Below w20.heap.size w20 w21 := ⟨hbw21'.os, hbw21'.tape, hbw21'.output, hbw21'.size, hbw21'.block⟩
                 have sw21 := hbw21.size
                 have hBw21 : Below W.heap.size W w21 := hBw20.trans (hbw21.mono (by first | omega | (simp <;> omega)))
                 have bx0q0w21 : w21.cell? ⟨W.heap.size, 0, none⟩ = some (Value.int .i64 v0e) := (hbw21.cell (p := ⟨W.heap.size, 0, none⟩) (by simp <;> omega)).trans bx0q0w20
                 have bx0q1w21 : w21.cell? ⟨W.heap.size, 1, none⟩ = some (Value.slice A0 n0 c0) := (hbw21.cell (p := ⟨W.heap.size, 1, none⟩) (by simp <;> omega)).trans bx0q1w20
                 have bx1q0w21 : w21.cell? ⟨W.heap.size + 1, 0, none⟩ = some (Value.int .i64 v1e) := (hbw21.cell (p := ⟨W.heap.size + 1, 0, none⟩) (by simp <;> omega)).trans bx1q0w20
                 have bx1q1w21 : w21.cell? ⟨W.heap.size + 1, 1, none⟩ = some (Value.slice A1 n1 c1) := (hbw21.cell (p := ⟨W.heap.size + 1, 1, none⟩) (by simp <;> omega)).trans bx1q1w20
                 have Sww21 := Sww20.below hbw21 (Nat.le_refl _)
                 have Sgw21 := Sgw20.below hbw21 (Nat.le_refl _)
                 have rf0w21 := hf0.below hBw21 (Nat.le_refl _)
                 have rf1w21 := hf1.below hBw21 (Nat.le_refl _)
                 have Shw21 : SI w21 w20.heap.size w21.heap.size Ah N _ := Shw21'))
            all_goals
              go_wp2_with fail
              refine (eqInt64S_true _ _ N _ _ _ _ hN Shw21.ri Sww21.ri).mono ?_
              rintro e w22 ⟨rfl, hbw22⟩
              have sw22 := hbw22.size
              have hBw22 : Below W.heap.size W w22 := hBw21.trans (hbw22.mono (by first | omega | (simp <;> omega)))
              have bx0q0w22 : w22.cell? ⟨W.heap.size, 0, none⟩ = some (Value.int .i64 v0e) := (hbw22.cell (p := ⟨W.heap.size, 0, none⟩) (by simp <;> omega)).trans bx0q0w21
              have bx0q1w22 : w22.cell? ⟨W.heap.size, 1, none⟩ = some (Value.slice A0 n0 c0) := (hbw22.cell (p := ⟨W.heap.size, 1, none⟩) (by simp <;> omega)).trans bx0q1w21
              have bx1q0w22 : w22.cell? ⟨W.heap.size + 1, 0, none⟩ = some (Value.int .i64 v1e) := (hbw22.cell (p := ⟨W.heap.size + 1, 0, none⟩) (by simp <;> omega)).trans bx1q0w21
              have bx1q1w22 : w22.cell? ⟨W.heap.size + 1, 1, none⟩ = some (Value.slice A1 n1 c1) := (hbw22.cell (p := ⟨W.heap.size + 1, 1, none⟩) (by simp <;> omega)).trans bx1q1w21
              have Sww22 := Sww21.below hbw22 (Nat.le_refl _)
              have Sgw22 := Sgw21.below hbw22 (Nat.le_refl _)
              have Shw22 := Shw21.below hbw22 (Nat.le_refl _)
              have rf0w22 := hf0.below hBw22 (Nat.le_refl _)
              have rf1w22 := hf1.below hBw22 (Nat.le_refl _)
              go_wp2_with fail
              refine (heldInt64S_any _ N _ (1) _ hN (by omega) (by omega) Sgw22.ri).mono ?_
              rintro e w23 ⟨rfl, hbw23⟩
              have sw23 := hbw23.size
              have hBw23 : Below W.heap.size W w23 := hBw22.trans (hbw23.mono (by first | omega | (simp <;> omega)))
              have bx0q0w23 : w23.cell? ⟨W.heap.size, 0, none⟩ = some (Value.int .i64 v0e) := (hbw23.cell (p := ⟨W.heap.size, 0, none⟩) (by simp <;> omega)).trans bx0q0w22
              have bx0q1w23 : w23.cell? ⟨W.heap.size, 1, none⟩ = some (Value.slice A0 n0 c0) := (hbw23.cell (p := ⟨W.heap.size, 1, none⟩) (by simp <;> omega)).trans bx0q1w22
              have bx1q0w23 : w23.cell? ⟨W.heap.size + 1, 0, none⟩ = some (Value.int .i64 v1e) := (hbw23.cell (p := ⟨W.heap.size + 1, 0, none⟩) (by simp <;> omega)).trans bx1q0w22
              have bx1q1w23 : w23.cell? ⟨W.heap.size + 1, 1, none⟩ = some (Value.slice A1 n1 c1) := (hbw23.cell (p := ⟨W.heap.size + 1, 1, none⟩) (by simp <;> omega)).trans bx1q1w22
              have Sww23 := Sww22.below hbw23 (Nat.le_refl _)
              have Sgw23 := Sgw22.below hbw23 (Nat.le_refl _)
              have Shw23 := Shw22.below hbw23 (Nat.le_refl _)
              have rf0w23 := hf0.below hBw23 (Nat.le_refl _)
              have rf1w23 := hf1.below hBw23 (Nat.le_refl _)
              go_wp2
              go_ret
              exact ⟨rfl, hBw23⟩

theorem own : ownKnob Try.prog.godebug = none := by kernel_rfl
theorem laidOut : laidOutB Try.prog = true := by kernel_rfl

set_option maxRecDepth 100000 in
theorem lifted (os : Os) (started : os.Started) (H : Type) (enc : TypeId × Value → H) :
    ReturnsInHanded {} Try.checked os 9 .any (Rows.fnExactTightPlacesSpec.pre6 enc Try.prog Try.f9 Rows.fnExactTightPlacesRow.domain false) (Rows.fnExactTightPlacesSpec.post enc Try.prog Try.f9 false true false false) := by
  refine returnsInHanded_of_change (C := Try.checked) own started (by kernel_rfl) Try.func9
    (ChangeSpec.witness6 (enc := enc) (C := Try.checked) false ⟨#[], #[.agg #[.int .i64 0, .slice none 0 0], .agg #[.int .i64 0, .slice none 0 0]], []⟩ 8 (by kernel_rfl) (by kernel_rfl) (by kernel_rfl) (by kernel_rfl)) ?_
  intro W base args ds gs before hval0 hW hcnd _
  have hval : ∀ (j : Nat) t v, Try.f9.params[j]? = some t → args[j]? = some v → Value.okWide Try.prog W .any base t v := hval0
  have hW' := hW
  obtain ⟨p, q, hA0, hV, rfl, hfz, hnd⟩ := hW
  have hA : DataW.TrodAll enc Try.prog W 0 (fun _ => true) true Try.f9.params.toList args.toList ds p := hA0
  rw [Try.params9] at hA hval
  obtain ⟨v0, vs0, d0, ds0, p0, q0, hargs, rfl, rfl, h0, r0⟩ := trodAll_cons hA
  obtain ⟨v1, vs1, d1, ds1, p1, q1, rfl, rfl, rfl, h1, r1⟩ := trodAll_cons r0
  obtain ⟨rfl, rfl, rfl⟩ := trodAll_nil r1
  obtain rfl : args = #[v0, v1] := by cases args; simp_all
  obtain ⟨rfl, rfl⟩ := trodVars_none hV
  clear hA0 hval0
  obtain ⟨a0e, A0, n0, c0, x0, rfl, hn0, hf0⟩ := open_graph Try.underlying43 Try.underlying2 Try.underlying41 Try.underlying115 (by kernel_rfl) (by kernel_rfl) (by kernel_rfl) (by kernel_rfl) rfl (hval 0 _ v0 rfl rfl) h0
  obtain ⟨a1e, A1, n1, c1, x1, rfl, hn1, hf1⟩ := open_table Try.underlying45 Try.underlying2 Try.underlying24 Try.underlying2 (by kernel_rfl) (by kernel_rfl) (by kernel_rfl) (hval 1 _ v1 rfl rfl) h1
  simp only [maxLen_is] at hn0 hn1
  refine (walk a0e A0 n0 c0 x0 a1e A1 n1 c1 x1 W hn0 hn1 hf0 hf1).mono fun e W' ⟨he, hb⟩ => ?_
  subst he
  exact ⟨_, rfl, post_law laidOut (by kernel_rfl) (by kernel_rfl) Try.underlying4 rfl rfl rfl rfl hW' hb⟩

theorem proved : Rows.FnExactTightPlacesSaid :=
  OpenClaim.holds_of_wide 9 Try.f9 rfl rfl rfl rfl rfl rfl rfl ⟨rfl, rfl, rfl, rfl, rfl⟩ rfl rfl rfl rfl rfl (by kernel_rfl) Try.func9 (by kernel_rfl)
    (of_decide_eq_true (by kernel_rfl)) (by unfold Func.isWrapper; rw [if_neg (of_decide_eq_false (by kernel_rfl))]; exact ⟨rfl, rfl⟩)
    (fun os started H enc _ => lifted os started H enc)
end Go.Proofs.Ytfhpahnflnahkaa.lawTightPlaces

