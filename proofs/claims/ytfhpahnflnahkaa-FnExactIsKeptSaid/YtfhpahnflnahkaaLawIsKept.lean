/- FnExactIsKept returns true at every input and leaves its arguments as they were. -/
import Derived.Test.YtfhpahnflnahkaaKept
import Derived.Test.YtfhpahnflnahkaaToEventGraph
import Derived.Test.YtfhpahnflnahkaaToTimetable
import Derived.Test.YtfhpahnflnahkaaRow
import Derived.Deep.RegionHeld3
namespace Go.Proofs.Ytfhpahnflnahkaa.lawIsKept
open Go.ChangeShapes Go.WideShapes Go.ChangeAt Go.RowKit

set_option maxRecDepth 100000 in
set_option maxHeartbeats 2000000 in
theorem walk (v0e : Int) (A0 : Option Addr) (n0 c0 : Nat) (x0 : Nat → Nat → Int) (v1e : Int) (A1 : Option Addr) (n1 c1 : Nat) (x1 : Nat → Int) (W : World) (hn0 : n0 ≤ 9223372036854775807) (hn1 : n1 ≤ 9223372036854775807) (hf0 : RR W 4 A0 n0 x0) (hf1 : RI W A1 n1 x1) :
    Calls Try.prog 4 #[.agg #[.int .i64 v0e, .slice A0 n0 c0], .agg #[.int .i64 v1e, .slice A1 n1 c1]] W fun e w' => e = .returned (.bool true) ∧ Below W.heap.size W w' := by
  have hb0 : Below W.heap.size W ((W.alloc (Obj.cells #[Value.int .i64 v0e, Value.slice A0 n0 c0] 43)).alloc (Obj.cells #[Value.int .i64 v1e, Value.slice A1 n1 c1] 45)) := ((Below.refl W.heap.size W).alloc (Nat.le_refl _) _).alloc (by simp <;> omega) _
  have bx0q0w0 : ((W.alloc (Obj.cells #[Value.int .i64 v0e, Value.slice A0 n0 c0] 43)).alloc (Obj.cells #[Value.int .i64 v1e, Value.slice A1 n1 c1] 45)).cell? ⟨W.heap.size, 0, none⟩ = some (Value.int .i64 v0e) := c2a W _ _ _ _ 0
  have bx0q1w0 : ((W.alloc (Obj.cells #[Value.int .i64 v0e, Value.slice A0 n0 c0] 43)).alloc (Obj.cells #[Value.int .i64 v1e, Value.slice A1 n1 c1] 45)).cell? ⟨W.heap.size, 1, none⟩ = some (Value.slice A0 n0 c0) := c2a W _ _ _ _ 1
  have bx1q0w0 : ((W.alloc (Obj.cells #[Value.int .i64 v0e, Value.slice A0 n0 c0] 43)).alloc (Obj.cells #[Value.int .i64 v1e, Value.slice A1 n1 c1] 45)).cell? ⟨W.heap.size + 1, 0, none⟩ = some (Value.int .i64 v1e) := c2b W _ _ _ _ 0
  have bx1q1w0 : ((W.alloc (Obj.cells #[Value.int .i64 v0e, Value.slice A0 n0 c0] 43)).alloc (Obj.cells #[Value.int .i64 v1e, Value.slice A1 n1 c1] 45)).cell? ⟨W.heap.size + 1, 1, none⟩ = some (Value.slice A1 n1 c1) := c2b W _ _ _ _ 1
  have rf0w0 := hf0.below hb0 (Nat.le_refl _)
  have rf1w0 := hf1.below hb0 (Nat.le_refl _)
  have s0 : W.heap.size ≤ ((W.alloc (Obj.cells #[Value.int .i64 v0e, Value.slice A0 n0 c0] 43)).alloc (Obj.cells #[Value.int .i64 v1e, Value.slice A1 n1 c1] 45)).heap.size := by simp <;> omega
  by_cases t0 : 1048576 < ((n0 : Nat) : Int)
  case pos =>
    go_enter Try.func4, Try.ntmps4
    go_wp2_with fail
    refine (szEventGraph_any v0e A0 n0 c0 _ _ hn0 (by omega) (by omega)).mono ?_
    rintro e u0 ⟨rfl, hbu0⟩
    have su0 := hbu0.size
    simp only [World.size_alloc] at su0
    have hBu0 : Below W.heap.size W u0 := hb0.trans (hbu0.mono (by simp <;> omega))
    have bx0q0u0 := (hbu0.cell (p := ⟨W.heap.size, 0, none⟩) (by simp <;> omega)).trans bx0q0w0
    have bx0q1u0 := (hbu0.cell (p := ⟨W.heap.size, 1, none⟩) (by simp <;> omega)).trans bx0q1w0
    have bx1q0u0 := (hbu0.cell (p := ⟨W.heap.size + 1, 0, none⟩) (by simp <;> omega)).trans bx1q0w0
    have bx1q1u0 := (hbu0.cell (p := ⟨W.heap.size + 1, 1, none⟩) (by simp <;> omega)).trans bx1q1w0
    have rf0u0 := rf0w0.below hbu0 (Nat.le_refl _)
    have rf1u0 := rf1w0.below hbu0 (Nat.le_refl _)
    rw [show sz1 (1048576) (n0 : Nat) = -1 by unfold sz1; rw [if_pos (by omega)]]
    go_wp2
    go_ret
    exact ⟨rfl, hBu0⟩
  case neg =>
    by_cases t1 : 1048576 - (n0 : Nat) < ((n1 : Nat) : Int)
    case pos =>
      go_enter Try.func4, Try.ntmps4
      go_wp2_with fail
      refine (szEventGraph_any v0e A0 n0 c0 _ _ hn0 (by omega) (by omega)).mono ?_
      rintro e u0 ⟨rfl, hbu0⟩
      have su0 := hbu0.size
      simp only [World.size_alloc] at su0
      have hBu0 : Below W.heap.size W u0 := hb0.trans (hbu0.mono (by simp <;> omega))
      have bx0q0u0 := (hbu0.cell (p := ⟨W.heap.size, 0, none⟩) (by simp <;> omega)).trans bx0q0w0
      have bx0q1u0 := (hbu0.cell (p := ⟨W.heap.size, 1, none⟩) (by simp <;> omega)).trans bx0q1w0
      have bx1q0u0 := (hbu0.cell (p := ⟨W.heap.size + 1, 0, none⟩) (by simp <;> omega)).trans bx1q0w0
      have bx1q1u0 := (hbu0.cell (p := ⟨W.heap.size + 1, 1, none⟩) (by simp <;> omega)).trans bx1q1w0
      have rf0u0 := rf0w0.below hbu0 (Nat.le_refl _)
      have rf1u0 := rf1w0.below hbu0 (Nat.le_refl _)
      rw [show sz1 (1048576) (n0 : Nat) = 1048576 - (n0 : Nat) by unfold sz1; rw [if_neg (by omega)]]
      go_wp2_with fail
      refine (szTimetable_any v1e A1 n1 c1 _ _ hn1 (by omega) (by omega)).mono ?_
      rintro e u1 ⟨rfl, hbu1⟩
      have su1 := hbu1.size
      have hBu1 : Below W.heap.size W u1 := hBu0.trans (hbu1.mono (by omega))
      have bx0q0u1 := (hbu1.cell (p := ⟨W.heap.size, 0, none⟩) (by simp <;> omega)).trans bx0q0u0
      have bx0q1u1 := (hbu1.cell (p := ⟨W.heap.size, 1, none⟩) (by simp <;> omega)).trans bx0q1u0
      have bx1q0u1 := (hbu1.cell (p := ⟨W.heap.size + 1, 0, none⟩) (by simp <;> omega)).trans bx1q0u0
      have bx1q1u1 := (hbu1.cell (p := ⟨W.heap.size + 1, 1, none⟩) (by simp <;> omega)).trans bx1q1u0
      have rf0u1 := rf0u0.below hbu1 (Nat.le_refl _)
      have rf1u1 := rf1u0.below hbu1 (Nat.le_refl _)
      rw [show sz1 (1048576 - (n0 : Nat)) (n1 : Nat) = -1 by unfold sz1; rw [if_pos (by omega)]]
      go_wp2
      go_ret
      exact ⟨rfl, hBu1⟩
    case neg =>
      have hs0 : n0 ≤ 1048576 := by omega
      have hs1 : n1 ≤ 1048576 := by omega
      go_enter Try.func4, Try.ntmps4
      go_wp2_with fail
      refine (szEventGraph_any v0e A0 n0 c0 _ _ hn0 (by omega) (by omega)).mono ?_
      rintro e u0 ⟨rfl, hbu0⟩
      have su0 := hbu0.size
      simp only [World.size_alloc] at su0
      have hBu0 : Below W.heap.size W u0 := hb0.trans (hbu0.mono (by simp <;> omega))
      have bx0q0u0 := (hbu0.cell (p := ⟨W.heap.size, 0, none⟩) (by simp <;> omega)).trans bx0q0w0
      have bx0q1u0 := (hbu0.cell (p := ⟨W.heap.size, 1, none⟩) (by simp <;> omega)).trans bx0q1w0
      have bx1q0u0 := (hbu0.cell (p := ⟨W.heap.size + 1, 0, none⟩) (by simp <;> omega)).trans bx1q0w0
      have bx1q1u0 := (hbu0.cell (p := ⟨W.heap.size + 1, 1, none⟩) (by simp <;> omega)).trans bx1q1w0
      have rf0u0 := rf0w0.below hbu0 (Nat.le_refl _)
      have rf1u0 := rf1w0.below hbu0 (Nat.le_refl _)
      rw [show sz1 (1048576) (n0 : Nat) = 1048576 - (n0 : Nat) by unfold sz1; rw [if_neg (by omega)]]
      go_wp2_with fail
      refine (szTimetable_any v1e A1 n1 c1 _ _ hn1 (by omega) (by omega)).mono ?_
      rintro e u1 ⟨rfl, hbu1⟩
      have su1 := hbu1.size
      have hBu1 : Below W.heap.size W u1 := hBu0.trans (hbu1.mono (by omega))
      have bx0q0u1 := (hbu1.cell (p := ⟨W.heap.size, 0, none⟩) (by simp <;> omega)).trans bx0q0u0
      have bx0q1u1 := (hbu1.cell (p := ⟨W.heap.size, 1, none⟩) (by simp <;> omega)).trans bx0q1u0
      have bx1q0u1 := (hbu1.cell (p := ⟨W.heap.size + 1, 0, none⟩) (by simp <;> omega)).trans bx1q0u0
      have bx1q1u1 := (hbu1.cell (p := ⟨W.heap.size + 1, 1, none⟩) (by simp <;> omega)).trans bx1q1u0
      have rf0u1 := rf0u0.below hbu1 (Nat.le_refl _)
      have rf1u1 := rf1u0.below hbu1 (Nat.le_refl _)
      rw [show sz1 (1048576 - (n0 : Nat)) (n1 : Nat) = 1048576 - (n0 : Nat) - (n1 : Nat) by unfold sz1; rw [if_neg (by omega)]]
      go_wp2_with fail
      go_region_held3 (fun w' => w'.cell? ⟨W.heap.size, 0, none⟩ = some (Value.int .i64 v0e) ∧ w'.cell? ⟨W.heap.size, 1, none⟩ = some (Value.slice A0 n0 c0) ∧ w'.cell? ⟨W.heap.size + 1, 0, none⟩ = some (Value.int .i64 v1e) ∧ w'.cell? ⟨W.heap.size + 1, 1, none⟩ = some (Value.slice A1 n1 c1))
        (first | go_keep | exact ⟨bx0q0w1, bx0q1w1, bx1q0w1, bx1q1w1⟩ | exact ⟨bx0q0w2, bx0q1w2, bx1q0w2, bx1q1w2⟩ | exact ⟨bx0q0w3, bx0q1w3, bx1q0w3, bx1q1w3⟩)
        (first
        | (go_at_call 28
           refine (toEventGraph_any v0e A0 n0 c0 x0 _ hs0 (rf0u1.below (B := u1.heap.size) (by first | exact Below.refl _ _ | exact (Below.refl _ _).drew | exact below_N (Below.refl _ _) _) (Nat.le_refl _))).mono ?_
           rintro e w1 ⟨gs0, ogs0, rfl, hbw1', hgs0⟩
           have hbw1 : Below u1.heap.size u1 w1 := ⟨hbw1'.os, hbw1'.tape, hbw1'.output, hbw1'.size, hbw1'.block⟩
           have sw1 := hbw1.size
           have hBw1 : Below W.heap.size W w1 := hBu1.trans (hbw1.mono (by omega))
           have bx0q0w1 := (hbw1.cell (p := ⟨W.heap.size, 0, none⟩) (by simp <;> omega)).trans bx0q0u1
           have bx0q1w1 := (hbw1.cell (p := ⟨W.heap.size, 1, none⟩) (by simp <;> omega)).trans bx0q1u1
           have bx1q0w1 := (hbw1.cell (p := ⟨W.heap.size + 1, 0, none⟩) (by simp <;> omega)).trans bx1q0u1
           have bx1q1w1 := (hbw1.cell (p := ⟨W.heap.size + 1, 1, none⟩) (by simp <;> omega)).trans bx1q1u1
           have rf0w1 := rf0u1.below hbw1 (Nat.le_refl _)
           have rf1w1 := rf1u1.below hbw1 (Nat.le_refl _)
           have rgs0w1 := RR.of_row hgs0)
        | (go_at_call 29
           refine (toTimetable_any v1e A1 n1 c1 x1 _ hs1 (rf1w1.below (B := w1.heap.size) (by first | exact Below.refl _ _ | exact (Below.refl _ _).drew | exact below_N (Below.refl _ _) _) (Nat.le_refl _))).mono ?_
           rintro e w2 ⟨gs1, ogs1, rfl, hbw2', hgs1⟩
           have hbw2 : Below w1.heap.size w1 w2 := ⟨hbw2'.os, hbw2'.tape, hbw2'.output, hbw2'.size, hbw2'.block⟩
           have sw2 := hbw2.size
           have hBw2 : Below W.heap.size W w2 := hBw1.trans (hbw2.mono (by omega))
           have bx0q0w2 := (hbw2.cell (p := ⟨W.heap.size, 0, none⟩) (by simp <;> omega)).trans bx0q0w1
           have bx0q1w2 := (hbw2.cell (p := ⟨W.heap.size, 1, none⟩) (by simp <;> omega)).trans bx0q1w1
           have bx1q0w2 := (hbw2.cell (p := ⟨W.heap.size + 1, 0, none⟩) (by simp <;> omega)).trans bx1q0w1
           have bx1q1w2 := (hbw2.cell (p := ⟨W.heap.size + 1, 1, none⟩) (by simp <;> omega)).trans bx1q1w1
           have rf0w2 := rf0w1.below hbw2 (Nat.le_refl _)
           have rf1w2 := rf1w1.below hbw2 (Nat.le_refl _)
           have rgs0w2 := rgs0w1.below hbw2 (Nat.le_refl _)
           have rgs1w2 := RI.of_row hgs1)
        | (go_at_call 27
           refine (specIsKept_any v0e _ n0 _ x0 v1e _ n1 _ x1 _ hs0 hs1 (rgs0w2.below (B := w2.heap.size) (by first | exact Below.refl _ _ | exact (Below.refl _ _).drew | exact below_N (Below.refl _ _) _) (Nat.le_refl _)) (rgs1w2.below (B := w2.heap.size) (by first | exact Below.refl _ _ | exact (Below.refl _ _).drew | exact below_N (Below.refl _ _) _) (Nat.le_refl _))).mono ?_
           rintro e w3 ⟨rfl, hbw3'⟩
           have hbw3 : Below w2.heap.size w2 w3 := ⟨hbw3'.os, hbw3'.tape, hbw3'.output, hbw3'.size, hbw3'.block⟩
           have sw3 := hbw3.size
           have hBw3 : Below W.heap.size W w3 := hBw2.trans (hbw3.mono (by omega))
           have bx0q0w3 := (hbw3.cell (p := ⟨W.heap.size, 0, none⟩) (by simp <;> omega)).trans bx0q0w2
           have bx0q1w3 := (hbw3.cell (p := ⟨W.heap.size, 1, none⟩) (by simp <;> omega)).trans bx0q1w2
           have bx1q0w3 := (hbw3.cell (p := ⟨W.heap.size + 1, 0, none⟩) (by simp <;> omega)).trans bx1q0w2
           have bx1q1w3 := (hbw3.cell (p := ⟨W.heap.size + 1, 1, none⟩) (by simp <;> omega)).trans bx1q1w2
           have rf0w3 := rf0w2.below hbw3 (Nat.le_refl _)
           have rf1w3 := rf1w2.below hbw3 (Nat.le_refl _)))
      all_goals
        go_wp2_with fail
        refine (toEventGraph_any v0e A0 n0 c0 x0 _ hs0 rf0w3).mono ?_
        rintro e w4 ⟨gx0, ogx0, rfl, hbw4, hgx0⟩
        have sw4 := hbw4.size
        have hBw4 : Below W.heap.size W w4 := hBw3.trans (hbw4.mono (by omega))
        have bx0q0w4 := (hbw4.cell (p := ⟨W.heap.size, 0, none⟩) (by simp <;> omega)).trans bx0q0w3
        have bx0q1w4 := (hbw4.cell (p := ⟨W.heap.size, 1, none⟩) (by simp <;> omega)).trans bx0q1w3
        have bx1q0w4 := (hbw4.cell (p := ⟨W.heap.size + 1, 0, none⟩) (by simp <;> omega)).trans bx1q0w3
        have bx1q1w4 := (hbw4.cell (p := ⟨W.heap.size + 1, 1, none⟩) (by simp <;> omega)).trans bx1q1w3
        have rf0w4 := rf0w3.below hbw4 (Nat.le_refl _)
        have rf1w4 := rf1w3.below hbw4 (Nat.le_refl _)
        have rgx0w4 := RR.of_row hgx0
        have hbaw4 : Below w4.heap.size w4 (w4.alloc (Obj.cells #[Value.int .i64 v0e, Value.slice (some ⟨gx0, 0, none⟩) n0 n0] 52)) := (Below.refl _ _).alloc (Nat.le_refl _) _
        have saw4 : w4.heap.size + 1 = (w4.alloc (Obj.cells #[Value.int .i64 v0e, Value.slice (some ⟨gx0, 0, none⟩) n0 n0] 52)).heap.size := by simp
        have hBaw4 : Below W.heap.size W (w4.alloc (Obj.cells #[Value.int .i64 v0e, Value.slice (some ⟨gx0, 0, none⟩) n0 n0] 52)) := hBw4.trans (hbaw4.mono (by omega))
        have bx0q0aw4 := (hbaw4.cell (p := ⟨W.heap.size, 0, none⟩) (by simp <;> omega)).trans bx0q0w4
        have bx0q1aw4 := (hbaw4.cell (p := ⟨W.heap.size, 1, none⟩) (by simp <;> omega)).trans bx0q1w4
        have bx1q0aw4 := (hbaw4.cell (p := ⟨W.heap.size + 1, 0, none⟩) (by simp <;> omega)).trans bx1q0w4
        have bx1q1aw4 := (hbaw4.cell (p := ⟨W.heap.size + 1, 1, none⟩) (by simp <;> omega)).trans bx1q1w4
        have nx0q0aw4 : (w4.alloc (Obj.cells #[Value.int .i64 v0e, Value.slice (some ⟨gx0, 0, none⟩) n0 n0] 52)).cell? ⟨w4.heap.size, 0, none⟩ = some (Value.int .i64 v0e) := c1a _ _ _ 0
        have nx0q1aw4 : (w4.alloc (Obj.cells #[Value.int .i64 v0e, Value.slice (some ⟨gx0, 0, none⟩) n0 n0] 52)).cell? ⟨w4.heap.size, 1, none⟩ = some (Value.slice (some ⟨gx0, 0, none⟩) n0 n0) := c1a _ _ _ 1
        have rf0aw4 := rf0w4.below hbaw4 (Nat.le_refl _)
        have rf1aw4 := rf1w4.below hbaw4 (Nat.le_refl _)
        have rgx0aw4 := rgx0w4.below hbaw4 (Nat.le_refl _)
        go_wp2_with fail
        refine (toTimetable_any v1e A1 n1 c1 x1 _ hs1 rf1aw4).mono ?_
        rintro e w5 ⟨gx1, ogx1, rfl, hbw5, hgx1⟩
        have sw5 := hbw5.size
        have hBw5 : Below W.heap.size W w5 := hBaw4.trans (hbw5.mono (by omega))
        have bx0q0w5 := (hbw5.cell (p := ⟨W.heap.size, 0, none⟩) (by simp <;> omega)).trans bx0q0aw4
        have bx0q1w5 := (hbw5.cell (p := ⟨W.heap.size, 1, none⟩) (by simp <;> omega)).trans bx0q1aw4
        have bx1q0w5 := (hbw5.cell (p := ⟨W.heap.size + 1, 0, none⟩) (by simp <;> omega)).trans bx1q0aw4
        have bx1q1w5 := (hbw5.cell (p := ⟨W.heap.size + 1, 1, none⟩) (by simp <;> omega)).trans bx1q1aw4
        have nx0q0w5 : w5.cell? ⟨w4.heap.size, 0, none⟩ = some (Value.int .i64 v0e) := (hbw5.cell (p := ⟨w4.heap.size, 0, none⟩) (by simp <;> omega)).trans nx0q0aw4
        have nx0q1w5 : w5.cell? ⟨w4.heap.size, 1, none⟩ = some (Value.slice (some ⟨gx0, 0, none⟩) n0 n0) := (hbw5.cell (p := ⟨w4.heap.size, 1, none⟩) (by simp <;> omega)).trans nx0q1aw4
        have rf0w5 := rf0aw4.below hbw5 (Nat.le_refl _)
        have rf1w5 := rf1aw4.below hbw5 (Nat.le_refl _)
        have rgx0w5 := rgx0aw4.below hbw5 (Nat.le_refl _)
        have rgx1w5 := RI.of_row hgx1
        have hbaw5 : Below w5.heap.size w5 (w5.alloc (Obj.cells #[Value.int .i64 v1e, Value.slice (some ⟨gx1, 0, none⟩) n1 n1] 54)) := (Below.refl _ _).alloc (Nat.le_refl _) _
        have saw5 : w5.heap.size + 1 = (w5.alloc (Obj.cells #[Value.int .i64 v1e, Value.slice (some ⟨gx1, 0, none⟩) n1 n1] 54)).heap.size := by simp
        have hBaw5 : Below W.heap.size W (w5.alloc (Obj.cells #[Value.int .i64 v1e, Value.slice (some ⟨gx1, 0, none⟩) n1 n1] 54)) := hBw5.trans (hbaw5.mono (by omega))
        have bx0q0aw5 := (hbaw5.cell (p := ⟨W.heap.size, 0, none⟩) (by simp <;> omega)).trans bx0q0w5
        have bx0q1aw5 := (hbaw5.cell (p := ⟨W.heap.size, 1, none⟩) (by simp <;> omega)).trans bx0q1w5
        have bx1q0aw5 := (hbaw5.cell (p := ⟨W.heap.size + 1, 0, none⟩) (by simp <;> omega)).trans bx1q0w5
        have bx1q1aw5 := (hbaw5.cell (p := ⟨W.heap.size + 1, 1, none⟩) (by simp <;> omega)).trans bx1q1w5
        have nx0q0aw5 := (hbaw5.cell (p := ⟨w4.heap.size, 0, none⟩) (by simp <;> omega)).trans nx0q0w5
        have nx0q1aw5 := (hbaw5.cell (p := ⟨w4.heap.size, 1, none⟩) (by simp <;> omega)).trans nx0q1w5
        have nx1q0aw5 : (w5.alloc (Obj.cells #[Value.int .i64 v1e, Value.slice (some ⟨gx1, 0, none⟩) n1 n1] 54)).cell? ⟨w5.heap.size, 0, none⟩ = some (Value.int .i64 v1e) := c1a _ _ _ 0
        have nx1q1aw5 : (w5.alloc (Obj.cells #[Value.int .i64 v1e, Value.slice (some ⟨gx1, 0, none⟩) n1 n1] 54)).cell? ⟨w5.heap.size, 1, none⟩ = some (Value.slice (some ⟨gx1, 0, none⟩) n1 n1) := c1a _ _ _ 1
        have rf0aw5 := rf0w5.below hbaw5 (Nat.le_refl _)
        have rf1aw5 := rf1w5.below hbaw5 (Nat.le_refl _)
        have rgx0aw5 := rgx0w5.below hbaw5 (Nat.le_refl _)
        have rgx1aw5 := rgx1w5.below hbaw5 (Nat.le_refl _)
        go_wp2_with fail
        refine (implIsKept_any v0e _ n0 _ x0 v1e _ n1 _ x1 _ hs0 hs1 rgx0aw5 rgx1aw5).mono ?_
        rintro e w6 ⟨rfl, hbw6⟩
        have sw6 := hbw6.size
        have hBw6 : Below W.heap.size W w6 := hBaw5.trans (hbw6.mono (by omega))
        have bx0q0w6 := (hbw6.cell (p := ⟨W.heap.size, 0, none⟩) (by simp <;> omega)).trans bx0q0aw5
        have bx0q1w6 := (hbw6.cell (p := ⟨W.heap.size, 1, none⟩) (by simp <;> omega)).trans bx0q1aw5
        have bx1q0w6 := (hbw6.cell (p := ⟨W.heap.size + 1, 0, none⟩) (by simp <;> omega)).trans bx1q0aw5
        have bx1q1w6 := (hbw6.cell (p := ⟨W.heap.size + 1, 1, none⟩) (by simp <;> omega)).trans bx1q1aw5
        have nx0q0w6 : w6.cell? ⟨w4.heap.size, 0, none⟩ = some (Value.int .i64 v0e) := (hbw6.cell (p := ⟨w4.heap.size, 0, none⟩) (by simp <;> omega)).trans nx0q0aw5
        have nx0q1w6 : w6.cell? ⟨w4.heap.size, 1, none⟩ = some (Value.slice (some ⟨gx0, 0, none⟩) n0 n0) := (hbw6.cell (p := ⟨w4.heap.size, 1, none⟩) (by simp <;> omega)).trans nx0q1aw5
        have nx1q0w6 : w6.cell? ⟨w5.heap.size, 0, none⟩ = some (Value.int .i64 v1e) := (hbw6.cell (p := ⟨w5.heap.size, 0, none⟩) (by simp <;> omega)).trans nx1q0aw5
        have nx1q1w6 : w6.cell? ⟨w5.heap.size, 1, none⟩ = some (Value.slice (some ⟨gx1, 0, none⟩) n1 n1) := (hbw6.cell (p := ⟨w5.heap.size, 1, none⟩) (by simp <;> omega)).trans nx1q1aw5
        have rf0w6 := rf0aw5.below hbw6 (Nat.le_refl _)
        have rf1w6 := rf1aw5.below hbw6 (Nat.le_refl _)
        have rgx0w6 := rgx0aw5.below hbw6 (Nat.le_refl _)
        have rgx1w6 := rgx1aw5.below hbw6 (Nat.le_refl _)
        go_wp2_with fail
        go_region_held3 (fun w' => w'.cell? ⟨W.heap.size, 0, none⟩ = some (Value.int .i64 v0e) ∧ w'.cell? ⟨W.heap.size, 1, none⟩ = some (Value.slice A0 n0 c0) ∧ w'.cell? ⟨w4.heap.size, 0, none⟩ = some (Value.int .i64 v0e) ∧ w'.cell? ⟨w4.heap.size, 1, none⟩ = some (Value.slice (some ⟨gx0, 0, none⟩) n0 n0))
          (first | go_keep | exact ⟨bx0q0w7, bx0q1w7, nx0q0w7, nx0q1w7⟩)
          (first
          | (go_at_call 28
             refine (toEventGraph_any v0e A0 n0 c0 x0 _ hs0 (rf0w6.below (B := w6.heap.size) (by first | exact Below.refl _ _ | exact (Below.refl _ _).drew | exact below_N (Below.refl _ _) _) (Nat.le_refl _))).mono ?_
             rintro e w7 ⟨gy0, ogy0, rfl, hbw7', hgy0⟩
             have hbw7 : Below w6.heap.size w6 w7 := ⟨hbw7'.os, hbw7'.tape, hbw7'.output, hbw7'.size, hbw7'.block⟩
             have sw7 := hbw7.size
             have hBw7 : Below W.heap.size W w7 := hBw6.trans (hbw7.mono (by omega))
             have bx0q0w7 := (hbw7.cell (p := ⟨W.heap.size, 0, none⟩) (by simp <;> omega)).trans bx0q0w6
             have bx0q1w7 := (hbw7.cell (p := ⟨W.heap.size, 1, none⟩) (by simp <;> omega)).trans bx0q1w6
             have bx1q0w7 := (hbw7.cell (p := ⟨W.heap.size + 1, 0, none⟩) (by simp <;> omega)).trans bx1q0w6
             have bx1q1w7 := (hbw7.cell (p := ⟨W.heap.size + 1, 1, none⟩) (by simp <;> omega)).trans bx1q1w6
             have nx0q0w7 : w7.cell? ⟨w4.heap.size, 0, none⟩ = some (Value.int .i64 v0e) := (hbw7.cell (p := ⟨w4.heap.size, 0, none⟩) (by simp <;> omega)).trans nx0q0w6
             have nx0q1w7 : w7.cell? ⟨w4.heap.size, 1, none⟩ = some (Value.slice (some ⟨gx0, 0, none⟩) n0 n0) := (hbw7.cell (p := ⟨w4.heap.size, 1, none⟩) (by simp <;> omega)).trans nx0q1w6
             have nx1q0w7 : w7.cell? ⟨w5.heap.size, 0, none⟩ = some (Value.int .i64 v1e) := (hbw7.cell (p := ⟨w5.heap.size, 0, none⟩) (by simp <;> omega)).trans nx1q0w6
             have nx1q1w7 : w7.cell? ⟨w5.heap.size, 1, none⟩ = some (Value.slice (some ⟨gx1, 0, none⟩) n1 n1) := (hbw7.cell (p := ⟨w5.heap.size, 1, none⟩) (by simp <;> omega)).trans nx1q1w6
             have rf0w7 := rf0w6.below hbw7 (Nat.le_refl _)
             have rf1w7 := rf1w6.below hbw7 (Nat.le_refl _)
             have rgx0w7 := rgx0w6.below hbw7 (Nat.le_refl _)
             have rgx1w7 := rgx1w6.below hbw7 (Nat.le_refl _)
             have rgy0w7 := RR.of_row hgy0)
          | (go_at_call 31
             refine (eqEventGraph_true v0e _ n0 _ x0 _ hs0 (rgx0w7.below (B := w7.heap.size) (by first | exact Below.refl _ _ | exact (Below.refl _ _).drew | exact below_N (Below.refl _ _) _) (Nat.le_refl _)) _ _ (rgy0w7.below (B := w7.heap.size) (by first | exact Below.refl _ _ | exact (Below.refl _ _).drew | exact below_N (Below.refl _ _) _) (Nat.le_refl _))).mono ?_
             rintro e w8 ⟨rfl, hbw8'⟩
             have hbw8 : Below w7.heap.size w7 w8 := ⟨hbw8'.os, hbw8'.tape, hbw8'.output, hbw8'.size, hbw8'.block⟩
             have sw8 := hbw8.size
             have hBw8 : Below W.heap.size W w8 := hBw7.trans (hbw8.mono (by omega))
             have bx0q0w8 := (hbw8.cell (p := ⟨W.heap.size, 0, none⟩) (by simp <;> omega)).trans bx0q0w7
             have bx0q1w8 := (hbw8.cell (p := ⟨W.heap.size, 1, none⟩) (by simp <;> omega)).trans bx0q1w7
             have bx1q0w8 := (hbw8.cell (p := ⟨W.heap.size + 1, 0, none⟩) (by simp <;> omega)).trans bx1q0w7
             have bx1q1w8 := (hbw8.cell (p := ⟨W.heap.size + 1, 1, none⟩) (by simp <;> omega)).trans bx1q1w7
             have nx0q0w8 : w8.cell? ⟨w4.heap.size, 0, none⟩ = some (Value.int .i64 v0e) := (hbw8.cell (p := ⟨w4.heap.size, 0, none⟩) (by simp <;> omega)).trans nx0q0w7
             have nx0q1w8 : w8.cell? ⟨w4.heap.size, 1, none⟩ = some (Value.slice (some ⟨gx0, 0, none⟩) n0 n0) := (hbw8.cell (p := ⟨w4.heap.size, 1, none⟩) (by simp <;> omega)).trans nx0q1w7
             have nx1q0w8 : w8.cell? ⟨w5.heap.size, 0, none⟩ = some (Value.int .i64 v1e) := (hbw8.cell (p := ⟨w5.heap.size, 0, none⟩) (by simp <;> omega)).trans nx1q0w7
             have nx1q1w8 : w8.cell? ⟨w5.heap.size, 1, none⟩ = some (Value.slice (some ⟨gx1, 0, none⟩) n1 n1) := (hbw8.cell (p := ⟨w5.heap.size, 1, none⟩) (by simp <;> omega)).trans nx1q1w7
             have rf0w8 := rf0w7.below hbw8 (Nat.le_refl _)
             have rf1w8 := rf1w7.below hbw8 (Nat.le_refl _)
             have rgx0w8 := rgx0w7.below hbw8 (Nat.le_refl _)
             have rgx1w8 := rgx1w7.below hbw8 (Nat.le_refl _)))
        all_goals
          go_wp2_with fail
          go_region_held3 (fun w' => w'.cell? ⟨W.heap.size + 1, 0, none⟩ = some (Value.int .i64 v1e) ∧ w'.cell? ⟨W.heap.size + 1, 1, none⟩ = some (Value.slice A1 n1 c1) ∧ w'.cell? ⟨w5.heap.size, 0, none⟩ = some (Value.int .i64 v1e) ∧ w'.cell? ⟨w5.heap.size, 1, none⟩ = some (Value.slice (some ⟨gx1, 0, none⟩) n1 n1))
            (first | go_keep | exact ⟨bx1q0w9, bx1q1w9, nx1q0w9, nx1q1w9⟩)
            (first
            | (go_at_call 29
               refine (toTimetable_any v1e A1 n1 c1 x1 _ hs1 (rf1w8.below (B := w8.heap.size) (by first | exact Below.refl _ _ | exact (Below.refl _ _).drew | exact below_N (Below.refl _ _) _) (Nat.le_refl _))).mono ?_
               rintro e w9 ⟨gy1, ogy1, rfl, hbw9', hgy1⟩
               have hbw9 : Below w8.heap.size w8 w9 := ⟨hbw9'.os, hbw9'.tape, hbw9'.output, hbw9'.size, hbw9'.block⟩
               have sw9 := hbw9.size
               have hBw9 : Below W.heap.size W w9 := hBw8.trans (hbw9.mono (by omega))
               have bx0q0w9 := (hbw9.cell (p := ⟨W.heap.size, 0, none⟩) (by simp <;> omega)).trans bx0q0w8
               have bx0q1w9 := (hbw9.cell (p := ⟨W.heap.size, 1, none⟩) (by simp <;> omega)).trans bx0q1w8
               have bx1q0w9 := (hbw9.cell (p := ⟨W.heap.size + 1, 0, none⟩) (by simp <;> omega)).trans bx1q0w8
               have bx1q1w9 := (hbw9.cell (p := ⟨W.heap.size + 1, 1, none⟩) (by simp <;> omega)).trans bx1q1w8
               have nx0q0w9 : w9.cell? ⟨w4.heap.size, 0, none⟩ = some (Value.int .i64 v0e) := (hbw9.cell (p := ⟨w4.heap.size, 0, none⟩) (by simp <;> omega)).trans nx0q0w8
               have nx0q1w9 : w9.cell? ⟨w4.heap.size, 1, none⟩ = some (Value.slice (some ⟨gx0, 0, none⟩) n0 n0) := (hbw9.cell (p := ⟨w4.heap.size, 1, none⟩) (by simp <;> omega)).trans nx0q1w8
               have nx1q0w9 : w9.cell? ⟨w5.heap.size, 0, none⟩ = some (Value.int .i64 v1e) := (hbw9.cell (p := ⟨w5.heap.size, 0, none⟩) (by simp <;> omega)).trans nx1q0w8
               have nx1q1w9 : w9.cell? ⟨w5.heap.size, 1, none⟩ = some (Value.slice (some ⟨gx1, 0, none⟩) n1 n1) := (hbw9.cell (p := ⟨w5.heap.size, 1, none⟩) (by simp <;> omega)).trans nx1q1w8
               have rf0w9 := rf0w8.below hbw9 (Nat.le_refl _)
               have rf1w9 := rf1w8.below hbw9 (Nat.le_refl _)
               have rgx0w9 := rgx0w8.below hbw9 (Nat.le_refl _)
               have rgx1w9 := rgx1w8.below hbw9 (Nat.le_refl _)
               have rgy1w9 := RI.of_row hgy1)
            | (go_at_call 32
               refine (eqTimetable_true v1e _ n1 _ x1 _ hs1 (rgx1w9.below (B := w9.heap.size) (by first | exact Below.refl _ _ | exact (Below.refl _ _).drew | exact below_N (Below.refl _ _) _) (Nat.le_refl _)) _ _ (rgy1w9.below (B := w9.heap.size) (by first | exact Below.refl _ _ | exact (Below.refl _ _).drew | exact below_N (Below.refl _ _) _) (Nat.le_refl _))).mono ?_
               rintro e w10 ⟨rfl, hbw10'⟩
               have hbw10 : Below w9.heap.size w9 w10 := ⟨hbw10'.os, hbw10'.tape, hbw10'.output, hbw10'.size, hbw10'.block⟩
               have sw10 := hbw10.size
               have hBw10 : Below W.heap.size W w10 := hBw9.trans (hbw10.mono (by omega))
               have bx0q0w10 := (hbw10.cell (p := ⟨W.heap.size, 0, none⟩) (by simp <;> omega)).trans bx0q0w9
               have bx0q1w10 := (hbw10.cell (p := ⟨W.heap.size, 1, none⟩) (by simp <;> omega)).trans bx0q1w9
               have bx1q0w10 := (hbw10.cell (p := ⟨W.heap.size + 1, 0, none⟩) (by simp <;> omega)).trans bx1q0w9
               have bx1q1w10 := (hbw10.cell (p := ⟨W.heap.size + 1, 1, none⟩) (by simp <;> omega)).trans bx1q1w9
               have nx0q0w10 : w10.cell? ⟨w4.heap.size, 0, none⟩ = some (Value.int .i64 v0e) := (hbw10.cell (p := ⟨w4.heap.size, 0, none⟩) (by simp <;> omega)).trans nx0q0w9
               have nx0q1w10 : w10.cell? ⟨w4.heap.size, 1, none⟩ = some (Value.slice (some ⟨gx0, 0, none⟩) n0 n0) := (hbw10.cell (p := ⟨w4.heap.size, 1, none⟩) (by simp <;> omega)).trans nx0q1w9
               have nx1q0w10 : w10.cell? ⟨w5.heap.size, 0, none⟩ = some (Value.int .i64 v1e) := (hbw10.cell (p := ⟨w5.heap.size, 0, none⟩) (by simp <;> omega)).trans nx1q0w9
               have nx1q1w10 : w10.cell? ⟨w5.heap.size, 1, none⟩ = some (Value.slice (some ⟨gx1, 0, none⟩) n1 n1) := (hbw10.cell (p := ⟨w5.heap.size, 1, none⟩) (by simp <;> omega)).trans nx1q1w9
               have rf0w10 := rf0w9.below hbw10 (Nat.le_refl _)
               have rf1w10 := rf1w9.below hbw10 (Nat.le_refl _)
               have rgx0w10 := rgx0w9.below hbw10 (Nat.le_refl _)
               have rgx1w10 := rgx1w9.below hbw10 (Nat.le_refl _)))
          all_goals
            go_wp2
            go_ret
            exact ⟨rfl, hBw10⟩

theorem own : ownKnob Try.prog.godebug = none := by kernel_rfl
theorem laidOut : laidOutB Try.prog = true := by kernel_rfl

set_option maxRecDepth 100000 in
theorem lifted (os : Os) (started : os.Started) (H : Type) (enc : TypeId × Value → H) :
    ReturnsInHanded {} Try.checked os 4 .any (Rows.fnExactIsKeptSpec.pre6 enc Try.prog Try.f4 Rows.fnExactIsKeptRow.domain false) (Rows.fnExactIsKeptSpec.post enc Try.prog Try.f4 false true false false) := by
  refine returnsInHanded_of_change (C := Try.checked) own started (by kernel_rfl) Try.func4
    (ChangeSpec.witness6 (enc := enc) (C := Try.checked) false ⟨#[], #[.agg #[.int .i64 0, .slice none 0 0], .agg #[.int .i64 0, .slice none 0 0]], []⟩ 8 (by kernel_rfl) (by kernel_rfl) (by kernel_rfl) (by kernel_rfl)) ?_
  intro W base args ds gs before hval0 hW hcnd _
  have hval : ∀ (j : Nat) t v, Try.f4.params[j]? = some t → args[j]? = some v → Value.okWide Try.prog W .any base t v := hval0
  have hW' := hW
  obtain ⟨p, q, hA0, hV, rfl, hfz, hnd⟩ := hW
  have hA : DataW.TrodAll enc Try.prog W 0 (fun _ => true) true Try.f4.params.toList args.toList ds p := hA0
  rw [Try.params4] at hA hval
  obtain ⟨v0, vs0, d0, ds0, p0, q0, hargs, rfl, rfl, h0, r0⟩ := trodAll_cons hA
  obtain ⟨v1, vs1, d1, ds1, p1, q1, rfl, rfl, rfl, h1, r1⟩ := trodAll_cons r0
  obtain ⟨rfl, rfl, rfl⟩ := trodAll_nil r1
  obtain rfl : args = #[v0, v1] := by cases args; simp_all
  obtain ⟨rfl, rfl⟩ := trodVars_none hV
  clear hA0 hval0
  obtain ⟨a0e, A0, n0, c0, x0, rfl, hn0, hf0⟩ := open_graph Try.underlying43 Try.underlying2 Try.underlying41 Try.underlying115 (by kernel_rfl) (by kernel_rfl) (by kernel_rfl) (by kernel_rfl) rfl (hval 0 _ v0 rfl rfl) h0
  obtain ⟨a1e, A1, n1, c1, x1, rfl, hn1, hf1⟩ := open_table Try.underlying45 Try.underlying2 Try.underlying24 Try.underlying2 (by kernel_rfl) (by kernel_rfl) (by kernel_rfl) (hval 1 _ v1 rfl rfl) h1
  simp only [maxLen_is] at hn0 hn1
  refine (walk a0e A0 n0 c0 x0 a1e A1 n1 c1 x1 W hn0 hn1 hf0 hf1).mono fun e W' ⟨he, hb⟩ => ?_
  subst he
  exact ⟨_, rfl, post_law laidOut (by kernel_rfl) (by kernel_rfl) Try.underlying4 rfl rfl rfl rfl hW' hb⟩

theorem proved : Rows.FnExactIsKeptSaid :=
  OpenClaim.holds_of_wide 4 Try.f4 rfl rfl rfl rfl rfl rfl rfl ⟨rfl, rfl, rfl, rfl, rfl⟩ rfl rfl rfl rfl rfl (by kernel_rfl) Try.func4 (by kernel_rfl)
    (of_decide_eq_true (by kernel_rfl)) (by unfold Func.isWrapper; rw [if_neg (of_decide_eq_false (by kernel_rfl))]; exact ⟨rfl, rfl⟩)
    (fun os started H enc _ => lifted os started H enc)
end Go.Proofs.Ytfhpahnflnahkaa.lawIsKept

