/- FnExactIsSystem returns true at every input and leaves its arguments as they were. -/
import Derived.Test.YtmoficihgnipbaaSystem
import Derived.Test.YtmoficihgnipbaaToSystem
import Derived.Test.YtmoficihgnipbaaRow
import Derived.Deep.RegionHeld3
namespace Go.Proofs.Ytmoficihgnipbaa.lawIsSystem
open Go.ChangeShapes Go.WideShapes Go.ChangeAt Go.RowKit

set_option maxRecDepth 100000 in
set_option maxHeartbeats 2000000 in
theorem walk (A0a : Option Addr) (n0a c0a : Nat) (L0a : Nat → Nat) (x0a : Nat → Nat → Int) (A0b : Option Addr) (n0b c0b : Nat) (x0b : Nat → Int) (A0c : Option Addr) (n0c c0c : Nat) (x0c : Nat → Int) (W : World) (hn0a : n0a ≤ 9223372036854775807) (hL0a : ∀ i, i < n0a → L0a i ≤ 9223372036854775807) (hn0b : n0b ≤ 9223372036854775807) (hn0c : n0c ≤ 9223372036854775807) (hf0a : RM W A0a n0a L0a x0a) (hf0b : RI W A0b n0b x0b) (hf0c : RI W A0c n0c x0c) :
    Calls Try.prog 4 #[.agg #[.slice A0a n0a c0a, .slice A0b n0b c0b, .slice A0c n0c c0c]] W fun e w' => e = .returned (.bool true) ∧ Below W.heap.size W w' := by
  have hb0 : Below W.heap.size W (W.alloc (Obj.cells #[Value.slice A0a n0a c0a, Value.slice A0b n0b c0b, Value.slice A0c n0c c0c] 37)) := (Below.refl W.heap.size W).alloc (Nat.le_refl _) _
  have bx0q0w0 : (W.alloc (Obj.cells #[Value.slice A0a n0a c0a, Value.slice A0b n0b c0b, Value.slice A0c n0c c0c] 37)).cell? ⟨W.heap.size, 0, none⟩ = some (Value.slice A0a n0a c0a) := c1a W _ _ 0
  have bx0q1w0 : (W.alloc (Obj.cells #[Value.slice A0a n0a c0a, Value.slice A0b n0b c0b, Value.slice A0c n0c c0c] 37)).cell? ⟨W.heap.size, 1, none⟩ = some (Value.slice A0b n0b c0b) := c1a W _ _ 1
  have bx0q2w0 : (W.alloc (Obj.cells #[Value.slice A0a n0a c0a, Value.slice A0b n0b c0b, Value.slice A0c n0c c0c] 37)).cell? ⟨W.heap.size, 2, none⟩ = some (Value.slice A0c n0c c0c) := c1a W _ _ 2
  have rf0aw0 := hf0a.below hb0 (Nat.le_refl _)
  have rf0bw0 := hf0b.below hb0 (Nat.le_refl _)
  have rf0cw0 := hf0c.below hb0 (Nat.le_refl _)
  have HL0a := Lib.hid hL0a; clear hL0a
  have s0 : W.heap.size ≤ (W.alloc (Obj.cells #[Value.slice A0a n0a c0a, Value.slice A0b n0b c0b, Value.slice A0c n0c c0c] 37)).heap.size := by simp
  obtain ⟨m0, hm0⟩ : ∃ m : Nat, m = (n0a + sumL L0a n0a) + n0b + n0c := ⟨_, rfl⟩
  have HM0 := Lib.hid hm0; clear hm0
  by_cases t0 : 1048576 < ((m0 : Nat) : Int)
  case pos =>
    go_enter Try.func4, Try.ntmps4
    go_wp2_with fail
    refine (szSystem_any A0a n0a c0a L0a x0a A0b n0b c0b A0c n0c c0c _ _ hn0a HL0a.out rf0aw0 hn0b hn0c (by omega) (by omega)).mono ?_
    rintro e z0 ⟨rfl, hbz0⟩
    have sz0 := hbz0.size
    simp only [World.size_alloc] at sz0
    have hBz0 : Below W.heap.size W z0 := hb0.trans (hbz0.mono (by simp <;> omega))
    have bx0q0z0 := (hbz0.cell (p := ⟨W.heap.size, 0, none⟩) (by simp <;> omega)).trans bx0q0w0
    have bx0q1z0 := (hbz0.cell (p := ⟨W.heap.size, 1, none⟩) (by simp <;> omega)).trans bx0q1w0
    have bx0q2z0 := (hbz0.cell (p := ⟨W.heap.size, 2, none⟩) (by simp <;> omega)).trans bx0q2w0
    have rf0az0 := rf0aw0.below hbz0 (Nat.le_refl _)
    have rf0bz0 := rf0bw0.below hbz0 (Nat.le_refl _)
    have rf0cz0 := rf0cw0.below hbz0 (Nat.le_refl _)
    rw [← HM0.out]
    rw [show sz1 (1048576) (m0 : Nat) = -1 by unfold sz1; rw [if_pos (by omega)]]
    go_wp2
    go_ret
    exact ⟨rfl, hBz0⟩
  case neg =>
    have hm0 := HM0.out
    have hs0a : n0a ≤ 1048576 := by omega
    have HLs0a := Lib.hid (show ∀ i, i < n0a → L0a i ≤ 1048576 from fun i hi => by have := sumL_le (L := L0a) hi; omega)
    have hs0b : n0b ≤ 1048576 := by omega
    have hs0c : n0c ≤ 1048576 := by omega
    clear hm0
    go_enter Try.func4, Try.ntmps4
    go_wp2_with fail
    refine (szSystem_any A0a n0a c0a L0a x0a A0b n0b c0b A0c n0c c0c _ _ hn0a HL0a.out rf0aw0 hn0b hn0c (by omega) (by omega)).mono ?_
    rintro e z0 ⟨rfl, hbz0⟩
    have sz0 := hbz0.size
    simp only [World.size_alloc] at sz0
    have hBz0 : Below W.heap.size W z0 := hb0.trans (hbz0.mono (by simp <;> omega))
    have bx0q0z0 := (hbz0.cell (p := ⟨W.heap.size, 0, none⟩) (by simp <;> omega)).trans bx0q0w0
    have bx0q1z0 := (hbz0.cell (p := ⟨W.heap.size, 1, none⟩) (by simp <;> omega)).trans bx0q1w0
    have bx0q2z0 := (hbz0.cell (p := ⟨W.heap.size, 2, none⟩) (by simp <;> omega)).trans bx0q2w0
    have rf0az0 := rf0aw0.below hbz0 (Nat.le_refl _)
    have rf0bz0 := rf0bw0.below hbz0 (Nat.le_refl _)
    have rf0cz0 := rf0cw0.below hbz0 (Nat.le_refl _)
    rw [← HM0.out]
    rw [show sz1 (1048576) (m0 : Nat) = 1048576 - (m0 : Nat) by unfold sz1; rw [if_neg (by omega)]]
    go_wp2_with fail
    refine (toSystem_any A0a n0a c0a L0a x0a A0b n0b c0b x0b A0c n0c c0c x0c _ hs0a HLs0a.out rf0az0 hs0b rf0bz0 hs0c rf0cz0).mono ?_
    rintro e w1 ⟨gs0a, gs0b, gs0c, ogs0a, ogs0b, ogs0c, rfl, hbw1, hgs0a, hgs0b, hgs0c⟩
    have sw1 := hbw1.size
    have hBw1 : Below W.heap.size W w1 := hBz0.trans (hbw1.mono (by omega))
    have bx0q0w1 := (hbw1.cell (p := ⟨W.heap.size, 0, none⟩) (by simp <;> omega)).trans bx0q0z0
    have bx0q1w1 := (hbw1.cell (p := ⟨W.heap.size, 1, none⟩) (by simp <;> omega)).trans bx0q1z0
    have bx0q2w1 := (hbw1.cell (p := ⟨W.heap.size, 2, none⟩) (by simp <;> omega)).trans bx0q2z0
    have rf0aw1 := rf0az0.below hbw1 (Nat.le_refl _)
    have rf0bw1 := rf0bz0.below hbw1 (Nat.le_refl _)
    have rf0cw1 := rf0cz0.below hbw1 (Nat.le_refl _)
    have rgs0aw1 := OM.rm hgs0a
    have rgs0bw1 := RI.of_row hgs0b
    have rgs0cw1 := RI.of_row hgs0c
    go_wp2_with fail
    refine (specIsSystem_s _ n0a _ L0a x0a _ n0b _ x0b _ n0c _ x0c _ hs0a HLs0a.out hs0b hs0c rgs0aw1 rgs0bw1 rgs0cw1).mono ?_
    rintro e w2 ⟨rfl, hbw2⟩
    have sw2 := hbw2.size
    have hBw2 : Below W.heap.size W w2 := hBw1.trans (hbw2.mono (by omega))
    have bx0q0w2 := (hbw2.cell (p := ⟨W.heap.size, 0, none⟩) (by simp <;> omega)).trans bx0q0w1
    have bx0q1w2 := (hbw2.cell (p := ⟨W.heap.size, 1, none⟩) (by simp <;> omega)).trans bx0q1w1
    have bx0q2w2 := (hbw2.cell (p := ⟨W.heap.size, 2, none⟩) (by simp <;> omega)).trans bx0q2w1
    have rf0aw2 := rf0aw1.below hbw2 (Nat.le_refl _)
    have rf0bw2 := rf0bw1.below hbw2 (Nat.le_refl _)
    have rf0cw2 := rf0cw1.below hbw2 (Nat.le_refl _)
    go_wp2_with fail
    refine (toSystem_any A0a n0a c0a L0a x0a A0b n0b c0b x0b A0c n0c c0c x0c _ hs0a HLs0a.out rf0aw2 hs0b rf0bw2 hs0c rf0cw2).mono ?_
    rintro e w3 ⟨gx0a, gx0b, gx0c, ogx0a, ogx0b, ogx0c, rfl, hbw3, hgx0a, hgx0b, hgx0c⟩
    have sw3 := hbw3.size
    have hBw3 : Below W.heap.size W w3 := hBw2.trans (hbw3.mono (by omega))
    have bx0q0w3 := (hbw3.cell (p := ⟨W.heap.size, 0, none⟩) (by simp <;> omega)).trans bx0q0w2
    have bx0q1w3 := (hbw3.cell (p := ⟨W.heap.size, 1, none⟩) (by simp <;> omega)).trans bx0q1w2
    have bx0q2w3 := (hbw3.cell (p := ⟨W.heap.size, 2, none⟩) (by simp <;> omega)).trans bx0q2w2
    have rf0aw3 := rf0aw2.below hbw3 (Nat.le_refl _)
    have rf0bw3 := rf0bw2.below hbw3 (Nat.le_refl _)
    have rf0cw3 := rf0cw2.below hbw3 (Nat.le_refl _)
    have rgx0aw3 := OM.rm hgx0a
    have rgx0bw3 := RI.of_row hgx0b
    have rgx0cw3 := RI.of_row hgx0c
    have hbaw3 : Below w3.heap.size w3 (w3.alloc (Obj.cells #[Value.slice (some ⟨gx0a, 0, none⟩) n0a n0a, Value.slice (some ⟨gx0b, 0, none⟩) n0b n0b, Value.slice (some ⟨gx0c, 0, none⟩) n0c n0c] 40)) := (Below.refl _ _).alloc (Nat.le_refl _) _
    have saw3 : w3.heap.size + 1 = (w3.alloc (Obj.cells #[Value.slice (some ⟨gx0a, 0, none⟩) n0a n0a, Value.slice (some ⟨gx0b, 0, none⟩) n0b n0b, Value.slice (some ⟨gx0c, 0, none⟩) n0c n0c] 40)).heap.size := by simp
    have hBaw3 : Below W.heap.size W (w3.alloc (Obj.cells #[Value.slice (some ⟨gx0a, 0, none⟩) n0a n0a, Value.slice (some ⟨gx0b, 0, none⟩) n0b n0b, Value.slice (some ⟨gx0c, 0, none⟩) n0c n0c] 40)) := hBw3.trans (hbaw3.mono (by omega))
    have bx0q0aw3 := (hbaw3.cell (p := ⟨W.heap.size, 0, none⟩) (by simp <;> omega)).trans bx0q0w3
    have bx0q1aw3 := (hbaw3.cell (p := ⟨W.heap.size, 1, none⟩) (by simp <;> omega)).trans bx0q1w3
    have bx0q2aw3 := (hbaw3.cell (p := ⟨W.heap.size, 2, none⟩) (by simp <;> omega)).trans bx0q2w3
    have nx0q0aw3 : (w3.alloc (Obj.cells #[Value.slice (some ⟨gx0a, 0, none⟩) n0a n0a, Value.slice (some ⟨gx0b, 0, none⟩) n0b n0b, Value.slice (some ⟨gx0c, 0, none⟩) n0c n0c] 40)).cell? ⟨w3.heap.size, 0, none⟩ = some (Value.slice (some ⟨gx0a, 0, none⟩) n0a n0a) := c1a _ _ _ 0
    have nx0q1aw3 : (w3.alloc (Obj.cells #[Value.slice (some ⟨gx0a, 0, none⟩) n0a n0a, Value.slice (some ⟨gx0b, 0, none⟩) n0b n0b, Value.slice (some ⟨gx0c, 0, none⟩) n0c n0c] 40)).cell? ⟨w3.heap.size, 1, none⟩ = some (Value.slice (some ⟨gx0b, 0, none⟩) n0b n0b) := c1a _ _ _ 1
    have nx0q2aw3 : (w3.alloc (Obj.cells #[Value.slice (some ⟨gx0a, 0, none⟩) n0a n0a, Value.slice (some ⟨gx0b, 0, none⟩) n0b n0b, Value.slice (some ⟨gx0c, 0, none⟩) n0c n0c] 40)).cell? ⟨w3.heap.size, 2, none⟩ = some (Value.slice (some ⟨gx0c, 0, none⟩) n0c n0c) := c1a _ _ _ 2
    have rf0aaw3 := rf0aw3.below hbaw3 (Nat.le_refl _)
    have rf0baw3 := rf0bw3.below hbaw3 (Nat.le_refl _)
    have rf0caw3 := rf0cw3.below hbaw3 (Nat.le_refl _)
    have rgx0aaw3 := rgx0aw3.below hbaw3 (Nat.le_refl _)
    have rgx0baw3 := rgx0bw3.below hbaw3 (Nat.le_refl _)
    have rgx0caw3 := rgx0cw3.below hbaw3 (Nat.le_refl _)
    go_wp2_with fail
    refine (implIsSystem_s _ n0a _ L0a x0a _ n0b _ x0b _ n0c _ x0c _ hs0a HLs0a.out hs0b hs0c rgx0aaw3 rgx0baw3 rgx0caw3).mono ?_
    rintro e w4 ⟨rfl, hbw4⟩
    have sw4 := hbw4.size
    have hBw4 : Below W.heap.size W w4 := hBaw3.trans (hbw4.mono (by omega))
    have bx0q0w4 := (hbw4.cell (p := ⟨W.heap.size, 0, none⟩) (by simp <;> omega)).trans bx0q0aw3
    have bx0q1w4 := (hbw4.cell (p := ⟨W.heap.size, 1, none⟩) (by simp <;> omega)).trans bx0q1aw3
    have bx0q2w4 := (hbw4.cell (p := ⟨W.heap.size, 2, none⟩) (by simp <;> omega)).trans bx0q2aw3
    have nx0q0w4 : w4.cell? ⟨w3.heap.size, 0, none⟩ = some (Value.slice (some ⟨gx0a, 0, none⟩) n0a n0a) := (hbw4.cell (p := ⟨w3.heap.size, 0, none⟩) (by simp <;> omega)).trans nx0q0aw3
    have nx0q1w4 : w4.cell? ⟨w3.heap.size, 1, none⟩ = some (Value.slice (some ⟨gx0b, 0, none⟩) n0b n0b) := (hbw4.cell (p := ⟨w3.heap.size, 1, none⟩) (by simp <;> omega)).trans nx0q1aw3
    have nx0q2w4 : w4.cell? ⟨w3.heap.size, 2, none⟩ = some (Value.slice (some ⟨gx0c, 0, none⟩) n0c n0c) := (hbw4.cell (p := ⟨w3.heap.size, 2, none⟩) (by simp <;> omega)).trans nx0q2aw3
    have rf0aw4 := rf0aaw3.below hbw4 (Nat.le_refl _)
    have rf0bw4 := rf0baw3.below hbw4 (Nat.le_refl _)
    have rf0cw4 := rf0caw3.below hbw4 (Nat.le_refl _)
    have rgx0aw4 := rgx0aaw3.below hbw4 (Nat.le_refl _)
    have rgx0bw4 := rgx0baw3.below hbw4 (Nat.le_refl _)
    have rgx0cw4 := rgx0caw3.below hbw4 (Nat.le_refl _)
    go_wp2_with fail
    go_region_held3 (fun w' => w'.cell? ⟨W.heap.size, 0, none⟩ = some (Value.slice A0a n0a c0a) ∧ w'.cell? ⟨W.heap.size, 1, none⟩ = some (Value.slice A0b n0b c0b) ∧ w'.cell? ⟨W.heap.size, 2, none⟩ = some (Value.slice A0c n0c c0c) ∧ w'.cell? ⟨w3.heap.size, 0, none⟩ = some (Value.slice (some ⟨gx0a, 0, none⟩) n0a n0a) ∧ w'.cell? ⟨w3.heap.size, 1, none⟩ = some (Value.slice (some ⟨gx0b, 0, none⟩) n0b n0b) ∧ w'.cell? ⟨w3.heap.size, 2, none⟩ = some (Value.slice (some ⟨gx0c, 0, none⟩) n0c n0c))
      (first | go_keep | exact ⟨bx0q0w5, bx0q1w5, bx0q2w5, nx0q0w5, nx0q1w5, nx0q2w5⟩)
      (first
      | (go_at_call 20
         refine (toSystem_any A0a n0a c0a L0a x0a A0b n0b c0b x0b A0c n0c c0c x0c _ hs0a HLs0a.out (rf0aw4.below (B := w4.heap.size) (by first | exact Below.refl _ _ | exact (Below.refl _ _).drew | exact below_N (Below.refl _ _) _) (Nat.le_refl _)) hs0b (rf0bw4.below (B := w4.heap.size) (by first | exact Below.refl _ _ | exact (Below.refl _ _).drew | exact below_N (Below.refl _ _) _) (Nat.le_refl _)) hs0c (rf0cw4.below (B := w4.heap.size) (by first | exact Below.refl _ _ | exact (Below.refl _ _).drew | exact below_N (Below.refl _ _) _) (Nat.le_refl _))).mono ?_
         rintro e w5 ⟨gy0a, gy0b, gy0c, ogy0a, ogy0b, ogy0c, rfl, hbw5', hgy0a, hgy0b, hgy0c⟩
         have hbw5 : Below w4.heap.size w4 w5 := ⟨hbw5'.os, hbw5'.tape, hbw5'.output, hbw5'.size, hbw5'.block⟩
         have sw5 := hbw5.size
         have hBw5 : Below W.heap.size W w5 := hBw4.trans (hbw5.mono (by omega))
         have bx0q0w5 := (hbw5.cell (p := ⟨W.heap.size, 0, none⟩) (by simp <;> omega)).trans bx0q0w4
         have bx0q1w5 := (hbw5.cell (p := ⟨W.heap.size, 1, none⟩) (by simp <;> omega)).trans bx0q1w4
         have bx0q2w5 := (hbw5.cell (p := ⟨W.heap.size, 2, none⟩) (by simp <;> omega)).trans bx0q2w4
         have nx0q0w5 : w5.cell? ⟨w3.heap.size, 0, none⟩ = some (Value.slice (some ⟨gx0a, 0, none⟩) n0a n0a) := (hbw5.cell (p := ⟨w3.heap.size, 0, none⟩) (by simp <;> omega)).trans nx0q0w4
         have nx0q1w5 : w5.cell? ⟨w3.heap.size, 1, none⟩ = some (Value.slice (some ⟨gx0b, 0, none⟩) n0b n0b) := (hbw5.cell (p := ⟨w3.heap.size, 1, none⟩) (by simp <;> omega)).trans nx0q1w4
         have nx0q2w5 : w5.cell? ⟨w3.heap.size, 2, none⟩ = some (Value.slice (some ⟨gx0c, 0, none⟩) n0c n0c) := (hbw5.cell (p := ⟨w3.heap.size, 2, none⟩) (by simp <;> omega)).trans nx0q2w4
         have rf0aw5 := rf0aw4.below hbw5 (Nat.le_refl _)
         have rf0bw5 := rf0bw4.below hbw5 (Nat.le_refl _)
         have rf0cw5 := rf0cw4.below hbw5 (Nat.le_refl _)
         have rgx0aw5 := rgx0aw4.below hbw5 (Nat.le_refl _)
         have rgx0bw5 := rgx0bw4.below hbw5 (Nat.le_refl _)
         have rgx0cw5 := rgx0cw4.below hbw5 (Nat.le_refl _)
         have rgy0aw5 := OM.rm hgy0a
         have rgy0bw5 := RI.of_row hgy0b
         have rgy0cw5 := RI.of_row hgy0c)
      | (go_at_call 22
         refine (eqSystem_true _ n0a _ L0a x0a _ n0b _ x0b _ n0c _ x0c _ hs0a HLs0a.out (rgx0aw5.below (B := w5.heap.size) (by first | exact Below.refl _ _ | exact (Below.refl _ _).drew | exact below_N (Below.refl _ _) _) (Nat.le_refl _)) hs0b (rgx0bw5.below (B := w5.heap.size) (by first | exact Below.refl _ _ | exact (Below.refl _ _).drew | exact below_N (Below.refl _ _) _) (Nat.le_refl _)) hs0c (rgx0cw5.below (B := w5.heap.size) (by first | exact Below.refl _ _ | exact (Below.refl _ _).drew | exact below_N (Below.refl _ _) _) (Nat.le_refl _)) _ _ (rgy0aw5.below (B := w5.heap.size) (by first | exact Below.refl _ _ | exact (Below.refl _ _).drew | exact below_N (Below.refl _ _) _) (Nat.le_refl _)) _ _ (rgy0bw5.below (B := w5.heap.size) (by first | exact Below.refl _ _ | exact (Below.refl _ _).drew | exact below_N (Below.refl _ _) _) (Nat.le_refl _)) _ _ (rgy0cw5.below (B := w5.heap.size) (by first | exact Below.refl _ _ | exact (Below.refl _ _).drew | exact below_N (Below.refl _ _) _) (Nat.le_refl _))).mono ?_
         rintro e w6 ⟨rfl, hbw6'⟩
         have hbw6 : Below w5.heap.size w5 w6 := ⟨hbw6'.os, hbw6'.tape, hbw6'.output, hbw6'.size, hbw6'.block⟩
         have sw6 := hbw6.size
         have hBw6 : Below W.heap.size W w6 := hBw5.trans (hbw6.mono (by omega))
         have bx0q0w6 := (hbw6.cell (p := ⟨W.heap.size, 0, none⟩) (by simp <;> omega)).trans bx0q0w5
         have bx0q1w6 := (hbw6.cell (p := ⟨W.heap.size, 1, none⟩) (by simp <;> omega)).trans bx0q1w5
         have bx0q2w6 := (hbw6.cell (p := ⟨W.heap.size, 2, none⟩) (by simp <;> omega)).trans bx0q2w5
         have nx0q0w6 : w6.cell? ⟨w3.heap.size, 0, none⟩ = some (Value.slice (some ⟨gx0a, 0, none⟩) n0a n0a) := (hbw6.cell (p := ⟨w3.heap.size, 0, none⟩) (by simp <;> omega)).trans nx0q0w5
         have nx0q1w6 : w6.cell? ⟨w3.heap.size, 1, none⟩ = some (Value.slice (some ⟨gx0b, 0, none⟩) n0b n0b) := (hbw6.cell (p := ⟨w3.heap.size, 1, none⟩) (by simp <;> omega)).trans nx0q1w5
         have nx0q2w6 : w6.cell? ⟨w3.heap.size, 2, none⟩ = some (Value.slice (some ⟨gx0c, 0, none⟩) n0c n0c) := (hbw6.cell (p := ⟨w3.heap.size, 2, none⟩) (by simp <;> omega)).trans nx0q2w5
         have rf0aw6 := rf0aw5.below hbw6 (Nat.le_refl _)
         have rf0bw6 := rf0bw5.below hbw6 (Nat.le_refl _)
         have rf0cw6 := rf0cw5.below hbw6 (Nat.le_refl _)
         have rgx0aw6 := rgx0aw5.below hbw6 (Nat.le_refl _)
         have rgx0bw6 := rgx0bw5.below hbw6 (Nat.le_refl _)
         have rgx0cw6 := rgx0cw5.below hbw6 (Nat.le_refl _)))
    all_goals
      go_wp2
      go_ret
      exact ⟨rfl, hBw6⟩

theorem own : ownKnob Try.prog.godebug = none := by kernel_rfl
theorem laidOut : laidOutB Try.prog = true := by kernel_rfl

set_option maxRecDepth 100000 in
theorem lifted (os : Os) (started : os.Started) (H : Type) (enc : TypeId × Value → H) :
    ReturnsInHanded {} Try.checked os 4 .any (Rows.fnExactIsSystemSpec.pre6 enc Try.prog Try.f4 Rows.fnExactIsSystemRow.domain false) (Rows.fnExactIsSystemSpec.post enc Try.prog Try.f4 false true false false) := by
  refine returnsInHanded_of_change (C := Try.checked) own started (by kernel_rfl) Try.func4
    (ChangeSpec.witness6 (enc := enc) (C := Try.checked) false ⟨#[], #[.agg #[.slice none 0 0, .slice none 0 0, .slice none 0 0]], []⟩ 8 (by kernel_rfl) (by kernel_rfl) (by kernel_rfl) (by kernel_rfl)) ?_
  intro W base args ds gs before hval0 hW hcnd _
  have hval : ∀ (j : Nat) t v, Try.f4.params[j]? = some t → args[j]? = some v → Value.okWide Try.prog W .any base t v := hval0
  have hW' := hW
  obtain ⟨p, q, hA0, hV, rfl, hfz, hnd⟩ := hW
  have hA : DataW.TrodAll enc Try.prog W 0 (fun _ => true) true Try.f4.params.toList args.toList ds p := hA0
  rw [Try.params4] at hA hval
  obtain ⟨v0, vs0, d0, ds0, p0, q0, hargs, rfl, rfl, h0, r0⟩ := trodAll_cons hA
  obtain ⟨rfl, rfl, rfl⟩ := trodAll_nil r0
  obtain rfl : args = #[v0] := by cases args; simp_all
  obtain ⟨rfl, rfl⟩ := trodVars_none hV
  clear hA0 hval0
  obtain ⟨A0a, n0a, c0a, L0a, x0a, A0b, n0b, c0b, x0b, A0c, n0c, c0c, x0c, rfl, hn0a, hL0a, hn0b, hn0c, hf0a, hf0b, hf0c⟩ := open_system Try.underlying37 Try.underlying34 Try.underlying35 Try.underlying35 Try.underlying35 Try.underlying2 (by kernel_rfl) (by kernel_rfl) (by kernel_rfl) (by kernel_rfl) (hval 0 _ v0 rfl rfl) h0
  simp only [maxLen_is] at hn0a hn0b hn0c hL0a
  refine (walk A0a n0a c0a L0a x0a A0b n0b c0b x0b A0c n0c c0c x0c W hn0a hL0a hn0b hn0c hf0a hf0b hf0c).mono fun e W' ⟨he, hb⟩ => ?_
  subst he
  exact ⟨_, rfl, post_law laidOut (by kernel_rfl) (by kernel_rfl) Try.underlying4 rfl rfl rfl rfl hW' hb⟩

theorem proved : Rows.FnExactIsSystemSaid :=
  OpenClaim.holds_of_wide 4 Try.f4 rfl rfl rfl rfl rfl rfl rfl ⟨rfl, rfl, rfl, rfl, rfl⟩ rfl rfl rfl rfl rfl (by kernel_rfl) Try.func4 (by kernel_rfl)
    (of_decide_eq_true (by kernel_rfl)) (by unfold Func.isWrapper; rw [if_neg (of_decide_eq_false (by kernel_rfl))]; exact ⟨rfl, rfl⟩)
    (fun os started H enc _ => lifted os started H enc)
end Go.Proofs.Ytmoficihgnipbaa.lawIsSystem

