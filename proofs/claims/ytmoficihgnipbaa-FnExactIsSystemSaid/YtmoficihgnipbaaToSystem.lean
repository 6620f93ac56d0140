/- The law's own helpers over System. -/
import Derived.Test.YtmoficihgnipbaaMat
import Derived.Test.YtmoficihgnipbaaInts
namespace Go.Proofs.Ytmoficihgnipbaa
open Go.RowKit

/-- what the copy leaves: its parts lie in memory from where the call began on, one behind the other -/
def ToSystemP (W : World) (n0 : Nat) (L0 : Nat → Nat) (x0 : Nat → Nat → Int) (n1 : Nat) (x1 : Nat → Int) (n2 : Nat) (x2 : Nat → Int) (e : Ending) (w' : World) : Prop :=
  ∃ g0 g1 g2 : Nat, W.heap.size ≤ g0 ∧ g0 < g1 ∧ g1 < g2 ∧ e = .returned (.agg #[.slice (some ⟨g0, 0, none⟩) n0 n0, .slice (some ⟨g1, 0, none⟩) n1 n1, .slice (some ⟨g2, 0, none⟩) n2 n2]) ∧ Below W.heap.size W w' ∧ OM w' g0 n0 L0 x0 ∧ w'.rowIs g1 2 n1 (fun q => .int .i64 (x1 q)) ∧ w'.rowIs g2 2 n2 (fun q => .int .i64 (x2 q))

set_option maxRecDepth 100000 in
set_option maxHeartbeats 1000000 in
theorem toSystem_any (A0 : Option Addr) (n0 c0 : Nat) (L0 : Nat → Nat) (x0 : Nat → Nat → Int) (A1 : Option Addr) (n1 c1 : Nat) (x1 : Nat → Int) (A2 : Option Addr) (n2 c2 : Nat) (x2 : Nat → Int) (W : World) (hn0 : n0 ≤ 1048576) (hL0 : ∀ i, i < n0 → L0 i ≤ 1048576) (hf0 : RM W A0 n0 L0 x0) (hn1 : n1 ≤ 1048576) (hf1 : RI W A1 n1 x1) (hn2 : n2 ≤ 1048576) (hf2 : RI W A2 n2 x2) :
    Calls Try.prog 20 #[.agg #[.slice A0 n0 c0, .slice A1 n1 c1, .slice A2 n2 c2]] W (ToSystemP W n0 L0 x0 n1 x1 n2 x2) := by
  have hb0 : Below W.heap.size W (((W.alloc (Obj.cells #[Value.slice A0 n0 c0, Value.slice A1 n1 c1, Value.slice A2 n2 c2] 37)).alloc (Obj.cells #[Value.slice none 0 0, Value.slice none 0 0, Value.slice none 0 0] 40)).alloc (Obj.cells #[Value.slice none 0 0, Value.slice none 0 0, Value.slice none 0 0] 40)) := (((Below.refl _ _).alloc (Nat.le_refl _) _).alloc (by simp) _).alloc (by simp <;> omega) _
  have HL0 := Lib.hid hL0; clear hL0
  go_enter Try.func20, Try.ntmps20
  go_wp2_with fail
  refine (toInt64SS_any A0 n0 c0 L0 x0 _ hn0 HL0.out (hf0.below hb0 (Nat.le_refl _))).mono ?_
  rintro e w1 ⟨rfl, hb1, hr1⟩
  have s1 := hb1.size
  simp only [World.size_alloc] at s1 hr1
  have l1 := hr1.lt
  have b0w1 : w1.cell? ⟨W.heap.size, 0, none⟩ = some (Value.slice A0 n0 c0) := (hb1.cell (p := ⟨W.heap.size, 0, none⟩) (by simp <;> omega)).trans (c3a W _ _ _ _ _ _ 0)
  have b1w1 : w1.cell? ⟨W.heap.size, 1, none⟩ = some (Value.slice A1 n1 c1) := (hb1.cell (p := ⟨W.heap.size, 1, none⟩) (by simp <;> omega)).trans (c3a W _ _ _ _ _ _ 1)
  have b2w1 : w1.cell? ⟨W.heap.size, 2, none⟩ = some (Value.slice A2 n2 c2) := (hb1.cell (p := ⟨W.heap.size, 2, none⟩) (by simp <;> omega)).trans (c3a W _ _ _ _ _ _ 2)
  have q0w1 : w1.cell? ⟨W.heap.size + 1, 0, none⟩ = some (Value.slice none 0 0) := (hb1.cell (p := ⟨W.heap.size + 1, 0, none⟩) (by simp <;> omega)).trans (c3b W _ _ _ _ _ _ 0)
  have q1w1 : w1.cell? ⟨W.heap.size + 1, 1, none⟩ = some (Value.slice none 0 0) := (hb1.cell (p := ⟨W.heap.size + 1, 1, none⟩) (by simp <;> omega)).trans (c3b W _ _ _ _ _ _ 1)
  have q2w1 : w1.cell? ⟨W.heap.size + 1, 2, none⟩ = some (Value.slice none 0 0) := (hb1.cell (p := ⟨W.heap.size + 1, 2, none⟩) (by simp <;> omega)).trans (c3b W _ _ _ _ _ _ 2)
  have r0w1 : w1.cell? ⟨W.heap.size + 1 + 1, 0, none⟩ = some (Value.slice none 0 0) := (hb1.cell (p := ⟨W.heap.size + 1 + 1, 0, none⟩) (by simp <;> omega)).trans (c3c W _ _ _ _ _ _ 0)
  have r1w1 : w1.cell? ⟨W.heap.size + 1 + 1, 1, none⟩ = some (Value.slice none 0 0) := (hb1.cell (p := ⟨W.heap.size + 1 + 1, 1, none⟩) (by simp <;> omega)).trans (c3c W _ _ _ _ _ _ 1)
  have r2w1 : w1.cell? ⟨W.heap.size + 1 + 1, 2, none⟩ = some (Value.slice none 0 0) := (hb1.cell (p := ⟨W.heap.size + 1 + 1, 2, none⟩) (by simp <;> omega)).trans (c3c W _ _ _ _ _ _ 2)
  have z0w1 : w1.frozen? ⟨W.heap.size + 1, 0, none⟩ = false := (hb1.frozen (p := ⟨W.heap.size + 1, 0, none⟩) (by simp <;> omega)).trans (f3b W _ _ _ _ _ _ 0)
  have z1w1 : w1.frozen? ⟨W.heap.size + 1, 1, none⟩ = false := (hb1.frozen (p := ⟨W.heap.size + 1, 1, none⟩) (by simp <;> omega)).trans (f3b W _ _ _ _ _ _ 1)
  have z2w1 : w1.frozen? ⟨W.heap.size + 1, 2, none⟩ = false := (hb1.frozen (p := ⟨W.heap.size + 1, 2, none⟩) (by simp <;> omega)).trans (f3b W _ _ _ _ _ _ 2)
  have y0w1 : w1.frozen? ⟨W.heap.size + 1 + 1, 0, none⟩ = false := (hb1.frozen (p := ⟨W.heap.size + 1 + 1, 0, none⟩) (by simp <;> omega)).trans (f3c W _ _ _ _ _ _ 0)
  have y1w1 : w1.frozen? ⟨W.heap.size + 1 + 1, 1, none⟩ = false := (hb1.frozen (p := ⟨W.heap.size + 1 + 1, 1, none⟩) (by simp <;> omega)).trans (f3c W _ _ _ _ _ _ 1)
  have y2w1 : w1.frozen? ⟨W.heap.size + 1 + 1, 2, none⟩ = false := (hb1.frozen (p := ⟨W.heap.size + 1 + 1, 2, none⟩) (by simp <;> omega)).trans (f3c W _ _ _ _ _ _ 2)
  have hB1 : Below W.heap.size W w1 := hb0.trans (hb1.mono (by simp <;> omega))
  go_wp2_with fail
  refine (toInt64S_any A1 n1 c1 x1 _ hn1 (hf1.below (hB1.setCell (p := ⟨W.heap.size + 1 + 1, 0, none⟩) (by simp <;> omega) _) (Nat.le_refl _))).mono ?_
  rintro e w2 ⟨rfl, hb2, hr2⟩
  have s2 := hb2.size
  simp only [World.size_setCell] at s2 hr2
  have l2 := hr2.lt
  have b0w2 : w2.cell? ⟨W.heap.size, 0, none⟩ = some (Value.slice A0 n0 c0) := (hb2.cell (p := ⟨W.heap.size, 0, none⟩) (by simp <;> omega)).trans ((World.cell?_setCell_other _ _ _ _ (by simp <;> omega)).trans b0w1)
  have b1w2 : w2.cell? ⟨W.heap.size, 1, none⟩ = some (Value.slice A1 n1 c1) := (hb2.cell (p := ⟨W.heap.size, 1, none⟩) (by simp <;> omega)).trans ((World.cell?_setCell_other _ _ _ _ (by simp <;> omega)).trans b1w1)
  have b2w2 : w2.cell? ⟨W.heap.size, 2, none⟩ = some (Value.slice A2 n2 c2) := (hb2.cell (p := ⟨W.heap.size, 2, none⟩) (by simp <;> omega)).trans ((World.cell?_setCell_other _ _ _ _ (by simp <;> omega)).trans b2w1)
  have q0w2 : w2.cell? ⟨W.heap.size + 1, 0, none⟩ = some (Value.slice none 0 0) := (hb2.cell (p := ⟨W.heap.size + 1, 0, none⟩) (by simp <;> omega)).trans ((World.cell?_setCell_other _ _ _ _ (by simp <;> omega)).trans q0w1)
  have q1w2 : w2.cell? ⟨W.heap.size + 1, 1, none⟩ = some (Value.slice none 0 0) := (hb2.cell (p := ⟨W.heap.size + 1, 1, none⟩) (by simp <;> omega)).trans ((World.cell?_setCell_other _ _ _ _ (by simp <;> omega)).trans q1w1)
  have q2w2 : w2.cell? ⟨W.heap.size + 1, 2, none⟩ = some (Value.slice none 0 0) := (hb2.cell (p := ⟨W.heap.size + 1, 2, none⟩) (by simp <;> omega)).trans ((World.cell?_setCell_other _ _ _ _ (by simp <;> omega)).trans q2w1)
  have r0w2 : w2.cell? ⟨W.heap.size + 1 + 1, 0, none⟩ = some (Value.slice (some ⟨(W.heap.size + 1 + 1 + 1), 0, none⟩) n0 n0) := (hb2.cell (p := ⟨W.heap.size + 1 + 1, 0, none⟩) (by simp <;> omega)).trans (World.cell?_setCell_same _ _ _ r0w1)
  have r1w2 : w2.cell? ⟨W.heap.size + 1 + 1, 1, none⟩ = some (Value.slice none 0 0) := (hb2.cell (p := ⟨W.heap.size + 1 + 1, 1, none⟩) (by simp <;> omega)).trans ((World.cell?_setCell_other _ _ _ _ (by simp <;> omega)).trans r1w1)
  have r2w2 : w2.cell? ⟨W.heap.size + 1 + 1, 2, none⟩ = some (Value.slice none 0 0) := (hb2.cell (p := ⟨W.heap.size + 1 + 1, 2, none⟩) (by simp <;> omega)).trans ((World.cell?_setCell_other _ _ _ _ (by simp <;> omega)).trans r2w1)
  have z0w2 : w2.frozen? ⟨W.heap.size + 1, 0, none⟩ = false := (hb2.frozen (p := ⟨W.heap.size + 1, 0, none⟩) (by simp <;> omega)).trans (by simp [z0w1])
  have z1w2 : w2.frozen? ⟨W.heap.size + 1, 1, none⟩ = false := (hb2.frozen (p := ⟨W.heap.size + 1, 1, none⟩) (by simp <;> omega)).trans (by simp [z1w1])
  have z2w2 : w2.frozen? ⟨W.heap.size + 1, 2, none⟩ = false := (hb2.frozen (p := ⟨W.heap.size + 1, 2, none⟩) (by simp <;> omega)).trans (by simp [z2w1])
  have y0w2 : w2.frozen? ⟨W.heap.size + 1 + 1, 0, none⟩ = false := (hb2.frozen (p := ⟨W.heap.size + 1 + 1, 0, none⟩) (by simp <;> omega)).trans (by simp [y0w1])
  have y1w2 : w2.frozen? ⟨W.heap.size + 1 + 1, 1, none⟩ = false := (hb2.frozen (p := ⟨W.heap.size + 1 + 1, 1, none⟩) (by simp <;> omega)).trans (by simp [y1w1])
  have y2w2 : w2.frozen? ⟨W.heap.size + 1 + 1, 2, none⟩ = false := (hb2.frozen (p := ⟨W.heap.size + 1 + 1, 2, none⟩) (by simp <;> omega)).trans (by simp [y2w1])
  have hB2 : Below W.heap.size W w2 := (hB1.setCell (p := ⟨W.heap.size + 1 + 1, 0, none⟩) (by simp <;> omega) _).trans (hb2.mono (by simp <;> omega))
  go_wp2_with fail
  refine (toInt64S_any A2 n2 c2 x2 _ hn2 (hf2.below (hB2.setCell (p := ⟨W.heap.size + 1 + 1, 1, none⟩) (by simp <;> omega) _) (Nat.le_refl _))).mono ?_
  rintro e w3 ⟨rfl, hb3, hr3⟩
  have s3 := hb3.size
  simp only [World.size_setCell] at s3 hr3
  have b0w3 : w3.cell? ⟨W.heap.size, 0, none⟩ = some (Value.slice A0 n0 c0) := (hb3.cell (p := ⟨W.heap.size, 0, none⟩) (by simp <;> omega)).trans ((World.cell?_setCell_other _ _ _ _ (by simp <;> omega)).trans b0w2)
  have b1w3 : w3.cell? ⟨W.heap.size, 1, none⟩ = some (Value.slice A1 n1 c1) := (hb3.cell (p := ⟨W.heap.size, 1, none⟩) (by simp <;> omega)).trans ((World.cell?_setCell_other _ _ _ _ (by simp <;> omega)).trans b1w2)
  have b2w3 : w3.cell? ⟨W.heap.size, 2, none⟩ = some (Value.slice A2 n2 c2) := (hb3.cell (p := ⟨W.heap.size, 2, none⟩) (by simp <;> omega)).trans ((World.cell?_setCell_other _ _ _ _ (by simp <;> omega)).trans b2w2)
  have q0w3 : w3.cell? ⟨W.heap.size + 1, 0, none⟩ = some (Value.slice none 0 0) := (hb3.cell (p := ⟨W.heap.size + 1, 0, none⟩) (by simp <;> omega)).trans ((World.cell?_setCell_other _ _ _ _ (by simp <;> omega)).trans q0w2)
  have q1w3 : w3.cell? ⟨W.heap.size + 1, 1, none⟩ = some (Value.slice none 0 0) := (hb3.cell (p := ⟨W.heap.size + 1, 1, none⟩) (by simp <;> omega)).trans ((World.cell?_setCell_other _ _ _ _ (by simp <;> omega)).trans q1w2)
  have q2w3 : w3.cell? ⟨W.heap.size + 1, 2, none⟩ = some (Value.slice none 0 0) := (hb3.cell (p := ⟨W.heap.size + 1, 2, none⟩) (by simp <;> omega)).trans ((World.cell?_setCell_other _ _ _ _ (by simp <;> omega)).trans q2w2)
  have r0w3 : w3.cell? ⟨W.heap.size + 1 + 1, 0, none⟩ = some (Value.slice (some ⟨(W.heap.size + 1 + 1 + 1), 0, none⟩) n0 n0) := (hb3.cell (p := ⟨W.heap.size + 1 + 1, 0, none⟩) (by simp <;> omega)).trans ((World.cell?_setCell_other _ _ _ _ (by simp <;> omega)).trans r0w2)
  have r1w3 : w3.cell? ⟨W.heap.size + 1 + 1, 1, none⟩ = some (Value.slice (some ⟨w1.heap.size, 0, none⟩) n1 n1) := (hb3.cell (p := ⟨W.heap.size + 1 + 1, 1, none⟩) (by simp <;> omega)).trans (World.cell?_setCell_same _ _ _ r1w2)
  have r2w3 : w3.cell? ⟨W.heap.size + 1 + 1, 2, none⟩ = some (Value.slice none 0 0) := (hb3.cell (p := ⟨W.heap.size + 1 + 1, 2, none⟩) (by simp <;> omega)).trans ((World.cell?_setCell_other _ _ _ _ (by simp <;> omega)).trans r2w2)
  have z0w3 : w3.frozen? ⟨W.heap.size + 1, 0, none⟩ = false := (hb3.frozen (p := ⟨W.heap.size + 1, 0, none⟩) (by simp <;> omega)).trans (by simp [z0w2])
  have z1w3 : w3.frozen? ⟨W.heap.size + 1, 1, none⟩ = false := (hb3.frozen (p := ⟨W.heap.size + 1, 1, none⟩) (by simp <;> omega)).trans (by simp [z1w2])
  have z2w3 : w3.frozen? ⟨W.heap.size + 1, 2, none⟩ = false := (hb3.frozen (p := ⟨W.heap.size + 1, 2, none⟩) (by simp <;> omega)).trans (by simp [z2w2])
  have y0w3 : w3.frozen? ⟨W.heap.size + 1 + 1, 0, none⟩ = false := (hb3.frozen (p := ⟨W.heap.size + 1 + 1, 0, none⟩) (by simp <;> omega)).trans (by simp [y0w2])
  have y1w3 : w3.frozen? ⟨W.heap.size + 1 + 1, 1, none⟩ = false := (hb3.frozen (p := ⟨W.heap.size + 1 + 1, 1, none⟩) (by simp <;> omega)).trans (by simp [y1w2])
  have y2w3 : w3.frozen? ⟨W.heap.size + 1 + 1, 2, none⟩ = false := (hb3.frozen (p := ⟨W.heap.size + 1 + 1, 2, none⟩) (by simp <;> omega)).trans (by simp [y2w2])
  have hB3 : Below W.heap.size W w3 := (hB2.setCell (p := ⟨W.heap.size + 1 + 1, 1, none⟩) (by simp <;> omega) _).trans (hb3.mono (by simp <;> omega))
  go_wp2
  refine bodyPost_ret (v := .agg #[.slice (some ⟨(W.heap.size + 1 + 1 + 1), 0, none⟩) n0 n0, .slice (some ⟨w1.heap.size, 0, none⟩) n1 n1, .slice (some ⟨w2.heap.size, 0, none⟩) n2 n2]) (by simp [results, Try.results20, go_sem, q0w3, q1w3, q2w3]) rfl ?_
  exact ⟨W.heap.size + 1 + 1 + 1, w1.heap.size, w2.heap.size, by omega, by omega, by omega, rfl, ((((hB3.setCell (p := ⟨W.heap.size + 1 + 1, 2, none⟩) (by simp <;> omega) _).setCell (p := ⟨W.heap.size + 1, 0, none⟩) (by simp) _).setCell (p := ⟨W.heap.size + 1, 1, none⟩) (by simp) _).setCell (p := ⟨W.heap.size + 1, 2, none⟩) (by simp) _), ((((((((hr1.setOther (a := ⟨W.heap.size + 1 + 1, 0, none⟩) (by simp <;> omega) _).below hb2 (Nat.le_refl _)).setOther (a := ⟨W.heap.size + 1 + 1, 1, none⟩) (by simp <;> omega) _).below hb3 (Nat.le_refl _)).setOther (a := ⟨W.heap.size + 1 + 1, 2, none⟩) (by simp <;> omega) _).setOther (a := ⟨W.heap.size + 1, 0, none⟩) (by simp <;> omega) _).setOther (a := ⟨W.heap.size + 1, 1, none⟩) (by simp <;> omega) _).setOther (a := ⟨W.heap.size + 1, 2, none⟩) (by simp <;> omega) _), ((((((hr2.setOther (a := ⟨W.heap.size + 1 + 1, 1, none⟩) (by simp <;> omega) _).of_block (hb3.block _ (hr2.setOther (a := ⟨W.heap.size + 1 + 1, 1, none⟩) (by simp <;> omega) _).lt)).setOther (a := ⟨W.heap.size + 1 + 1, 2, none⟩) (by simp <;> omega) _).setOther (a := ⟨W.heap.size + 1, 0, none⟩) (by simp <;> omega) _).setOther (a := ⟨W.heap.size + 1, 1, none⟩) (by simp <;> omega) _).setOther (a := ⟨W.heap.size + 1, 2, none⟩) (by simp <;> omega) _), ((((hr3.setOther (a := ⟨W.heap.size + 1 + 1, 2, none⟩) (by simp <;> omega) _).setOther (a := ⟨W.heap.size + 1, 0, none⟩) (by simp <;> omega) _).setOther (a := ⟨W.heap.size + 1, 1, none⟩) (by simp <;> omega) _).setOther (a := ⟨W.heap.size + 1, 2, none⟩) (by simp <;> omega) _)⟩

set_option maxRecDepth 100000 in
set_option maxHeartbeats 1000000 in
theorem eqSystem_true (A0 : Option Addr) (n0 c0 : Nat) (L0 : Nat → Nat) (x0 : Nat → Nat → Int) (A1 : Option Addr) (n1 c1 : Nat) (x1 : Nat → Int) (A2 : Option Addr) (n2 c2 : Nat) (x2 : Nat → Int) (W : World) (hn0 : n0 ≤ 1048576) (hL0 : ∀ i, i < n0 → L0 i ≤ 1048576) (hf0 : RM W A0 n0 L0 x0) (hn1 : n1 ≤ 1048576) (hf1 : RI W A1 n1 x1) (hn2 : n2 ≤ 1048576) (hf2 : RI W A2 n2 x2) (B0 : Option Addr) (d0 : Nat) (hg0 : RM W B0 n0 L0 x0) (B1 : Option Addr) (d1 : Nat) (hg1 : RI W B1 n1 x1) (B2 : Option Addr) (d2 : Nat) (hg2 : RI W B2 n2 x2) :
    Calls Try.prog 22 #[.agg #[.slice A0 n0 c0, .slice A1 n1 c1, .slice A2 n2 c2], .agg #[.slice B0 n0 d0, .slice B1 n1 d1, .slice B2 n2 d2]] W fun e w' => e = .returned (.bool true) ∧ Below W.heap.size W w' := by
  have hb0 : Below W.heap.size W ((W.alloc (Obj.cells #[Value.slice A0 n0 c0, Value.slice A1 n1 c1, Value.slice A2 n2 c2] 40)).alloc (Obj.cells #[Value.slice B0 n0 d0, Value.slice B1 n1 d1, Value.slice B2 n2 d2] 40)) := ((Below.refl _ _).alloc (Nat.le_refl _) _).alloc (by simp) _
  have HL0 := Lib.hid hL0; clear hL0
  go_enter Try.func22, Try.ntmps22
  go_wp2_with fail
  refine (eqInt64SS_true A0 B0 n0 c0 d0 L0 x0 _ hn0 HL0.out (hf0.below hb0 (Nat.le_refl _)) (hg0.below hb0 (Nat.le_refl _))).mono ?_
  rintro e w1 ⟨rfl, hb1⟩
  have s1 := hb1.size
  simp at s1
  have hB1 : Below W.heap.size W w1 := hb0.trans (hb1.mono (by simp <;> omega))
  have a0w1 : w1.cell? ⟨W.heap.size, 0, none⟩ = some (Value.slice A0 n0 c0) := (hb1.cell (p := ⟨W.heap.size, 0, none⟩) (by simp <;> omega)).trans (c2a W _ _ _ _ 0)
  have b0w1 : w1.cell? ⟨W.heap.size + 1, 0, none⟩ = some (Value.slice B0 n0 d0) := (hb1.cell (p := ⟨W.heap.size + 1, 0, none⟩) (by simp <;> omega)).trans (c2b W _ _ _ _ 0)
  have a1w1 : w1.cell? ⟨W.heap.size, 1, none⟩ = some (Value.slice A1 n1 c1) := (hb1.cell (p := ⟨W.heap.size, 1, none⟩) (by simp <;> omega)).trans (c2a W _ _ _ _ 1)
  have b1w1 : w1.cell? ⟨W.heap.size + 1, 1, none⟩ = some (Value.slice B1 n1 d1) := (hb1.cell (p := ⟨W.heap.size + 1, 1, none⟩) (by simp <;> omega)).trans (c2b W _ _ _ _ 1)
  have a2w1 : w1.cell? ⟨W.heap.size, 2, none⟩ = some (Value.slice A2 n2 c2) := (hb1.cell (p := ⟨W.heap.size, 2, none⟩) (by simp <;> omega)).trans (c2a W _ _ _ _ 2)
  have b2w1 : w1.cell? ⟨W.heap.size + 1, 2, none⟩ = some (Value.slice B2 n2 d2) := (hb1.cell (p := ⟨W.heap.size + 1, 2, none⟩) (by simp <;> omega)).trans (c2b W _ _ _ _ 2)
  go_wp2_with fail
  refine (eqInt64S_true A1 B1 n1 c1 d1 x1 _ hn1 (hf1.below hB1 (Nat.le_refl _)) (hg1.below hB1 (Nat.le_refl _))).mono ?_
  rintro e w2 ⟨rfl, hb2⟩
  have s2 : w1.heap.size ≤ w2.heap.size := hb2.size
  have hB2 : Below W.heap.size W w2 := hB1.trans (hb2.mono (by omega))
  have a0w2 : w2.cell? ⟨W.heap.size, 0, none⟩ = some (Value.slice A0 n0 c0) := (hb2.cell (p := ⟨W.heap.size, 0, none⟩) (by simp <;> omega)).trans a0w1
  have b0w2 : w2.cell? ⟨W.heap.size + 1, 0, none⟩ = some (Value.slice B0 n0 d0) := (hb2.cell (p := ⟨W.heap.size + 1, 0, none⟩) (by simp <;> omega)).trans b0w1
  have a1w2 : w2.cell? ⟨W.heap.size, 1, none⟩ = some (Value.slice A1 n1 c1) := (hb2.cell (p := ⟨W.heap.size, 1, none⟩) (by simp <;> omega)).trans a1w1
  have b1w2 : w2.cell? ⟨W.heap.size + 1, 1, none⟩ = some (Value.slice B1 n1 d1) := (hb2.cell (p := ⟨W.heap.size + 1, 1, none⟩) (by simp <;> omega)).trans b1w1
  have a2w2 : w2.cell? ⟨W.heap.size, 2, none⟩ = some (Value.slice A2 n2 c2) := (hb2.cell (p := ⟨W.heap.size, 2, none⟩) (by simp <;> omega)).trans a2w1
  have b2w2 : w2.cell? ⟨W.heap.size + 1, 2, none⟩ = some (Value.slice B2 n2 d2) := (hb2.cell (p := ⟨W.heap.size + 1, 2, none⟩) (by simp <;> omega)).trans b2w1
  go_wp2_with fail
  refine (eqInt64S_true A2 B2 n2 c2 d2 x2 _ hn2 (hf2.below hB2 (Nat.le_refl _)) (hg2.below hB2 (Nat.le_refl _))).mono ?_
  rintro e w3 ⟨rfl, hb3⟩
  have s3 : w2.heap.size ≤ w3.heap.size := hb3.size
  have hB3 : Below W.heap.size W w3 := hB2.trans (hb3.mono (by omega))
  have a0w3 : w3.cell? ⟨W.heap.size, 0, none⟩ = some (Value.slice A0 n0 c0) := (hb3.cell (p := ⟨W.heap.size, 0, none⟩) (by simp <;> omega)).trans a0w2
  have b0w3 : w3.cell? ⟨W.heap.size + 1, 0, none⟩ = some (Value.slice B0 n0 d0) := (hb3.cell (p := ⟨W.heap.size + 1, 0, none⟩) (by simp <;> omega)).trans b0w2
  have a1w3 : w3.cell? ⟨W.heap.size, 1, none⟩ = some (Value.slice A1 n1 c1) := (hb3.cell (p := ⟨W.heap.size, 1, none⟩) (by simp <;> omega)).trans a1w2
  have b1w3 : w3.cell? ⟨W.heap.size + 1, 1, none⟩ = some (Value.slice B1 n1 d1) := (hb3.cell (p := ⟨W.heap.size + 1, 1, none⟩) (by simp <;> omega)).trans b1w2
  have a2w3 : w3.cell? ⟨W.heap.size, 2, none⟩ = some (Value.slice A2 n2 c2) := (hb3.cell (p := ⟨W.heap.size, 2, none⟩) (by simp <;> omega)).trans a2w2
  have b2w3 : w3.cell? ⟨W.heap.size + 1, 2, none⟩ = some (Value.slice B2 n2 d2) := (hb3.cell (p := ⟨W.heap.size + 1, 2, none⟩) (by simp <;> omega)).trans b2w2
  go_wp2
  go_ret
  exact ⟨rfl, hB3⟩

set_option maxRecDepth 100000 in
set_option maxHeartbeats 1000000 in
theorem szSystem_any (A0 : Option Addr) (n0 c0 : Nat) (L0 : Nat → Nat) (x0 : Nat → Nat → Int) (A1 : Option Addr) (n1 c1 : Nat) (A2 : Option Addr) (n2 c2 : Nat) (left : Int) (W : World) (hn0 : n0 ≤ 9223372036854775807) (hL0 : ∀ i, i < n0 → L0 i ≤ 9223372036854775807) (hf0 : RM W A0 n0 L0 x0) (hn1 : n1 ≤ 9223372036854775807) (hn2 : n2 ≤ 9223372036854775807) (h0 : 0 ≤ left) (h1 : left ≤ 1048576) :
    Calls Try.prog 18 #[.agg #[.slice A0 n0 c0, .slice A1 n1 c1, .slice A2 n2 c2], .int .i64 left] W fun e w' => e = .returned (.int .i64 (sz1 left (((n0 + sumL L0 n0) + n1 + n2 : Nat) : Int))) ∧ Below W.heap.size W w' := by
  have hb0 : Below W.heap.size W (W.alloc (Obj.cells #[Value.slice A0 n0 c0, Value.slice A1 n1 c1, Value.slice A2 n2 c2] 37)) := (Below.refl _ _).alloc (Nat.le_refl _) _
  have HL0 := Lib.hid hL0; clear hL0
  obtain ⟨m0, hm0⟩ : ∃ m, m = n0 + sumL L0 n0 := ⟨_, rfl⟩
  rw [← hm0]
  have HM0 := Lib.hid hm0; clear hm0
  by_cases t0 : left < (m0 : Nat)
  case pos =>
    have HE := Lib.hid (show sz1 left ((m0 + n1 + n2 : Nat) : Int) = -1 by unfold sz1; rw [if_pos (by omega)])
    go_enter Try.func18, Try.ntmps18
    go_wp2_with fail
    refine (szInt64SS_any A0 n0 c0 L0 x0 _ _ hn0 HL0.out (by omega) (by omega) (hf0.below hb0 (Nat.le_refl _))).mono ?_
    rintro e w1 ⟨rfl, hb1⟩
    rw [← HM0.out]
    have s1 := hb1.size
    simp at s1
    have hB1 : Below W.heap.size W w1 := hb0.trans (hb1.mono (by simp <;> omega))
    have b0w1 : w1.cell? ⟨W.heap.size, 0, none⟩ = some (Value.slice A0 n0 c0) := (hb1.cell (p := ⟨W.heap.size, 0, none⟩) (by simp <;> omega)).trans (c1a W _ _ 0)
    have b1w1 : w1.cell? ⟨W.heap.size, 1, none⟩ = some (Value.slice A1 n1 c1) := (hb1.cell (p := ⟨W.heap.size, 1, none⟩) (by simp <;> omega)).trans (c1a W _ _ 1)
    have b2w1 : w1.cell? ⟨W.heap.size, 2, none⟩ = some (Value.slice A2 n2 c2) := (hb1.cell (p := ⟨W.heap.size, 2, none⟩) (by simp <;> omega)).trans (c1a W _ _ 2)
    rw [show sz1 (left) (m0 : Nat) = -1 by unfold sz1; rw [if_pos (by omega)]]
    go_wp2
    go_ret
    exact ⟨ret_int HE.out.symm, hB1⟩
  case neg =>
    by_cases t1 : left - (m0 : Nat) < (n1 : Nat)
    case pos =>
      have HE := Lib.hid (show sz1 left ((m0 + n1 + n2 : Nat) : Int) = -1 by unfold sz1; rw [if_pos (by omega)])
      go_enter Try.func18, Try.ntmps18
      go_wp2_with fail
      refine (szInt64SS_any A0 n0 c0 L0 x0 _ _ hn0 HL0.out (by omega) (by omega) (hf0.below hb0 (Nat.le_refl _))).mono ?_
      rintro e w1 ⟨rfl, hb1⟩
      rw [← HM0.out]
      have s1 := hb1.size
      simp at s1
      have hB1 : Below W.heap.size W w1 := hb0.trans (hb1.mono (by simp <;> omega))
      have b0w1 : w1.cell? ⟨W.heap.size, 0, none⟩ = some (Value.slice A0 n0 c0) := (hb1.cell (p := ⟨W.heap.size, 0, none⟩) (by simp <;> omega)).trans (c1a W _ _ 0)
      have b1w1 : w1.cell? ⟨W.heap.size, 1, none⟩ = some (Value.slice A1 n1 c1) := (hb1.cell (p := ⟨W.heap.size, 1, none⟩) (by simp <;> omega)).trans (c1a W _ _ 1)
      have b2w1 : w1.cell? ⟨W.heap.size, 2, none⟩ = some (Value.slice A2 n2 c2) := (hb1.cell (p := ⟨W.heap.size, 2, none⟩) (by simp <;> omega)).trans (c1a W _ _ 2)
      rw [show sz1 (left) (m0 : Nat) = left - (m0 : Nat) by unfold sz1; rw [if_neg (by omega)]]
      go_wp2_with fail
      refine (szInt64S_any A1 n1 c1 _ _ hn1 (by omega) (by omega)).mono ?_
      rintro e w2 ⟨rfl, rfl⟩
      rw [show sz1 (left - (m0 : Nat)) (n1 : Nat) = -1 by unfold sz1; rw [if_pos (by omega)]]
      go_wp2
      go_ret
      exact ⟨ret_int HE.out.symm, hB1⟩
    case neg =>
      by_cases t2 : left - (m0 : Nat) - (n1 : Nat) < (n2 : Nat)
      case pos =>
        have HE := Lib.hid (show sz1 left ((m0 + n1 + n2 : Nat) : Int) = -1 by unfold sz1; rw [if_pos (by omega)])
        go_enter Try.func18, Try.ntmps18
        go_wp2_with fail
        refine (szInt64SS_any A0 n0 c0 L0 x0 _ _ hn0 HL0.out (by omega) (by omega) (hf0.below hb0 (Nat.le_refl _))).mono ?_
        rintro e w1 ⟨rfl, hb1⟩
        rw [← HM0.out]
        have s1 := hb1.size
        simp at s1
        have hB1 : Below W.heap.size W w1 := hb0.trans (hb1.mono (by simp <;> omega))
        have b0w1 : w1.cell? ⟨W.heap.size, 0, none⟩ = some (Value.slice A0 n0 c0) := (hb1.cell (p := ⟨W.heap.size, 0, none⟩) (by simp <;> omega)).trans (c1a W _ _ 0)
        have b1w1 : w1.cell? ⟨W.heap.size, 1, none⟩ = some (Value.slice A1 n1 c1) := (hb1.cell (p := ⟨W.heap.size, 1, none⟩) (by simp <;> omega)).trans (c1a W _ _ 1)
        have b2w1 : w1.cell? ⟨W.heap.size, 2, none⟩ = some (Value.slice A2 n2 c2) := (hb1.cell (p := ⟨W.heap.size, 2, none⟩) (by simp <;> omega)).trans (c1a W _ _ 2)
        rw [show sz1 (left) (m0 : Nat) = left - (m0 : Nat) by unfold sz1; rw [if_neg (by omega)]]
        go_wp2_with fail
        refine (szInt64S_any A1 n1 c1 _ _ hn1 (by omega) (by omega)).mono ?_
        rintro e w2 ⟨rfl, rfl⟩
        rw [show sz1 (left - (m0 : Nat)) (n1 : Nat) = left - (m0 : Nat) - (n1 : Nat) by unfold sz1; rw [if_neg (by omega)]]
        go_wp2_with fail
        refine (szInt64S_any A2 n2 c2 _ _ hn2 (by omega) (by omega)).mono ?_
        rintro e w3 ⟨rfl, rfl⟩
        rw [show sz1 (left - (m0 : Nat) - (n1 : Nat)) (n2 : Nat) = -1 by unfold sz1; rw [if_pos (by omega)]]
        go_wp2
        go_ret
        exact ⟨ret_int HE.out.symm, hB1⟩
      case neg =>
        have HE := Lib.hid (show sz1 left ((m0 + n1 + n2 : Nat) : Int) = left - (m0 : Nat) - (n1 : Nat) - (n2 : Nat) by unfold sz1; rw [if_neg (by omega)]; try omega)
        go_enter Try.func18, Try.ntmps18
        go_wp2_with fail
        refine (szInt64SS_any A0 n0 c0 L0 x0 _ _ hn0 HL0.out (by omega) (by omega) (hf0.below hb0 (Nat.le_refl _))).mono ?_
        rintro e w1 ⟨rfl, hb1⟩
        rw [← HM0.out]
        have s1 := hb1.size
        simp at s1
        have hB1 : Below W.heap.size W w1 := hb0.trans (hb1.mono (by simp <;> omega))
        have b0w1 : w1.cell? ⟨W.heap.size, 0, none⟩ = some (Value.slice A0 n0 c0) := (hb1.cell (p := ⟨W.heap.size, 0, none⟩) (by simp <;> omega)).trans (c1a W _ _ 0)
        have b1w1 : w1.cell? ⟨W.heap.size, 1, none⟩ = some (Value.slice A1 n1 c1) := (hb1.cell (p := ⟨W.heap.size, 1, none⟩) (by simp <;> omega)).trans (c1a W _ _ 1)
        have b2w1 : w1.cell? ⟨W.heap.size, 2, none⟩ = some (Value.slice A2 n2 c2) := (hb1.cell (p := ⟨W.heap.size, 2, none⟩) (by simp <;> omega)).trans (c1a W _ _ 2)
        rw [show sz1 (left) (m0 : Nat) = left - (m0 : Nat) by unfold sz1; rw [if_neg (by omega)]]
        go_wp2_with fail
        refine (szInt64S_any A1 n1 c1 _ _ hn1 (by omega) (by omega)).mono ?_
        rintro e w2 ⟨rfl, rfl⟩
        rw [show sz1 (left - (m0 : Nat)) (n1 : Nat) = left - (m0 : Nat) - (n1 : Nat) by unfold sz1; rw [if_neg (by omega)]]
        go_wp2_with fail
        refine (szInt64S_any A2 n2 c2 _ _ hn2 (by omega) (by omega)).mono ?_
        rintro e w3 ⟨rfl, rfl⟩
        rw [show sz1 (left - (m0 : Nat) - (n1 : Nat)) (n2 : Nat) = left - (m0 : Nat) - (n1 : Nat) - (n2 : Nat) by unfold sz1; rw [if_neg (by omega)]]
        go_wp2
        go_ret
        exact ⟨ret_int HE.out.symm, hB1⟩

end Go.Proofs.Ytmoficihgnipbaa
