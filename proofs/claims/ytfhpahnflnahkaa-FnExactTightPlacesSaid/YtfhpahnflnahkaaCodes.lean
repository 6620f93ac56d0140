/- Whether a graph and a timetable are ones, as a code; the slacks of a timetable: the reference's list and the program's. -/
import Derived.Test.YtfhpahnflnahkaaTable
import Derived.Test.YtfhpahnflnahkaaInts
import Derived.Test.YtfhpahnflnahkaaGrow
namespace Go.Proofs.Ytfhpahnflnahkaa
open Go.RowKit

set_option maxRecDepth 100000 in
set_option maxHeartbeats 1000000 in
theorem specCode_any (ev : Int) (A : Option Addr) (n c : Nat) (f : Nat → Nat → Int) (p : Int) (B : Option Addr) (m d : Nat) (x : Nat → Int) (W : World) (hn : n ≤ 1048576) (hm : m ≤ 1048576) (hf : RR W 4 A n f) (hx : RI W B m x) :
    Calls Try.prog 62 #[.agg #[.int .i64 ev, .slice A n c], .agg #[.int .i64 p, .slice B m d]] W fun e w' => e = .returned (.int .i64 (code3 (GraphP ev n f) (TimeP ev p m x))) ∧ Below W.heap.size W w' := by
  have hb0 : Below W.heap.size W ((W.alloc (Obj.cells #[Value.int .i64 ev, Value.slice A n c] 52)).alloc (Obj.cells #[Value.int .i64 p, Value.slice B m d] 54)) := ((Below.refl _ _).alloc (Nat.le_refl _) _).alloc (by simp) _
  by_cases g0 : GraphP ev n f
  case neg =>
    have HE := Lib.hid (code3_1 (Q := TimeP ev p m x) g0)
    have H0 := Lib.hid (bo_false g0)
    clear g0
    go_enter Try.func62, Try.ntmps62
    go_wp2_with fail
    refine (specIsEventGraph_any ev A n c f _ hn (hf.below hb0 (Nat.le_refl _))).mono ?_
    rw [H0.out]
    rintro e w1 ⟨rfl, hb1⟩
    have s1 := hb1.size
    simp only [World.size_alloc] at s1
    have hB1 : Below W.heap.size W w1 := hb0.trans (hb1.mono (by simp <;> omega))
    have k0w1 : w1.cell? ⟨W.heap.size, 0, none⟩ = some (Value.int .i64 ev) := (hb1.cell (p := ⟨W.heap.size, 0, none⟩) (by simp <;> omega)).trans (c2a _ _ _ _ _ 0)
    have k1w1 : w1.cell? ⟨W.heap.size, 1, none⟩ = some (Value.slice A n c) := (hb1.cell (p := ⟨W.heap.size, 1, none⟩) (by simp <;> omega)).trans (c2a _ _ _ _ _ 1)
    have m0w1 : w1.cell? ⟨W.heap.size + 1, 0, none⟩ = some (Value.int .i64 p) := (hb1.cell (p := ⟨W.heap.size + 1, 0, none⟩) (by simp <;> omega)).trans (c2b _ _ _ _ _ 0)
    have m1w1 : w1.cell? ⟨W.heap.size + 1, 1, none⟩ = some (Value.slice B m d) := (hb1.cell (p := ⟨W.heap.size + 1, 1, none⟩) (by simp <;> omega)).trans (c2b _ _ _ _ _ 1)
    go_wp2
    go_ret
    exact ⟨ret_int HE.out.symm, hB1⟩
  case pos =>
    have H0 := Lib.hid (bo_true g0)
    by_cases g1 : TimeP ev p m x
    case pos =>
      have HE := Lib.hid (code3_0 g0 g1)
      have H1 := Lib.hid (bo_true (show TableP ev n f p m x from ⟨g0, g1⟩))
      clear g0 g1
      go_enter Try.func62, Try.ntmps62
      go_wp2_with fail
      refine (specIsEventGraph_any ev A n c f _ hn (hf.below hb0 (Nat.le_refl _))).mono ?_
      rw [H0.out]
      rintro e w1 ⟨rfl, hb1⟩
      have s1 := hb1.size
      simp only [World.size_alloc] at s1
      have hB1 : Below W.heap.size W w1 := hb0.trans (hb1.mono (by simp <;> omega))
      have k0w1 : w1.cell? ⟨W.heap.size, 0, none⟩ = some (Value.int .i64 ev) := (hb1.cell (p := ⟨W.heap.size, 0, none⟩) (by simp <;> omega)).trans (c2a _ _ _ _ _ 0)
      have k1w1 : w1.cell? ⟨W.heap.size, 1, none⟩ = some (Value.slice A n c) := (hb1.cell (p := ⟨W.heap.size, 1, none⟩) (by simp <;> omega)).trans (c2a _ _ _ _ _ 1)
      have m0w1 : w1.cell? ⟨W.heap.size + 1, 0, none⟩ = some (Value.int .i64 p) := (hb1.cell (p := ⟨W.heap.size + 1, 0, none⟩) (by simp <;> omega)).trans (c2b _ _ _ _ _ 0)
      have m1w1 : w1.cell? ⟨W.heap.size + 1, 1, none⟩ = some (Value.slice B m d) := (hb1.cell (p := ⟨W.heap.size + 1, 1, none⟩) (by simp <;> omega)).trans (c2b _ _ _ _ _ 1)
      go_wp2_with fail
      refine (specIsTimetable_any ev A n c f p B m d x _ hn hm (hf.below hB1 (Nat.le_refl _)) (hx.below hB1 (Nat.le_refl _))).mono ?_
      rw [H1.out]
      rintro e w2 ⟨rfl, hb2⟩
      go_wp2
      go_ret
      exact ⟨ret_int HE.out.symm, hB1.trans (hb2.mono (by omega))⟩
    case neg =>
      have HE := Lib.hid (code3_2 g0 g1)
      have H1 := Lib.hid (bo_false (show ¬ TableP ev n f p m x from fun h => g1 h.2))
      clear g0 g1
      go_enter Try.func62, Try.ntmps62
      go_wp2_with fail
      refine (specIsEventGraph_any ev A n c f _ hn (hf.below hb0 (Nat.le_refl _))).mono ?_
      rw [H0.out]
      rintro e w1 ⟨rfl, hb1⟩
      have s1 := hb1.size
      simp only [World.size_alloc] at s1
      have hB1 : Below W.heap.size W w1 := hb0.trans (hb1.mono (by simp <;> omega))
      have k0w1 : w1.cell? ⟨W.heap.size, 0, none⟩ = some (Value.int .i64 ev) := (hb1.cell (p := ⟨W.heap.size, 0, none⟩) (by simp <;> omega)).trans (c2a _ _ _ _ _ 0)
      have k1w1 : w1.cell? ⟨W.heap.size, 1, none⟩ = some (Value.slice A n c) := (hb1.cell (p := ⟨W.heap.size, 1, none⟩) (by simp <;> omega)).trans (c2a _ _ _ _ _ 1)
      have m0w1 : w1.cell? ⟨W.heap.size + 1, 0, none⟩ = some (Value.int .i64 p) := (hb1.cell (p := ⟨W.heap.size + 1, 0, none⟩) (by simp <;> omega)).trans (c2b _ _ _ _ _ 0)
      have m1w1 : w1.cell? ⟨W.heap.size + 1, 1, none⟩ = some (Value.slice B m d) := (hb1.cell (p := ⟨W.heap.size + 1, 1, none⟩) (by simp <;> omega)).trans (c2b _ _ _ _ _ 1)
      go_wp2_with fail
      refine (specIsTimetable_any ev A n c f p B m d x _ hn hm (hf.below hB1 (Nat.le_refl _)) (hx.below hB1 (Nat.le_refl _))).mono ?_
      rw [H1.out]
      rintro e w2 ⟨rfl, hb2⟩
      go_wp2
      go_ret
      exact ⟨ret_int HE.out.symm, hB1.trans (hb2.mono (by omega))⟩

set_option maxRecDepth 100000 in
set_option maxHeartbeats 1000000 in
theorem implCode_any (ev : Int) (A : Option Addr) (n c : Nat) (f : Nat → Nat → Int) (p : Int) (B : Option Addr) (m d : Nat) (x : Nat → Int) (W : World) (hn : n ≤ 1048576) (hm : m ≤ 1048576) (hf : RR W 4 A n f) (hx : RI W B m x) :
    Calls Try.prog 65 #[.agg #[.int .i64 ev, .slice A n c], .agg #[.int .i64 p, .slice B m d]] W fun e w' => e = .returned (.int .i64 (code3 (GraphP ev n f) (TimeP ev p m x))) ∧ Below W.heap.size W w' := by
  have hb0 : Below W.heap.size W ((W.alloc (Obj.cells #[Value.int .i64 ev, Value.slice A n c] 52)).alloc (Obj.cells #[Value.int .i64 p, Value.slice B m d] 54)) := ((Below.refl _ _).alloc (Nat.le_refl _) _).alloc (by simp) _
  by_cases g0 : GraphP ev n f
  case neg =>
    have HE := Lib.hid (code3_1 (Q := TimeP ev p m x) g0)
    have H0 := Lib.hid (bo_false g0)
    clear g0
    go_enter Try.func65, Try.ntmps65
    go_wp2_with fail
    refine (implIsEventGraph_any ev A n c f _ hn (hf.below hb0 (Nat.le_refl _))).mono ?_
    rw [H0.out]
    rintro e w1 ⟨rfl, hb1⟩
    have s1 := hb1.size
    simp only [World.size_alloc] at s1
    have hB1 : Below W.heap.size W w1 := hb0.trans (hb1.mono (by simp <;> omega))
    have k0w1 : w1.cell? ⟨W.heap.size, 0, none⟩ = some (Value.int .i64 ev) := (hb1.cell (p := ⟨W.heap.size, 0, none⟩) (by simp <;> omega)).trans (c2a _ _ _ _ _ 0)
    have k1w1 : w1.cell? ⟨W.heap.size, 1, none⟩ = some (Value.slice A n c) := (hb1.cell (p := ⟨W.heap.size, 1, none⟩) (by simp <;> omega)).trans (c2a _ _ _ _ _ 1)
    have m0w1 : w1.cell? ⟨W.heap.size + 1, 0, none⟩ = some (Value.int .i64 p) := (hb1.cell (p := ⟨W.heap.size + 1, 0, none⟩) (by simp <;> omega)).trans (c2b _ _ _ _ _ 0)
    have m1w1 : w1.cell? ⟨W.heap.size + 1, 1, none⟩ = some (Value.slice B m d) := (hb1.cell (p := ⟨W.heap.size + 1, 1, none⟩) (by simp <;> omega)).trans (c2b _ _ _ _ _ 1)
    go_wp2
    go_ret
    exact ⟨ret_int HE.out.symm, hB1⟩
  case pos =>
    have H0 := Lib.hid (bo_true g0)
    by_cases g1 : TimeP ev p m x
    case pos =>
      have HE := Lib.hid (code3_0 g0 g1)
      have H1 := Lib.hid (bo_true g1)
      clear g0 g1
      go_enter Try.func65, Try.ntmps65
      go_wp2_with fail
      refine (implIsEventGraph_any ev A n c f _ hn (hf.below hb0 (Nat.le_refl _))).mono ?_
      rw [H0.out]
      rintro e w1 ⟨rfl, hb1⟩
      have s1 := hb1.size
      simp only [World.size_alloc] at s1
      have hB1 : Below W.heap.size W w1 := hb0.trans (hb1.mono (by simp <;> omega))
      have k0w1 : w1.cell? ⟨W.heap.size, 0, none⟩ = some (Value.int .i64 ev) := (hb1.cell (p := ⟨W.heap.size, 0, none⟩) (by simp <;> omega)).trans (c2a _ _ _ _ _ 0)
      have k1w1 : w1.cell? ⟨W.heap.size, 1, none⟩ = some (Value.slice A n c) := (hb1.cell (p := ⟨W.heap.size, 1, none⟩) (by simp <;> omega)).trans (c2a _ _ _ _ _ 1)
      have m0w1 : w1.cell? ⟨W.heap.size + 1, 0, none⟩ = some (Value.int .i64 p) := (hb1.cell (p := ⟨W.heap.size + 1, 0, none⟩) (by simp <;> omega)).trans (c2b _ _ _ _ _ 0)
      have m1w1 : w1.cell? ⟨W.heap.size + 1, 1, none⟩ = some (Value.slice B m d) := (hb1.cell (p := ⟨W.heap.size + 1, 1, none⟩) (by simp <;> omega)).trans (c2b _ _ _ _ _ 1)
      go_wp2_with fail
      refine (isTimetable_any ev A n c p B m d x _ hm (hx.below hB1 (Nat.le_refl _))).mono ?_
      rw [H1.out]
      rintro e w2 ⟨rfl, hb2⟩
      go_wp2
      go_ret
      exact ⟨ret_int HE.out.symm, hB1.trans (hb2.mono (by omega))⟩
    case neg =>
      have HE := Lib.hid (code3_2 g0 g1)
      have H1 := Lib.hid (bo_false g1)
      clear g0 g1
      go_enter Try.func65, Try.ntmps65
      go_wp2_with fail
      refine (implIsEventGraph_any ev A n c f _ hn (hf.below hb0 (Nat.le_refl _))).mono ?_
      rw [H0.out]
      rintro e w1 ⟨rfl, hb1⟩
      have s1 := hb1.size
      simp only [World.size_alloc] at s1
      have hB1 : Below W.heap.size W w1 := hb0.trans (hb1.mono (by simp <;> omega))
      have k0w1 : w1.cell? ⟨W.heap.size, 0, none⟩ = some (Value.int .i64 ev) := (hb1.cell (p := ⟨W.heap.size, 0, none⟩) (by simp <;> omega)).trans (c2a _ _ _ _ _ 0)
      have k1w1 : w1.cell? ⟨W.heap.size, 1, none⟩ = some (Value.slice A n c) := (hb1.cell (p := ⟨W.heap.size, 1, none⟩) (by simp <;> omega)).trans (c2a _ _ _ _ _ 1)
      have m0w1 : w1.cell? ⟨W.heap.size + 1, 0, none⟩ = some (Value.int .i64 p) := (hb1.cell (p := ⟨W.heap.size + 1, 0, none⟩) (by simp <;> omega)).trans (c2b _ _ _ _ _ 0)
      have m1w1 : w1.cell? ⟨W.heap.size + 1, 1, none⟩ = some (Value.slice B m d) := (hb1.cell (p := ⟨W.heap.size + 1, 1, none⟩) (by simp <;> omega)).trans (c2b _ _ _ _ _ 1)
      go_wp2_with fail
      refine (isTimetable_any ev A n c p B m d x _ hm (hx.below hB1 (Nat.le_refl _))).mono ?_
      rw [H1.out]
      rintro e w2 ⟨rfl, hb2⟩
      go_wp2
      go_ret
      exact ⟨ret_int HE.out.symm, hB1.trans (hb2.mono (by omega))⟩

end Go.Proofs.Ytfhpahnflnahkaa
