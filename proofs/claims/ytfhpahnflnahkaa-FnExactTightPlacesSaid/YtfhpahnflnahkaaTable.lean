/- What a timetable of a graph is: the reference's check and the program's. -/
import Derived.Test.YtfhpahnflnahkaaImplGraph
namespace Go.Proofs.Ytfhpahnflnahkaa
open Go.RowKit

/-- a timetable for a graph of ev events -/
def TimeP (ev p : Int) (m : Nat) (x : Nat → Int) : Prop := InP p 0 100000 ∧ (m : Int) = ev ∧ AllInP m x 0 1000000
def TableP (ev : Int) (n : Nat) (f : Nat → Nat → Int) (p : Int) (m : Nat) (x : Nat → Int) : Prop := GraphP ev n f ∧ TimeP ev p m x

set_option maxRecDepth 100000 in
set_option maxHeartbeats 1000000 in
theorem specIsTimetable_any (ev : Int) (A : Option Addr) (n c : Nat) (f : Nat → Nat → Int) (p : Int) (B : Option Addr) (m d : Nat) (x : Nat → Int) (W : World) (hn : n ≤ 1048576) (hm : m ≤ 1048576) (hf : RR W 4 A n f) (hx : RI W B m x) :
    Calls Try.prog 93 #[.agg #[.int .i64 ev, .slice A n c], .agg #[.int .i64 p, .slice B m d]] W fun e w' => e = .returned (.bool (bo (TableP ev n f p m x))) ∧ Below W.heap.size W w' := by
  have hb0 : Below W.heap.size W ((W.alloc (Obj.cells #[Value.int .i64 ev, Value.slice A n c] 52)).alloc (Obj.cells #[Value.int .i64 p, Value.slice B m d] 54)) := ((Below.refl _ _).alloc (Nat.le_refl _) _).alloc (by simp) _
  by_cases g0 : GraphP ev n f
  case neg =>
    have HE := Lib.hid (bo_false (show ¬ TableP ev n f p m x from fun h => g0 h.1))
    have H0 := Lib.hid (bo_false g0)
    clear g0
    go_enter Try.func93, Try.ntmps93
    go_wp2_with fail
    refine (specIsEventGraph_any ev A n c f _ hn (hf.below hb0 (Nat.le_refl _))).mono ?_
    rw [H0.out]
    rintro e w1 ⟨rfl, hb1⟩
    have s1 := hb1.size
    simp only [World.size_alloc] at s1
    have hB1 : Below W.heap.size W w1 := hb0.trans (hb1.mono (by simp <;> omega))
    have k0 : w1.cell? ⟨W.heap.size, 0, none⟩ = some (Value.int .i64 ev) := (hb1.cell (p := ⟨W.heap.size, 0, none⟩) (by simp <;> omega)).trans (c2a _ _ _ _ _ 0)
    have k1 : w1.cell? ⟨W.heap.size, 1, none⟩ = some (Value.slice A n c) := (hb1.cell (p := ⟨W.heap.size, 1, none⟩) (by simp <;> omega)).trans (c2a _ _ _ _ _ 1)
    have m0 : w1.cell? ⟨W.heap.size + 1, 0, none⟩ = some (Value.int .i64 p) := (hb1.cell (p := ⟨W.heap.size + 1, 0, none⟩) (by simp <;> omega)).trans (c2b _ _ _ _ _ 0)
    have m1 : w1.cell? ⟨W.heap.size + 1, 1, none⟩ = some (Value.slice B m d) := (hb1.cell (p := ⟨W.heap.size + 1, 1, none⟩) (by simp <;> omega)).trans (c2b _ _ _ _ _ 1)
    go_wp2
    go_ret
    exact ⟨ret_bool HE.out.symm, hB1⟩
  case pos =>
    have H0 := Lib.hid (bo_true g0)
    by_cases g1 : InP p 0 100000
    case neg =>
      have HE := Lib.hid (bo_false (show ¬ TableP ev n f p m x from fun h => g1 h.2.1))
      have H1 := Lib.hid (bo_false g1)
      clear g0 g1
      go_enter Try.func93, Try.ntmps93
      go_wp2_with fail
      refine (specIsEventGraph_any ev A n c f _ hn (hf.below hb0 (Nat.le_refl _))).mono ?_
      rw [H0.out]
      rintro e w1 ⟨rfl, hb1⟩
      have s1 := hb1.size
      simp only [World.size_alloc] at s1
      have hB1 : Below W.heap.size W w1 := hb0.trans (hb1.mono (by simp <;> omega))
      have k0 : w1.cell? ⟨W.heap.size, 0, none⟩ = some (Value.int .i64 ev) := (hb1.cell (p := ⟨W.heap.size, 0, none⟩) (by simp <;> omega)).trans (c2a _ _ _ _ _ 0)
      have k1 : w1.cell? ⟨W.heap.size, 1, none⟩ = some (Value.slice A n c) := (hb1.cell (p := ⟨W.heap.size, 1, none⟩) (by simp <;> omega)).trans (c2a _ _ _ _ _ 1)
      have m0 : w1.cell? ⟨W.heap.size + 1, 0, none⟩ = some (Value.int .i64 p) := (hb1.cell (p := ⟨W.heap.size + 1, 0, none⟩) (by simp <;> omega)).trans (c2b _ _ _ _ _ 0)
      have m1 : w1.cell? ⟨W.heap.size + 1, 1, none⟩ = some (Value.slice B m d) := (hb1.cell (p := ⟨W.heap.size + 1, 1, none⟩) (by simp <;> omega)).trans (c2b _ _ _ _ _ 1)
      go_wp2_with fail
      refine (l01In_b _ _ _ _ H1.out).mono ?_
      rintro e w' ⟨rfl, rfl⟩
      go_wp2
      go_ret
      exact ⟨ret_bool HE.out.symm, hB1⟩
    case pos =>
      have H1 := Lib.hid (bo_true g1)
      by_cases g2 : (m : Int) = ev
      case neg =>
        have HE := Lib.hid (bo_false (show ¬ TableP ev n f p m x from fun h => g2 h.2.2.1))
        have ht2 : ((m : Int) == ev) = false := by simpa using g2
        clear g0 g1 g2
        go_enter Try.func93, Try.ntmps93
        go_wp2_with fail
        refine (specIsEventGraph_any ev A n c f _ hn (hf.below hb0 (Nat.le_refl _))).mono ?_
        rw [H0.out]
        rintro e w1 ⟨rfl, hb1⟩
        have s1 := hb1.size
        simp only [World.size_alloc] at s1
        have hB1 : Below W.heap.size W w1 := hb0.trans (hb1.mono (by simp <;> omega))
        have k0 : w1.cell? ⟨W.heap.size, 0, none⟩ = some (Value.int .i64 ev) := (hb1.cell (p := ⟨W.heap.size, 0, none⟩) (by simp <;> omega)).trans (c2a _ _ _ _ _ 0)
        have k1 : w1.cell? ⟨W.heap.size, 1, none⟩ = some (Value.slice A n c) := (hb1.cell (p := ⟨W.heap.size, 1, none⟩) (by simp <;> omega)).trans (c2a _ _ _ _ _ 1)
        have m0 : w1.cell? ⟨W.heap.size + 1, 0, none⟩ = some (Value.int .i64 p) := (hb1.cell (p := ⟨W.heap.size + 1, 0, none⟩) (by simp <;> omega)).trans (c2b _ _ _ _ _ 0)
        have m1 : w1.cell? ⟨W.heap.size + 1, 1, none⟩ = some (Value.slice B m d) := (hb1.cell (p := ⟨W.heap.size + 1, 1, none⟩) (by simp <;> omega)).trans (c2b _ _ _ _ _ 1)
        go_wp2_with fail
        refine (l01In_b _ _ _ _ H1.out).mono ?_
        rintro e w' ⟨rfl, rfl⟩
        go_wp2
        go_ret
        exact ⟨ret_bool HE.out.symm, hB1⟩
      case pos =>
        have ht2 : ((m : Int) == ev) = true := by simpa using g2
        by_cases g3 : WithinP m x 10 0 1000000
        case neg =>
          have HE := Lib.hid (bo_false (show ¬ TableP ev n f p m x from fun h => g3 ⟨by have := h.2.2.1; have := h.1.1.2; omega, h.2.2.2⟩))
          have H3 := Lib.hid (bo_false g3)
          clear g0 g1 g2 g3
          go_enter Try.func93, Try.ntmps93
          go_wp2_with fail
          refine (specIsEventGraph_any ev A n c f _ hn (hf.below hb0 (Nat.le_refl _))).mono ?_
          rw [H0.out]
          rintro e w1 ⟨rfl, hb1⟩
          have s1 := hb1.size
          simp only [World.size_alloc] at s1
          have hB1 : Below W.heap.size W w1 := hb0.trans (hb1.mono (by simp <;> omega))
          have k0 : w1.cell? ⟨W.heap.size, 0, none⟩ = some (Value.int .i64 ev) := (hb1.cell (p := ⟨W.heap.size, 0, none⟩) (by simp <;> omega)).trans (c2a _ _ _ _ _ 0)
          have k1 : w1.cell? ⟨W.heap.size, 1, none⟩ = some (Value.slice A n c) := (hb1.cell (p := ⟨W.heap.size, 1, none⟩) (by simp <;> omega)).trans (c2a _ _ _ _ _ 1)
          have m0 : w1.cell? ⟨W.heap.size + 1, 0, none⟩ = some (Value.int .i64 p) := (hb1.cell (p := ⟨W.heap.size + 1, 0, none⟩) (by simp <;> omega)).trans (c2b _ _ _ _ _ 0)
          have m1 : w1.cell? ⟨W.heap.size + 1, 1, none⟩ = some (Value.slice B m d) := (hb1.cell (p := ⟨W.heap.size + 1, 1, none⟩) (by simp <;> omega)).trans (c2b _ _ _ _ _ 1)
          go_wp2_with fail
          refine (l01In_b _ _ _ _ H1.out).mono ?_
          rintro e w' ⟨rfl, rfl⟩
          go_wp2_with fail
          refine (l01Within_any B m d x 10 0 1000000 _ (by omega) ((hx.below hb0 (Nat.le_refl _)).below hb1 (Nat.le_refl _))).mono ?_
          rw [H3.out]
          rintro e w' ⟨rfl, rfl⟩
          go_wp2
          go_ret
          exact ⟨ret_bool HE.out.symm, hB1⟩
        case pos =>
          have H3 := Lib.hid (bo_true g3)
          have HE := Lib.hid (bo_true (show TableP ev n f p m x from ⟨g0, g1, g2, g3.2⟩))
          clear g0 g1 g2 g3
          go_enter Try.func93, Try.ntmps93
          go_wp2_with fail
          refine (specIsEventGraph_any ev A n c f _ hn (hf.below hb0 (Nat.le_refl _))).mono ?_
          rw [H0.out]
          rintro e w1 ⟨rfl, hb1⟩
          have s1 := hb1.size
          simp only [World.size_alloc] at s1
          have hB1 : Below W.heap.size W w1 := hb0.trans (hb1.mono (by simp <;> omega))
          have k0 : w1.cell? ⟨W.heap.size, 0, none⟩ = some (Value.int .i64 ev) := (hb1.cell (p := ⟨W.heap.size, 0, none⟩) (by simp <;> omega)).trans (c2a _ _ _ _ _ 0)
          have k1 : w1.cell? ⟨W.heap.size, 1, none⟩ = some (Value.slice A n c) := (hb1.cell (p := ⟨W.heap.size, 1, none⟩) (by simp <;> omega)).trans (c2a _ _ _ _ _ 1)
          have m0 : w1.cell? ⟨W.heap.size + 1, 0, none⟩ = some (Value.int .i64 p) := (hb1.cell (p := ⟨W.heap.size + 1, 0, none⟩) (by simp <;> omega)).trans (c2b _ _ _ _ _ 0)
          have m1 : w1.cell? ⟨W.heap.size + 1, 1, none⟩ = some (Value.slice B m d) := (hb1.cell (p := ⟨W.heap.size + 1, 1, none⟩) (by simp <;> omega)).trans (c2b _ _ _ _ _ 1)
          go_wp2_with fail
          refine (l01In_b _ _ _ _ H1.out).mono ?_
          rintro e w' ⟨rfl, rfl⟩
          go_wp2_with fail
          refine (l01Within_any B m d x 10 0 1000000 _ (by omega) ((hx.below hb0 (Nat.le_refl _)).below hb1 (Nat.le_refl _))).mono ?_
          rw [H3.out]
          rintro e w' ⟨rfl, rfl⟩
          go_wp2
          go_ret
          exact ⟨ret_bool HE.out.symm, hB1⟩

set_option maxRecDepth 100000 in
set_option maxHeartbeats 1000000 in
theorem isTimetable_any (ev : Int) (A : Option Addr) (n c : Nat) (p : Int) (B : Option Addr) (m d : Nat) (x : Nat → Int) (W : World) (hm : m ≤ 1048576) (hx : RI W B m x) :
    Calls Try.prog 94 #[.agg #[.int .i64 ev, .slice A n c], .agg #[.int .i64 p, .slice B m d]] W fun e w' => e = .returned (.bool (bo (TimeP ev p m x))) ∧ Below W.heap.size W w' := by
  have hb0 : Below W.heap.size W ((W.alloc (Obj.cells #[Value.int .i64 ev, Value.slice A n c] 52)).alloc (Obj.cells #[Value.int .i64 p, Value.slice B m d] 54)) := ((Below.refl _ _).alloc (Nat.le_refl _) _).alloc (by simp) _
  by_cases g0 : InP p 0 100000
  case neg =>
    have HE := Lib.hid (bo_false (show ¬ TimeP ev p m x from fun h => g0 h.1))
    have H0 := Lib.hid (bo_false g0)
    clear g0
    go_enter Try.func94, Try.ntmps94
    go_wp2_with fail
    refine (within_b _ _ _ _ H0.out).mono ?_
    rintro e w' ⟨rfl, rfl⟩
    go_wp2
    go_ret
    exact ⟨ret_bool HE.out.symm, hb0⟩
  case pos =>
    have H0 := Lib.hid (bo_true g0)
    by_cases g1 : (m : Int) = ev
    case neg =>
      have HE := Lib.hid (bo_false (show ¬ TimeP ev p m x from fun h => g1 h.2.1))
      have ht1 : ((m : Int) == ev) = false := by simpa using g1
      clear g0 g1
      go_enter Try.func94, Try.ntmps94
      go_wp2_with fail
      refine (within_b _ _ _ _ H0.out).mono ?_
      rintro e w' ⟨rfl, rfl⟩
      go_wp2
      go_ret
      exact ⟨ret_bool HE.out.symm, hb0⟩
    case pos =>
      have ht1 : ((m : Int) == ev) = true := by simpa using g1
      by_cases g2 : AllInP m x 0 1000000
      case neg =>
        have HE := Lib.hid (bo_false (show ¬ TimeP ev p m x from fun h => g2 h.2.2))
        have H2 := Lib.hid (bo_false g2)
        clear g0 g1 g2
        go_enter Try.func94, Try.ntmps94
        go_wp2_with fail
        refine (within_b _ _ _ _ H0.out).mono ?_
        rintro e w' ⟨rfl, rfl⟩
        go_wp2_with fail
        refine (allWithin_any B m d x 0 1000000 _ (by omega) (hx.below hb0 (Nat.le_refl _))).mono ?_
        rw [H2.out]
        rintro e w' ⟨rfl, rfl⟩
        go_wp2
        go_ret
        exact ⟨ret_bool HE.out.symm, hb0⟩
      case pos =>
        have H2 := Lib.hid (bo_true g2)
        have HE := Lib.hid (bo_true (show TimeP ev p m x from ⟨g0, g1, g2⟩))
        clear g0 g1 g2
        go_enter Try.func94, Try.ntmps94
        go_wp2_with fail
        refine (within_b _ _ _ _ H0.out).mono ?_
        rintro e w' ⟨rfl, rfl⟩
        go_wp2_with fail
        refine (allWithin_any B m d x 0 1000000 _ (by omega) (hx.below hb0 (Nat.le_refl _))).mono ?_
        rw [H2.out]
        rintro e w' ⟨rfl, rfl⟩
        go_wp2
        go_ret
        exact ⟨ret_bool HE.out.symm, hb0⟩

end Go.Proofs.Ytfhpahnflnahkaa