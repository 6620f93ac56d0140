/- What a graph is: the program's check. -/
import Derived.Test.YtfhpahnflnahkaaGraph
namespace Go.Proofs.Ytfhpahnflnahkaa
open Go.RowKit

set_option maxHeartbeats 400000 in
theorem isEvent_b (ev x : Int) (A : Option Addr) (n c : Nat) (W : World) (h1 : 1 ≤ ev) (h2 : ev ≤ 10) {v : Bool} (hv : bo (InP x 0 (ev - 1)) = v) :
    Calls Try.prog 112 #[.agg #[.int .i64 ev, .slice A n c], .int .i64 x] W fun e w' => e = .returned (.bool v) ∧ Below W.heap.size W w' := by
  have HV := Lib.hid hv; clear hv
  go_enter Try.func112, Try.ntmps112
  go_wp2_with fail
  refine (within_b x 0 (ev - 1) _ HV.out).mono ?_
  rintro e w1 ⟨rfl, rfl⟩
  go_wp2
  go_ret
  exact ⟨rfl, (Below.refl _ _).alloc (Nat.le_refl _) _⟩

set_option maxRecDepth 100000 in
set_option maxHeartbeats 1000000 in
theorem isPlace_any (ev a b c d : Int) (A : Option Addr) (n k : Nat) (W : World) (h1 : 1 ≤ ev) (h2 : ev ≤ 10) :
    Calls Try.prog 106 #[.agg #[.int .i64 ev, .slice A n k], .agg #[.int .i64 a, .int .i64 b, .int .i64 c, .int .i64 d]] W fun e w' => e = .returned (.bool (bo (PlaceP ev a b c d))) ∧ Below W.heap.size W w' := by
  have hb0 : Below W.heap.size W ((W.alloc (Obj.cells #[Value.int .i64 ev, Value.slice A n k] 52)).alloc (Obj.cells #[Value.int .i64 a, Value.int .i64 b, Value.int .i64 c, Value.int .i64 d] 108)) := ((Below.refl _ _).alloc (Nat.le_refl _) _).alloc (by simp) _
  by_cases g0 : InP a 0 (ev - 1)
  case neg =>
    have H0 := Lib.hid (bo_false g0)
    have HE := Lib.hid (bo_false (show ¬ PlaceP ev a b c d from fun h => g0 h.1))
    clear g0
    go_enter Try.func106, Try.ntmps106
    go_wp2_with fail
    refine (isEvent_b ev a A n k _ h1 h2 H0.out).mono ?_
    rintro e w1 ⟨rfl, hb1⟩
    have s1 := hb1.size
    simp only [World.size_alloc] at s1
    have hB1 : Below W.heap.size W w1 := hb0.trans (hb1.mono (by simp <;> omega))
    have k0 : w1.cell? ⟨W.heap.size, 0, none⟩ = some (Value.int .i64 ev) := (hb1.cell (p := ⟨W.heap.size, 0, none⟩) (by simp <;> omega)).trans (c2a _ _ _ _ _ 0)
    have k1 : w1.cell? ⟨W.heap.size, 1, none⟩ = some (Value.slice A n k) := (hb1.cell (p := ⟨W.heap.size, 1, none⟩) (by simp <;> omega)).trans (c2a _ _ _ _ _ 1)
    have m0 : w1.cell? ⟨W.heap.size + 1, 0, none⟩ = some (Value.int .i64 a) := (hb1.cell (p := ⟨W.heap.size + 1, 0, none⟩) (by simp <;> omega)).trans (c2b _ _ _ _ _ 0)
    have m1 : w1.cell? ⟨W.heap.size + 1, 1, none⟩ = some (Value.int .i64 b) := (hb1.cell (p := ⟨W.heap.size + 1, 1, none⟩) (by simp <;> omega)).trans (c2b _ _ _ _ _ 1)
    have m2 : w1.cell? ⟨W.heap.size + 1, 2, none⟩ = some (Value.int .i64 c) := (hb1.cell (p := ⟨W.heap.size + 1, 2, none⟩) (by simp <;> omega)).trans (c2b _ _ _ _ _ 2)
    have m3 : w1.cell? ⟨W.heap.size + 1, 3, none⟩ = some (Value.int .i64 d) := (hb1.cell (p := ⟨W.heap.size + 1, 3, none⟩) (by simp <;> omega)).trans (c2b _ _ _ _ _ 3)
    go_wp2
    go_ret
    exact ⟨ret_bool HE.out.symm, hB1⟩
  case pos =>
    have H0 := Lib.hid (bo_true g0)
    by_cases g1 : InP b 0 (ev - 1)
    case neg =>
      have H1 := Lib.hid (bo_false g1)
      have HE := Lib.hid (bo_false (show ¬ PlaceP ev a b c d from fun h => g1 h.2.1))
      clear g0 g1
      go_enter Try.func106, Try.ntmps106
      go_wp2_with fail
      refine (isEvent_b ev a A n k _ h1 h2 H0.out).mono ?_
      rintro e w1 ⟨rfl, hb1⟩
      have s1 := hb1.size
      simp only [World.size_alloc] at s1
      have hB1 : Below W.heap.size W w1 := hb0.trans (hb1.mono (by simp <;> omega))
      have k0 : w1.cell? ⟨W.heap.size, 0, none⟩ = some (Value.int .i64 ev) := (hb1.cell (p := ⟨W.heap.size, 0, none⟩) (by simp <;> omega)).trans (c2a _ _ _ _ _ 0)
      have k1 : w1.cell? ⟨W.heap.size, 1, none⟩ = some (Value.slice A n k) := (hb1.cell (p := ⟨W.heap.size, 1, none⟩) (by simp <;> omega)).trans (c2a _ _ _ _ _ 1)
      have m0 : w1.cell? ⟨W.heap.size + 1, 0, none⟩ = some (Value.int .i64 a) := (hb1.cell (p := ⟨W.heap.size + 1, 0, none⟩) (by simp <;> omega)).trans (c2b _ _ _ _ _ 0)
      have m1 : w1.cell? ⟨W.heap.size + 1, 1, none⟩ = some (Value.int .i64 b) := (hb1.cell (p := ⟨W.heap.size + 1, 1, none⟩) (by simp <;> omega)).trans (c2b _ _ _ _ _ 1)
      have m2 : w1.cell? ⟨W.heap.size + 1, 2, none⟩ = some (Value.int .i64 c) := (hb1.cell (p := ⟨W.heap.size + 1, 2, none⟩) (by simp <;> omega)).trans (c2b _ _ _ _ _ 2)
      have m3 : w1.cell? ⟨W.heap.size + 1, 3, none⟩ = some (Value.int .i64 d) := (hb1.cell (p := ⟨W.heap.size + 1, 3, none⟩) (by simp <;> omega)).trans (c2b _ _ _ _ _ 3)
      go_wp2_with fail
      refine (isEvent_b ev b A n k _ h1 h2 H1.out).mono ?_
      rintro e w2 ⟨rfl, hb2⟩
      have s2 := hb2.size
      have hB2 : Below W.heap.size W w2 := hB1.trans (hb2.mono (by omega))
      have k0' : w2.cell? ⟨W.heap.size, 0, none⟩ = some (Value.int .i64 ev) := (hb2.cell (p := ⟨W.heap.size, 0, none⟩) (by simp <;> omega)).trans k0
      have k1' : w2.cell? ⟨W.heap.size, 1, none⟩ = some (Value.slice A n k) := (hb2.cell (p := ⟨W.heap.size, 1, none⟩) (by simp <;> omega)).trans k1
      have m0' : w2.cell? ⟨W.heap.size + 1, 0, none⟩ = some (Value.int .i64 a) := (hb2.cell (p := ⟨W.heap.size + 1, 0, none⟩) (by simp <;> omega)).trans m0
      have m1' : w2.cell? ⟨W.heap.size + 1, 1, none⟩ = some (Value.int .i64 b) := (hb2.cell (p := ⟨W.heap.size + 1, 1, none⟩) (by simp <;> omega)).trans m1
      have m2' : w2.cell? ⟨W.heap.size + 1, 2, none⟩ = some (Value.int .i64 c) := (hb2.cell (p := ⟨W.heap.size + 1, 2, none⟩) (by simp <;> omega)).trans m2
      have m3' : w2.cell? ⟨W.heap.size + 1, 3, none⟩ = some (Value.int .i64 d) := (hb2.cell (p := ⟨W.heap.size + 1, 3, none⟩) (by simp <;> omega)).trans m3
      go_wp2
      go_ret
      exact ⟨ret_bool HE.out.symm, hB2⟩
    case pos =>
      have H1 := Lib.hid (bo_true g1)
      by_cases g2 : InP c 0 1000
      case neg =>
        have H2 := Lib.hid (bo_false g2)
        have HE := Lib.hid (bo_false (show ¬ PlaceP ev a b c d from fun h => g2 h.2.2.1))
        clear g0 g1 g2
        go_enter Try.func106, Try.ntmps106
        go_wp2_with fail
        refine (isEvent_b ev a A n k _ h1 h2 H0.out).mono ?_
        rintro e w1 ⟨rfl, hb1⟩
        have s1 := hb1.size
        simp only [World.size_alloc] at s1
        have hB1 : Below W.heap.size W w1 := hb0.trans (hb1.mono (by simp <;> omega))
        have k0 : w1.cell? ⟨W.heap.size, 0, none⟩ = some (Value.int .i64 ev) := (hb1.cell (p := ⟨W.heap.size, 0, none⟩) (by simp <;> omega)).trans (c2a _ _ _ _ _ 0)
        have k1 : w1.cell? ⟨W.heap.size, 1, none⟩ = some (Value.slice A n k) := (hb1.cell (p := ⟨W.heap.size, 1, none⟩) (by simp <;> omega)).trans (c2a _ _ _ _ _ 1)
        have m0 : w1.cell? ⟨W.heap.size + 1, 0, none⟩ = some (Value.int .i64 a) := (hb1.cell (p := ⟨W.heap.size + 1, 0, none⟩) (by simp <;> omega)).trans (c2b _ _ _ _ _ 0)
        have m1 : w1.cell? ⟨W.heap.size + 1, 1, none⟩ = some (Value.int .i64 b) := (hb1.cell (p := ⟨W.heap.size + 1, 1, none⟩) (by simp <;> omega)).trans (c2b _ _ _ _ _ 1)
        have m2 : w1.cell? ⟨W.heap.size + 1, 2, none⟩ = some (Value.int .i64 c) := (hb1.cell (p := ⟨W.heap.size + 1, 2, none⟩) (by simp <;> omega)).trans (c2b _ _ _ _ _ 2)
        have m3 : w1.cell? ⟨W.heap.size + 1, 3, none⟩ = some (Value.int .i64 d) := (hb1.cell (p := ⟨W.heap.size + 1, 3, none⟩) (by simp <;> omega)).trans (c2b _ _ _ _ _ 3)
        go_wp2_with fail
        refine (isEvent_b ev b A n k _ h1 h2 H1.out).mono ?_
        rintro e w2 ⟨rfl, hb2⟩
        have s2 := hb2.size
        have hB2 : Below W.heap.size W w2 := hB1.trans (hb2.mono (by omega))
        have k0' : w2.cell? ⟨W.heap.size, 0, none⟩ = some (Value.int .i64 ev) := (hb2.cell (p := ⟨W.heap.size, 0, none⟩) (by simp <;> omega)).trans k0
        have k1' : w2.cell? ⟨W.heap.size, 1, none⟩ = some (Value.slice A n k) := (hb2.cell (p := ⟨W.heap.size, 1, none⟩) (by simp <;> omega)).trans k1
        have m0' : w2.cell? ⟨W.heap.size + 1, 0, none⟩ = some (Value.int .i64 a) := (hb2.cell (p := ⟨W.heap.size + 1, 0, none⟩) (by simp <;> omega)).trans m0
        have m1' : w2.cell? ⟨W.heap.size + 1, 1, none⟩ = some (Value.int .i64 b) := (hb2.cell (p := ⟨W.heap.size + 1, 1, none⟩) (by simp <;> omega)).trans m1
        have m2' : w2.cell? ⟨W.heap.size + 1, 2, none⟩ = some (Value.int .i64 c) := (hb2.cell (p := ⟨W.heap.size + 1, 2, none⟩) (by simp <;> omega)).trans m2
        have m3' : w2.cell? ⟨W.heap.size + 1, 3, none⟩ = some (Value.int .i64 d) := (hb2.cell (p := ⟨W.heap.size + 1, 3, none⟩) (by simp <;> omega)).trans m3
        go_wp2_with fail
        refine (within_b c 0 1000 _ H2.out).mono ?_
        rintro e w' ⟨rfl, rfl⟩
        go_wp2
        go_ret
        exact ⟨ret_bool HE.out.symm, hB2⟩
      case pos =>
        have H2 := Lib.hid (bo_true g2)
        by_cases g3 : InP d 0 5
        case neg =>
          have H3 := Lib.hid (bo_false g3)
          have HE := Lib.hid (bo_false (show ¬ PlaceP ev a b c d from fun h => g3 h.2.2.2))
          clear g0 g1 g2 g3
          go_enter Try.func106, Try.ntmps106
          go_wp2_with fail
          refine (isEvent_b ev a A n k _ h1 h2 H0.out).mono ?_
          rintro e w1 ⟨rfl, hb1⟩
          have s1 := hb1.size
          simp only [World.size_alloc] at s1
          have hB1 : Below W.heap.size W w1 := hb0.trans (hb1.mono (by simp <;> omega))
          have k0 : w1.cell? ⟨W.heap.size, 0, none⟩ = some (Value.int .i64 ev) := (hb1.cell (p := ⟨W.heap.size, 0, none⟩) (by simp <;> omega)).trans (c2a _ _ _ _ _ 0)
          have k1 : w1.cell? ⟨W.heap.size, 1, none⟩ = some (Value.slice A n k) := (hb1.cell (p := ⟨W.heap.size, 1, none⟩) (by simp <;> omega)).trans (c2a _ _ _ _ _ 1)
          have m0 : w1.cell? ⟨W.heap.size + 1, 0, none⟩ = some (Value.int .i64 a) := (hb1.cell (p := ⟨W.heap.size + 1, 0, none⟩) (by simp <;> omega)).trans (c2b _ _ _ _ _ 0)
          have m1 : w1.cell? ⟨W.heap.size + 1, 1, none⟩ = some (Value.int .i64 b) := (hb1.cell (p := ⟨W.heap.size + 1, 1, none⟩) (by simp <;> omega)).trans (c2b _ _ _ _ _ 1)
          have m2 : w1.cell? ⟨W.heap.size + 1, 2, none⟩ = some (Value.int .i64 c) := (hb1.cell (p := ⟨W.heap.size + 1, 2, none⟩) (by simp <;> omega)).trans (c2b _ _ _ _ _ 2)
          have m3 : w1.cell? ⟨W.heap.size + 1, 3, none⟩ = some (Value.int .i64 d) := (hb1.cell (p := ⟨W.heap.size + 1, 3, none⟩) (by simp <;> omega)).trans (c2b _ _ _ _ _ 3)
          go_wp2_with fail
          refine (isEvent_b ev b A n k _ h1 h2 H1.out).mono ?_
          rintro e w2 ⟨rfl, hb2⟩
          have s2 := hb2.size
          have hB2 : Below W.heap.size W w2 := hB1.trans (hb2.mono (by omega))
          have k0' : w2.cell? ⟨W.heap.size, 0, none⟩ = some (Value.int .i64 ev) := (hb2.cell (p := ⟨W.heap.size, 0, none⟩) (by simp <;> omega)).trans k0
          have k1' : w2.cell? ⟨W.heap.size, 1, none⟩ = some (Value.slice A n k) := (hb2.cell (p := ⟨W.heap.size, 1, none⟩) (by simp <;> omega)).trans k1
          have m0' : w2.cell? ⟨W.heap.size + 1, 0, none⟩ = some (Value.int .i64 a) := (hb2.cell (p := ⟨W.heap.size + 1, 0, none⟩) (by simp <;> omega)).trans m0
          have m1' : w2.cell? ⟨W.heap.size + 1, 1, none⟩ = some (Value.int .i64 b) := (hb2.cell (p := ⟨W.heap.size + 1, 1, none⟩) (by simp <;> omega)).trans m1
          have m2' : w2.cell? ⟨W.heap.size + 1, 2, none⟩ = some (Value.int .i64 c) := (hb2.cell (p := ⟨W.heap.size + 1, 2, none⟩) (by simp <;> omega)).trans m2
          have m3' : w2.cell? ⟨W.heap.size + 1, 3, none⟩ = some (Value.int .i64 d) := (hb2.cell (p := ⟨W.heap.size + 1, 3, none⟩) (by simp <;> omega)).trans m3
          go_wp2_with fail
          refine (within_b c 0 1000 _ H2.out).mono ?_
          rintro e w' ⟨rfl, rfl⟩
          go_wp2_with fail
          refine (within_b d 0 5 _ H3.out).mono ?_
          rintro e w' ⟨rfl, rfl⟩
          go_wp2
          go_ret
          exact ⟨ret_bool HE.out.symm, hB2⟩
        case pos =>
          have H3 := Lib.hid (bo_true g3)
          have HE := Lib.hid (bo_true (show PlaceP ev a b c d from ⟨g0, g1, g2, g3⟩))
          clear g0 g1 g2 g3
          go_enter Try.func106, Try.ntmps106
          go_wp2_with fail
          refine (isEvent_b ev a A n k _ h1 h2 H0.out).mono ?_
          rintro e w1 ⟨rfl, hb1⟩
          have s1 := hb1.size
          simp only [World.size_alloc] at s1
          have hB1 : Below W.heap.size W w1 := hb0.trans (hb1.mono (by simp <;> omega))
          have k0 : w1.cell? ⟨W.heap.size, 0, none⟩ = some (Value.int .i64 ev) := (hb1.cell (p := ⟨W.heap.size, 0, none⟩) (by simp <;> omega)).trans (c2a _ _ _ _ _ 0)
          have k1 : w1.cell? ⟨W.heap.size, 1, none⟩ = some (Value.slice A n k) := (hb1.cell (p := ⟨W.heap.size, 1, none⟩) (by simp <;> omega)).trans (c2a _ _ _ _ _ 1)
          have m0 : w1.cell? ⟨W.heap.size + 1, 0, none⟩ = some (Value.int .i64 a) := (hb1.cell (p := ⟨W.heap.size + 1, 0, none⟩) (by simp <;> omega)).trans (c2b _ _ _ _ _ 0)
          have m1 : w1.cell? ⟨W.heap.size + 1, 1, none⟩ = some (Value.int .i64 b) := (hb1.cell (p := ⟨W.heap.size + 1, 1, none⟩) (by simp <;> omega)).trans (c2b _ _ _ _ _ 1)
          have m2 : w1.cell? ⟨W.heap.size + 1, 2, none⟩ = some (Value.int .i64 c) := (hb1.cell (p := ⟨W.heap.size + 1, 2, none⟩) (by simp <;> omega)).trans (c2b _ _ _ _ _ 2)
          have m3 : w1.cell? ⟨W.heap.size + 1, 3, none⟩ = some (Value.int .i64 d) := (hb1.cell (p := ⟨W.heap.size + 1, 3, none⟩) (by simp <;> omega)).trans (c2b _ _ _ _ _ 3)
          go_wp2_with fail
          refine (isEvent_b ev b A n k _ h1 h2 H1.out).mono ?_
          rintro e w2 ⟨rfl, hb2⟩
          have s2 := hb2.size
          have hB2 : Below W.heap.size W w2 := hB1.trans (hb2.mono (by omega))
          have k0' : w2.cell? ⟨W.heap.size, 0, none⟩ = some (Value.int .i64 ev) := (hb2.cell (p := ⟨W.heap.size, 0, none⟩) (by simp <;> omega)).trans k0
          have k1' : w2.cell? ⟨W.heap.size, 1, none⟩ = some (Value.slice A n k) := (hb2.cell (p := ⟨W.heap.size, 1, none⟩) (by simp <;> omega)).trans k1
          have m0' : w2.cell? ⟨W.heap.size + 1, 0, none⟩ = some (Value.int .i64 a) := (hb2.cell (p := ⟨W.heap.size + 1, 0, none⟩) (by simp <;> omega)).trans m0
          have m1' : w2.cell? ⟨W.heap.size + 1, 1, none⟩ = some (Value.int .i64 b) := (hb2.cell (p := ⟨W.heap.size + 1, 1, none⟩) (by simp <;> omega)).trans m1
          have m2' : w2.cell? ⟨W.heap.size + 1, 2, none⟩ = some (Value.int .i64 c) := (hb2.cell (p := ⟨W.heap.size + 1, 2, none⟩) (by simp <;> omega)).trans m2
          have m3' : w2.cell? ⟨W.heap.size + 1, 3, none⟩ = some (Value.int .i64 d) := (hb2.cell (p := ⟨W.heap.size + 1, 3, none⟩) (by simp <;> omega)).trans m3
          go_wp2_with fail
          refine (within_b c 0 1000 _ H2.out).mono ?_
          rintro e w' ⟨rfl, rfl⟩
          go_wp2_with fail
          refine (within_b d 0 5 _ H3.out).mono ?_
          rintro e w' ⟨rfl, rfl⟩
          go_wp2
          go_ret
          exact ⟨ret_bool HE.out.symm, hB2⟩

set_option maxRecDepth 100000 in
set_option maxHeartbeats 1000000 in
theorem isEventGraph1_any (ev a b c d : Int) (A : Option Addr) (n k B : Nat) (W : World) (h1 : 1 ≤ ev) (h2 : ev ≤ 10) (hc0 : W.cell? ⟨B, 0, none⟩ = some (.int .i64 ev)) (hc1 : W.cell? ⟨B, 1, none⟩ = some (.slice A n k)) :
    Calls Try.prog 105 #[.agg #[.int .i64 a, .int .i64 b, .int .i64 c, .int .i64 d], .pointer (some ⟨B, 0, none⟩)] W fun e w' => e = .returned (.bool (!bo (PlaceP ev a b c d))) ∧ Below W.heap.size W w' := by
  have hB := World.block_lt_of_cell? W _ hc0
  have hb0 : Below W.heap.size W (W.alloc (Obj.cells #[Value.int .i64 a, Value.int .i64 b, Value.int .i64 c, Value.int .i64 d] 108)) := (Below.refl _ _).alloc (Nat.le_refl _) _
  go_enter Try.func105, Try.ntmps105
  go_wp2_with fail
  refine (isPlace_any ev a b c d A n k _ h1 h2).mono ?_
  rintro e w1 ⟨rfl, hb1⟩
  go_wp2
  go_ret
  exact ⟨rfl, hb0.trans (hb1.mono (by simp <;> omega))⟩

theorem isEventGraph1_enters : ∀ (args : Array Value) (w : World), (callFunc 105 args).run Try.prog w = .ok (.enter 105 args) w := enters_by Try.func105 (by kernel_rfl) rfl

set_option maxRecDepth 100000 in
set_option maxHeartbeats 1000000 in
theorem implIsEventGraph_any (ev : Int) (A : Option Addr) (n c : Nat) (f : Nat → Nat → Int) (W : World) (hn : n ≤ 1048576) (hf : RR W 4 A n f) :
    Calls Try.prog 72 #[.agg #[.int .i64 ev, .slice A n c]] W fun e w' => e = .returned (.bool (bo (GraphP ev n f))) ∧ Below W.heap.size W w' := by
  have hb0 : Below W.heap.size W (W.alloc (Obj.cells #[Value.int .i64 ev, Value.slice A n c] 52)) := (Below.refl _ _).alloc (Nat.le_refl _) _
  by_cases hev : InP ev 1 10
  · have HEV := Lib.hid (bo_true hev)
    by_cases hm : n ≤ 30
    · have hd : decide ((n : Int) ≤ 30) = true := decide_eq_true (by omega)
      have hfb := hf.below hb0 (Nat.le_refl _)
      go_enter Try.func72, Try.ntmps72
      go_wp2_with fail
      refine (within_b _ _ _ _ HEV.out).mono ?_
      rintro e w1 ⟨rfl, rfl⟩
      go_wp2_with fail
      refine (containsPlace_any A n c f 105 _ (fun i => !bo (PlaceP ev (f i 0) (f i 1) (f i 2) (f i 3))) _ (by omega) hfb isEventGraph1_enters ?_).mono ?_
      · intro i hi w hb
        refine isEventGraph1_any ev _ _ _ _ A n c W.heap.size w hev.1 hev.2 ?_ ?_
        · exact (hb.cell (p := ⟨W.heap.size, 0, none⟩) (by simp)).trans (c1a _ _ _ 0)
        · exact (hb.cell (p := ⟨W.heap.size, 1, none⟩) (by simp)).trans (c1a _ _ _ 1)
      · rintro e w1 ⟨rfl, hb1⟩
        have hB1 : Below W.heap.size W w1 := hb0.trans (hb1.mono (by simp))
        cases hany : anyB (fun i => !bo (PlaceP ev (f i 0) (f i 1) (f i 2) (f i 3))) n with
        | true =>
          obtain ⟨i, hi, hbad⟩ := anyB_is_true hany
          have HE := Lib.hid (bo_false (show ¬ GraphP ev n f from fun h => by rw [bo_true (h.2.2 i hi)] at hbad; simp at hbad))
          clear hany hbad
          go_wp2
          go_ret
          exact ⟨ret_bool HE.out.symm, hB1⟩
        | false =>
          have HE := Lib.hid (bo_true (show GraphP ev n f from ⟨hev, hm, fun i hi => of_bo (by have := anyB_is_false hany i hi; simpa using this)⟩))
          clear hany
          go_wp2
          go_ret
          exact ⟨ret_bool HE.out.symm, hB1⟩
    · have HNO := Lib.hid (bo_false (show ¬ GraphP ev n f from fun h => hm h.2.1))
      have hd : decide ((n : Int) ≤ 30) = false := decide_eq_false (by omega)
      clear hm
      go_enter Try.func72, Try.ntmps72
      go_wp2_with fail
      refine (within_b _ _ _ _ HEV.out).mono ?_
      rintro e w1 ⟨rfl, rfl⟩
      go_wp2
      go_ret
      exact ⟨ret_bool HNO.out.symm, hb0⟩
  · have HEV := Lib.hid (bo_false hev)
    have HNO := Lib.hid (bo_false (show ¬ GraphP ev n f from fun h => hev h.1))
    clear hev
    go_enter Try.func72, Try.ntmps72
    go_wp2_with fail
    refine (within_b _ _ _ _ HEV.out).mono ?_
    rintro e w1 ⟨rfl, rfl⟩
    go_wp2
    go_ret
    exact ⟨ret_bool HNO.out.symm, hb0⟩
end Go.Proofs.Ytfhpahnflnahkaa
