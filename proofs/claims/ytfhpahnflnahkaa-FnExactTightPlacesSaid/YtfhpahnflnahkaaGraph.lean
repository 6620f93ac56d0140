/- What a graph is: the reference's check and the program's. -/
import Derived.Test.YtfhpahnflnahkaaRange
import Derived.Test.YtfhpahnflnahkaaHasPlace
import Derived.StillTailTactics
namespace Go.Proofs.Ytfhpahnflnahkaa
open Go.RowKit

def PlaceP (ev a b c d : Int) : Prop := InP a 0 (ev - 1) ∧ InP b 0 (ev - 1) ∧ InP c 0 1000 ∧ InP d 0 5
def GraphP (ev : Int) (n : Nat) (f : Nat → Nat → Int) : Prop := InP ev 1 10 ∧ n ≤ 30 ∧ ∀ i, i < n → PlaceP ev (f i 0) (f i 1) (f i 2) (f i 3)

/-- some answer, the memory that was there as it was -/
def SomeBool (W : World) (e : Ending) (w' : World) : Prop := ∃ b : Bool, e = .returned (.bool b) ∧ Below W.heap.size W w'

set_option maxRecDepth 100000 in
set_option maxHeartbeats 1000000 in
theorem l11Place_any (ev a b c d : Int) (W : World) (h : InP ev 1 10) :
    Calls Try.prog 103 #[.agg #[.int .i64 a, .int .i64 b, .int .i64 c, .int .i64 d], .int .i64 ev] W fun e w' => e = .returned (.bool (bo (PlaceP ev a b c d))) ∧ Below W.heap.size W w' := by
  obtain ⟨he1, he2⟩ := h
  by_cases g0 : InP a 0 (ev - 1)
  · have H0 := Lib.hid (bo_true g0)
    by_cases g1 : InP b 0 (ev - 1)
    · have H1 := Lib.hid (bo_true g1)
      by_cases g2 : InP c 0 1000
      · have H2 := Lib.hid (bo_true g2)
        have HE := Lib.hid (bo_congr (show PlaceP ev a b c d ↔ InP d 0 5 from ⟨fun h => h.2.2.2, fun h => ⟨g0, g1, g2, h⟩⟩))
        clear g0 g1 g2
        go_enter Try.func103, Try.ntmps103
        go_wp2_with fail
        refine (l01In_b _ _ _ _ H0.out).mono ?_
        rintro e w1 ⟨rfl, rfl⟩
        go_wp2_with fail
        refine (l01In_b _ _ _ _ H1.out).mono ?_
        rintro e w1 ⟨rfl, rfl⟩
        go_wp2_with fail
        refine (l01In_b _ _ _ _ H2.out).mono ?_
        rintro e w1 ⟨rfl, rfl⟩
        go_wp2_with fail
        refine (l01In_any _ _ _ _).mono ?_
        rintro e w1 ⟨rfl, rfl⟩
        go_wp2
        go_ret
        exact ⟨ret_bool HE.out.symm, (Below.refl _ _).alloc (Nat.le_refl _) _⟩
      · have H2 := Lib.hid (bo_false g2)
        have HE := Lib.hid (bo_false (show ¬ PlaceP ev a b c d from fun h => g2 h.2.2.1))
        clear g0 g1 g2
        go_enter Try.func103, Try.ntmps103
        go_wp2_with fail
        refine (l01In_b _ _ _ _ H0.out).mono ?_
        rintro e w1 ⟨rfl, rfl⟩
        go_wp2_with fail
        refine (l01In_b _ _ _ _ H1.out).mono ?_
        rintro e w1 ⟨rfl, rfl⟩
        go_wp2_with fail
        refine (l01In_b _ _ _ _ H2.out).mono ?_
        rintro e w1 ⟨rfl, rfl⟩
        go_wp2
        go_ret
        exact ⟨ret_bool HE.out.symm, (Below.refl _ _).alloc (Nat.le_refl _) _⟩
    · have H1 := Lib.hid (bo_false g1)
      have HE := Lib.hid (bo_false (show ¬ PlaceP ev a b c d from fun h => g1 h.2.1))
      clear g0 g1
      go_enter Try.func103, Try.ntmps103
      go_wp2_with fail
      refine (l01In_b _ _ _ _ H0.out).mono ?_
      rintro e w1 ⟨rfl, rfl⟩
      go_wp2_with fail
      refine (l01In_b _ _ _ _ H1.out).mono ?_
      rintro e w1 ⟨rfl, rfl⟩
      go_wp2
      go_ret
      exact ⟨ret_bool HE.out.symm, (Below.refl _ _).alloc (Nat.le_refl _) _⟩
  · have H0 := Lib.hid (bo_false g0)
    have HE := Lib.hid (bo_false (show ¬ PlaceP ev a b c d from fun h => g0 h.1))
    clear g0
    go_enter Try.func103, Try.ntmps103
    go_wp2_with fail
    refine (l01In_b _ _ _ _ H0.out).mono ?_
    rintro e w1 ⟨rfl, rfl⟩
    go_wp2
    go_ret
    exact ⟨ret_bool HE.out.symm, (Below.refl _ _).alloc (Nat.le_refl _) _⟩

set_option maxRecDepth 100000 in
set_option maxHeartbeats 1000000 in
theorem l11Place_some (ev a b c d : Int) (W : World) :
    Calls Try.prog 103 #[.agg #[.int .i64 a, .int .i64 b, .int .i64 c, .int .i64 d], .int .i64 ev] W (SomeBool W) := by
  obtain ⟨z, hz⟩ : ∃ z, z = IntKind.i64.wrap (ev - 1) := ⟨_, rfl⟩
  go_enter Try.func103, Try.ntmps103
  clear hz
  go_wp2_with fail
  refine (l01In_any _ _ _ _).mono ?_
  rintro e w1 ⟨rfl, rfl⟩
  generalize bo _ = b0
  cases b0 with
  | false => go_wp2; go_ret; exact ⟨_, rfl, (Below.refl _ _).alloc (Nat.le_refl _) _⟩
  | true =>
    go_wp2_with fail
    refine (l01In_any _ _ _ _).mono ?_
    rintro e w1 ⟨rfl, rfl⟩
    generalize bo _ = b1
    cases b1 with
    | false => go_wp2; go_ret; exact ⟨_, rfl, (Below.refl _ _).alloc (Nat.le_refl _) _⟩
    | true =>
      go_wp2_with fail
      refine (l01In_any _ _ _ _).mono ?_
      rintro e w1 ⟨rfl, rfl⟩
      generalize bo _ = b2
      cases b2 with
      | false => go_wp2; go_ret; exact ⟨_, rfl, (Below.refl _ _).alloc (Nat.le_refl _) _⟩
      | true =>
        go_wp2_with fail
        refine (l01In_any _ _ _ _).mono ?_
        rintro e w1 ⟨rfl, rfl⟩
        generalize bo _ = b3
        go_wp2; go_ret; exact ⟨_, rfl, (Below.refl _ _).alloc (Nat.le_refl _) _⟩

theorem l11Place_b (ev a b c d : Int) (W : World) (h : InP ev 1 10) {v : Bool} (hv : bo (PlaceP ev a b c d) = v) :
    Calls Try.prog 103 #[.agg #[.int .i64 a, .int .i64 b, .int .i64 c, .int .i64 d], .int .i64 ev] W fun e w' => e = .returned (.bool v) ∧ Below W.heap.size W w' := by
  subst hv; exact l11Place_any ev a b c d W h

set_option maxRecDepth 100000 in
set_option maxHeartbeats 1000000 in
theorem specIsEventGraph_any (ev : Int) (A : Option Addr) (n c : Nat) (f : Nat → Nat → Int) (W : World) (hn : n ≤ 1048576) (hf : RR W 4 A n f) :
    Calls Try.prog 68 #[.agg #[.int .i64 ev, .slice A n c]] W fun e w' => e = .returned (.bool (bo (GraphP ev n f))) ∧ Below W.heap.size W w' := by
  have hb0 : Below W.heap.size W (W.alloc (Obj.cells #[Value.int .i64 ev, Value.slice A n c] 52)) := (Below.refl _ _).alloc (Nat.le_refl _) _
  have hz0 : (W.alloc (Obj.cells #[Value.int .i64 ev, Value.slice A n c] 52)).heap.size = W.heap.size + 1 := by simp
  by_cases hev : InP ev 1 10
  · have HEV := Lib.hid (bo_true hev)
    go_enter Try.func68, Try.ntmps68
    go_wp2
    go_loopw [3] (fun i wr => ∃ k : Nat, k ≤ n ∧ i = .int .i64 k ∧ Below (W.heap.size + 1) (W.alloc (Obj.cells #[Value.int .i64 ev, Value.slice A n c] 52)) wr ∧ (∀ i, i < k → PlaceP ev (f i 0) (f i 1) (f i 2) (f i 3))) (fun i _ => n - (intOf i).toNat)
    case atStart => exact ⟨0, Nat.zero_le _, rfl, Below.refl _ _, fun i hi => absurd hi (Nat.not_lt_zero _)⟩
    case round =>
      obtain ⟨k, hk, rfl, hbw, hok⟩ := hrel
      have HOK := Lib.hid hok; clear hok
      have hsz := hbw.size
      rw [hz0] at hsz
      have hbW : Below W.heap.size W wr := hb0.trans (hbw.mono (by omega))
      have hx0 : wr.cell? ⟨W.heap.size, 0, none⟩ = some (.int .i64 ev) := (hbw.cell (p := ⟨W.heap.size, 0, none⟩) (by simp)).trans (c1a _ _ _ 0)
      have hx1 : wr.cell? ⟨W.heap.size, 1, none⟩ = some (.slice A n c) := (hbw.cell (p := ⟨W.heap.size, 1, none⟩) (by simp)).trans (c1a _ _ _ 1)
      by_cases hlt : k < n
      · obtain ⟨b, off, rfl, hbl, hcell⟩ := (hf.below hbW (Nat.le_refl _)) k hlt
        have hc0 : wr.cell? ⟨b, off + k * 4, none⟩ = some (.int .i64 (f k 0)) := hcell 0 (by omega)
        have hc1 : wr.cell? ⟨b, off + k * 4 + 1, none⟩ = some (.int .i64 (f k 1)) := hcell 1 (by omega)
        have hc2 : wr.cell? ⟨b, off + k * 4 + 2, none⟩ = some (.int .i64 (f k 2)) := hcell 2 (by omega)
        have hc3 : wr.cell? ⟨b, off + k * 4 + 3, none⟩ = some (.int .i64 (f k 3)) := hcell 3 (by omega)
        clear hcell hb0
        by_cases hp : PlaceP ev (f k 0) (f k 1) (f k 2) (f k 3)
        · have HP := Lib.hid hp
          have HB := Lib.hid (bo_true hp); clear hp
          go_wp2_with fail
          go_still_tail 7, (by kernel_rfl)
          go_wp2_with fail
          refine (l11Place_b ev _ _ _ _ _ hev HB.out).mono ?_
          rintro e w1 ⟨rfl, hb1⟩
          go_wp2
          go_roundw
          case rel => exact ⟨k + 1, by omega, by go_num, hbw.drew.trans (hb1.mono hsz), fun i hi => by by_cases e : i = k; exact e ▸ HP.out; exact HOK.out i (by omega)⟩
          case measure => simp [intOf]; omega
        · have HNO := Lib.hid (bo_false (show ¬ GraphP ev n f from fun h => hp (h.2.2 k hlt)))
          have HB := Lib.hid (bo_false hp); clear hp
          go_wp2_with fail
          go_still_tail 7, (by kernel_rfl)
          go_wp2_with fail
          refine (l11Place_b ev _ _ _ _ _ hev HB.out).mono ?_
          rintro e w1 ⟨rfl, hb1⟩
          go_wp2
          go_ret
          exact ⟨ret_bool HNO.out.symm, hbW.drew.trans (hb1.mono (by show W.heap.size ≤ wr.heap.size; omega))⟩
      · obtain rfl : k = n := by omega
        have HY := Lib.hid (bo_congr (show GraphP ev k f ↔ k ≤ 30 from ⟨fun h => h.2.1, fun h => ⟨hev, h, HOK.out⟩⟩))
        clear hb0
        go_wp2_with fail
        refine (l01In_b _ _ _ _ HEV.out).mono ?_
        rintro e w1 ⟨rfl, rfl⟩
        by_cases hm : k ≤ 30
        · have HE := Lib.hid (bo_true hm)
          go_wp2
          go_ret
          exact ⟨ret_bool (by rw [HY.out, HE.out]; simp; try omega), hbW⟩
        · have HE := Lib.hid (bo_false hm)
          go_wp2
          go_ret
          exact ⟨ret_bool (by rw [HY.out, HE.out]; simp; try omega), hbW⟩
  · have HEV := Lib.hid (bo_false hev)
    have HNO := Lib.hid (bo_false (show ¬ GraphP ev n f from fun h => hev h.1))
    clear hev
    go_enter Try.func68, Try.ntmps68
    go_wp2
    go_loopw [3] (fun i wr => ∃ k : Nat, k ≤ n ∧ i = .int .i64 k ∧ Below (W.heap.size + 1) (W.alloc (Obj.cells #[Value.int .i64 ev, Value.slice A n c] 52)) wr) (fun i _ => n - (intOf i).toNat)
    case atStart => exact ⟨0, Nat.zero_le _, rfl, Below.refl _ _⟩
    case round =>
      obtain ⟨k, hk, rfl, hbw⟩ := hrel
      have hsz := hbw.size
      rw [hz0] at hsz
      have hbW : Below W.heap.size W wr := hb0.trans (hbw.mono (by omega))
      have hx0 : wr.cell? ⟨W.heap.size, 0, none⟩ = some (.int .i64 ev) := (hbw.cell (p := ⟨W.heap.size, 0, none⟩) (by simp)).trans (c1a _ _ _ 0)
      have hx1 : wr.cell? ⟨W.heap.size, 1, none⟩ = some (.slice A n c) := (hbw.cell (p := ⟨W.heap.size, 1, none⟩) (by simp)).trans (c1a _ _ _ 1)
      by_cases hlt : k < n
      · obtain ⟨b, off, rfl, hbl, hcell⟩ := (hf.below hbW (Nat.le_refl _)) k hlt
        have hc0 : wr.cell? ⟨b, off + k * 4, none⟩ = some (.int .i64 (f k 0)) := hcell 0 (by omega)
        have hc1 : wr.cell? ⟨b, off + k * 4 + 1, none⟩ = some (.int .i64 (f k 1)) := hcell 1 (by omega)
        have hc2 : wr.cell? ⟨b, off + k * 4 + 2, none⟩ = some (.int .i64 (f k 2)) := hcell 2 (by omega)
        have hc3 : wr.cell? ⟨b, off + k * 4 + 3, none⟩ = some (.int .i64 (f k 3)) := hcell 3 (by omega)
        clear hcell hb0
        go_wp2_with fail
        go_still_tail 7, (by kernel_rfl)
        go_wp2_with fail
        refine (l11Place_some ev _ _ _ _ _).mono ?_
        rintro e w1 ⟨v, rfl, hb1⟩
        cases v with
        | true =>
          go_wp2
          go_roundw
          case rel => exact ⟨k + 1, by omega, by go_num, hbw.drew.trans (hb1.mono hsz)⟩
          case measure => simp [intOf]; omega
        | false =>
          go_wp2
          go_ret
          exact ⟨ret_bool HNO.out.symm, hbW.drew.trans (hb1.mono (by show W.heap.size ≤ wr.heap.size; omega))⟩
      · obtain rfl : k = n := by omega
        clear hb0
        go_wp2_with fail
        refine (l01In_b _ _ _ _ HEV.out).mono ?_
        rintro e w1 ⟨rfl, rfl⟩
        go_wp2
        go_ret
        exact ⟨ret_bool HNO.out.symm, hbW⟩
end Go.Proofs.Ytfhpahnflnahkaa
