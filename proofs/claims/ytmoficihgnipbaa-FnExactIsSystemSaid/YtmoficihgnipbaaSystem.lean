/- What a system is: the reference's check and the program's. -/
import Derived.Test.YtmoficihgnipbaaSpecVals
import Derived.Test.YtmoficihgnipbaaImplVals
namespace Go.Proofs.Ytmoficihgnipbaa
open Go.RowKit

def SysP (n : Nat) (L : Nat → Nat) (f : Nat → Nat → Int) (p : Nat) (x : Nat → Int) (q : Nat) (y : Nat → Int) : Prop := SqP n L f ∧ VecP p x ∧ VecP q y ∧ p = n ∧ q = n

set_option maxRecDepth 100000 in
set_option maxHeartbeats 1000000 in
theorem specIsSystem_any (A B C : Option Addr) (n c p d q e : Nat) (L : Nat → Nat) (f : Nat → Nat → Int) (x y : Nat → Int) (W : World) (hn : n ≤ 9223372036854775807) (hL : ∀ i, i < n → L i ≤ 9223372036854775807) (hp : p ≤ 9223372036854775807) (hq : q ≤ 9223372036854775807)
    (hf : RM W A n L f) (hx : RI W B p x) (hy : RI W C q y) :
    Calls Try.prog 19 #[.agg #[.slice A n c, .slice B p d, .slice C q e]] W fun e' w' => e' = .returned (.bool (bo (SysP n L f p x q y))) ∧ Below W.heap.size W w' := by
  have hbx : Below W.heap.size W (W.alloc (Obj.cells #[Value.slice A n c, Value.slice B p d, Value.slice C q e] 40)) := (Below.refl W.heap.size W).alloc (Nat.le_refl _) _
  have HSQ := Lib.hid (specSquare_any A n c L f _ hn hL (hf.below hbx (Nat.le_refl _)))
  have HV1 := Lib.hid (fun (w : World) (h : RI w B p x) => specVector_any B p d x w hp h)
  have HV2 := Lib.hid (fun (w : World) (h : RI w C q y) => specVector_any C q e y w hq h)
  have hx1 := hx.below hbx (Nat.le_refl _)
  have hy1 := hy.below hbx (Nat.le_refl _)
  clear hL
  by_cases g0 : SqP n L f
  case neg =>
    have H0 := Lib.hid (bo_false g0)
    have HE := Lib.hid (bo_false (show ¬ SysP n L f p x q y from fun h => g0 h.1))
    clear hn hp hq g0
    go_enter Try.func19, Try.ntmps19
    go_wp2_with fail
    refine HSQ.out.mono ?_
    rw [H0.out]
    rintro e' w1 ⟨rfl, hb1⟩
    have s1 : W.heap.size + 1 ≤ w1.heap.size := by have := hb1.size; simpa using this
    have hB1 : Below W.heap.size W w1 := hbx.trans (hb1.mono (by simp))
    have k0w1 : w1.cell? ⟨W.heap.size, 0, none⟩ = some (Value.slice A n c) := (hb1.cell (p := ⟨W.heap.size, 0, none⟩) (by simp)).trans (by simp)
    have k1w1 : w1.cell? ⟨W.heap.size, 1, none⟩ = some (Value.slice B p d) := (hb1.cell (p := ⟨W.heap.size, 1, none⟩) (by simp)).trans (by simp)
    have k2w1 : w1.cell? ⟨W.heap.size, 2, none⟩ = some (Value.slice C q e) := (hb1.cell (p := ⟨W.heap.size, 2, none⟩) (by simp)).trans (by simp)
    go_wp2
    go_ret
    exact ⟨ret_bool HE.out.symm, hB1⟩
  case pos =>
    have H0 := Lib.hid (bo_true g0)
    by_cases g1 : VecP p x
    case neg =>
      have H1 := Lib.hid (bo_false g1)
      have HE := Lib.hid (bo_false (show ¬ SysP n L f p x q y from fun h => g1 h.2.1))
      clear hn hp hq g0 g1
      go_enter Try.func19, Try.ntmps19
      go_wp2_with fail
      refine HSQ.out.mono ?_
      rw [H0.out]
      rintro e' w1 ⟨rfl, hb1⟩
      have s1 : W.heap.size + 1 ≤ w1.heap.size := by have := hb1.size; simpa using this
      have hB1 : Below W.heap.size W w1 := hbx.trans (hb1.mono (by simp))
      have k0w1 : w1.cell? ⟨W.heap.size, 0, none⟩ = some (Value.slice A n c) := (hb1.cell (p := ⟨W.heap.size, 0, none⟩) (by simp)).trans (by simp)
      have k1w1 : w1.cell? ⟨W.heap.size, 1, none⟩ = some (Value.slice B p d) := (hb1.cell (p := ⟨W.heap.size, 1, none⟩) (by simp)).trans (by simp)
      have k2w1 : w1.cell? ⟨W.heap.size, 2, none⟩ = some (Value.slice C q e) := (hb1.cell (p := ⟨W.heap.size, 2, none⟩) (by simp)).trans (by simp)
      go_wp2_with fail
      refine (HV1.out _ (hx1.below hb1 (Nat.le_refl _))).mono ?_
      rw [H1.out]
      rintro e' w2 ⟨rfl, rfl⟩
      go_wp2
      go_ret
      exact ⟨ret_bool HE.out.symm, hB1⟩
    case pos =>
      have H1 := Lib.hid (bo_true g1)
      by_cases g2 : VecP q y
      case neg =>
        have H2 := Lib.hid (bo_false g2)
        have HE := Lib.hid (bo_false (show ¬ SysP n L f p x q y from fun h => g2 h.2.2.1))
        clear hn hp hq g0 g1 g2
        go_enter Try.func19, Try.ntmps19
        go_wp2_with fail
        refine HSQ.out.mono ?_
        rw [H0.out]
        rintro e' w1 ⟨rfl, hb1⟩
        have s1 : W.heap.size + 1 ≤ w1.heap.size := by have := hb1.size; simpa using this
        have hB1 : Below W.heap.size W w1 := hbx.trans (hb1.mono (by simp))
        have k0w1 : w1.cell? ⟨W.heap.size, 0, none⟩ = some (Value.slice A n c) := (hb1.cell (p := ⟨W.heap.size, 0, none⟩) (by simp)).trans (by simp)
        have k1w1 : w1.cell? ⟨W.heap.size, 1, none⟩ = some (Value.slice B p d) := (hb1.cell (p := ⟨W.heap.size, 1, none⟩) (by simp)).trans (by simp)
        have k2w1 : w1.cell? ⟨W.heap.size, 2, none⟩ = some (Value.slice C q e) := (hb1.cell (p := ⟨W.heap.size, 2, none⟩) (by simp)).trans (by simp)
        go_wp2_with fail
        refine (HV1.out _ (hx1.below hb1 (Nat.le_refl _))).mono ?_
        rw [H1.out]
        rintro e' w2 ⟨rfl, rfl⟩
        go_wp2_with fail
        refine (HV2.out _ (hy1.below hb1 (Nat.le_refl _))).mono ?_
        rw [H2.out]
        rintro e' w3 ⟨rfl, rfl⟩
        go_wp2
        go_ret
        exact ⟨ret_bool HE.out.symm, hB1⟩
      case pos =>
        have H2 := Lib.hid (bo_true g2)
        by_cases g3 : p = n
        case neg =>
          have ht3 : ((p : Int) == (n : Int)) = false := by simp; omega
          have HE := Lib.hid (bo_false (show ¬ SysP n L f p x q y from fun h => g3 h.2.2.2.1))
          clear hn hp hq g0 g1 g2 g3
          go_enter Try.func19, Try.ntmps19
          go_wp2_with fail
          refine HSQ.out.mono ?_
          rw [H0.out]
          rintro e' w1 ⟨rfl, hb1⟩
          have s1 : W.heap.size + 1 ≤ w1.heap.size := by have := hb1.size; simpa using this
          have hB1 : Below W.heap.size W w1 := hbx.trans (hb1.mono (by simp))
          have k0w1 : w1.cell? ⟨W.heap.size, 0, none⟩ = some (Value.slice A n c) := (hb1.cell (p := ⟨W.heap.size, 0, none⟩) (by simp)).trans (by simp)
          have k1w1 : w1.cell? ⟨W.heap.size, 1, none⟩ = some (Value.slice B p d) := (hb1.cell (p := ⟨W.heap.size, 1, none⟩) (by simp)).trans (by simp)
          have k2w1 : w1.cell? ⟨W.heap.size, 2, none⟩ = some (Value.slice C q e) := (hb1.cell (p := ⟨W.heap.size, 2, none⟩) (by simp)).trans (by simp)
          go_wp2_with fail
          refine (HV1.out _ (hx1.below hb1 (Nat.le_refl _))).mono ?_
          rw [H1.out]
          rintro e' w2 ⟨rfl, rfl⟩
          go_wp2_with fail
          refine (HV2.out _ (hy1.below hb1 (Nat.le_refl _))).mono ?_
          rw [H2.out]
          rintro e' w3 ⟨rfl, rfl⟩
          go_wp2
          go_ret
          exact ⟨ret_bool HE.out.symm, hB1⟩
        case pos =>
          have ht3 : ((p : Int) == (n : Int)) = true := by simp; omega
          by_cases g4 : q = n
          case neg =>
            have ht4 : ((q : Int) == (n : Int)) = false := by simp; omega
            have HE := Lib.hid (bo_false (show ¬ SysP n L f p x q y from fun h => g4 h.2.2.2.2))
            clear hn hp hq g0 g1 g2 g3 g4
            go_enter Try.func19, Try.ntmps19
            go_wp2_with fail
            refine HSQ.out.mono ?_
            rw [H0.out]
            rintro e' w1 ⟨rfl, hb1⟩
            have s1 : W.heap.size + 1 ≤ w1.heap.size := by have := hb1.size; simpa using this
            have hB1 : Below W.heap.size W w1 := hbx.trans (hb1.mono (by simp))
            have k0w1 : w1.cell? ⟨W.heap.size, 0, none⟩ = some (Value.slice A n c) := (hb1.cell (p := ⟨W.heap.size, 0, none⟩) (by simp)).trans (by simp)
            have k1w1 : w1.cell? ⟨W.heap.size, 1, none⟩ = some (Value.slice B p d) := (hb1.cell (p := ⟨W.heap.size, 1, none⟩) (by simp)).trans (by simp)
            have k2w1 : w1.cell? ⟨W.heap.size, 2, none⟩ = some (Value.slice C q e) := (hb1.cell (p := ⟨W.heap.size, 2, none⟩) (by simp)).trans (by simp)
            go_wp2_with fail
            refine (HV1.out _ (hx1.below hb1 (Nat.le_refl _))).mono ?_
            rw [H1.out]
            rintro e' w2 ⟨rfl, rfl⟩
            go_wp2_with fail
            refine (HV2.out _ (hy1.below hb1 (Nat.le_refl _))).mono ?_
            rw [H2.out]
            rintro e' w3 ⟨rfl, rfl⟩
            go_wp2
            go_ret
            exact ⟨ret_bool HE.out.symm, hB1⟩
          case pos =>
            have ht4 : ((q : Int) == (n : Int)) = true := by simp; omega
            have HE := Lib.hid (bo_true (show SysP n L f p x q y from ⟨g0, g1, g2, g3, g4⟩))
            clear hn hp hq g0 g1 g2 g3 g4
            go_enter Try.func19, Try.ntmps19
            go_wp2_with fail
            refine HSQ.out.mono ?_
            rw [H0.out]
            rintro e' w1 ⟨rfl, hb1⟩
            have s1 : W.heap.size + 1 ≤ w1.heap.size := by have := hb1.size; simpa using this
            have hB1 : Below W.heap.size W w1 := hbx.trans (hb1.mono (by simp))
            have k0w1 : w1.cell? ⟨W.heap.size, 0, none⟩ = some (Value.slice A n c) := (hb1.cell (p := ⟨W.heap.size, 0, none⟩) (by simp)).trans (by simp)
            have k1w1 : w1.cell? ⟨W.heap.size, 1, none⟩ = some (Value.slice B p d) := (hb1.cell (p := ⟨W.heap.size, 1, none⟩) (by simp)).trans (by simp)
            have k2w1 : w1.cell? ⟨W.heap.size, 2, none⟩ = some (Value.slice C q e) := (hb1.cell (p := ⟨W.heap.size, 2, none⟩) (by simp)).trans (by simp)
            go_wp2_with fail
            refine (HV1.out _ (hx1.below hb1 (Nat.le_refl _))).mono ?_
            rw [H1.out]
            rintro e' w2 ⟨rfl, rfl⟩
            go_wp2_with fail
            refine (HV2.out _ (hy1.below hb1 (Nat.le_refl _))).mono ?_
            rw [H2.out]
            rintro e' w3 ⟨rfl, rfl⟩
            go_wp2
            go_ret
            exact ⟨ret_bool HE.out.symm, hB1⟩

set_option maxRecDepth 100000 in
set_option maxHeartbeats 1000000 in
theorem implIsSystem_any (A B C : Option Addr) (n c p d q e : Nat) (L : Nat → Nat) (f : Nat → Nat → Int) (x y : Nat → Int) (W : World) (hn : n ≤ 9223372036854775807) (hL : ∀ i, i < n → L i ≤ 9223372036854775807) (hp : p ≤ 9223372036854775807) (hq : q ≤ 9223372036854775807)
    (hf : RM W A n L f) (hx : RI W B p x) (hy : RI W C q y) :
    Calls Try.prog 21 #[.agg #[.slice A n c, .slice B p d, .slice C q e]] W fun e' w' => e' = .returned (.bool (bo (SysP n L f p x q y))) ∧ Below W.heap.size W w' := by
  have hbx : Below W.heap.size W (W.alloc (Obj.cells #[Value.slice A n c, Value.slice B p d, Value.slice C q e] 40)) := (Below.refl W.heap.size W).alloc (Nat.le_refl _) _
  have HSQ := Lib.hid (isSquare_any A n c L f _ hn hL (hf.below hbx (Nat.le_refl _)))
  have HV1 := Lib.hid (fun (w : World) (h : RI w B p x) => isVector_any B p d x w hp h)
  have HV2 := Lib.hid (fun (w : World) (h : RI w C q y) => isVector_any C q e y w hq h)
  have hx1 := hx.below hbx (Nat.le_refl _)
  have hy1 := hy.below hbx (Nat.le_refl _)
  clear hL
  by_cases g0 : SqP n L f
  case neg =>
    have H0 := Lib.hid (bo_false g0)
    have HE := Lib.hid (bo_false (show ¬ SysP n L f p x q y from fun h => g0 h.1))
    clear hn hp hq g0
    go_enter Try.func21, Try.ntmps21
    go_wp2_with fail
    refine HSQ.out.mono ?_
    rw [H0.out]
    rintro e' w1 ⟨rfl, hb1⟩
    have s1 : W.heap.size + 1 ≤ w1.heap.size := by have := hb1.size; simpa using this
    have hB1 : Below W.heap.size W w1 := hbx.trans (hb1.mono (by simp))
    have k0w1 : w1.cell? ⟨W.heap.size, 0, none⟩ = some (Value.slice A n c) := (hb1.cell (p := ⟨W.heap.size, 0, none⟩) (by simp)).trans (by simp)
    have k1w1 : w1.cell? ⟨W.heap.size, 1, none⟩ = some (Value.slice B p d) := (hb1.cell (p := ⟨W.heap.size, 1, none⟩) (by simp)).trans (by simp)
    have k2w1 : w1.cell? ⟨W.heap.size, 2, none⟩ = some (Value.slice C q e) := (hb1.cell (p := ⟨W.heap.size, 2, none⟩) (by simp)).trans (by simp)
    go_wp2
    go_ret
    exact ⟨ret_bool HE.out.symm, hB1⟩
  case pos =>
    have H0 := Lib.hid (bo_true g0)
    by_cases g1 : VecP p x
    case neg =>
      have H1 := Lib.hid (bo_false g1)
      have HE := Lib.hid (bo_false (show ¬ SysP n L f p x q y from fun h => g1 h.2.1))
      clear hn hp hq g0 g1
      go_enter Try.func21, Try.ntmps21
      go_wp2_with fail
      refine HSQ.out.mono ?_
      rw [H0.out]
      rintro e' w1 ⟨rfl, hb1⟩
      have s1 : W.heap.size + 1 ≤ w1.heap.size := by have := hb1.size; simpa using this
      have hB1 : Below W.heap.size W w1 := hbx.trans (hb1.mono (by simp))
      have k0w1 : w1.cell? ⟨W.heap.size, 0, none⟩ = some (Value.slice A n c) := (hb1.cell (p := ⟨W.heap.size, 0, none⟩) (by simp)).trans (by simp)
      have k1w1 : w1.cell? ⟨W.heap.size, 1, none⟩ = some (Value.slice B p d) := (hb1.cell (p := ⟨W.heap.size, 1, none⟩) (by simp)).trans (by simp)
      have k2w1 : w1.cell? ⟨W.heap.size, 2, none⟩ = some (Value.slice C q e) := (hb1.cell (p := ⟨W.heap.size, 2, none⟩) (by simp)).trans (by simp)
      go_wp2_with fail
      refine (HV1.out _ (hx1.below hb1 (Nat.le_refl _))).mono ?_
      rw [H1.out]
      rintro e' w2 ⟨rfl, hb2⟩
      have s2 : w1.heap.size ≤ w2.heap.size := hb2.size
      have hB2 : Below W.heap.size W w2 := hB1.trans (hb2.mono (by omega))
      have k0w2 : w2.cell? ⟨W.heap.size, 0, none⟩ = some (Value.slice A n c) := (hb2.cell (p := ⟨W.heap.size, 0, none⟩) (by simp; omega)).trans k0w1
      have k1w2 : w2.cell? ⟨W.heap.size, 1, none⟩ = some (Value.slice B p d) := (hb2.cell (p := ⟨W.heap.size, 1, none⟩) (by simp; omega)).trans k1w1
      have k2w2 : w2.cell? ⟨W.heap.size, 2, none⟩ = some (Value.slice C q e) := (hb2.cell (p := ⟨W.heap.size, 2, none⟩) (by simp; omega)).trans k2w1
      go_wp2
      go_ret
      exact ⟨ret_bool HE.out.symm, hB2⟩
    case pos =>
      have H1 := Lib.hid (bo_true g1)
      by_cases g2 : VecP q y
      case neg =>
        have H2 := Lib.hid (bo_false g2)
        have HE := Lib.hid (bo_false (show ¬ SysP n L f p x q y from fun h => g2 h.2.2.1))
        clear hn hp hq g0 g1 g2
        go_enter Try.func21, Try.ntmps21
        go_wp2_with fail
        refine HSQ.out.mono ?_
        rw [H0.out]
        rintro e' w1 ⟨rfl, hb1⟩
        have s1 : W.heap.size + 1 ≤ w1.heap.size := by have := hb1.size; simpa using this
        have hB1 : Below W.heap.size W w1 := hbx.trans (hb1.mono (by simp))
        have k0w1 : w1.cell? ⟨W.heap.size, 0, none⟩ = some (Value.slice A n c) := (hb1.cell (p := ⟨W.heap.size, 0, none⟩) (by simp)).trans (by simp)
        have k1w1 : w1.cell? ⟨W.heap.size, 1, none⟩ = some (Value.slice B p d) := (hb1.cell (p := ⟨W.heap.size, 1, none⟩) (by simp)).trans (by simp)
        have k2w1 : w1.cell? ⟨W.heap.size, 2, none⟩ = some (Value.slice C q e) := (hb1.cell (p := ⟨W.heap.size, 2, none⟩) (by simp)).trans (by simp)
        go_wp2_with fail
        refine (HV1.out _ (hx1.below hb1 (Nat.le_refl _))).mono ?_
        rw [H1.out]
        rintro e' w2 ⟨rfl, hb2⟩
        have s2 : w1.heap.size ≤ w2.heap.size := hb2.size
        have hB2 : Below W.heap.size W w2 := hB1.trans (hb2.mono (by omega))
        have k0w2 : w2.cell? ⟨W.heap.size, 0, none⟩ = some (Value.slice A n c) := (hb2.cell (p := ⟨W.heap.size, 0, none⟩) (by simp; omega)).trans k0w1
        have k1w2 : w2.cell? ⟨W.heap.size, 1, none⟩ = some (Value.slice B p d) := (hb2.cell (p := ⟨W.heap.size, 1, none⟩) (by simp; omega)).trans k1w1
        have k2w2 : w2.cell? ⟨W.heap.size, 2, none⟩ = some (Value.slice C q e) := (hb2.cell (p := ⟨W.heap.size, 2, none⟩) (by simp; omega)).trans k2w1
        go_wp2_with fail
        refine (HV2.out _ ((hy1.below hb1 (Nat.le_refl _)).below hb2 (Nat.le_refl _))).mono ?_
        rw [H2.out]
        rintro e' w3 ⟨rfl, hb3⟩
        have s3 : w2.heap.size ≤ w3.heap.size := hb3.size
        have hB3 : Below W.heap.size W w3 := hB2.trans (hb3.mono (by omega))
        have k0w3 : w3.cell? ⟨W.heap.size, 0, none⟩ = some (Value.slice A n c) := (hb3.cell (p := ⟨W.heap.size, 0, none⟩) (by simp; omega)).trans k0w2
        have k1w3 : w3.cell? ⟨W.heap.size, 1, none⟩ = some (Value.slice B p d) := (hb3.cell (p := ⟨W.heap.size, 1, none⟩) (by simp; omega)).trans k1w2
        have k2w3 : w3.cell? ⟨W.heap.size, 2, none⟩ = some (Value.slice C q e) := (hb3.cell (p := ⟨W.heap.size, 2, none⟩) (by simp; omega)).trans k2w2
        go_wp2
        go_ret
        exact ⟨ret_bool HE.out.symm, hB3⟩
      case pos =>
        have H2 := Lib.hid (bo_true g2)
        by_cases g3 : p = n
        case neg =>
          have ht3 : ((p : Int) == (n : Int)) = false := by simp; omega
          have HE := Lib.hid (bo_false (show ¬ SysP n L f p x q y from fun h => g3 h.2.2.2.1))
          clear hn hp hq g0 g1 g2 g3
          go_enter Try.func21, Try.ntmps21
          go_wp2_with fail
          refine HSQ.out.mono ?_
          rw [H0.out]
          rintro e' w1 ⟨rfl, hb1⟩
          have s1 : W.heap.size + 1 ≤ w1.heap.size := by have := hb1.size; simpa using this
          have hB1 : Below W.heap.size W w1 := hbx.trans (hb1.mono (by simp))
          have k0w1 : w1.cell? ⟨W.heap.size, 0, none⟩ = some (Value.slice A n c) := (hb1.cell (p := ⟨W.heap.size, 0, none⟩) (by simp)).trans (by simp)
          have k1w1 : w1.cell? ⟨W.heap.size, 1, none⟩ = some (Value.slice B p d) := (hb1.cell (p := ⟨W.heap.size, 1, none⟩) (by simp)).trans (by simp)
          have k2w1 : w1.cell? ⟨W.heap.size, 2, none⟩ = some (Value.slice C q e) := (hb1.cell (p := ⟨W.heap.size, 2, none⟩) (by simp)).trans (by simp)
          go_wp2_with fail
          refine (HV1.out _ (hx1.below hb1 (Nat.le_refl _))).mono ?_
          rw [H1.out]
          rintro e' w2 ⟨rfl, hb2⟩
          have s2 : w1.heap.size ≤ w2.heap.size := hb2.size
          have hB2 : Below W.heap.size W w2 := hB1.trans (hb2.mono (by omega))
          have k0w2 : w2.cell? ⟨W.heap.size, 0, none⟩ = some (Value.slice A n c) := (hb2.cell (p := ⟨W.heap.size, 0, none⟩) (by simp; omega)).trans k0w1
          have k1w2 : w2.cell? ⟨W.heap.size, 1, none⟩ = some (Value.slice B p d) := (hb2.cell (p := ⟨W.heap.size, 1, none⟩) (by simp; omega)).trans k1w1
          have k2w2 : w2.cell? ⟨W.heap.size, 2, none⟩ = some (Value.slice C q e) := (hb2.cell (p := ⟨W.heap.size, 2, none⟩) (by simp; omega)).trans k2w1
          go_wp2_with fail
          refine (HV2.out _ ((hy1.below hb1 (Nat.le_refl _)).below hb2 (Nat.le_refl _))).mono ?_
          rw [H2.out]
          rintro e' w3 ⟨rfl, hb3⟩
          have s3 : w2.heap.size ≤ w3.heap.size := hb3.size
          have hB3 : Below W.heap.size W w3 := hB2.trans (hb3.mono (by omega))
          have k0w3 : w3.cell? ⟨W.heap.size, 0, none⟩ = some (Value.slice A n c) := (hb3.cell (p := ⟨W.heap.size, 0, none⟩) (by simp; omega)).trans k0w2
          have k1w3 : w3.cell? ⟨W.heap.size, 1, none⟩ = some (Value.slice B p d) := (hb3.cell (p := ⟨W.heap.size, 1, none⟩) (by simp; omega)).trans k1w2
          have k2w3 : w3.cell? ⟨W.heap.size, 2, none⟩ = some (Value.slice C q e) := (hb3.cell (p := ⟨W.heap.size, 2, none⟩) (by simp; omega)).trans k2w2
          go_wp2
          go_ret
          exact ⟨ret_bool HE.out.symm, hB3⟩
        case pos =>
          have ht3 : ((p : Int) == (n : Int)) = true := by simp; omega
          by_cases g4 : q = n
          case neg =>
            have ht4 : ((q : Int) == (n : Int)) = false := by simp; omega
            have HE := Lib.hid (bo_false (show ¬ SysP n L f p x q y from fun h => g4 h.2.2.2.2))
            clear hn hp hq g0 g1 g2 g3 g4
            go_enter Try.func21, Try.ntmps21
            go_wp2_with fail
            refine HSQ.out.mono ?_
            rw [H0.out]
            rintro e' w1 ⟨rfl, hb1⟩
            have s1 : W.heap.size + 1 ≤ w1.heap.size := by have := hb1.size; simpa using this
            have hB1 : Below W.heap.size W w1 := hbx.trans (hb1.mono (by simp))
            have k0w1 : w1.cell? ⟨W.heap.size, 0, none⟩ = some (Value.slice A n c) := (hb1.cell (p := ⟨W.heap.size, 0, none⟩) (by simp)).trans (by simp)
            have k1w1 : w1.cell? ⟨W.heap.size, 1, none⟩ = some (Value.slice B p d) := (hb1.cell (p := ⟨W.heap.size, 1, none⟩) (by simp)).trans (by simp)
            have k2w1 : w1.cell? ⟨W.heap.size, 2, none⟩ = some (Value.slice C q e) := (hb1.cell (p := ⟨W.heap.size, 2, none⟩) (by simp)).trans (by simp)
            go_wp2_with fail
            refine (HV1.out _ (hx1.below hb1 (Nat.le_refl _))).mono ?_
            rw [H1.out]
            rintro e' w2 ⟨rfl, hb2⟩
            have s2 : w1.heap.size ≤ w2.heap.size := hb2.size
            have hB2 : Below W.heap.size W w2 := hB1.trans (hb2.mono (by omega))
            have k0w2 : w2.cell? ⟨W.heap.size, 0, none⟩ = some (Value.slice A n c) := (hb2.cell (p := ⟨W.heap.size, 0, none⟩) (by simp; omega)).trans k0w1
            have k1w2 : w2.cell? ⟨W.heap.size, 1, none⟩ = some (Value.slice B p d) := (hb2.cell (p := ⟨W.heap.size, 1, none⟩) (by simp; omega)).trans k1w1
            have k2w2 : w2.cell? ⟨W.heap.size, 2, none⟩ = some (Value.slice C q e) := (hb2.cell (p := ⟨W.heap.size, 2, none⟩) (by simp; omega)).trans k2w1
            go_wp2_with fail
            refine (HV2.out _ ((hy1.below hb1 (Nat.le_refl _)).below hb2 (Nat.le_refl _))).mono ?_
            rw [H2.out]
            rintro e' w3 ⟨rfl, hb3⟩
            have s3 : w2.heap.size ≤ w3.heap.size := hb3.size
            have hB3 : Below W.heap.size W w3 := hB2.trans (hb3.mono (by omega))
            have k0w3 : w3.cell? ⟨W.heap.size, 0, none⟩ = some (Value.slice A n c) := (hb3.cell (p := ⟨W.heap.size, 0, none⟩) (by simp; omega)).trans k0w2
            have k1w3 : w3.cell? ⟨W.heap.size, 1, none⟩ = some (Value.slice B p d) := (hb3.cell (p := ⟨W.heap.size, 1, none⟩) (by simp; omega)).trans k1w2
            have k2w3 : w3.cell? ⟨W.heap.size, 2, none⟩ = some (Value.slice C q e) := (hb3.cell (p := ⟨W.heap.size, 2, none⟩) (by simp; omega)).trans k2w2
            go_wp2
            go_ret
            exact ⟨ret_bool HE.out.symm, hB3⟩
          case pos =>
            have ht4 : ((q : Int) == (n : Int)) = true := by simp; omega
            have HE := Lib.hid (bo_true (show SysP n L f p x q y from ⟨g0, g1, g2, g3, g4⟩))
            clear hn hp hq g0 g1 g2 g3 g4
            go_enter Try.func21, Try.ntmps21
            go_wp2_with fail
            refine HSQ.out.mono ?_
            rw [H0.out]
            rintro e' w1 ⟨rfl, hb1⟩
            have s1 : W.heap.size + 1 ≤ w1.heap.size := by have := hb1.size; simpa using this
            have hB1 : Below W.heap.size W w1 := hbx.trans (hb1.mono (by simp))
            have k0w1 : w1.cell? ⟨W.heap.size, 0, none⟩ = some (Value.slice A n c) := (hb1.cell (p := ⟨W.heap.size, 0, none⟩) (by simp)).trans (by simp)
            have k1w1 : w1.cell? ⟨W.heap.size, 1, none⟩ = some (Value.slice B p d) := (hb1.cell (p := ⟨W.heap.size, 1, none⟩) (by simp)).trans (by simp)
            have k2w1 : w1.cell? ⟨W.heap.size, 2, none⟩ = some (Value.slice C q e) := (hb1.cell (p := ⟨W.heap.size, 2, none⟩) (by simp)).trans (by simp)
            go_wp2_with fail
            refine (HV1.out _ (hx1.below hb1 (Nat.le_refl _))).mono ?_
            rw [H1.out]
            rintro e' w2 ⟨rfl, hb2⟩
            have s2 : w1.heap.size ≤ w2.heap.size := hb2.size
            have hB2 : Below W.heap.size W w2 := hB1.trans (hb2.mono (by omega))
            have k0w2 : w2.cell? ⟨W.heap.size, 0, none⟩ = some (Value.slice A n c) := (hb2.cell (p := ⟨W.heap.size, 0, none⟩) (by simp; omega)).trans k0w1
            have k1w2 : w2.cell? ⟨W.heap.size, 1, none⟩ = some (Value.slice B p d) := (hb2.cell (p := ⟨W.heap.size, 1, none⟩) (by simp; omega)).trans k1w1
            have k2w2 : w2.cell? ⟨W.heap.size, 2, none⟩ = some (Value.slice C q e) := (hb2.cell (p := ⟨W.heap.size, 2, none⟩) (by simp; omega)).trans k2w1
            go_wp2_with fail
            refine (HV2.out _ ((hy1.below hb1 (Nat.le_refl _)).below hb2 (Nat.le_refl _))).mono ?_
            rw [H2.out]
            rintro e' w3 ⟨rfl, hb3⟩
            have s3 : w2.heap.size ≤ w3.heap.size := hb3.size
            have hB3 : Below W.heap.size W w3 := hB2.trans (hb3.mono (by omega))
            have k0w3 : w3.cell? ⟨W.heap.size, 0, none⟩ = some (Value.slice A n c) := (hb3.cell (p := ⟨W.heap.size, 0, none⟩) (by simp; omega)).trans k0w2
            have k1w3 : w3.cell? ⟨W.heap.size, 1, none⟩ = some (Value.slice B p d) := (hb3.cell (p := ⟨W.heap.size, 1, none⟩) (by simp; omega)).trans k1w2
            have k2w3 : w3.cell? ⟨W.heap.size, 2, none⟩ = some (Value.slice C q e) := (hb3.cell (p := ⟨W.heap.size, 2, none⟩) (by simp; omega)).trans k2w2
            go_wp2
            go_ret
            exact ⟨ret_bool HE.out.symm, hB3⟩

theorem specIsSystem_s (A : Option Addr) (n c : Nat) (L : Nat → Nat) (f : Nat → Nat → Int) (B : Option Addr) (p d : Nat) (x : Nat → Int) (C : Option Addr) (q e : Nat) (y : Nat → Int) (W : World) (hn : n ≤ 1048576) (hL : ∀ i, i < n → L i ≤ 1048576) (hp : p ≤ 1048576) (hq : q ≤ 1048576)
    (hf : RM W A n L f) (hx : RI W B p x) (hy : RI W C q y) :
    Calls Try.prog 19 #[.agg #[.slice A n c, .slice B p d, .slice C q e]] W fun e' w' => e' = .returned (.bool (bo (SysP n L f p x q y))) ∧ Below W.heap.size W w' :=
  specIsSystem_any A B C n c p d q e L f x y W (by omega) (fun i hi => by have := hL i hi; omega) (by omega) (by omega) hf hx hy

theorem implIsSystem_s (A : Option Addr) (n c : Nat) (L : Nat → Nat) (f : Nat → Nat → Int) (B : Option Addr) (p d : Nat) (x : Nat → Int) (C : Option Addr) (q e : Nat) (y : Nat → Int) (W : World) (hn : n ≤ 1048576) (hL : ∀ i, i < n → L i ≤ 1048576) (hp : p ≤ 1048576) (hq : q ≤ 1048576)
    (hf : RM W A n L f) (hx : RI W B p x) (hy : RI W C q y) :
    Calls Try.prog 21 #[.agg #[.slice A n c, .slice B p d, .slice C q e]] W fun e' w' => e' = .returned (.bool (bo (SysP n L f p x q y))) ∧ Below W.heap.size W w' :=
  implIsSystem_any A B C n c p d q e L f x y W (by omega) (fun i hi => by have := hL i hi; omega) (by omega) (by omega) hf hx hy

end Go.Proofs.Ytmoficihgnipbaa
