/- The reference's checks of values, vectors and matrices. -/
import Derived.Test.YtmoficihgnipbaaMat
import Derived.Test.YtmoficihgnipbaaPlain
import Derived.Deep.RegionWith
namespace Go.Proofs.Ytmoficihgnipbaa
open Go.RowKit

set_option maxHeartbeats 400000 in
theorem specIsValue_any (z : Int) (w : World) :
    Calls Try.prog 99 #[.int .i64 z] w fun e w' => e = .returned (.bool (bo (ValP z))) ∧ w = w' := by
  by_cases h0 : z = -1000000000000000
  · have HE := Lib.hid (bo_true (show ValP z from .inl h0))
    have hb : (z == -1000000000000000) = true := by simpa using h0
    clear h0
    go_enter Try.func99, Try.ntmps99
    go_wp2
    go_ret
    exact ⟨ret_bool HE.out.symm, rfl⟩
  · have hb : (z == -1000000000000000) = false := by simpa using h0
    by_cases h1 : -1000000 ≤ z ∧ z ≤ 1000000
    · have HE := Lib.hid (bo_true (show ValP z from .inr h1))
      obtain ⟨h1, h2⟩ := h1
      clear h0
      go_enter Try.func99, Try.ntmps99
      go_wp2
      go_ret
      exact ⟨ret_bool (by simp [HE.out]; try omega), rfl⟩
    · have HE := Lib.hid (bo_false (show ¬ ValP z from fun h => h.elim h0 h1))
      rcases (by omega : z < -1000000 ∨ (-1000000 ≤ z ∧ 1000000 < z)) with h2 | ⟨h2, h3⟩
      all_goals
        clear h0 h1
        go_enter Try.func99, Try.ntmps99
        go_wp2
        go_ret
        exact ⟨ret_bool (by simp [HE.out]; try omega), rfl⟩

set_option maxRecDepth 100000 in
set_option maxHeartbeats 1000000 in
theorem specAll_any (A : Option Addr) (n c : Nat) (fin : Bool) (x : Nat → Int) (W : World) (hn : n ≤ 9223372036854775807) (hf : RI W A n x) :
    Calls Try.prog 87 #[.slice A n c, .bool fin] W fun e w' => e = .returned (.bool (bo (AllP fin n x))) ∧ W = w' := by
  go_enter Try.func87, Try.ntmps87
  go_wp2
  go_loop [5] (fun i => ∃ k : Nat, k ≤ n ∧ i = .int .i64 k ∧ (∀ i, i < k → ValP (x i) ∧ (fin = true → FinP (x i)))) (fun i => n - (intOf i).toNat)
  case atStart => exact ⟨0, Nat.zero_le _, rfl, fun i hi => absurd hi (Nat.not_lt_zero _)⟩
  case round =>
    obtain ⟨k, hk, rfl, hok⟩ := hrel
    have HOK := Lib.hid hok; clear hok
    by_cases hlt : k < n
    · obtain ⟨b, off, rfl, hbl, hc0⟩ := hf k hlt
      generalize hz : x k = z at hc0
      have HZ := Lib.hid hz; clear hz
      by_cases hv : ValP z
      · by_cases hfin : fin = true ∧ z = -1000000000000000
        · obtain ⟨rfl, rfl⟩ := hfin
          have HNO := Lib.hid (bo_false (show ¬ AllP true n x from fun h => by have := (h k hlt).2 rfl; rw [HZ.out] at this; unfold FinP at this; omega))
          have HV := Lib.hid (bo_true hv); clear hv
          go_wp2_with (go_at_call 99; refine (specIsValue_any _ _).mono ?_; rw [HV.out]; rintro e w' ⟨rfl, rfl⟩)
          go_ret
          exact ⟨ret_bool HNO.out.symm, rfl⟩
        · have HW := Lib.hid (show ValP z ∧ (fin = true → FinP z) from ⟨hv, fun h => by
            unfold ValP at hv; unfold FinP
            rcases hv with h' | h'
            · exact absurd ⟨h, h'⟩ hfin
            · exact h'⟩)
          have HV := Lib.hid (bo_true hv); clear hv
          cases fin with
          | false =>
            clear hfin
            go_wp2_with (go_at_call 99; refine (specIsValue_any _ _).mono ?_; rw [HV.out]; rintro e w' ⟨rfl, rfl⟩)
            go_round
            case rel => exact ⟨k + 1, by omega, by go_num, fun i hi => by by_cases e : i = k; (subst e; rw [HZ.out]; exact HW.out); exact HOK.out i (by omega)⟩
            case measure => simp [intOf]; omega
          | true =>
            have hb : (z == -1000000000000000) = false := by simpa using fun h => hfin ⟨rfl, h⟩
            clear hfin
            go_wp2_with (go_at_call 99; refine (specIsValue_any _ _).mono ?_; rw [HV.out]; rintro e w' ⟨rfl, rfl⟩)
            go_round
            case rel => exact ⟨k + 1, by omega, by go_num, fun i hi => by by_cases e : i = k; (subst e; rw [HZ.out]; exact HW.out); exact HOK.out i (by omega)⟩
            case measure => simp [intOf]; omega
      · have HNO := Lib.hid (bo_false (show ¬ AllP fin n x from fun h => by have := (h k hlt).1; rw [HZ.out] at this; exact hv this))
        have HV := Lib.hid (bo_false hv); clear hv
        go_wp2_with (go_at_call 99; refine (specIsValue_any _ _).mono ?_; rw [HV.out]; rintro e w' ⟨rfl, rfl⟩)
        go_ret
        exact ⟨ret_bool HNO.out.symm, rfl⟩
    · obtain rfl : k = n := by omega
      have HY := Lib.hid (bo_true (show AllP fin k x from HOK.out))
      go_wp2
      go_ret
      exact ⟨ret_bool HY.out.symm, rfl⟩

set_option maxRecDepth 100000 in
set_option maxHeartbeats 1000000 in
theorem specVector_any (A : Option Addr) (n c : Nat) (x : Nat → Int) (W : World) (hn : n ≤ 9223372036854775807) (hf : RI W A n x) :
    Calls Try.prog 59 #[.slice A n c] W fun e w' => e = .returned (.bool (bo (VecP n x))) ∧ W = w' := by
  by_cases hl : 1 ≤ n ∧ n ≤ 10
  · have HE := Lib.hid (bo_congr (show VecP n x ↔ AllP false n x from ⟨fun h => h.2.2, fun h => ⟨hl.1, hl.2, h⟩⟩))
    obtain ⟨h1, h2⟩ := hl
    go_enter Try.func59, Try.ntmps59
    go_wp2_with (first | (go_at_call 46; go_in) | (go_at_call 87; refine (specAll_any A n c false x _ hn hf).mono ?_; rintro e w' ⟨rfl, rfl⟩))
    go_ret
    exact ⟨ret_bool HE.out.symm, rfl⟩
  · have HE := Lib.hid (bo_false (show ¬ VecP n x from fun h => hl ⟨h.1, h.2.1⟩))
    rcases (by omega : n < 1 ∨ (1 ≤ n ∧ 10 < n)) with h2 | ⟨h2, h3⟩
    all_goals
      clear hl
      go_enter Try.func59, Try.ntmps59
      go_wp2
      go_ret
      exact ⟨ret_bool (by simp [HE.out]; try omega), rfl⟩

theorem specVector_b (A : Option Addr) (n c : Nat) (x : Nat → Int) (W : World) (hn : n ≤ 9223372036854775807) (hf : RI W A n x) {b : Bool} (hb : bo (VecP n x) = b) :
    Calls Try.prog 59 #[.slice A n c] W fun e w' => e = .returned (.bool b) ∧ W = w' := by
  subst hb; exact specVector_any A n c x W hn hf

set_option maxRecDepth 100000 in
set_option maxHeartbeats 1000000 in
theorem specIsMatrix_d (A : Option Addr) (n c : Nat) (L : Nat → Nat) (f : Nat → Nat → Int) (W : World) (hn : n ≤ 9223372036854775807) (hL : ∀ i, i < n → L i ≤ 9223372036854775807) (hf : RM W A n L f) :
    Calls Try.prog 86 #[.slice A n c] W fun e w' => e = .returned (.bool (bo (MatP n L f))) ∧ Drew W w' := by
  have HL := Lib.hid hL; clear hL
  by_cases hl : 1 ≤ n ∧ n ≤ 10
  · obtain ⟨h1, h2⟩ := hl
    have hd : decide ((10 : Int) < (n : Int)) = false := decide_eq_false (by omega)
    have hd' : decide ((n : Int) < 1) = false := decide_eq_false (by omega)
    go_enter Try.func86, Try.ntmps86
    go_wp2
    go_loopw [3] (fun i wr => ∃ k : Nat, k ≤ n ∧ i = .int .i64 k ∧ Drew W wr ∧ (∀ i, i < k → L i = L 0 ∧ VecP (L i) (f i))) (fun i _ => n - (intOf i).toNat)
    case atStart => exact ⟨0, Nat.zero_le _, rfl, Drew.refl _, fun i hi => absurd hi (Nat.not_lt_zero _)⟩
    case round =>
      obtain ⟨k, hk, rfl, hbw, hok⟩ := hrel
      have HOK := Lib.hid hok; clear hok
      by_cases hlt : k < n
      · obtain ⟨b, off, R, cc, rfl, hbl, hc0, hr⟩ := (hf.below (B := W.heap.size) hbw.below (Nat.le_refl _)) k hlt
        obtain ⟨b', off', R', cc', hbo, hbl', hz0, hr'⟩ := (hf.below (B := W.heap.size) hbw.below (Nat.le_refl _)) 0 (by omega)
        simp only [Option.some.injEq, Addr.mk.injEq, and_true] at hbo
        obtain ⟨rfl, rfl⟩ := hbo
        rw [Nat.add_zero] at hz0
        have hLk := HL.out k hlt
        have hL0 := HL.out 0 (by omega)
        by_cases hv : VecP (L k) (f k)
        · by_cases he : L k = L 0
          · have HW := Lib.hid (show L k = L 0 ∧ VecP (L k) (f k) from ⟨he, hv⟩)
            have HV := Lib.hid (bo_true hv); clear hv
            have hne : ((L k : Int) != (L 0 : Int)) = false := by simp [he]
            clear he
            go_wp2_with fail
            go_quiet ((go_at_call 59; exact quietS (specVector_b R (L k) cc (f k) _ hLk (hr.drewN _) HV.out)))
            go_wp2
            go_roundw
            case rel => exact ⟨k + 1, by omega, by go_num, hbw.step _, fun i hi => by by_cases e : i = k; (subst e; exact HW.out); exact HOK.out i (by omega)⟩
            case measure => simp [intOf]; omega
          · have HNO := Lib.hid (bo_false (show ¬ MatP n L f from fun h => he (h.2.2.2.2 k hlt).1))
            have HV := Lib.hid (bo_true hv); clear hv
            have hne : ((L k : Int) != (L 0 : Int)) = true := by simp; omega
            clear he
            go_wp2_with fail
            go_quiet ((go_at_call 59; exact quietS (specVector_b R (L k) cc (f k) _ hLk (hr.drewN _) HV.out)))
            go_wp2
            go_ret
            exact ⟨ret_bool HNO.out.symm, hbw.step _⟩
        · have HNO := Lib.hid (bo_false (show ¬ MatP n L f from fun h => by
            obtain ⟨e, ha⟩ := h.2.2.2.2 k hlt
            exact hv ⟨by rw [e]; exact h.2.2.1, by rw [e]; exact h.2.2.2.1, ha⟩))
          have HV := Lib.hid (bo_false hv); clear hv
          go_wp2_with fail
          go_quiet ((go_at_call 59; exact quietS (specVector_b R (L k) cc (f k) _ hLk (hr.drewN _) HV.out)))
          go_wp2
          go_ret
          exact ⟨ret_bool HNO.out.symm, hbw.step _⟩
      · obtain rfl : k = n := by omega
        have HY := Lib.hid (bo_true (show MatP k L f from ⟨h1, h2, (HOK.out 0 (by omega)).2.1, (HOK.out 0 (by omega)).2.2.1, fun i hi => ⟨(HOK.out i hi).1, (HOK.out i hi).2.2.2⟩⟩))
        go_wp2
        go_ret
        exact ⟨ret_bool HY.out.symm, hbw⟩
  · have HE := Lib.hid (bo_false (show ¬ MatP n L f from fun h => hl ⟨h.1, h.2.1⟩))
    rcases (by omega : n < 1 ∨ (1 ≤ n ∧ 10 < n)) with h2 | ⟨h2, h3⟩
    all_goals
      clear hl
      go_enter Try.func86, Try.ntmps86
      go_wp2
      go_ret
      exact ⟨ret_bool HE.out.symm, Drew.refl _⟩

set_option maxRecDepth 100000 in
set_option maxHeartbeats 1000000 in
theorem specSquare_d (A : Option Addr) (n c : Nat) (L : Nat → Nat) (f : Nat → Nat → Int) (W : World) (hn : n ≤ 9223372036854775807) (hL : ∀ i, i < n → L i ≤ 9223372036854775807) (hf : RM W A n L f) :
    Calls Try.prog 58 #[.slice A n c] W fun e w' => e = .returned (.bool (bo (SqP n L f))) ∧ Drew W w' := by
  by_cases hm : MatP n L f
  · have HV := Lib.hid (bo_true hm)
    have HE := Lib.hid (bo_congr (show SqP n L f ↔ n = L 0 from ⟨fun h => h.2, fun h => ⟨hm, h⟩⟩))
    have h1 := hm.1
    have hL0 := hL 0 (by omega)
    go_enter Try.func58, Try.ntmps58
    have HM := Lib.hid (specIsMatrix_d A n c L f W hn hL hf); clear hL hm
    go_wp2_with fail
    refine HM.out.mono ?_
    rw [HV.out]
    rintro e w1 ⟨rfl, hb1⟩
    obtain ⟨b', off', R', cc', rfl, hbl', hz0, hr'⟩ := (hf.below (B := W.heap.size) hb1.below (Nat.le_refl _)) 0 (by omega)
    rw [Nat.add_zero] at hz0
    go_wp2
    go_ret
    refine ⟨ret_bool ?_, hb1⟩
    rw [HE.out]
    by_cases e : n = L 0
    · rw [bo_true e]; simp [e]
    · rw [bo_false e]; simp; omega
  · have HV := Lib.hid (bo_false hm)
    have HE := Lib.hid (bo_false (show ¬ SqP n L f from fun h => hm h.1))
    have HM := Lib.hid (specIsMatrix_d A n c L f W hn hL hf); clear hL hm
    go_enter Try.func58, Try.ntmps58
    go_wp2_with fail
    refine HM.out.mono ?_
    rw [HV.out]
    rintro e w1 ⟨rfl, hb1⟩
    go_wp2
    go_ret
    exact ⟨ret_bool HE.out.symm, hb1⟩

theorem specSquare_any (A : Option Addr) (n c : Nat) (L : Nat → Nat) (f : Nat → Nat → Int) (W : World) (hn : n ≤ 9223372036854775807) (hL : ∀ i, i < n → L i ≤ 9223372036854775807) (hf : RM W A n L f) :
    Calls Try.prog 58 #[.slice A n c] W fun e w' => e = .returned (.bool (bo (SqP n L f))) ∧ Below W.heap.size W w' :=
  (specSquare_d A n c L f W hn hL hf).mono fun _ _ ⟨h, k⟩ => ⟨h, k.below⟩
theorem specSquare_b (A : Option Addr) (n c : Nat) (L : Nat → Nat) (f : Nat → Nat → Int) (W : World) (hn : n ≤ 9223372036854775807) (hL : ∀ i, i < n → L i ≤ 9223372036854775807) (hf : RM W A n L f) {b : Bool} (hb : bo (SqP n L f) = b) :
    Calls Try.prog 58 #[.slice A n c] W fun e w' => e = .returned (.bool b) ∧ Drew W w' := by
  subst hb; exact specSquare_d A n c L f W hn hL hf
end Go.Proofs.Ytmoficihgnipbaa
