/- Numbers in a range: the reference's and the program's small checks. -/
import Derived.Test.YtfhpahnflnahkaaInts
import Derived.Test.YtfhpahnflnahkaaPlain
namespace Go.Proofs.Ytfhpahnflnahkaa
open Go.RowKit

def InP (x lo hi : Int) : Prop := lo ≤ x ∧ x ≤ hi
def WithinP (n : Nat) (x : Nat → Int) (most lo hi : Int) : Prop := (n : Int) ≤ most ∧ ∀ i, i < n → InP (x i) lo hi
def AllInP (n : Nat) (x : Nat → Int) (lo hi : Int) : Prop := ∀ i, i < n → InP (x i) lo hi

set_option maxHeartbeats 400000 in
theorem l01In_any (x lo hi : Int) (w : World) :
    Calls Try.prog 69 #[.int .i64 x, .int .i64 lo, .int .i64 hi] w fun e w' => e = .returned (.bool (bo (InP x lo hi))) ∧ w = w' := by
  by_cases h1 : lo ≤ x
  · by_cases h2 : x ≤ hi
    · have HE := Lib.hid (bo_true (show InP x lo hi from ⟨h1, h2⟩))
      have hd : decide (x ≤ hi) = true := decide_eq_true h2
      go_enter Try.func69, Try.ntmps69
      go_wp2
      go_ret
      exact ⟨ret_bool HE.out.symm, rfl⟩
    · have HE := Lib.hid (bo_false (show ¬ InP x lo hi from fun h => h2 h.2))
      have hd : decide (x ≤ hi) = false := decide_eq_false h2
      go_enter Try.func69, Try.ntmps69
      go_wp2
      go_ret
      exact ⟨ret_bool HE.out.symm, rfl⟩
  · have HE := Lib.hid (bo_false (show ¬ InP x lo hi from fun h => h1 h.1))
    have hd : decide (lo ≤ x) = false := decide_eq_false h1
    go_enter Try.func69, Try.ntmps69
    go_wp2
    go_ret
    exact ⟨ret_bool HE.out.symm, rfl⟩

set_option maxHeartbeats 400000 in
theorem within_any (x lo hi : Int) (w : World) :
    Calls Try.prog 73 #[.int .i64 x, .int .i64 lo, .int .i64 hi] w fun e w' => e = .returned (.bool (bo (InP x lo hi))) ∧ w = w' := by
  by_cases h1 : lo ≤ x
  · by_cases h2 : x ≤ hi
    · have HE := Lib.hid (bo_true (show InP x lo hi from ⟨h1, h2⟩))
      have hd : decide (x ≤ hi) = true := decide_eq_true h2
      go_enter Try.func73, Try.ntmps73
      go_wp2
      go_ret
      exact ⟨ret_bool HE.out.symm, rfl⟩
    · have HE := Lib.hid (bo_false (show ¬ InP x lo hi from fun h => h2 h.2))
      have hd : decide (x ≤ hi) = false := decide_eq_false h2
      go_enter Try.func73, Try.ntmps73
      go_wp2
      go_ret
      exact ⟨ret_bool HE.out.symm, rfl⟩
  · have HE := Lib.hid (bo_false (show ¬ InP x lo hi from fun h => h1 h.1))
    have hd : decide (lo ≤ x) = false := decide_eq_false h1
    go_enter Try.func73, Try.ntmps73
    go_wp2
    go_ret
    exact ⟨ret_bool HE.out.symm, rfl⟩

theorem l01In_b (x lo hi : Int) (w : World) {b : Bool} (hb : bo (InP x lo hi) = b) :
    Calls Try.prog 69 #[.int .i64 x, .int .i64 lo, .int .i64 hi] w fun e w' => e = .returned (.bool b) ∧ w = w' := by
  subst hb; exact l01In_any x lo hi w
theorem within_b (x lo hi : Int) (w : World) {b : Bool} (hb : bo (InP x lo hi) = b) :
    Calls Try.prog 73 #[.int .i64 x, .int .i64 lo, .int .i64 hi] w fun e w' => e = .returned (.bool b) ∧ w = w' := by
  subst hb; exact within_any x lo hi w

set_option maxRecDepth 100000 in
set_option maxHeartbeats 1000000 in
theorem l01Within_any (A : Option Addr) (n c : Nat) (x : Nat → Int) (most lo hi : Int) (W : World) (hn : n ≤ 9223372036854775807) (hf : RI W A n x) :
    Calls Try.prog 53 #[.slice A n c, .int .i64 most, .int .i64 lo, .int .i64 hi] W fun e w' => e = .returned (.bool (bo (WithinP n x most lo hi))) ∧ W = w' := by
  go_enter Try.func53, Try.ntmps53
  go_wp2
  go_loop [9] (fun i => ∃ k : Nat, k ≤ n ∧ i = .int .i64 k ∧ AllInP k x lo hi) (fun i => n - (intOf i).toNat)
  case atStart => exact ⟨0, Nat.zero_le _, rfl, fun i hi => absurd hi (Nat.not_lt_zero _)⟩
  case round =>
    obtain ⟨k, hk, rfl, hok⟩ := hrel
    have HOK := Lib.hid hok; clear hok
    by_cases hlt : k < n
    · obtain ⟨b, off, rfl, hbl, hc0⟩ := hf k hlt
      go_wp2_with fail
      by_cases hv : InP (x k) lo hi
      · have HV := Lib.hid (bo_true hv)
        have HW := Lib.hid hv; clear hv
        refine (l01In_b (x k) lo hi _ HV.out).mono ?_
        rintro e w1 ⟨rfl, rfl⟩
        go_wp2
        go_round
        case rel => exact ⟨k + 1, by omega, by go_num, fun i hi => by by_cases e : i = k; exact e ▸ HW.out; exact HOK.out i (by omega)⟩
        case measure => simp [intOf]; omega
      · have HNO := Lib.hid (bo_false (show ¬ WithinP n x most lo hi from fun h => hv (h.2 k hlt)))
        have HV := Lib.hid (bo_false hv); clear hv
        refine (l01In_b (x k) lo hi _ HV.out).mono ?_
        rintro e w1 ⟨rfl, rfl⟩
        go_wp2
        go_ret
        exact ⟨ret_bool HNO.out.symm, rfl⟩
    · obtain rfl : k = n := by omega
      have HY := Lib.hid (bo_congr (show WithinP k x most lo hi ↔ (k : Int) ≤ most from ⟨fun h => h.1, fun h => ⟨h, HOK.out⟩⟩))
      by_cases hm : (k : Int) ≤ most
      · have HE := Lib.hid (bo_true hm)
        go_wp2
        go_ret
        exact ⟨ret_bool (by rw [HY.out, HE.out]), rfl⟩
      · have HE := Lib.hid (bo_false hm)
        go_wp2
        go_ret
        exact ⟨ret_bool (by rw [HY.out, HE.out]), rfl⟩

set_option maxRecDepth 100000 in
set_option maxHeartbeats 1000000 in
theorem allWithin_any (A : Option Addr) (n c : Nat) (x : Nat → Int) (lo hi : Int) (W : World) (hn : n ≤ 9223372036854775807) (hf : RI W A n x) :
    Calls Try.prog 57 #[.slice A n c, .int .i64 lo, .int .i64 hi] W fun e w' => e = .returned (.bool (bo (AllInP n x lo hi))) ∧ W = w' := by
  go_enter Try.func57, Try.ntmps57
  go_wp2
  go_loop [11, 8] (fun i _ => ∃ k : Nat, k ≤ n ∧ i = .int .i64 k ∧ AllInP k x lo hi) (fun i _ => n - (intOf i).toNat)
  case atStart => exact ⟨0, Nat.zero_le _, rfl, fun i hi => absurd hi (Nat.not_lt_zero _)⟩
  case round =>
    obtain ⟨k, hk, rfl, hok⟩ := hrel
    have HOK := Lib.hid hok; clear hok
    by_cases hlt : k < n
    · obtain ⟨b, off, rfl, hbl, hc0⟩ := hf k hlt
      go_wp2_with fail
      by_cases hv : InP (x k) lo hi
      · have HV := Lib.hid (bo_true hv)
        have HW := Lib.hid hv; clear hv
        refine (within_b (x k) lo hi _ HV.out).mono ?_
        rintro e w1 ⟨rfl, rfl⟩
        go_wp2
        go_round
        case rel => exact ⟨k + 1, by omega, by go_num, fun i hi => by by_cases e : i = k; exact e ▸ HW.out; exact HOK.out i (by omega)⟩
        case measure => simp [intOf]; omega
      · have HNO := Lib.hid (bo_false (show ¬ AllInP n x lo hi from fun h => hv (h k hlt)))
        have HV := Lib.hid (bo_false hv); clear hv
        refine (within_b (x k) lo hi _ HV.out).mono ?_
        rintro e w1 ⟨rfl, rfl⟩
        go_wp2
        go_ret
        exact ⟨ret_bool HNO.out.symm, rfl⟩
    · obtain rfl : k = n := by omega
      have HY := Lib.hid (bo_true HOK.out)
      go_wp2
      go_ret
      exact ⟨ret_bool HY.out.symm, rfl⟩
end Go.Proofs.Ytfhpahnflnahkaa
