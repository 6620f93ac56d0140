/- Modes: the reference's check and the program's. -/
import Derived.Test.YtmoficihgnipbaaSpecVals
import Derived.Test.YtmoficihgnipbaaImplVals
import Derived.Test.YtmoficihgnipbaaCube
import Derived.Test.YtmoficihgnipbaaHasMat
namespace Go.Proofs.Ytmoficihgnipbaa
open Go.RowKit

def ModesP (n : Nat) (N : Nat → Nat) (L : Nat → Nat → Nat) (f : Nat → Nat → Nat → Int) : Prop := 1 ≤ n ∧ n ≤ 4 ∧ ∀ i, i < n → SqP (N i) (L i) (f i) ∧ N i = N 0

set_option maxRecDepth 100000 in
set_option maxHeartbeats 1000000 in
theorem specAreModes_any (A : Option Addr) (n c : Nat) (N : Nat → Nat) (L : Nat → Nat → Nat) (f : Nat → Nat → Nat → Int) (W : World) (hn : n ≤ 1048576) (hN : ∀ i, i < n → N i ≤ 1048576) (hL : ∀ i, i < n → ∀ j, j < N i → L i j ≤ 1048576) (hf : RC W A n N L f) :
    Calls Try.prog 24 #[.slice A n c] W fun e w' => e = .returned (.bool (bo (ModesP n N L f))) ∧ Below W.heap.size W w' := by
  have HN := Lib.hid hN; clear hN
  have HL := Lib.hid hL; clear hL
  by_cases hl : 1 ≤ n ∧ n ≤ 4
  · obtain ⟨h1, h2⟩ := hl
    have hd : decide ((4 : Int) < (n : Int)) = false := decide_eq_false (by omega)
    have hd' : decide ((n : Int) < 1) = false := decide_eq_false (by omega)
    go_enter Try.func24, Try.ntmps24
    go_wp2
    go_loopw [3] (fun i wr => ∃ k : Nat, k ≤ n ∧ i = .int .i64 k ∧ Below W.heap.size W wr ∧ (∀ i, i < k → SqP (N i) (L i) (f i) ∧ N i = N 0)) (fun i _ => n - (intOf i).toNat)
    case atStart => exact ⟨0, Nat.zero_le _, rfl, Below.refl _ _, fun i hi => absurd hi (Nat.not_lt_zero _)⟩
    case round =>
      obtain ⟨k, hk, rfl, hbw, hok⟩ := hrel
      have HOK := Lib.hid hok; clear hok
      by_cases hlt : k < n
      · obtain ⟨b, off, R, cc, rfl, hbl, hc0, hr⟩ := (hf.below hbw (Nat.le_refl _)) k hlt
        obtain ⟨b', off', R', cc', hbo, hbl', hz0, hr'⟩ := (hf.below hbw (Nat.le_refl _)) 0 (by omega)
        simp only [Option.some.injEq, Addr.mk.injEq, and_true] at hbo
        obtain ⟨rfl, rfl⟩ := hbo
        rw [Nat.add_zero] at hz0
        have hNk := HN.out k hlt
        have hN0 := HN.out 0 (by omega)
        have HLk := Lib.hid (show ∀ i, i < N k → L k i ≤ 9223372036854775807 from fun i hi => by have := HL.out k hlt i hi; omega)
        by_cases hv : SqP (N k) (L k) (f k)
        · have HV := Lib.hid (bo_true hv)
          by_cases he : N k = N 0
          · have HW := Lib.hid (show SqP (N k) (L k) (f k) ∧ N k = N 0 from ⟨hv, he⟩)
            have hne : ((N k : Int) != (N 0 : Int)) = false := by simp [he]
            clear he hv
            go_wp2_with fail
            go_quiet ((go_at_call 58; exact quietD (specSquare_b R (N k) cc (L k) (f k) _ (by omega) HLk.out (hr.drewN _) HV.out)))
            go_wp2
            go_roundw
            case rel => exact ⟨k + 1, by omega, by go_num, below_N hbw _, fun i hi => by by_cases e : i = k; (subst e; exact HW.out); exact HOK.out i (by omega)⟩
            case measure => simp [intOf]; omega
          · have HNO := Lib.hid (bo_false (show ¬ ModesP n N L f from fun h => he (h.2.2 k hlt).2))
            have hne : ((N k : Int) != (N 0 : Int)) = true := by simp; omega
            clear he hv
            go_wp2_with fail
            go_quiet ((go_at_call 58; exact quietD (specSquare_b R (N k) cc (L k) (f k) _ (by omega) HLk.out (hr.drewN _) HV.out)))
            go_wp2
            go_ret
            exact ⟨ret_bool HNO.out.symm, below_N hbw _⟩
        · have HNO := Lib.hid (bo_false (show ¬ ModesP n N L f from fun h => hv (h.2.2 k hlt).1))
          have HV := Lib.hid (bo_false hv)
          clear hv
          go_wp2_with fail
          go_quiet ((go_at_call 58; exact quietD (specSquare_b R (N k) cc (L k) (f k) _ (by omega) HLk.out (hr.drewN _) HV.out)))
          go_wp2
          go_ret
          exact ⟨ret_bool HNO.out.symm, below_N hbw _⟩
      · obtain rfl : k = n := by omega
        have HY := Lib.hid (bo_true (show ModesP k N L f from ⟨h1, h2, HOK.out⟩))
        go_wp2
        go_ret
        exact ⟨ret_bool HY.out.symm, hbw⟩
  · have HE := Lib.hid (bo_false (show ¬ ModesP n N L f from fun h => hl ⟨h.1, h.2.1⟩))
    rcases (by omega : n < 1 ∨ (1 ≤ n ∧ 4 < n)) with h2 | ⟨h2, h3⟩
    all_goals
      clear hl
      go_enter Try.func24, Try.ntmps24
      go_wp2
      go_ret
      exact ⟨ret_bool HE.out.symm, Below.refl _ _⟩

/-- a mode that does not fit the first one -/
def BadMode (n0 n : Nat) (L : Nat → Nat) (f : Nat → Nat → Int) : Prop := ¬ (SqP n L f ∧ n = n0)

set_option maxRecDepth 100000 in
set_option maxHeartbeats 1000000 in
theorem areModes1_any (A : Option Addr) (n c : Nat) (N : Nat → Nat) (L : Nat → Nat → Nat) (f : Nat → Nat → Nat → Int) (R : Option Addr) (m cc B : Nat) (Lm : Nat → Nat) (x : Nat → Nat → Int) (W : World) (hn : 0 < n) (hm : m ≤ 1048576) (hLm : ∀ j, j < m → Lm j ≤ 1048576) (hB : W.cell? ⟨B, 0, none⟩ = some (.slice A n c)) (hf : RC W A n N L f) (hr : RM W R m Lm x) :
    Calls Try.prog 65 #[.slice R m cc, .pointer (some ⟨B, 0, none⟩)] W fun e w' => e = .returned (.bool (bo (BadMode (N 0) m Lm x))) ∧ Below W.heap.size W w' := by
  have HS := Lib.hid (isSquare_any R m cc Lm x W (by omega) (fun i hi => by have := hLm i hi; omega) hr)
  clear hLm
  have hn' : (0 : Int) < (n : Int) := by omega
  have hBl := World.block_lt_of_cell? W _ hB
  by_cases hs : SqP m Lm x
  · have HV := Lib.hid (bo_true hs)
    by_cases he : m = N 0
    · have HE := Lib.hid (bo_false (show ¬ BadMode (N 0) m Lm x from fun h => h ⟨hs, he⟩))
      have hne : ((m : Int) != (N 0 : Int)) = false := by simp [he]
      clear hs he
      go_enter Try.func65, Try.ntmps65
      go_wp2_with fail
      refine HS.out.mono ?_
      rw [HV.out]
      rintro e w1 ⟨rfl, hb1⟩
      obtain ⟨b', off', R', cc', rfl, hbl', hz0, hr'⟩ := (hf.below hb1 (Nat.le_refl _)) 0 hn
      rw [Nat.add_zero] at hz0
      have hB1 := (hb1.cell (p := ⟨B, 0, none⟩) hBl).trans hB
      go_wp2
      go_ret
      exact ⟨ret_bool HE.out.symm, hb1⟩
    · have HE := Lib.hid (bo_true (show BadMode (N 0) m Lm x from fun h => he h.2))
      have hne : ((m : Int) != (N 0 : Int)) = true := by simp; omega
      clear hs he
      go_enter Try.func65, Try.ntmps65
      go_wp2_with fail
      refine HS.out.mono ?_
      rw [HV.out]
      rintro e w1 ⟨rfl, hb1⟩
      obtain ⟨b', off', R', cc', rfl, hbl', hz0, hr'⟩ := (hf.below hb1 (Nat.le_refl _)) 0 hn
      rw [Nat.add_zero] at hz0
      have hB1 := (hb1.cell (p := ⟨B, 0, none⟩) hBl).trans hB
      go_wp2
      go_ret
      exact ⟨ret_bool HE.out.symm, hb1⟩
  · have HV := Lib.hid (bo_false hs)
    have HE := Lib.hid (bo_true (show BadMode (N 0) m Lm x from fun h => hs h.1))
    clear hs
    go_enter Try.func65, Try.ntmps65
    go_wp2_with fail
    refine HS.out.mono ?_
    rw [HV.out]
    rintro e w1 ⟨rfl, hb1⟩
    go_wp2
    go_ret
    exact ⟨ret_bool HE.out.symm, hb1⟩

theorem areModes1_enters : ∀ (args : Array Value) (w : World), (callFunc 65 args).run Try.prog w = .ok (.enter 65 args) w := enters_by Try.func65 (by kernel_rfl) rfl

set_option maxRecDepth 100000 in
set_option maxHeartbeats 1000000 in
theorem implAreModes_any (A : Option Addr) (n c : Nat) (N : Nat → Nat) (L : Nat → Nat → Nat) (f : Nat → Nat → Nat → Int) (W : World) (hn : n ≤ 1048576) (hN : ∀ i, i < n → N i ≤ 1048576) (hL : ∀ i, i < n → ∀ j, j < N i → L i j ≤ 1048576) (hf : RC W A n N L f) :
    Calls Try.prog 26 #[.slice A n c] W fun e w' => e = .returned (.bool (bo (ModesP n N L f))) ∧ Below W.heap.size W w' := by
  have HN := Lib.hid hN; clear hN
  have HL := Lib.hid hL; clear hL
  by_cases hl : 1 ≤ n ∧ n ≤ 4
  · obtain ⟨h1, h2⟩ := hl
    have hd1 : decide ((n : Int) ≤ 4) = true := decide_eq_true (by omega)
    go_enter Try.func26, Try.ntmps26
    go_wp2_with (first | (go_at_call 50; go_in))
    have hfb := hf.below ((Below.refl W.heap.size W).alloc (Nat.le_refl _) (Obj.cells #[Value.slice A n c] 44)) (Nat.le_refl _)
    refine (containsMat_any A n c N L f 65 _ (fun i => bo (BadMode (N 0) (N i) (L i) (f i))) _ (by omega) hfb areModes1_enters ?_).mono ?_
    · intro i hi w R cc hb hr
      refine areModes1_any A n c N L f R (N i) cc W.heap.size (L i) (f i) w (by omega) (HN.out i hi) (HL.out i hi) ?_ (hfb.below hb (Nat.le_refl _)) hr
      have := hb.cell (p := ⟨W.heap.size, 0, none⟩) (by simp)
      rw [this]; exact c1a _ _ _ 0
    · rintro e w1 ⟨rfl, hb1⟩
      have hB1 : Below W.heap.size W w1 := ((Below.refl W.heap.size W).alloc (Nat.le_refl _) _).trans (hb1.mono (by simp))
      cases hany : anyB (fun i => bo (BadMode (N 0) (N i) (L i) (f i))) n with
      | true =>
        obtain ⟨i, hi, hbad⟩ := anyB_is_true hany
        have HE := Lib.hid (bo_false (show ¬ ModesP n N L f from fun h => of_bo hbad (h.2.2 i hi)))
        clear hany hbad
        go_wp2
        go_ret
        exact ⟨ret_bool HE.out.symm, hB1⟩
      | false =>
        have HE := Lib.hid (bo_true (show ModesP n N L f from ⟨h1, h2, fun i hi => Classical.byContradiction fun h => not_of_bo (anyB_is_false hany i hi) h⟩))
        clear hany
        go_wp2
        go_ret
        exact ⟨ret_bool HE.out.symm, hB1⟩
  · have HE := Lib.hid (bo_false (show ¬ ModesP n N L f from fun h => hl ⟨h.1, h.2.1⟩))
    rcases (by omega : n < 1 ∨ (1 ≤ n ∧ 4 < n)) with h2 | ⟨h2, h3⟩
    all_goals
      clear hl
      try have hd2 : decide ((n : Int) ≤ 4) = false := decide_eq_false (by omega)
      go_enter Try.func26, Try.ntmps26
      go_wp2
      go_ret
      exact ⟨ret_bool (by simp [HE.out]; try omega), (Below.refl W.heap.size W).alloc (Nat.le_refl _) _⟩
end Go.Proofs.Ytmoficihgnipbaa
