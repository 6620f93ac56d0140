/- The program's checks of values, vectors and matrices. -/
import Derived.Test.YtmoficihgnipbaaMat
import Derived.Test.YtmoficihgnipbaaHasInt
import Derived.Test.YtmoficihgnipbaaHasRow
import Derived.Test.YtmoficihgnipbaaPlain
namespace Go.Proofs.Ytmoficihgnipbaa
open Go.RowKit

set_option maxHeartbeats 400000 in
theorem implIsValue_any (z : Int) (w : World) :
    Calls Try.prog 104 #[.int .i64 z] w fun e w' => e = .returned (.bool (bo (ValP z))) ∧ w = w' := by
  by_cases h0 : z = -1000000000000000
  · have HE := Lib.hid (bo_true (show ValP z from .inl h0))
    have hb : (z == -1000000000000000) = true := by simpa using h0
    clear h0
    go_enter Try.func104, Try.ntmps104
    go_wp2
    go_ret
    exact ⟨ret_bool HE.out.symm, rfl⟩
  · have hb : (z == -1000000000000000) = false := by simpa using h0
    by_cases h1 : -1000000 ≤ z ∧ z ≤ 1000000
    · have HE := Lib.hid (bo_true (show ValP z from .inr h1))
      obtain ⟨h1, h2⟩ := h1
      clear h0
      go_enter Try.func104, Try.ntmps104
      go_wp2
      go_ret
      exact ⟨ret_bool (by simp [HE.out]; try omega), rfl⟩
    · have HE := Lib.hid (bo_false (show ¬ ValP z from fun h => h.elim h0 h1))
      rcases (by omega : z < -1000000 ∨ (-1000000 ≤ z ∧ 1000000 < z)) with h2 | ⟨h2, h3⟩
      all_goals
        clear h0 h1
        go_enter Try.func104, Try.ntmps104
        go_wp2
        go_ret
        exact ⟨ret_bool (by simp [HE.out]; try omega), rfl⟩

set_option maxHeartbeats 400000 in
theorem areValues1_any (z : Int) (w : World) :
    Calls Try.prog 103 #[.int .i64 z] w fun e w' => e = .returned (.bool (!bo (ValP z))) ∧ Below w.heap.size w w' := by
  go_enter Try.func103, Try.ntmps103
  go_wp2_with fail
  refine (implIsValue_any z _).mono ?_
  rintro e w1 ⟨rfl, rfl⟩
  go_wp2
  go_ret
  exact ⟨rfl, Below.refl _ _⟩

theorem areValues1_enters : ∀ (args : Array Value) (w : World), (callFunc 103 args).run Try.prog w = .ok (.enter 103 args) w := enters_by Try.func103 (by kernel_rfl) rfl

set_option maxHeartbeats 400000 in
theorem areValues_any (A : Option Addr) (n c : Nat) (x : Nat → Int) (W : World) (hn : n ≤ 9223372036854775807) (hf : RI W A n x) :
    Calls Try.prog 89 #[.slice A n c] W fun e w' => e = .returned (.bool (bo (AllP false n x))) ∧ Below W.heap.size W w' := by
  go_enter Try.func89, Try.ntmps89
  go_wp2_with fail
  refine (containsInt_any A n c x _ _ (fun i => !bo (ValP (x i))) _ hn hf areValues1_enters (fun i hi w hb => by simpa using areValues1_any (x i) w)).mono ?_
  rintro e w1 ⟨rfl, hb1⟩
  cases hany : anyB (fun i => !bo (ValP (x i))) n with
  | true =>
    obtain ⟨i, hi, hbad⟩ := anyB_is_true hany
    have HE := Lib.hid (bo_false (show ¬ AllP false n x from fun h => by rw [bo_true (h i hi).1] at hbad; simp at hbad))
    clear hany hbad
    go_wp2
    go_ret
    exact ⟨ret_bool HE.out.symm, hb1⟩
  | false =>
    have HE := Lib.hid (bo_true (show AllP false n x from fun i hi => ⟨of_bo (by have := anyB_is_false hany i hi; simpa using this), fun h => by cases h⟩))
    clear hany
    go_wp2
    go_ret
    exact ⟨ret_bool HE.out.symm, hb1⟩

set_option maxHeartbeats 400000 in
theorem isVector_any (A : Option Addr) (n c : Nat) (x : Nat → Int) (W : World) (hn : n ≤ 9223372036854775807) (hf : RI W A n x) :
    Calls Try.prog 62 #[.slice A n c] W fun e w' => e = .returned (.bool (bo (VecP n x))) ∧ Below W.heap.size W w' := by
  by_cases hl : 1 ≤ n ∧ n ≤ 10
  · have HE := Lib.hid (bo_congr (show VecP n x ↔ AllP false n x from ⟨fun h => h.2.2, fun h => ⟨hl.1, hl.2, h⟩⟩))
    obtain ⟨h1, h2⟩ := hl
    go_enter Try.func62, Try.ntmps62
    go_wp2_with (first | (go_at_call 50; go_in) | (go_at_call 89; refine (areValues_any A n c x _ hn hf).mono ?_; rintro e w1 ⟨rfl, hb1⟩))
    go_ret
    exact ⟨ret_bool HE.out.symm, hb1⟩
  · have HE := Lib.hid (bo_false (show ¬ VecP n x from fun h => hl ⟨h.1, h.2.1⟩))
    rcases (by omega : n < 1 ∨ (1 ≤ n ∧ 10 < n)) with h2 | ⟨h2, h3⟩
    all_goals
      clear hl
      go_enter Try.func62, Try.ntmps62
      go_wp2
      go_ret
      exact ⟨ret_bool (by simp [HE.out]; try omega), Below.refl _ _⟩

/-- a row that is none of a matrix whose first row has l0 numbers -/
def BadRow (l0 l : Nat) (x : Nat → Int) : Prop := ¬ (l = l0 ∧ AllP false l x)

set_option maxRecDepth 100000 in
set_option maxHeartbeats 1000000 in
theorem isMatrix1_any (A : Option Addr) (n c : Nat) (L : Nat → Nat) (f : Nat → Nat → Int) (R : Option Addr) (l cc B : Nat) (x : Nat → Int) (W : World) (hn : 0 < n) (hl : l ≤ 9223372036854775807) (hB : W.cell? ⟨B, 0, none⟩ = some (.slice A n c)) (hf : RM W A n L f) (hr : RI W R l x) :
    Calls Try.prog 101 #[.slice R l cc, .pointer (some ⟨B, 0, none⟩)] W fun e w' => e = .returned (.bool (bo (BadRow (L 0) l x))) ∧ Below W.heap.size W w' := by
  obtain ⟨b', off', R', cc', rfl, hbl', hz0, hr'⟩ := hf 0 hn
  rw [Nat.add_zero] at hz0
  have hn' : (0 : Int) < (n : Int) := by omega
  by_cases he : l = L 0
  · have HE := Lib.hid (bo_congr (show BadRow (L 0) l x ↔ ¬ AllP false l x from ⟨fun h ha => h ⟨he, ha⟩, fun h ha => h ha.2⟩))
    have hne : ((l : Int) != (L 0 : Int)) = false := by simp [he]
    clear he
    go_enter Try.func101, Try.ntmps101
    go_wp2_with fail
    refine (areValues_any R l cc x _ hl hr).mono ?_
    rintro e w1 ⟨rfl, hb1⟩
    go_wp2
    go_ret
    refine ⟨ret_bool ?_, hb1⟩
    rw [HE.out]
    by_cases ha : AllP false l x
    · rw [bo_true ha, bo_false (not_not_intro ha)]; rfl
    · rw [bo_false ha, bo_true ha]; rfl
  · have HE := Lib.hid (bo_true (show BadRow (L 0) l x from fun h => he h.1))
    have hne : ((l : Int) != (L 0 : Int)) = true := by simp; omega
    clear he
    go_enter Try.func101, Try.ntmps101
    go_wp2
    go_ret
    exact ⟨ret_bool HE.out.symm, Below.refl _ _⟩

theorem isMatrix1_enters : ∀ (args : Array Value) (w : World), (callFunc 101 args).run Try.prog w = .ok (.enter 101 args) w := enters_by Try.func101 (by kernel_rfl) rfl

set_option maxRecDepth 100000 in
set_option maxHeartbeats 1000000 in
theorem implIsMatrix_any (A : Option Addr) (n c : Nat) (L : Nat → Nat) (f : Nat → Nat → Int) (W : World) (hn : n ≤ 9223372036854775807) (hL : ∀ i, i < n → L i ≤ 9223372036854775807) (hf : RM W A n L f) :
    Calls Try.prog 88 #[.slice A n c] W fun e w' => e = .returned (.bool (bo (MatP n L f))) ∧ Below W.heap.size W w' := by
  have HL := Lib.hid hL; clear hL
  by_cases hl : 1 ≤ n ∧ n ≤ 10
  · obtain ⟨h1, h2⟩ := hl
    have hL0 := HL.out 0 (by omega)
    obtain ⟨b', off', R', cc', hA, hbl', hz0, hr'⟩ := hf 0 (by omega)
    subst hA
    rw [Nat.add_zero] at hz0
    have hn' : (0 : Int) < (n : Int) := by omega
    by_cases hl0 : 1 ≤ L 0 ∧ L 0 ≤ 10
    · obtain ⟨h3, h4⟩ := hl0
      have hd1 : decide ((n : Int) ≤ 10) = true := decide_eq_true (by omega)
      have hd2 : decide ((L 0 : Int) ≤ 10) = true := decide_eq_true (by omega)
      go_enter Try.func88, Try.ntmps88
      go_wp2_with (first | (go_at_call 50; go_in))
      have hfb := hf.below ((Below.refl W.heap.size W).alloc (Nat.le_refl _) (Obj.cells #[Value.slice (some ⟨b', off', none⟩) n c] 34)) (Nat.le_refl _)
      refine (containsRow_any (some ⟨b', off', none⟩) n c L f 101 _ (fun i => bo (BadRow (L 0) (L i) (f i))) _ hn hfb isMatrix1_enters ?_).mono ?_
      · intro i hi w R cc hb hr
        refine isMatrix1_any (some ⟨b', off', none⟩) n c L f R (L i) cc W.heap.size (f i) w (by omega) (HL.out i hi) ?_ (hfb.below hb (Nat.le_refl _)) hr
        have := hb.cell (p := ⟨W.heap.size, 0, none⟩) (by simp)
        rw [this]; simp
      · rintro e w1 ⟨rfl, hb1⟩
        have hB1 : Below W.heap.size W w1 := ((Below.refl W.heap.size W).alloc (Nat.le_refl _) _).trans (hb1.mono (by simp))
        cases hany : anyB (fun i => bo (BadRow (L 0) (L i) (f i))) n with
        | true =>
          obtain ⟨i, hi, hbad⟩ := anyB_is_true hany
          have HE := Lib.hid (bo_false (show ¬ MatP n L f from fun h => of_bo hbad (h.2.2.2.2 i hi)))
          clear hany hbad
          go_wp2
          go_ret
          exact ⟨ret_bool HE.out.symm, hB1⟩
        | false =>
          have HE := Lib.hid (bo_true (show MatP n L f from ⟨h1, h2, h3, h4, fun i hi => Classical.byContradiction fun h => not_of_bo (anyB_is_false hany i hi) h⟩))
          clear hany
          go_wp2
          go_ret
          exact ⟨ret_bool HE.out.symm, hB1⟩
    · have HE := Lib.hid (bo_false (show ¬ MatP n L f from fun h => hl0 ⟨h.2.2.1, h.2.2.2.1⟩))
      have hd1 : decide ((n : Int) ≤ 10) = true := decide_eq_true (by omega)
      rcases (by omega : L 0 < 1 ∨ (1 ≤ L 0 ∧ 10 < L 0)) with h3 | ⟨h3, h4⟩
      all_goals
        clear hl0
        try have hd2 : decide ((L 0 : Int) ≤ 10) = false := decide_eq_false (by omega)
        go_enter Try.func88, Try.ntmps88
        go_wp2
        go_ret
        exact ⟨ret_bool (by simp [HE.out]; try omega), (Below.refl W.heap.size W).alloc (Nat.le_refl _) _⟩
  · have HE := Lib.hid (bo_false (show ¬ MatP n L f from fun h => hl ⟨h.1, h.2.1⟩))
    rcases (by omega : n < 1 ∨ (1 ≤ n ∧ 10 < n)) with h2 | ⟨h2, h3⟩
    all_goals
      clear hl
      try have hd2 : decide ((n : Int) ≤ 10) = false := decide_eq_false (by omega)
      go_enter Try.func88, Try.ntmps88
      go_wp2
      go_ret
      exact ⟨ret_bool (by simp [HE.out]; try omega), (Below.refl W.heap.size W).alloc (Nat.le_refl _) _⟩

set_option maxRecDepth 100000 in
set_option maxHeartbeats 1000000 in
theorem isSquare_any (A : Option Addr) (n c : Nat) (L : Nat → Nat) (f : Nat → Nat → Int) (W : World) (hn : n ≤ 9223372036854775807) (hL : ∀ i, i < n → L i ≤ 9223372036854775807) (hf : RM W A n L f) :
    Calls Try.prog 61 #[.slice A n c] W fun e w' => e = .returned (.bool (bo (SqP n L f))) ∧ Below W.heap.size W w' := by
  by_cases hm : MatP n L f
  · have HV := Lib.hid (bo_true hm)
    have HE := Lib.hid (bo_congr (show SqP n L f ↔ n = L 0 from ⟨fun h => h.2, fun h => ⟨hm, h⟩⟩))
    have h1 := hm.1
    have hL0 := hL 0 (by omega)
    go_enter Try.func61, Try.ntmps61
    have HM := Lib.hid (implIsMatrix_any A n c L f W hn hL hf); clear hL hm
    go_wp2_with fail
    refine HM.out.mono ?_
    rw [HV.out]
    rintro e w1 ⟨rfl, hb1⟩
    obtain ⟨b', off', R', cc', rfl, hbl', hz0, hr'⟩ := (hf.below hb1 (Nat.le_refl _)) 0 (by omega)
    rw [Nat.add_zero] at hz0
    go_wp2
    go_ret
    refine ⟨ret_bool ?_, hb1⟩
    rw [HE.out]
    by_cases e : n = L 0
    · rw [bo_true e]; simp [e]
    · rw [bo_false e]; simp; omega
  · have HV := Lib.hid (bo_false hm)
    have HE := Lib.hid (bo_false (show ¬ SqP n L f from fun h => hm h.1))
    have HM := Lib.hid (implIsMatrix_any A n c L f W hn hL hf); clear hL hm
    go_enter Try.func61, Try.ntmps61
    go_wp2_with fail
    refine HM.out.mono ?_
    rw [HV.out]
    rintro e w1 ⟨rfl, hb1⟩
    go_wp2
    go_ret
    exact ⟨ret_bool HE.out.symm, hb1⟩
end Go.Proofs.Ytmoficihgnipbaa
