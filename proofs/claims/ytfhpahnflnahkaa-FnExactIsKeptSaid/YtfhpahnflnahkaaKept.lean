/- Whether a timetable is kept: the reference's answer and the program's. -/
import Derived.Test.YtfhpahnflnahkaaSlacksI
import Derived.Test.YtfhpahnflnahkaaHasInt
namespace Go.Proofs.Ytfhpahnflnahkaa
open Go.RowKit

theorem ret_be {b b' : Bool} {z z' : Int} (hb : b = b') (hz : z = z') : Ending.returned (.tuple #[.bool b, .int .i64 z]) = Ending.returned (.tuple #[.bool b', .int .i64 z']) := by rw [hb, hz]

def KeptP (ev : Int) (n : Nat) (f : Nat → Nat → Int) (p : Int) (m : Nat) (x : Nat → Int) : Prop := TableP ev n f p m x ∧ ∀ i, i < n → 0 ≤ slk f x p i

set_option maxRecDepth 100000 in
set_option maxHeartbeats 1000000 in
theorem l20Kept_any (ev : Int) (A : Option Addr) (n c : Nat) (f : Nat → Nat → Int) (p : Int) (B : Option Addr) (m d : Nat) (x : Nat → Int) (W : World) (hf : RR W 4 A n f) (hx : RI W B m x) (ht : TableP ev n f p m x) :
    Calls Try.prog 63 #[.agg #[.int .i64 ev, .slice A n c], .agg #[.int .i64 p, .slice B m d]] W fun e w' => e = .returned (.bool (bo (∀ i, i < n → 0 ≤ slk f x p i))) ∧ Below W.heap.size W w' := by
  have hb0 : Below W.heap.size W ((W.alloc (Obj.cells #[Value.int .i64 ev, Value.slice A n c] 52)).alloc (Obj.cells #[Value.int .i64 p, Value.slice B m d] 54)) := ((Below.refl _ _).alloc (Nat.le_refl _) _).alloc (by simp) _
  have hn30 := ht.1.2.1
  have HT := Lib.hid ht; clear ht
  go_enter Try.func63, Try.ntmps63
  go_wp2_with fail
  refine (specSlacks_any ev A n c f p B m d x _ (hf.below hb0 (Nat.le_refl _)) (hx.below hb0 (Nat.le_refl _)) HT.out).mono ?_
  rintro e w1 ⟨R, cc, rfl, hsi, hb1⟩
  have HS := Lib.hid hsi.ri; clear hsi
  have s1 := hb1.size
  simp only [World.size_alloc] at s1
  have hB1 : Below W.heap.size W w1 := hb0.trans (hb1.mono (by simp <;> omega))
  go_wp2
  go_loopw [6] (fun i wr => ∃ k : Nat, k ≤ n ∧ i = .int .i64 k ∧ Below w1.heap.size w1 wr ∧ (∀ i, i < k → 0 ≤ slk f x p i)) (fun i _ => n - (intOf i).toNat)
  case atStart => exact ⟨0, Nat.zero_le _, rfl, Below.refl _ _, fun i hi => absurd hi (Nat.not_lt_zero _)⟩
  case round =>
    obtain ⟨k, hk, rfl, hbw, hok⟩ := hrel
    have HOK := Lib.hid hok; clear hok
    by_cases hlt : k < n
    · obtain ⟨b, off, hA, hbl, hc0⟩ := (HS.out.below hbw (Nat.le_refl _)) k hlt
      subst hA
      by_cases hv : 0 ≤ slk f x p k
      · have HV := Lib.hid hv
        have hd : decide (slk f x p k < 0) = false := decide_eq_false (by omega)
        clear hv
        go_wp2
        go_roundw
        case rel => exact ⟨k + 1, by omega, by go_num, hbw, fun i hi => by by_cases e : i = k; exact e ▸ HV.out; exact HOK.out i (by omega)⟩
        case measure => simp [intOf]; omega
      · have HNO := Lib.hid (bo_false (show ¬ ∀ i, i < n → 0 ≤ slk f x p i from fun h => hv (h k hlt)))
        have hd : decide (slk f x p k < 0) = true := decide_eq_true (by omega)
        clear hv
        go_wp2
        go_ret
        exact ⟨ret_bool HNO.out.symm, hB1.trans (hbw.mono (by omega))⟩
    · have HY := Lib.hid (bo_true (show ∀ i, i < n → 0 ≤ slk f x p i from fun i hi => HOK.out i (by omega)))
      go_wp2
      go_ret
      exact ⟨ret_bool HY.out.symm, hB1.trans (hbw.mono (by omega))⟩

set_option maxRecDepth 100000 in
theorem isKept1_any (z : Int) (W : World) : Calls Try.prog 101 #[.int .i64 z] W fun e w' => e = .returned (.bool (decide (z < 0))) ∧ Below W.heap.size W w' := by
  go_enter Try.func101, Try.ntmps101
  go_wp2
  go_ret
  exact ⟨rfl, Below.refl _ _⟩

theorem isKept1_enters : ∀ (args : Array Value) (w : World), (callFunc 101 args).run Try.prog w = .ok (.enter 101 args) w := enters_by Try.func101 (by kernel_rfl) rfl

set_option maxRecDepth 100000 in
set_option maxHeartbeats 1000000 in
theorem isKept_any (ev : Int) (A : Option Addr) (n c : Nat) (f : Nat → Nat → Int) (p : Int) (B : Option Addr) (m d : Nat) (x : Nat → Int) (W : World) (hf : RR W 4 A n f) (hx : RI W B m x) (ht : TableP ev n f p m x) :
    Calls Try.prog 66 #[.agg #[.int .i64 ev, .slice A n c], .agg #[.int .i64 p, .slice B m d]] W fun e w' => e = .returned (.bool (bo (∀ i, i < n → 0 ≤ slk f x p i))) ∧ Below W.heap.size W w' := by
  have hb0 : Below W.heap.size W ((W.alloc (Obj.cells #[Value.int .i64 ev, Value.slice A n c] 52)).alloc (Obj.cells #[Value.int .i64 p, Value.slice B m d] 54)) := ((Below.refl _ _).alloc (Nat.le_refl _) _).alloc (by simp) _
  have hn30 := ht.1.2.1
  have HT := Lib.hid ht; clear ht
  go_enter Try.func66, Try.ntmps66
  go_wp2_with fail
  refine (implSlacks_any ev A n c f p B m d x _ (hf.below hb0 (Nat.le_refl _)) (hx.below hb0 (Nat.le_refl _)) HT.out).mono ?_
  rintro e w1 ⟨R, cc, rfl, hsi, hb1⟩
  have HS := Lib.hid hsi.ri; clear hsi
  have s1 := hb1.size
  simp only [World.size_alloc] at s1
  have hB1 : Below W.heap.size W w1 := hb0.trans (hb1.mono (by simp <;> omega))
  go_wp2_with fail
  refine (containsInt_any R n cc (slk f x p) 101 _ (fun i => decide (slk f x p i < 0)) _ (by omega) HS.out isKept1_enters ?_).mono ?_
  · intro i hi w hb
    exact isKept1_any (slk f x p i) w
  · rintro e' w2 ⟨rfl, hb2⟩
    have hB2 : Below W.heap.size W w2 := hB1.trans (hb2.mono (by omega))
    cases hany : anyB (fun i => decide (slk f x p i < 0)) n with
    | true =>
      obtain ⟨i, hi, hbad⟩ := anyB_is_true hany
      have HE := Lib.hid (bo_false (show ¬ ∀ i, i < n → 0 ≤ slk f x p i from fun h => by have := h i hi; have := of_decide_eq_true hbad; omega))
      clear hany hbad
      go_wp2
      go_ret
      exact ⟨ret_bool HE.out.symm, hB2⟩
    | false =>
      have HE := Lib.hid (bo_true (show ∀ i, i < n → 0 ≤ slk f x p i from fun i hi => by have := of_decide_eq_false (anyB_is_false hany i hi); omega))
      clear hany
      go_wp2
      go_ret
      exact ⟨ret_bool HE.out.symm, hB2⟩

set_option maxRecDepth 100000 in
set_option maxHeartbeats 1000000 in
theorem specIsKept_any (ev : Int) (A : Option Addr) (n c : Nat) (f : Nat → Nat → Int) (p : Int) (B : Option Addr) (m d : Nat) (x : Nat → Int) (W : World) (hn : n ≤ 1048576) (hm : m ≤ 1048576) (hf : RR W 4 A n f) (hx : RI W B m x) :
    Calls Try.prog 27 #[.agg #[.int .i64 ev, .slice A n c], .agg #[.int .i64 p, .slice B m d]] W fun e w' => e = .returned (.tuple #[.bool (bo (KeptP ev n f p m x)), .int .i64 (code3 (GraphP ev n f) (TimeP ev p m x))]) ∧ Below W.heap.size W w' := by
  have hb0 : Below W.heap.size W ((W.alloc (Obj.cells #[Value.int .i64 ev, Value.slice A n c] 52)).alloc (Obj.cells #[Value.int .i64 p, Value.slice B m d] 54)) := ((Below.refl _ _).alloc (Nat.le_refl _) _).alloc (by simp) _
  by_cases g : TableP ev n f p m x
  case pos =>
    have HC := Lib.hid (code3_0 g.1 g.2)
    have HE := Lib.hid (bo_congr (show KeptP ev n f p m x ↔ ∀ i, i < n → 0 ≤ slk f x p i from ⟨fun h => h.2, fun h => ⟨g, h⟩⟩))
    have HT := Lib.hid g; clear g
    go_enter Try.func27, Try.ntmps27
    go_wp2_with fail
    refine (specCode_any ev A n c f p B m d x _ hn hm (hf.below hb0 (Nat.le_refl _)) (hx.below hb0 (Nat.le_refl _))).mono ?_
    rw [HC.out]
    rintro e w1 ⟨rfl, hb1⟩
    have s1 := hb1.size
    simp only [World.size_alloc] at s1
    have hB1 : Below W.heap.size W w1 := hb0.trans (hb1.mono (by simp <;> omega))
    have k0w1 : w1.cell? ⟨W.heap.size, 0, none⟩ = some (Value.int .i64 ev) := (hb1.cell (p := ⟨W.heap.size, 0, none⟩) (by simp <;> omega)).trans (c2a _ _ _ _ _ 0)
    have k1w1 : w1.cell? ⟨W.heap.size, 1, none⟩ = some (Value.slice A n c) := (hb1.cell (p := ⟨W.heap.size, 1, none⟩) (by simp <;> omega)).trans (c2a _ _ _ _ _ 1)
    have m0w1 : w1.cell? ⟨W.heap.size + 1, 0, none⟩ = some (Value.int .i64 p) := (hb1.cell (p := ⟨W.heap.size + 1, 0, none⟩) (by simp <;> omega)).trans (c2b _ _ _ _ _ 0)
    have m1w1 : w1.cell? ⟨W.heap.size + 1, 1, none⟩ = some (Value.slice B m d) := (hb1.cell (p := ⟨W.heap.size + 1, 1, none⟩) (by simp <;> omega)).trans (c2b _ _ _ _ _ 1)
    go_wp2_with fail
    refine (l20Kept_any ev A n c f p B m d x _ (hf.below hB1 (Nat.le_refl _)) (hx.below hB1 (Nat.le_refl _)) HT.out).mono ?_
    rw [← HE.out]
    rintro e w2 ⟨rfl, hb2⟩
    go_wp2
    go_ret2
    exact ⟨ret_be rfl HC.out.symm, hB1.trans (hb2.mono (by omega))⟩
  case neg =>
    have hcode : code3 (GraphP ev n f) (TimeP ev p m x) = 1 ∨ code3 (GraphP ev n f) (TimeP ev p m x) = 2 := by
      by_cases g1 : GraphP ev n f
      · exact Or.inr (code3_2 g1 (fun h => g ⟨g1, h⟩))
      · exact Or.inl (code3_1 g1)
    have HE := Lib.hid (bo_false (show ¬ KeptP ev n f p m x from fun h => g h.1))
    clear g
    obtain ⟨Z, hZ⟩ : ∃ Z, code3 (GraphP ev n f) (TimeP ev p m x) = Z := ⟨_, rfl⟩
    rw [hZ] at hcode
    have HC := Lib.hid hZ; clear hZ
    have hne : (Z != 0) = true := by rcases hcode with rfl | rfl <;> rfl
    go_enter Try.func27, Try.ntmps27
    go_wp2_with fail
    refine (specCode_any ev A n c f p B m d x _ hn hm (hf.below hb0 (Nat.le_refl _)) (hx.below hb0 (Nat.le_refl _))).mono ?_
    rw [HC.out]
    rintro e w1 ⟨rfl, hb1⟩
    have s1 := hb1.size
    simp only [World.size_alloc] at s1
    have hB1 : Below W.heap.size W w1 := hb0.trans (hb1.mono (by simp <;> omega))
    go_wp2
    go_ret2
    exact ⟨ret_be HE.out.symm HC.out.symm, hB1⟩

set_option maxRecDepth 100000 in
set_option maxHeartbeats 1000000 in
theorem implIsKept_any (ev : Int) (A : Option Addr) (n c : Nat) (f : Nat → Nat → Int) (p : Int) (B : Option Addr) (m d : Nat) (x : Nat → Int) (W : World) (hn : n ≤ 1048576) (hm : m ≤ 1048576) (hf : RR W 4 A n f) (hx : RI W B m x) :
    Calls Try.prog 30 #[.agg #[.int .i64 ev, .slice A n c], .agg #[.int .i64 p, .slice B m d]] W fun e w' => e = .returned (.tuple #[.bool (bo (KeptP ev n f p m x)), .int .i64 (code3 (GraphP ev n f) (TimeP ev p m x))]) ∧ Below W.heap.size W w' := by
  have hb0 : Below W.heap.size W ((W.alloc (Obj.cells #[Value.int .i64 ev, Value.slice A n c] 52)).alloc (Obj.cells #[Value.int .i64 p, Value.slice B m d] 54)) := ((Below.refl _ _).alloc (Nat.le_refl _) _).alloc (by simp) _
  by_cases g : TableP ev n f p m x
  case pos =>
    have HC := Lib.hid (code3_0 g.1 g.2)
    have HE := Lib.hid (bo_congr (show KeptP ev n f p m x ↔ ∀ i, i < n → 0 ≤ slk f x p i from ⟨fun h => h.2, fun h => ⟨g, h⟩⟩))
    have HT := Lib.hid g; clear g
    go_enter Try.func30, Try.ntmps30
    go_wp2_with fail
    refine (implCode_any ev A n c f p B m d x _ hn hm (hf.below hb0 (Nat.le_refl _)) (hx.below hb0 (Nat.le_refl _))).mono ?_
    rw [HC.out]
    rintro e w1 ⟨rfl, hb1⟩
    have s1 := hb1.size
    simp only [World.size_alloc] at s1
    have hB1 : Below W.heap.size W w1 := hb0.trans (hb1.mono (by simp <;> omega))
    have k0w1 : w1.cell? ⟨W.heap.size, 0, none⟩ = some (Value.int .i64 ev) := (hb1.cell (p := ⟨W.heap.size, 0, none⟩) (by simp <;> omega)).trans (c2a _ _ _ _ _ 0)
    have k1w1 : w1.cell? ⟨W.heap.size, 1, none⟩ = some (Value.slice A n c) := (hb1.cell (p := ⟨W.heap.size, 1, none⟩) (by simp <;> omega)).trans (c2a _ _ _ _ _ 1)
    have m0w1 : w1.cell? ⟨W.heap.size + 1, 0, none⟩ = some (Value.int .i64 p) := (hb1.cell (p := ⟨W.heap.size + 1, 0, none⟩) (by simp <;> omega)).trans (c2b _ _ _ _ _ 0)
    have m1w1 : w1.cell? ⟨W.heap.size + 1, 1, none⟩ = some (Value.slice B m d) := (hb1.cell (p := ⟨W.heap.size + 1, 1, none⟩) (by simp <;> omega)).trans (c2b _ _ _ _ _ 1)
    go_wp2_with fail
    refine (isKept_any ev A n c f p B m d x _ (hf.below hB1 (Nat.le_refl _)) (hx.below hB1 (Nat.le_refl _)) HT.out).mono ?_
    rw [← HE.out]
    rintro e w2 ⟨rfl, hb2⟩
    go_wp2
    go_ret2
    exact ⟨ret_be rfl HC.out.symm, hB1.trans (hb2.mono (by omega))⟩
  case neg =>
    have hcode : code3 (GraphP ev n f) (TimeP ev p m x) = 1 ∨ code3 (GraphP ev n f) (TimeP ev p m x) = 2 := by
      by_cases g1 : GraphP ev n f
      · exact Or.inr (code3_2 g1 (fun h => g ⟨g1, h⟩))
      · exact Or.inl (code3_1 g1)
    have HE := Lib.hid (bo_false (show ¬ KeptP ev n f p m x from fun h => g h.1))
    clear g
    obtain ⟨Z, hZ⟩ : ∃ Z, code3 (GraphP ev n f) (TimeP ev p m x) = Z := ⟨_, rfl⟩
    rw [hZ] at hcode
    have HC := Lib.hid hZ; clear hZ
    have hne : (Z != 0) = true := by rcases hcode with rfl | rfl <;> rfl
    go_enter Try.func30, Try.ntmps30
    go_wp2_with fail
    refine (implCode_any ev A n c f p B m d x _ hn hm (hf.below hb0 (Nat.le_refl _)) (hx.below hb0 (Nat.le_refl _))).mono ?_
    rw [HC.out]
    rintro e w1 ⟨rfl, hb1⟩
    have s1 := hb1.size
    simp only [World.size_alloc] at s1
    have hB1 : Below W.heap.size W w1 := hb0.trans (hb1.mono (by simp <;> omega))
    go_wp2
    go_ret2
    exact ⟨ret_be HE.out.symm HC.out.symm, hB1⟩

end Go.Proofs.Ytfhpahnflnahkaa
