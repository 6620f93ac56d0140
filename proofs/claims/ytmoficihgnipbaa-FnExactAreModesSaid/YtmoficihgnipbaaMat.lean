/- The law's own helpers over slices of slices of numbers. -/
import Derived.Test.YtmoficihgnipbaaInts
namespace Go.Proofs.Ytmoficihgnipbaa
open Go.RowKit

/-- a slice of n slices of numbers, the i-th of L i numbers, reads as f -/
def RM (w : World) (A : Option Addr) (n : Nat) (L : Nat → Nat) (f : Nat → Nat → Int) : Prop :=
  ∀ i, i < n → ∃ b off R c, A = some ⟨b, off, none⟩ ∧ b < w.heap.size ∧ w.cell? ⟨b, off + i, none⟩ = some (.slice R (L i) c) ∧ RI w R (L i) (f i)

theorem RM.below {B : Nat} {w w' : World} {A : Option Addr} {n : Nat} {L : Nat → Nat} {f : Nat → Nat → Int} (h : RM w A n L f) (hb : Below B w w') (hB : w.heap.size ≤ B) : RM w' A n L f := fun i hi => by
  obtain ⟨b, off, R, c, e, hl, hc, hr⟩ := h i hi
  exact ⟨b, off, R, c, e, Nat.lt_of_lt_of_le hl hb.size, (hb.cell (p := ⟨b, off + i, none⟩) (Nat.lt_of_lt_of_le hl hB)).trans hc, hr.below hb hB⟩

theorem RM.drewN {w : World} {A : Option Addr} {n : Nat} {L : Nat → Nat} {f : Nat → Nat → Int} (h : RM w A n L f) (k : Nat) : RM (w.drewN k) A n L f := h

/-- the sum of the first n -/
def sumL (L : Nat → Nat) : Nat → Nat
  | 0 => 0
  | n + 1 => sumL L n + L n
theorem sumL_le {L : Nat → Nat} {i n : Nat} (h : i < n) : L i ≤ sumL L n := by
  induction n with
  | zero => omega
  | succ n ih =>
    unfold sumL
    by_cases e : i = n
    · subst e; omega
    · have := ih (by omega); omega
theorem sumL_mono {L : Nat → Nat} {k n : Nat} (h : k ≤ n) : sumL L k ≤ sumL L n := by
  induction n with
  | zero => obtain rfl : k = 0 := by omega
            exact Nat.le_refl _
  | succ n ih =>
    by_cases e : k = n + 1
    · subst e; exact Nat.le_refl _
    · have := ih (by omega); show sumL L k ≤ sumL L n + L n; omega

set_option maxRecDepth 100000 in
set_option maxHeartbeats 400000 in
theorem szInt64SS_any (A : Option Addr) (n c : Nat) (L : Nat → Nat) (f : Nat → Nat → Int) (left : Int) (W : World) (hn : n ≤ 9223372036854775807) (hL : ∀ i, i < n → L i ≤ 9223372036854775807) (h0 : 0 ≤ left) (h1 : left ≤ 1048576) (hf : RM W A n L f) :
    Calls Try.prog 56 #[.slice A n c, .int .i64 left] W fun e w' => e = .returned (.int .i64 (sz1 left ((n + sumL L n : Nat) : Int))) ∧ Below W.heap.size W w' := by
  have HL := Lib.hid hL; clear hL
  by_cases hlt : left < (n : Int)
  · have HE := Lib.hid (show sz1 left ((n + sumL L n : Nat) : Int) = -1 by unfold sz1; rw [if_pos (by omega)])
    go_enter Try.func56, Try.ntmps56
    go_wp2
    go_ret
    exact ⟨ret_int HE.out.symm, Below.refl _ _⟩
  · go_enter Try.func56, Try.ntmps56
    go_wp2
    go_loopw [1, 5] (fun l i wr => ∃ k : Nat, k ≤ n ∧ i = .int .i64 k ∧ (sumL L k : Int) ≤ left - n ∧ l = .int .i64 (left - n - (sumL L k : Nat)) ∧ Below W.heap.size W wr) (fun _ i _ => n - (intOf i).toNat)
    case atStart => exact ⟨0, Nat.zero_le _, rfl, by simp [sumL]; omega, by simp [sumL], Below.refl _ _⟩
    case round =>
      obtain ⟨k, hk, rfl, hs, rfl, hbw⟩ := hrel
      by_cases hkn : k < n
      · obtain ⟨b, off, R, cc, rfl, hbl, hc0, hr⟩ := (hf.below hbw (Nat.le_refl _)) k hkn
        have hLk := HL.out k hkn
        have hsk : sumL L (k + 1) = sumL L k + L k := rfl
        have hmn := sumL_mono (L := L) (show k + 1 ≤ n by omega)
        generalize hLv : L k = lk at *
        have HS := Lib.hid hsk; clear hsk
        have HM := Lib.hid hmn; clear hmn
        have HV := Lib.hid hLv; clear hLv
        go_wp2_with fail
        refine (szInt64S_any R lk cc _ _ hLk (by omega) (by omega)).mono ?_
        rintro e w1 ⟨rfl, rfl⟩
        by_cases hbig : left - n - (sumL L k : Nat) < (lk : Int)
        · have HE := Lib.hid (show sz1 left ((n + sumL L n : Nat) : Int) = -1 by have := HM.out; have := HS.out; unfold sz1; rw [if_pos (by omega)])
          rw [show sz1 (left - n - (sumL L k : Nat)) (lk : Int) = -1 by unfold sz1; rw [if_pos hbig]]
          go_wp2
          go_ret
          exact ⟨ret_int HE.out.symm, hbw⟩
        · rw [show sz1 (left - n - (sumL L k : Nat)) (lk : Int) = left - n - (sumL L k : Nat) - lk by unfold sz1; rw [if_neg hbig]]
          go_wp2
          go_roundw
          case rel => exact ⟨k + 1, by omega, by go_num, by have := HS.out; omega, by rw [HS.out]; congr 1; omega, hbw⟩
          case measure => simp [intOf]; omega
      · obtain rfl : k = n := by omega
        have HE := Lib.hid (show sz1 left ((k + sumL L k : Nat) : Int) = left - k - (sumL L k : Nat) by unfold sz1; rw [if_neg (by omega)]; omega)
        go_wp2
        go_ret
        exact ⟨ret_int HE.out.symm, hbw⟩

theorem infoInt64S : (Try.prog.info? 35).map (fun i => (i.zero, i.size, i.bytes)) = some (some (.slice none 0 0), 1, 24) := by kernel_rfl

/-- fresh rows: block b holds n slices, the i-th over a block of its own from b + 1 on -/
def OM (w : World) (b n : Nat) (L : Nat → Nat) (f : Nat → Nat → Int) : Prop :=
  ∃ g : Nat → Nat, w.rowIs b 35 n (fun q => .slice (some ⟨g q, 0, none⟩) (L q) (L q)) ∧
    (∀ i, i < n → b < g i ∧ w.rowIs (g i) 2 (L i) (fun q => .int .i64 (f i q))) ∧ (∀ i j, i < n → j < n → i ≠ j → g i ≠ g j)

theorem OM.lt {w : World} {b n : Nat} {L : Nat → Nat} {f : Nat → Nat → Int} (h : OM w b n L f) : b < w.heap.size := by
  obtain ⟨g, h1, _⟩ := h; exact h1.lt
theorem OM.rm {w : World} {b n : Nat} {L : Nat → Nat} {f : Nat → Nat → Int} (h : OM w b n L f) : RM w (some ⟨b, 0, none⟩) n L f := fun i hi => by
  obtain ⟨g, h1, h2, _⟩ := h
  exact ⟨b, 0, _, _, rfl, h1.lt, by rw [Nat.zero_add]; exact h1.cell hi, RI.of_row (h2 i hi).2⟩
theorem OM.below {B : Nat} {w w' : World} {b n : Nat} {L : Nat → Nat} {f : Nat → Nat → Int} (h : OM w b n L f) (hb : Below B w w') (hB : w.heap.size ≤ B) : OM w' b n L f := by
  obtain ⟨g, h1, h2, h3⟩ := h
  exact ⟨g, h1.of_block (hb.block _ (Nat.lt_of_lt_of_le h1.lt hB)), fun i hi => ⟨(h2 i hi).1, (h2 i hi).2.of_block (hb.block _ (Nat.lt_of_lt_of_le (h2 i hi).2.lt hB))⟩, h3⟩

theorem OM.setOther {w : World} {b n : Nat} {L : Nat → Nat} {f : Nat → Nat → Int} (h : OM w b n L f) {a : Addr} (ha : a.block < b) (v : Value) : OM (w.setCell a v) b n L f := by
  obtain ⟨g, h1, h2, h3⟩ := h
  exact ⟨g, h1.setOther (by omega) _, fun i hi => ⟨(h2 i hi).1, (h2 i hi).2.setOther (by have := (h2 i hi).1; omega) _⟩, h3⟩

/-- the same, in the making: k of n rows are there -/
def OMk (w : World) (b n k : Nat) (L : Nat → Nat) (f : Nat → Nat → Int) : Prop :=
  ∃ g : Nat → Nat, w.rowIs b 35 n (fun q => if q < k then .slice (some ⟨g q, 0, none⟩) (L q) (L q) else .slice none 0 0) ∧
    (∀ i, i < k → b < g i ∧ w.rowIs (g i) 2 (L i) (fun q => .int .i64 (f i q))) ∧ (∀ i j, i < k → j < k → i ≠ j → g i ≠ g j)

theorem OMk.next {w w1 : World} {b n k : Nat} {L : Nat → Nat} {f : Nat → Nat → Int} (h : OMk w b n k L f) (hb : Below w.heap.size w w1) (hrow : w1.rowIs w.heap.size 2 (L k) (fun q => .int .i64 (f k q))) :
    OMk (w1.setCell ⟨b, k, none⟩ (.slice (some ⟨w.heap.size, 0, none⟩) (L k) (L k))) b n (k + 1) L f := by
  obtain ⟨g, h1, h2, h3⟩ := h
  have hbl := h1.lt
  refine ⟨fun q => if q = k then w.heap.size else g q, ?_, ?_, ?_⟩
  · refine ((h1.of_block (hb.block _ h1.lt)).set k _).congr (fun q _ => ?_)
    by_cases e : q = k
    · subst e; simp
    · rw [if_neg e]
      by_cases h4 : q < k
      · rw [if_pos h4, if_pos (by omega)]; simp [e]
      · rw [if_neg h4, if_neg (by omega)]
  · intro i hi
    by_cases e : i = k
    · subst e
      simp only [↓reduceIte]
      exact ⟨hbl, hrow.setOther (by simp; omega) _⟩
    · simp only [if_neg e]
      obtain ⟨h4, h5⟩ := h2 i (by omega)
      exact ⟨h4, (h5.of_block (hb.block _ h5.lt)).setOther (by simp; omega) _⟩
  · intro i j hi hj hij
    by_cases e : i = k
    · subst e
      simp only [↓reduceIte, if_neg (Ne.symm hij)]
      have := (h2 j (by omega)).2.lt; omega
    · by_cases e' : j = k
      · subst e'
        simp only [↓reduceIte, if_neg hij]
        have := (h2 i (by omega)).2.lt; omega
      · simp only [if_neg e, if_neg e']
        exact h3 i j (by omega) (by omega) hij

theorem OMk.done {w : World} {b n : Nat} {L : Nat → Nat} {f : Nat → Nat → Int} (h : OMk w b n n L f) : OM w b n L f := by
  obtain ⟨g, h1, h2, h3⟩ := h
  exact ⟨g, h1.congr (fun q hq => by rw [if_pos hq]), h2, h3⟩

set_option maxRecDepth 100000 in
set_option maxHeartbeats 400000 in
theorem toInt64SS_any (A : Option Addr) (n c : Nat) (L : Nat → Nat) (f : Nat → Nat → Int) (W : World) (hn : n ≤ 1048576) (hL : ∀ i, i < n → L i ≤ 1048576) (hf : RM W A n L f) :
    Calls Try.prog 60 #[.slice A n c] W fun e w' => e = .returned (.slice (some ⟨W.heap.size, 0, none⟩) n n) ∧ Below W.heap.size W w' ∧ OM w' W.heap.size n L f := by
  have HL := Lib.hid hL; clear hL
  obtain ⟨i0, hi0, hz0, hz1, hz2⟩ := info_parts infoInt64S
  have hmk := fun w => run_make_row (P := Try.prog) 34 35 i0 (.slice none 0 0) Try.underlying34 hi0 hz0 hz1 rfl .i64 .i64 n (by rw [hz2]; omega) (by omega) w
  have hrow0 : OMk (W.alloc (Obj.cells (madeCells #[Value.slice none 0 0] n) 35)) W.heap.size n 0 L f :=
    ⟨fun _ => 0, (World.rowIs_made _ _ _ _).congr (fun q _ => by rw [if_neg (by omega)]), fun i hi => absurd hi (Nat.not_lt_zero _), fun i j hi => absurd hi (Nat.not_lt_zero _)⟩
  go_enter Try.func60, Try.ntmps60
  go_wp2
  go_loopw [4] (fun i wr => ∃ k : Nat, k ≤ n ∧ i = .int .i64 k ∧ Below W.heap.size W wr ∧ OMk wr W.heap.size n k L f) (fun i _ => n - (intOf i).toNat)
  case atStart => exact ⟨0, Nat.zero_le _, rfl, (Below.refl _ _).alloc (Nat.le_refl _) _, hrow0⟩
  case round =>
    obtain ⟨k, hk, rfl, hbw, hrow⟩ := hrel
    by_cases hlt : k < n
    · obtain ⟨b, off, R, cc, rfl, hbl, hc0, hr⟩ := (hf.below hbw (Nat.le_refl _)) k hlt
      have hLk := HL.out k hlt
      clear hmk
      go_wp2_with fail
      refine (toInt64S_any R (L k) cc (f k) _ hLk hr).mono ?_
      rintro e w1 ⟨rfl, hb1, hr1⟩
      have hg0 : ∃ v, w1.cell? ⟨W.heap.size, k, none⟩ = some v := by
        obtain ⟨g, h1, _⟩ := hrow
        exact ⟨_, (h1.of_block (hb1.block _ h1.lt)).cell hlt⟩
      obtain ⟨v0, hg0⟩ := hg0
      have hz0 : w1.frozen? ⟨W.heap.size, k, none⟩ = false := by
        obtain ⟨g, h1, _⟩ := hrow
        exact (h1.of_block (hb1.block _ h1.lt)).frozen _
      go_wp2
      go_roundw
      case rel => exact ⟨k + 1, by omega, by go_num, (hbw.trans (hb1.mono hbw.size)).setCell (Nat.le_refl _) _, hrow.next hb1 hr1⟩
      case measure => simp [intOf]; omega
    · obtain rfl : k = n := by omega
      go_wp2
      go_ret
      exact ⟨rfl, hbw, hrow.done⟩

set_option maxRecDepth 100000 in
set_option maxHeartbeats 400000 in
theorem eqInt64SS_true (A B : Option Addr) (n c d : Nat) (L : Nat → Nat) (f : Nat → Nat → Int) (W : World) (hn : n ≤ 1048576) (hL : ∀ i, i < n → L i ≤ 1048576) (hf : RM W A n L f) (hg : RM W B n L f) :
    Calls Try.prog 63 #[.slice A n c, .slice B n d] W fun e w' => e = .returned (.bool true) ∧ Below W.heap.size W w' := by
  have HL := Lib.hid hL; clear hL
  go_enter Try.func63, Try.ntmps63
  go_wp2
  go_loopw [5] (fun i wr => ∃ k : Nat, k ≤ n ∧ i = .int .i64 k ∧ Below W.heap.size W wr) (fun i _ => n - (intOf i).toNat)
  case atStart => exact ⟨0, Nat.zero_le _, rfl, Below.refl _ _⟩
  case round =>
    obtain ⟨k, hk, rfl, hbw⟩ := hrel
    by_cases hlt : k < n
    · obtain ⟨b, off, R, cc, rfl, hbl, hc0, hr⟩ := (hf.below hbw (Nat.le_refl _)) k hlt
      obtain ⟨b', off', R', cc', rfl, hbl', hd0, hr'⟩ := (hg.below hbw (Nat.le_refl _)) k hlt
      have hLk := HL.out k hlt
      go_wp2_with fail
      go_still_tail 8, (by kernel_rfl)
      go_wp2_with fail
      refine (eqInt64S_true R R' (L k) _ _ (f k) _ hLk ?_ ?_).mono ?_
      · exact hr.below (Below.refl wr.heap.size wr).drew (Nat.le_refl _)
      · exact hr'.below (Below.refl wr.heap.size wr).drew (Nat.le_refl _)
      rintro e w1 ⟨rfl, hb1⟩
      go_wp2
      go_roundw
      case rel => exact ⟨k + 1, by omega, by go_num, hbw.drew.trans (hb1.mono hbw.size)⟩
      case measure => simp [intOf]; omega
    · obtain rfl : k = n := by omega
      go_wp2
      go_ret
      exact ⟨rfl, hbw⟩
end Go.Proofs.Ytmoficihgnipbaa
