/- The law's own helpers over slices of slices of slices of numbers. -/
import Derived.Test.YtmoficihgnipbaaMat
namespace Go.Proofs.Ytmoficihgnipbaa
open Go.RowKit

/-- a slice of n slices of slices of numbers -/
def RC (w : World) (A : Option Addr) (n : Nat) (N : Nat → Nat) (L : Nat → Nat → Nat) (f : Nat → Nat → Nat → Int) : Prop :=
  ∀ i, i < n → ∃ b off R c, A = some ⟨b, off, none⟩ ∧ b < w.heap.size ∧ w.cell? ⟨b, off + i, none⟩ = some (.slice R (N i) c) ∧ RM w R (N i) (L i) (f i)

theorem RC.below {B : Nat} {w w' : World} {A : Option Addr} {n : Nat} {N : Nat → Nat} {L : Nat → Nat → Nat} {f : Nat → Nat → Nat → Int} (h : RC w A n N L f) (hb : Below B w w') (hB : w.heap.size ≤ B) : RC w' A n N L f := fun i hi => by
  obtain ⟨b, off, R, c, e, hl, hc, hr⟩ := h i hi
  exact ⟨b, off, R, c, e, Nat.lt_of_lt_of_le hl hb.size, (hb.cell (p := ⟨b, off + i, none⟩) (Nat.lt_of_lt_of_le hl hB)).trans hc, hr.below hb hB⟩

/-- how much a slice of slices of slices counts -/
def cnt3 (n : Nat) (N : Nat → Nat) (L : Nat → Nat → Nat) : Nat := n + sumL (fun i => N i + sumL (L i) (N i)) n

set_option maxRecDepth 100000 in
set_option maxHeartbeats 400000 in
theorem szInt64SSS_any (A : Option Addr) (n c : Nat) (N : Nat → Nat) (L : Nat → Nat → Nat) (f : Nat → Nat → Nat → Int) (left : Int) (W : World) (hn : n ≤ 9223372036854775807) (hN : ∀ i, i < n → N i ≤ 9223372036854775807) (hL : ∀ i, i < n → ∀ j, j < N i → L i j ≤ 9223372036854775807) (h0 : 0 ≤ left) (h1 : left ≤ 1048576) (hf : RC W A n N L f) :
    Calls Try.prog 23 #[.slice A n c, .int .i64 left] W fun e w' => e = .returned (.int .i64 (sz1 left (cnt3 n N L : Nat))) ∧ Below W.heap.size W w' := by
  have HN := Lib.hid hN; clear hN
  have HL := Lib.hid hL; clear hL
  by_cases hlt : left < (n : Int)
  · have HE := Lib.hid (show sz1 left (cnt3 n N L : Nat) = -1 by unfold sz1 cnt3; rw [if_pos (by omega)])
    go_enter Try.func23, Try.ntmps23
    go_wp2
    go_ret
    exact ⟨ret_int HE.out.symm, Below.refl _ _⟩
  · obtain ⟨S, hS⟩ : ∃ S : Nat → Nat, S = fun i => N i + sumL (L i) (N i) := ⟨_, rfl⟩
    have hcnt : cnt3 n N L = n + sumL S n := by unfold cnt3; rw [hS]
    rw [hcnt]
    clear hcnt
    have HS0 := Lib.hid hS; clear hS
    go_enter Try.func23, Try.ntmps23
    go_wp2
    go_loopw [1, 5] (fun l i wr => ∃ k : Nat, k ≤ n ∧ i = .int .i64 k ∧ (sumL S k : Int) ≤ left - n ∧ l = .int .i64 (left - n - (sumL S k : Nat)) ∧ Below W.heap.size W wr) (fun _ i _ => n - (intOf i).toNat)
    case atStart => exact ⟨0, Nat.zero_le _, rfl, by simp [sumL]; omega, by simp [sumL], Below.refl _ _⟩
    case round =>
      obtain ⟨k, hk, rfl, hs, rfl, hbw⟩ := hrel
      by_cases hkn : k < n
      · obtain ⟨b, off, R, cc, rfl, hbl, hc0, hr⟩ := (hf.below hbw (Nat.le_refl _)) k hkn
        have hNk := HN.out k hkn
        have HLk := Lib.hid (HL.out k hkn)
        have hsk : sumL S (k + 1) = sumL S k + S k := rfl
        have hmn := sumL_mono (L := S) (show k + 1 ≤ n by omega)
        have hSk : S k = N k + sumL (L k) (N k) := by rw [HS0.out]
        have HS := Lib.hid hsk; clear hsk
        have HM := Lib.hid hmn; clear hmn
        have HSk := Lib.hid hSk; clear hSk
        go_wp2_with fail
        refine (szInt64SS_any R (N k) cc (L k) (f k) _ _ hNk HLk.out (by omega) (by omega) hr).mono ?_
        rintro e w1 ⟨rfl, hb1⟩
        rw [← HSk.out]
        by_cases hbig : left - n - (sumL S k : Nat) < (S k : Int)
        · have HE := Lib.hid (show sz1 left ((n + sumL S n : Nat) : Int) = -1 by have := HM.out; have := HS.out; unfold sz1; rw [if_pos (by omega)])
          rw [show sz1 (left - n - (sumL S k : Nat)) (S k : Int) = -1 by unfold sz1; rw [if_pos hbig]]
          go_wp2
          go_ret
          exact ⟨ret_int HE.out.symm, hbw.trans (hb1.mono hbw.size)⟩
        · rw [show sz1 (left - n - (sumL S k : Nat)) (S k : Int) = left - n - (sumL S k : Nat) - S k by unfold sz1; rw [if_neg hbig]]
          go_wp2
          go_roundw
          case rel => exact ⟨k + 1, by omega, by go_num, by have := HS.out; omega, by rw [HS.out]; congr 1; omega, hbw.trans (hb1.mono hbw.size)⟩
          case measure => simp [intOf]; omega
      · obtain rfl : k = n := by omega
        have HE := Lib.hid (show sz1 left ((k + sumL S k : Nat) : Int) = left - k - (sumL S k : Nat) by unfold sz1; rw [if_neg (by omega)]; omega)
        go_wp2
        go_ret
        exact ⟨ret_int HE.out.symm, hbw⟩

theorem infoInt64SS : (Try.prog.info? 34).map (fun i => (i.zero, i.size, i.bytes)) = some (some (.slice none 0 0), 1, 24) := by kernel_rfl

/-- in the making: k of n are there -/
def OCk (w : World) (b n k : Nat) (N : Nat → Nat) (L : Nat → Nat → Nat) (f : Nat → Nat → Nat → Int) : Prop :=
  ∃ g : Nat → Nat, w.rowIs b 34 n (fun q => if q < k then .slice (some ⟨g q, 0, none⟩) (N q) (N q) else .slice none 0 0) ∧ (∀ i, i < k → b < g i ∧ OM w (g i) (N i) (L i) (f i))

theorem OCk.next {w w1 : World} {b n k : Nat} {N : Nat → Nat} {L : Nat → Nat → Nat} {f : Nat → Nat → Nat → Int} (h : OCk w b n k N L f) (hb : Below w.heap.size w w1) (hrow : OM w1 w.heap.size (N k) (L k) (f k)) :
    OCk (w1.setCell ⟨b, k, none⟩ (.slice (some ⟨w.heap.size, 0, none⟩) (N k) (N k))) b n (k + 1) N L f := by
  obtain ⟨g, h1, h2⟩ := h
  have hbl := h1.lt
  refine ⟨fun q => if q = k then w.heap.size else g q, ?_, ?_⟩
  · refine ((h1.of_block (hb.block _ h1.lt)).set k _).congr (fun q _ => ?_)
    by_cases e : q = k
    · subst e; simp
    · rw [if_neg e]
      by_cases h4 : q < k
      · rw [if_pos h4, if_pos (by omega)]; simp [e]
      · rw [if_neg h4, if_neg (by omega)]
  · intro i hi
    by_cases e : i = k
    · subst e
      simp only [↓reduceIte]
      exact ⟨hbl, hrow.setOther hbl _⟩
    · simp only [if_neg e]
      obtain ⟨h4, h5⟩ := h2 i (by omega)
      exact ⟨h4, (h5.below hb (Nat.le_refl _)).setOther h4 _⟩

theorem OCk.rc {w : World} {b n : Nat} {N : Nat → Nat} {L : Nat → Nat → Nat} {f : Nat → Nat → Nat → Int} (h : OCk w b n n N L f) : RC w (some ⟨b, 0, none⟩) n N L f := fun i hi => by
  obtain ⟨g, h1, h2⟩ := h
  have := h1.cell hi
  rw [if_pos hi] at this
  exact ⟨b, 0, _, _, rfl, h1.lt, by rw [Nat.zero_add]; exact this, (h2 i hi).2.rm⟩

set_option maxRecDepth 100000 in
set_option maxHeartbeats 400000 in
theorem toInt64SSS_any (A : Option Addr) (n c : Nat) (N : Nat → Nat) (L : Nat → Nat → Nat) (f : Nat → Nat → Nat → Int) (W : World) (hn : n ≤ 1048576) (hN : ∀ i, i < n → N i ≤ 1048576) (hL : ∀ i, i < n → ∀ j, j < N i → L i j ≤ 1048576) (hf : RC W A n N L f) :
    Calls Try.prog 25 #[.slice A n c] W fun e w' => e = .returned (.slice (some ⟨W.heap.size, 0, none⟩) n n) ∧ Below W.heap.size W w' ∧ RC w' (some ⟨W.heap.size, 0, none⟩) n N L f := by
  have HN := Lib.hid hN; clear hN
  have HL := Lib.hid hL; clear hL
  obtain ⟨i0, hi0, hz0, hz1, hz2⟩ := info_parts infoInt64SS
  have hmk := fun w => run_make_row (P := Try.prog) 44 34 i0 (.slice none 0 0) Try.underlying44 hi0 hz0 hz1 rfl .i64 .i64 n (by rw [hz2]; omega) (by omega) w
  have hrow0 : OCk (W.alloc (Obj.cells (madeCells #[Value.slice none 0 0] n) 34)) W.heap.size n 0 N L f :=
    ⟨fun _ => 0, (World.rowIs_made _ _ _ _).congr (fun q _ => by rw [if_neg (by omega)]), fun i hi => absurd hi (Nat.not_lt_zero _)⟩
  go_enter Try.func25, Try.ntmps25
  go_wp2
  go_loopw [4] (fun i wr => ∃ k : Nat, k ≤ n ∧ i = .int .i64 k ∧ Below W.heap.size W wr ∧ OCk wr W.heap.size n k N L f) (fun i _ => n - (intOf i).toNat)
  case atStart => exact ⟨0, Nat.zero_le _, rfl, (Below.refl _ _).alloc (Nat.le_refl _) _, hrow0⟩
  case round =>
    obtain ⟨k, hk, rfl, hbw, hrow⟩ := hrel
    by_cases hlt : k < n
    · obtain ⟨b, off, R, cc, rfl, hbl, hc0, hr⟩ := (hf.below hbw (Nat.le_refl _)) k hlt
      have hNk := HN.out k hlt
      clear hmk
      go_wp2_with fail
      refine (toInt64SS_any R (N k) cc (L k) (f k) _ hNk (HL.out k hlt) hr).mono ?_
      rintro e w1 ⟨rfl, hb1, hr1⟩
      have hg0 : ∃ v, w1.cell? ⟨W.heap.size, k, none⟩ = some v := by
        obtain ⟨g, h1, _⟩ := hrow
        exact ⟨_, (h1.of_block (hb1.block _ h1.lt)).cell hlt⟩
      obtain ⟨v0, hg0⟩ := hg0
      have hz0 : w1.frozen? ⟨W.heap.size, k, none⟩ = false := by
        obtain ⟨g, h1, _⟩ := hrow
        exact (h1.of_block (hb1.block _ h1.lt)).frozen _
      go_wp2
      go_roundw
      case rel => exact ⟨k + 1, by omega, by go_num, (hbw.trans (hb1.mono hbw.size)).setCell (Nat.le_refl _) _, hrow.next hb1 hr1⟩
      case measure => simp [intOf]; omega
    · obtain rfl : k = n := by omega
      go_wp2
      go_ret
      exact ⟨rfl, hbw, hrow.rc⟩

set_option maxRecDepth 100000 in
set_option maxHeartbeats 400000 in
theorem eqInt64SSS_true (A B : Option Addr) (n c d : Nat) (N : Nat → Nat) (L : Nat → Nat → Nat) (f : Nat → Nat → Nat → Int) (W : World) (hn : n ≤ 1048576) (hN : ∀ i, i < n → N i ≤ 1048576) (hL : ∀ i, i < n → ∀ j, j < N i → L i j ≤ 1048576) (hf : RC W A n N L f) (hg : RC W B n N L f) :
    Calls Try.prog 27 #[.slice A n c, .slice B n d] W fun e w' => e = .returned (.bool true) ∧ Below W.heap.size W w' := by
  have HN := Lib.hid hN; clear hN
  have HL := Lib.hid hL; clear hL
  go_enter Try.func27, Try.ntmps27
  go_wp2
  go_loopw [5] (fun i wr => ∃ k : Nat, k ≤ n ∧ i = .int .i64 k ∧ Below W.heap.size W wr) (fun i _ => n - (intOf i).toNat)
  case atStart => exact ⟨0, Nat.zero_le _, rfl, Below.refl _ _⟩
  case round =>
    obtain ⟨k, hk, rfl, hbw⟩ := hrel
    by_cases hlt : k < n
    · obtain ⟨b, off, R, cc, rfl, hbl, hc0, hr⟩ := (hf.below hbw (Nat.le_refl _)) k hlt
      obtain ⟨b', off', R', cc', rfl, hbl', hd0, hr'⟩ := (hg.below hbw (Nat.le_refl _)) k hlt
      have hNk := HN.out k hlt
      go_wp2_with fail
      go_still_tail 8, (by kernel_rfl)
      go_wp2_with fail
      refine (eqInt64SS_true R R' (N k) _ _ (L k) (f k) _ hNk (HL.out k hlt) ?_ ?_).mono ?_
      · exact hr.below (Below.refl wr.heap.size wr).drew (Nat.le_refl _)
      · exact hr'.below (Below.refl wr.heap.size wr).drew (Nat.le_refl _)
      rintro e w1 ⟨rfl, hb1⟩
      go_wp2
      go_roundw
      case rel => exact ⟨k + 1, by omega, by go_num, hbw.drew.trans (hb1.mono hbw.size)⟩
      case measure => simp [intOf]; omega
    · obtain rfl : k = n := by omega
      go_wp2
      go_ret
      exact ⟨rfl, hbw⟩
end Go.Proofs.Ytmoficihgnipbaa
