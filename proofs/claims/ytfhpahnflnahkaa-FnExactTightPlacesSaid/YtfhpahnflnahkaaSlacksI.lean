/- The slacks of a timetable: the reference's list and the program's. -/
import Derived.Test.YtfhpahnflnahkaaSlacksS
namespace Go.Proofs.Ytfhpahnflnahkaa
open Go.RowKit

set_option maxRecDepth 100000 in
set_option maxHeartbeats 4000000 in
theorem implSlacks_any (ev : Int) (A : Option Addr) (n c : Nat) (f : Nat → Nat → Int) (p : Int) (B : Option Addr) (m d : Nat) (x : Nat → Int) (W : World) (hf : RR W 4 A n f) (hx : RI W B m x) (ht : TableP ev n f p m x) :
    Calls Try.prog 84 #[.agg #[.int .i64 ev, .slice A n c], .agg #[.int .i64 p, .slice B m d]] W (RetI W n (slk f x p)) := by
  have hb0 : Below W.heap.size W ((W.alloc (Obj.cells #[Value.int .i64 ev, Value.slice A n c] 52)).alloc (Obj.cells #[Value.int .i64 p, Value.slice B m d] 54)) := ((Below.refl _ _).alloc (Nat.le_refl _) _).alloc (by simp) _
  have hz : ((W.alloc (Obj.cells #[Value.int .i64 ev, Value.slice A n c] 52)).alloc (Obj.cells #[Value.int .i64 p, Value.slice B m d] 54)).heap.size = W.heap.size + 2 := by simp
  have bk0 : ((W.alloc (Obj.cells #[Value.int .i64 ev, Value.slice A n c] 52)).alloc (Obj.cells #[Value.int .i64 p, Value.slice B m d] 54)).cell? ⟨W.heap.size, 0, none⟩ = some (Value.int .i64 ev) := c2a _ _ _ _ _ 0
  have bk1 : ((W.alloc (Obj.cells #[Value.int .i64 ev, Value.slice A n c] 52)).alloc (Obj.cells #[Value.int .i64 p, Value.slice B m d] 54)).cell? ⟨W.heap.size, 1, none⟩ = some (Value.slice A n c) := c2a _ _ _ _ _ 1
  have bm0 : ((W.alloc (Obj.cells #[Value.int .i64 ev, Value.slice A n c] 52)).alloc (Obj.cells #[Value.int .i64 p, Value.slice B m d] 54)).cell? ⟨W.heap.size + 1, 0, none⟩ = some (Value.int .i64 p) := c2b _ _ _ _ _ 0
  have bm1 : ((W.alloc (Obj.cells #[Value.int .i64 ev, Value.slice A n c] 52)).alloc (Obj.cells #[Value.int .i64 p, Value.slice B m d] 54)).cell? ⟨W.heap.size + 1, 1, none⟩ = some (Value.slice B m d) := c2b _ _ _ _ _ 1
  obtain ⟨⟨hev, hn30, hpl⟩, hp, hme, hal⟩ := ht
  obtain ⟨hev1, hev2⟩ := hev
  obtain ⟨hp1, hp2⟩ := hp
  have hm10 : m ≤ 10 := by omega
  have HME := Lib.hid hme; clear hme
  have HP := Lib.hid hpl; clear hpl
  have HR : RowKit.Hid (∀ i, i < m → 0 ≤ x i ∧ x i ≤ 1000000) := Lib.hid (fun i hi => hal i hi)
  clear hal
  have HF0 := Lib.hid hf
  have HX0 := Lib.hid hx
  clear hf hx
  obtain ⟨i0, hi0, hz0, hz1, hz2⟩ := info_parts infoInt64
  have hmk := fun w => run_make_row (P := Try.prog) 24 2 i0 (.int .i64 0) Try.underlying24 hi0 hz0 hz1 rfl .i64 .i64 n (by rw [hz2]; omega) (by omega) w
  have hrow0 : (((W.alloc (Obj.cells #[Value.int .i64 ev, Value.slice A n c] 52)).alloc (Obj.cells #[Value.int .i64 p, Value.slice B m d] 54)).alloc (Obj.cells (madeCells #[Value.int .i64 0] n) 2)).rowIs ((W.alloc (Obj.cells #[Value.int .i64 ev, Value.slice A n c] 52)).alloc (Obj.cells #[Value.int .i64 p, Value.slice B m d] 54)).heap.size 2 n (fun q => .int .i64 (if q < 0 then slk f x p q else 0)) := World.rowIs_made _ _ _ _
  rw [hz] at hrow0
  have hst : Below (W.heap.size + 2) ((W.alloc (Obj.cells #[Value.int .i64 ev, Value.slice A n c] 52)).alloc (Obj.cells #[Value.int .i64 p, Value.slice B m d] 54)) (((W.alloc (Obj.cells #[Value.int .i64 ev, Value.slice A n c] 52)).alloc (Obj.cells #[Value.int .i64 p, Value.slice B m d] 54)).alloc (Obj.cells (madeCells #[Value.int .i64 0] n) 2)) := (Below.refl _ _).alloc (by rw [hz]; exact Nat.le_refl _) _
  go_enter Try.func84, Try.ntmps84
  go_wp2
  go_loopw [15, 6, 7] (fun i _ _ wr => ∃ k : Nat, k ≤ n ∧ i = .int .i64 k ∧ Below (W.heap.size + 2) ((W.alloc (Obj.cells #[Value.int .i64 ev, Value.slice A n c] 52)).alloc (Obj.cells #[Value.int .i64 p, Value.slice B m d] 54)) wr ∧ wr.rowIs (W.heap.size + 2) 2 n (fun q => .int .i64 (if q < k then slk f x p q else 0))) (fun i _ _ _ => n - (intOf i).toNat)
  case atStart => exact ⟨0, Nat.zero_le _, rfl, hst, hrow0⟩
  case round =>
    clear hmk hrow0 hst
    obtain ⟨k, hk, rfl, hbw, hown⟩ := hrel
    have hsz := hbw.size
    rw [hz] at hsz
    have hbW : Below W.heap.size W wr := hb0.trans (hbw.mono (by omega))
    have k0 := (hbw.cell (p := ⟨W.heap.size, 0, none⟩) (by simp)).trans bk0
    have k1 := (hbw.cell (p := ⟨W.heap.size, 1, none⟩) (by simp)).trans bk1
    have m0 := (hbw.cell (p := ⟨W.heap.size + 1, 0, none⟩) (by simp)).trans bm0
    have m1 := (hbw.cell (p := ⟨W.heap.size + 1, 1, none⟩) (by simp)).trans bm1
    clear bk0 bk1 bm0 bm1
    by_cases hlt : k < n
    · obtain ⟨b, off, hA, hbl, hcell⟩ := (HF0.out.below hbW (Nat.le_refl _)) k hlt
      subst hA
      have hpk := HP.out k hlt
      obtain ⟨⟨p1, p2⟩, ⟨p3, p4⟩, ⟨p5, p6⟩, p7, p8⟩ := hpk
      obtain ⟨s, hs⟩ := Int.eq_ofNat_of_zero_le p1
      obtain ⟨t, ht⟩ := Int.eq_ofNat_of_zero_le p3
      have hme := HME.out
      have hsn : s < m := by omega
      have htn : t < m := by omega
      clear hme
      have hxs := HR.out s (by omega)
      have hxt := HR.out t (by omega)
      obtain ⟨b', off', hC, hbl', hx0⟩ := (HX0.out.below hbW (Nat.le_refl _)) s hsn
      obtain ⟨b'', off'', hC', hbl'', hx1⟩ := (HX0.out.below hbW (Nat.le_refl _)) t htn
      obtain ⟨_, _, hC'', hbo', _⟩ := HX0.out s hsn
      rw [hC] at hC''
      simp only [Option.some.injEq, Addr.mk.injEq, and_true] at hC''
      obtain ⟨rfl, rfl⟩ := hC''
      subst hC
      simp only [Option.some.injEq, Addr.mk.injEq, and_true] at hC'
      obtain ⟨rfl, rfl⟩ := hC'
      have hc0 : wr.cell? ⟨b, off + k * 4, none⟩ = some (.int .i64 (s : Int)) := by have := hcell 0 (by omega); rw [hs] at this; exact this
      have hc1 : wr.cell? ⟨b, off + k * 4 + 1, none⟩ = some (.int .i64 (t : Int)) := by have := hcell 1 (by omega); rw [ht] at this; exact this
      have hc2 : wr.cell? ⟨b, off + k * 4 + 2, none⟩ = some (.int .i64 (f k 2)) := hcell 2 (by omega)
      have hc3 : wr.cell? ⟨b, off + k * 4 + 3, none⟩ = some (.int .i64 (f k 3)) := hcell 3 (by omega)
      clear hcell
      have hs0 : (0 : Int) ≤ (s : Int) := Int.natCast_nonneg _
      have ht0 : (0 : Int) ≤ (t : Int) := Int.natCast_nonneg _
      have hs1 : (s : Int) < (m : Int) := by omega
      have ht1 : (t : Int) < (m : Int) := by omega
      have hm0 : 0 ≤ f k 3 * p := Int.mul_nonneg p7 hp1
      have hm1 : f k 3 * p ≤ 500000 := Int.le_trans (Int.mul_le_mul p8 hp2 hp1 (by omega)) (by omega)
      have HF := Lib.hid (show IntKind.i64.wrap (IntKind.i64.wrap (x t + f k 3 * p - x s) - f k 2) = slk f x p k by rw [wrapI (x t + f k 3 * p - x s) (by omega) (by omega), wrapI _ (by omega) (by omega)]; unfold slk; rw [hs, ht]; rfl)
      have HG := Lib.hid (show slk f x p k = x t + f k 3 * p - x s - f k 2 by unfold slk; rw [hs, ht]; rfl)
      clear hs ht p1 p2 p3 p4
      have hbV : Below wr.heap.size wr (wr.alloc (Obj.cells #[Value.int .i64 (s : Int), Value.int .i64 (t : Int), Value.int .i64 (f k 2), Value.int .i64 (f k 3)] 108)) := (Below.refl _ _).alloc (Nat.le_refl _) _
      have hBV := hbw.alloc (by omega) (Obj.cells #[Value.int .i64 (s : Int), Value.int .i64 (t : Int), Value.int .i64 (f k 2), Value.int .i64 (f k 3)] 108)
      have hVl : wr.heap.size < (wr.alloc (Obj.cells #[Value.int .i64 (s : Int), Value.int .i64 (t : Int), Value.int .i64 (f k 2), Value.int .i64 (f k 3)] 108)).heap.size := by simp
      have nb0 : (wr.alloc (Obj.cells #[Value.int .i64 (s : Int), Value.int .i64 (t : Int), Value.int .i64 (f k 2), Value.int .i64 (f k 3)] 108)).cell? ⟨wr.heap.size, 0, none⟩ = some (Value.int .i64 (s : Int)) := c1a _ _ _ 0
      have nb1 : (wr.alloc (Obj.cells #[Value.int .i64 (s : Int), Value.int .i64 (t : Int), Value.int .i64 (f k 2), Value.int .i64 (f k 3)] 108)).cell? ⟨wr.heap.size, 1, none⟩ = some (Value.int .i64 (t : Int)) := c1a _ _ _ 1
      have nb2 : (wr.alloc (Obj.cells #[Value.int .i64 (s : Int), Value.int .i64 (t : Int), Value.int .i64 (f k 2), Value.int .i64 (f k 3)] 108)).cell? ⟨wr.heap.size, 2, none⟩ = some (Value.int .i64 (f k 2)) := c1a _ _ _ 2
      have nb3 : (wr.alloc (Obj.cells #[Value.int .i64 (s : Int), Value.int .i64 (t : Int), Value.int .i64 (f k 2), Value.int .i64 (f k 3)] 108)).cell? ⟨wr.heap.size, 3, none⟩ = some (Value.int .i64 (f k 3)) := c1a _ _ _ 3
      have hx0V := (hbV.cell (p := ⟨b', off' + s, none⟩) hbl').trans hx0
      have hx1V := (hbV.cell (p := ⟨b', off' + t, none⟩) hbl').trans hx1
      have m0V := (hbV.cell (p := ⟨W.heap.size + 1, 0, none⟩) (by show W.heap.size + 1 < wr.heap.size; omega)).trans m0
      have m1V := (hbV.cell (p := ⟨W.heap.size + 1, 1, none⟩) (by show W.heap.size + 1 < wr.heap.size; omega)).trans m1
      have hownV := hown.alloc (Obj.cells #[Value.int .i64 (s : Int), Value.int .i64 (t : Int), Value.int .i64 (f k 2), Value.int .i64 (f k 3)] 108)
      have hg0 := hownV.cell (i := k) (by omega)
      have hz0' := hownV.frozen k
      have hgl := hownV.lt
      have HOWN := Lib.hid hownV; clear hownV hown
      clear hbV
      go_wp2_with fail
      generalize hV : wr.alloc (Obj.cells #[Value.int .i64 (s : Int), Value.int .i64 (t : Int), Value.int .i64 (f k 2), Value.int .i64 (f k 3)] 108) = V at *
      go_still_tail 25, (by kernel_rfl)
      go_wp2
      go_roundw
      case rel =>
        refine ⟨k + 1, by omega, by go_num, ?_, ?_⟩
        · exact (below_N hBV _).setCell (Nat.le_refl _) _
        · have := fillI (f := slk f x p) HOWN.out
          rw [HG.out] at this; exact this
      case measure => simp [intOf]; omega
    · obtain rfl : k = n := by omega
      go_wp2
      go_ret
      exact retI_row hbW rfl (SI.of_row (hown.congr (fun q hq => by rw [if_pos hq])) (by omega) hown.lt)

end Go.Proofs.Ytfhpahnflnahkaa
