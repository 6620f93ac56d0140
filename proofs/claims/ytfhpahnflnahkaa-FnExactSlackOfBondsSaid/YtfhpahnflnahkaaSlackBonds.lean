/- The slacks of a task's bonds: the reference's list and the program's. -/
import Derived.Test.YtfhpahnflnahkaaSpecTask
import Derived.Test.YtfhpahnflnahkaaImplTask
import Derived.Test.YtfhpahnflnahkaaRange
import Derived.Test.YtfhpahnflnahkaaInts
import Derived.Test.YtfhpahnflnahkaaGrow
namespace Go.Proofs.Ytfhpahnflnahkaa
open Go.RowKit

def sob (g : Nat → Nat → Int) (x : Nat → Int) (i : Nat) : Int := x (g i 1).toNat - x (g i 0).toNat - g i 2

set_option maxRecDepth 100000 in
set_option maxHeartbeats 2000000 in
theorem specSlackOfBonds_any (A : Option Addr) (n c : Nat) (f : Nat → Nat → Int) (B : Option Addr) (m d : Nat) (g : Nat → Nat → Int) (C : Option Addr) (q e : Nat) (x : Nat → Int) (W : World) (hn : n ≤ 1048576) (hm : m ≤ 1048576) (_hq : q ≤ 1048576) (hf : RR W 2 A n f) (hg : RR W 3 B m g) (hx : RI W C q x) :
    Calls Try.prog 13 #[.slice A n c, .slice B m d, .slice C q e] W (RetIE W (len3 (TaskP n f m g) (q = n ∧ AllInP q x 0 1000000) m) (sob g x) (code3 (TaskP n f m g) (q = n ∧ AllInP q x 0 1000000))) := by
  by_cases ht : TaskP n f m g
  · have HT := Lib.hid (taskB_true ht)
    have HTP := Lib.hid ht
    have hn1 := ht.1
    have hn2 := ht.2.1
    have hm1 := ht.2.2.1
    have HB := Lib.hid ht.2.2.2.2
    clear ht
    by_cases hqn : q = n
    · have HQ := Lib.hid hqn
      have hne : ((q : Int) != (n : Int)) = false := by simp [hqn]
      have hqn1 : q ≤ n := by omega
      have hqn2 : n ≤ q := by omega
      clear hqn
      by_cases hv : WithinP q x 10 0 1000000
      · have HV := Lib.hid (bo_true hv)
        have HR : RowKit.Hid (∀ i, i < n → 0 ≤ x i ∧ x i ≤ 1000000) := Lib.hid (fun i hi => hv.2 i (by omega))
        have HC0 := Lib.hid (code3_0 HTP.out (show q = n ∧ AllInP q x 0 1000000 from ⟨HQ.out, hv.2⟩))
        have HL0 := Lib.hid (len3_0 HTP.out (show q = n ∧ AllInP q x 0 1000000 from ⟨HQ.out, hv.2⟩) m)
        clear hv
        obtain ⟨i0, hi0, hz0, hz1, hz2⟩ := info_parts infoInt64
        go_enter Try.func13, Try.ntmps13
        go_wp2_with fail
        refine (specIsTask_any A B n m c d f g _ hn hm hf hg).mono ?_
        rw [HT.out]
        rintro e' w1 ⟨rfl, hb1⟩
        go_wp2_with fail
        refine (l01Within_any C q e x 10 0 1000000 _ (by omega) (hx.below hb1 (Nat.le_refl _))).mono ?_
        rw [HV.out]
        rintro e' w2 ⟨rfl, rfl⟩
        go_wp2
        go_loopw [8, 9] (fun o i wr => ∃ k : Nat, k ≤ m ∧ i = .int .i64 k ∧ Below W.heap.size W wr ∧ wr.ownsRow W.heap.size 2 1 o k (numsOf (sob g x) k)) (fun _ i _ => m - (intOf i).toNat)
        case atStart => exact ⟨0, Nat.zero_le _, rfl, hb1.alloc hb1.size _, owns_empty _ 1 hb1.size⟩
        case round =>
          clear  hb1
          obtain ⟨k, hk, rfl, hbw, hown⟩ := hrel
          have hsz := hbw.size
          by_cases hlt : k < m
          · obtain ⟨b, off, hA, hbl, hcell⟩ := (hg.below hbw (Nat.le_refl _)) k hlt
            obtain ⟨_, _, hA', hbo, _⟩ := hg k hlt
            rw [hA] at hA'
            simp only [Option.some.injEq, Addr.mk.injEq, and_true] at hA'
            obtain ⟨rfl, rfl⟩ := hA'
            subst hA
            have hbj := HB.out k hlt
            unfold BondOk at hbj
            obtain ⟨p1, p2, p3, p4, p5, p6⟩ := hbj
            obtain ⟨s, hs⟩ := Int.eq_ofNat_of_zero_le p1
            obtain ⟨t, ht⟩ := Int.eq_ofNat_of_zero_le p3
            have hsn : s < q := by omega
            have htn : t < q := by omega
            have hxs := HR.out s (by omega)
            have hxt := HR.out t (by omega)
            obtain ⟨b', off', hC, hbl', hx0⟩ := (hx.below hbw (Nat.le_refl _)) s hsn
            obtain ⟨b'', off'', hC', hbl'', hx1⟩ := (hx.below hbw (Nat.le_refl _)) t htn
            obtain ⟨_, _, hC'', hbo', _⟩ := hx s hsn
            rw [hC] at hC''
            simp only [Option.some.injEq, Addr.mk.injEq, and_true] at hC''
            obtain ⟨rfl, rfl⟩ := hC''
            subst hC
            simp only [Option.some.injEq, Addr.mk.injEq, and_true] at hC'
            obtain ⟨rfl, rfl⟩ := hC'
            have hc0 : wr.cell? ⟨b, off + k * 3, none⟩ = some (.int .i64 (s : Int)) := by have := hcell 0 (by omega); rw [hs] at this; exact this
            have hc1 : wr.cell? ⟨b, off + k * 3 + 1, none⟩ = some (.int .i64 (t : Int)) := by have := hcell 1 (by omega); rw [ht] at this; exact this
            have hc2 : wr.cell? ⟨b, off + k * 3 + 2, none⟩ = some (.int .i64 (g k 2)) := hcell 2 (by omega)
            clear hcell
            have hs0 : (0 : Int) ≤ (s : Int) := Int.natCast_nonneg _
            have ht0 : (0 : Int) ≤ (t : Int) := Int.natCast_nonneg _
            have hs1 : (s : Int) < (q : Int) := by omega
            have ht1 : (t : Int) < (q : Int) := by omega
            have HF := Lib.hid (show IntKind.i64.wrap (IntKind.i64.wrap (x t - x s) - g k 2) = sob g x k by rw [wrapI (x t - x s) (by omega) (by omega), wrapI _ (by omega) (by omega)]; unfold sob; rw [hs, ht]; rfl)
            clear hs ht p1 p2 p3 p4
            have ab := Ne.symm (owns_ne hown hbo)
            have ac := Ne.symm (owns_ne hown hbo')
            go_wp2_with fail
            go_region_held3 (fun w' => w'.cell? ⟨b, off + k * 3, none⟩ = some (.int .i64 (s : Int)) ∧ w'.cell? ⟨b, off + k * 3 + 1, none⟩ = some (.int .i64 (t : Int)) ∧ w'.cell? ⟨b, off + k * 3 + 2, none⟩ = some (.int .i64 (g k 2)) ∧ w'.cell? ⟨b', off' + s, none⟩ = some (.int .i64 (x s)) ∧ w'.cell? ⟨b', off' + t, none⟩ = some (.int .i64 (x t)))
              (first
                | go_keep
                | (go_split_ands
                   refine ⟨?_, ?_, ?_, ?_, ?_⟩
                   · (rw [hgrow.cell_far _ (by simp; omega) (Ne.symm ab)]; assumption)
                   · (rw [hgrow.cell_far _ (by simp; omega) (Ne.symm ab)]; assumption)
                   · (rw [hgrow.cell_far _ (by simp; omega) (Ne.symm ab)]; assumption)
                   · (rw [hgrow.cell_far _ (by simp; omega) (Ne.symm ac)]; assumption)
                   · (rw [hgrow.cell_far _ (by simp; omega) (Ne.symm ac)]; assumption)))
              ((refine step_append_lies _ (by rfl) _ _ _ (by rfl) W.heap.size 2 i0 _ 1 8 Try.underlying24 hi0 hz0 hz1 hz2 rfl (by omega) _ k (numsOf (sob g x) k) (by rfl) ((hown.alloc _).drew)
                  ⟨wr.heap.size, 0, none⟩ 1 1 [.int .i64 (IntKind.i64.wrap (IntKind.i64.wrap (x t - x s) - g k 2))] (by rfl) (by rfl) (World.news_of_block (cs := #[.int .i64 (IntKind.i64.wrap (IntKind.i64.wrap (x t - x s) - g k 2))]) (t := 2) (fr := (0, 0)) (heap_alloc_new wr _)) (by simp [Value.oneCell'])
                  (by omega) (by simp [maxLen]; omega) (by omega) (by simp; omega) (wr.heap.size + 1) (by simp) ?_; intro gg cap w1 hown1 hgrow hat hlt'))
            go_wp2
            go_roundw
            case rel =>
              refine ⟨k + 1, by omega, by go_num, ?_, ?_⟩
              · exact below_grown (below_N (hbw.alloc hbw.size _) _) (Nat.le_refl _) hgrow (fun b hb => owns_base hown b hb)
              · rw [← numsOf_succ, ← HF.out]; exact hown1
            case measure => simp [intOf]; omega
          · obtain rfl : k = m := by omega
            obtain ⟨R, cc, rfl, hsi⟩ := SI.of_owns hown
            go_wp2
            go_ret2
            exact retIE_row hbw rfl hsi HL0.out HC0.out
      · have HV := Lib.hid (bo_false hv)
        have HC := Lib.hid (code3_2 HTP.out (show ¬ (q = n ∧ AllInP q x 0 1000000) from fun h => hv ⟨by omega, h.2⟩))
        have HL := Lib.hid (len3_2 (P := TaskP n f m g) (show ¬ (q = n ∧ AllInP q x 0 1000000) from fun h => hv ⟨by omega, h.2⟩) m)
        clear hv
        go_enter Try.func13, Try.ntmps13
        go_wp2_with fail
        refine (specIsTask_any A B n m c d f g _ hn hm hf hg).mono ?_
        rw [HT.out]
        rintro e' w1 ⟨rfl, hb1⟩
        go_wp2_with fail
        refine (l01Within_any C q e x 10 0 1000000 _ (by omega) (hx.below hb1 (Nat.le_refl _))).mono ?_
        rw [HV.out]
        rintro e' w2 ⟨rfl, rfl⟩
        go_wp2
        go_ret2
        exact retIE_nil hb1 HL.out HC.out
    · have HC := Lib.hid (code3_2 HTP.out (show ¬ (q = n ∧ AllInP q x 0 1000000) from fun h => hqn h.1))
      have HL := Lib.hid (len3_2 (P := TaskP n f m g) (show ¬ (q = n ∧ AllInP q x 0 1000000) from fun h => hqn h.1) m)
      have hne : ((q : Int) != (n : Int)) = true := by simp; omega
      clear hqn
      go_enter Try.func13, Try.ntmps13
      go_wp2_with fail
      refine (specIsTask_any A B n m c d f g _ hn hm hf hg).mono ?_
      rw [HT.out]
      rintro e' w1 ⟨rfl, hb1⟩
      go_wp2
      go_ret2
      exact retIE_nil hb1 HL.out HC.out
  · have HT := Lib.hid (taskB_false ht)
    have HC := Lib.hid (code3_1 (Q := q = n ∧ AllInP q x 0 1000000) ht)
    have HL := Lib.hid (len3_1 (Q := q = n ∧ AllInP q x 0 1000000) ht m)
    clear ht
    go_enter Try.func13, Try.ntmps13
    go_wp2_with fail
    refine (specIsTask_any A B n m c d f g _ hn hm hf hg).mono ?_
    rw [HT.out]
    rintro e' w1 ⟨rfl, hb1⟩
    go_wp2
    go_ret2
    exact retIE_nil hb1 HL.out HC.out

set_option maxRecDepth 100000 in
set_option maxHeartbeats 2000000 in
theorem implSlackOfBonds_any (A : Option Addr) (n c : Nat) (f : Nat → Nat → Int) (B : Option Addr) (m d : Nat) (g : Nat → Nat → Int) (C : Option Addr) (q e : Nat) (x : Nat → Int) (W : World) (hn : n ≤ 1048576) (hm : m ≤ 1048576) (_hq : q ≤ 1048576) (hf : RR W 2 A n f) (hg : RR W 3 B m g) (hx : RI W C q x) :
    Calls Try.prog 17 #[.slice A n c, .slice B m d, .slice C q e] W (RetIE W (len3 (TaskP n f m g) (q = n ∧ AllInP q x 0 1000000) m) (sob g x) (code3 (TaskP n f m g) (q = n ∧ AllInP q x 0 1000000))) := by
  by_cases ht : TaskP n f m g
  · have HT := Lib.hid (taskB_true ht)
    have HTP := Lib.hid ht
    have hn1 := ht.1
    have hn2 := ht.2.1
    have hm1 := ht.2.2.1
    have HB := Lib.hid ht.2.2.2.2
    clear ht
    by_cases hqn : q = n
    · have HQ := Lib.hid hqn
      have hne : ((q : Int) != (n : Int)) = false := by simp [hqn]
      have hqn1 : q ≤ n := by omega
      have hqn2 : n ≤ q := by omega
      clear hqn
      by_cases hv : AllInP q x 0 1000000
      · have HV := Lib.hid (bo_true hv)
        have HR : RowKit.Hid (∀ i, i < n → 0 ≤ x i ∧ x i ≤ 1000000) := Lib.hid (fun i hi => hv i (by omega))
        have HC0 := Lib.hid (code3_0 HTP.out (show q = n ∧ AllInP q x 0 1000000 from ⟨HQ.out, hv⟩))
        have HL0 := Lib.hid (len3_0 HTP.out (show q = n ∧ AllInP q x 0 1000000 from ⟨HQ.out, hv⟩) m)
        clear hv
        obtain ⟨i0, hi0, hz0, hz1, hz2⟩ := info_parts infoInt64
        have hmk := fun w => run_make_row (P := Try.prog) 24 2 i0 (.int .i64 0) Try.underlying24 hi0 hz0 hz1 rfl .i64 .i64 m (by rw [hz2]; omega) (by omega) w
        go_enter Try.func17, Try.ntmps17
        go_wp2_with fail
        refine (implIsTask_any A B n m c d f g _ hn hm hf hg).mono ?_
        rw [HT.out]
        rintro e' w1 ⟨rfl, hb1⟩
        go_wp2_with fail
        refine (allWithin_any C q e x 0 1000000 _ (by omega) (hx.below hb1 (Nat.le_refl _))).mono ?_
        rw [HV.out]
        rintro e' w2 ⟨rfl, rfl⟩
        go_wp2
        have hrow0 : (w1.alloc (Obj.cells (madeCells #[Value.int .i64 0] m) 2)).rowIs w1.heap.size 2 m (fun q => .int .i64 (if q < 0 then sob g x q else 0)) := World.rowIs_made _ _ _ _
        have s1 := hb1.size
        go_loopw [30, 9, 10] (fun i _ _ wr => ∃ k : Nat, k ≤ m ∧ i = .int .i64 k ∧ Below W.heap.size W wr ∧ wr.rowIs w1.heap.size 2 m (fun q => .int .i64 (if q < k then sob g x q else 0))) (fun i _ _ _ => m - (intOf i).toNat)
        case atStart => exact ⟨0, Nat.zero_le _, rfl, hb1.alloc hb1.size _, hrow0⟩
        case round =>
          clear hmk hrow0 hb1
          obtain ⟨k, hk, rfl, hbw, hown⟩ := hrel
          have hsz := hbw.size
          by_cases hlt : k < m
          · obtain ⟨b, off, hA, hbl, hcell⟩ := (hg.below hbw (Nat.le_refl _)) k hlt
            obtain ⟨_, _, hA', hbo, _⟩ := hg k hlt
            rw [hA] at hA'
            simp only [Option.some.injEq, Addr.mk.injEq, and_true] at hA'
            obtain ⟨rfl, rfl⟩ := hA'
            subst hA
            have hbj := HB.out k hlt
            unfold BondOk at hbj
            obtain ⟨p1, p2, p3, p4, p5, p6⟩ := hbj
            obtain ⟨s, hs⟩ := Int.eq_ofNat_of_zero_le p1
            obtain ⟨t, ht⟩ := Int.eq_ofNat_of_zero_le p3
            have hsn : s < q := by omega
            have htn : t < q := by omega
            have hxs := HR.out s (by omega)
            have hxt := HR.out t (by omega)
            obtain ⟨b', off', hC, hbl', hx0⟩ := (hx.below hbw (Nat.le_refl _)) s hsn
            obtain ⟨b'', off'', hC', hbl'', hx1⟩ := (hx.below hbw (Nat.le_refl _)) t htn
            obtain ⟨_, _, hC'', hbo', _⟩ := hx s hsn
            rw [hC] at hC''
            simp only [Option.some.injEq, Addr.mk.injEq, and_true] at hC''
            obtain ⟨rfl, rfl⟩ := hC''
            subst hC
            simp only [Option.some.injEq, Addr.mk.injEq, and_true] at hC'
            obtain ⟨rfl, rfl⟩ := hC'
            have hc0 : wr.cell? ⟨b, off + k * 3, none⟩ = some (.int .i64 (s : Int)) := by have := hcell 0 (by omega); rw [hs] at this; exact this
            have hc1 : wr.cell? ⟨b, off + k * 3 + 1, none⟩ = some (.int .i64 (t : Int)) := by have := hcell 1 (by omega); rw [ht] at this; exact this
            have hc2 : wr.cell? ⟨b, off + k * 3 + 2, none⟩ = some (.int .i64 (g k 2)) := hcell 2 (by omega)
            clear hcell
            have hs0 : (0 : Int) ≤ (s : Int) := Int.natCast_nonneg _
            have ht0 : (0 : Int) ≤ (t : Int) := Int.natCast_nonneg _
            have hs1 : (s : Int) < (q : Int) := by omega
            have ht1 : (t : Int) < (q : Int) := by omega
            have HF := Lib.hid (show sob g x k = x t - x s - g k 2 by unfold sob; rw [hs, ht]; rfl)
            clear hs ht p1 p2 p3 p4
            have hbV : Below wr.heap.size wr (wr.alloc (Obj.cells #[Value.int .i64 (s : Int), Value.int .i64 (t : Int), Value.int .i64 (g k 2)] 77)) := (Below.refl _ _).alloc (Nat.le_refl _) _
            have hBV : Below W.heap.size W (wr.alloc (Obj.cells #[Value.int .i64 (s : Int), Value.int .i64 (t : Int), Value.int .i64 (g k 2)] 77)) := hbw.alloc hbw.size _
            have nb0 : (wr.alloc (Obj.cells #[Value.int .i64 (s : Int), Value.int .i64 (t : Int), Value.int .i64 (g k 2)] 77)).cell? ⟨wr.heap.size, 0, none⟩ = some (Value.int .i64 (s : Int)) := c1a _ _ _ 0
            have nb1 : (wr.alloc (Obj.cells #[Value.int .i64 (s : Int), Value.int .i64 (t : Int), Value.int .i64 (g k 2)] 77)).cell? ⟨wr.heap.size, 1, none⟩ = some (Value.int .i64 (t : Int)) := c1a _ _ _ 1
            have nb2 : (wr.alloc (Obj.cells #[Value.int .i64 (s : Int), Value.int .i64 (t : Int), Value.int .i64 (g k 2)] 77)).cell? ⟨wr.heap.size, 2, none⟩ = some (Value.int .i64 (g k 2)) := c1a _ _ _ 2
            have hx0V := (hbV.cell (p := ⟨b', off' + s, none⟩) hbl').trans hx0
            have hx1V := (hbV.cell (p := ⟨b', off' + t, none⟩) hbl').trans hx1
            have hrowV := hown.alloc (Obj.cells #[Value.int .i64 (s : Int), Value.int .i64 (t : Int), Value.int .i64 (g k 2)] 77)
            have hg0 := hrowV.cell (i := k) (by omega)
            have hz0' := hrowV.frozen k
            have hgl := hrowV.lt
            have HOWN := Lib.hid hrowV; clear hrowV hown
            clear hbV
            go_wp2_with fail
            generalize hV : wr.alloc (Obj.cells #[Value.int .i64 (s : Int), Value.int .i64 (t : Int), Value.int .i64 (g k 2)] 77) = V at *
            go_still_tail 17, (by kernel_rfl)
            go_wp2
            go_roundw
            case rel =>
              refine ⟨k + 1, by omega, by go_num, ?_, ?_⟩
              · exact (below_N hBV _).setCell (by omega) _
              · have := fillI (f := sob g x) HOWN.out
                rw [HF.out] at this; exact this
            case measure => simp [intOf]; omega
          · obtain rfl : k = m := by omega
            go_wp2
            go_ret2
            exact retIE_row hbw rfl (SI.of_row (hown.congr (fun q hq => by rw [if_pos hq])) (by omega) hown.lt) HL0.out HC0.out
      · have HV := Lib.hid (bo_false hv)
        have HC := Lib.hid (code3_2 HTP.out (show ¬ (q = n ∧ AllInP q x 0 1000000) from fun h => hv h.2))
        have HL := Lib.hid (len3_2 (P := TaskP n f m g) (show ¬ (q = n ∧ AllInP q x 0 1000000) from fun h => hv h.2) m)
        clear hv
        go_enter Try.func17, Try.ntmps17
        go_wp2_with fail
        refine (implIsTask_any A B n m c d f g _ hn hm hf hg).mono ?_
        rw [HT.out]
        rintro e' w1 ⟨rfl, hb1⟩
        go_wp2_with fail
        refine (allWithin_any C q e x 0 1000000 _ (by omega) (hx.below hb1 (Nat.le_refl _))).mono ?_
        rw [HV.out]
        rintro e' w2 ⟨rfl, rfl⟩
        go_wp2
        go_ret2
        exact retIE_nil hb1 HL.out HC.out
    · have HC := Lib.hid (code3_2 HTP.out (show ¬ (q = n ∧ AllInP q x 0 1000000) from fun h => hqn h.1))
      have HL := Lib.hid (len3_2 (P := TaskP n f m g) (show ¬ (q = n ∧ AllInP q x 0 1000000) from fun h => hqn h.1) m)
      have hne : ((q : Int) != (n : Int)) = true := by simp; omega
      clear hqn
      go_enter Try.func17, Try.ntmps17
      go_wp2_with fail
      refine (implIsTask_any A B n m c d f g _ hn hm hf hg).mono ?_
      rw [HT.out]
      rintro e' w1 ⟨rfl, hb1⟩
      go_wp2
      go_ret2
      exact retIE_nil hb1 HL.out HC.out
  · have HT := Lib.hid (taskB_false ht)
    have HC := Lib.hid (code3_1 (Q := q = n ∧ AllInP q x 0 1000000) ht)
    have HL := Lib.hid (len3_1 (Q := q = n ∧ AllInP q x 0 1000000) ht m)
    clear ht
    go_enter Try.func17, Try.ntmps17
    go_wp2_with fail
    refine (implIsTask_any A B n m c d f g _ hn hm hf hg).mono ?_
    rw [HT.out]
    rintro e' w1 ⟨rfl, hb1⟩
    go_wp2
    go_ret2
    exact retIE_nil hb1 HL.out HC.out

end Go.Proofs.Ytfhpahnflnahkaa
