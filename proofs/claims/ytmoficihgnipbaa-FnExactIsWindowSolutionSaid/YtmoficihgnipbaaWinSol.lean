/- Solutions of a task: the reference's check and the program's. -/
import Derived.Test.YtmoficihgnipbaaSpecTask
import Derived.Test.YtmoficihgnipbaaImplTask
import Derived.Test.YtmoficihgnipbaaRange
namespace Go.Proofs.Ytmoficihgnipbaa
open Go.RowKit

def SolP (n : Nat) (f : Nat → Nat → Int) (m : Nat) (g : Nat → Nat → Int) (q : Nat) (x : Nat → Int) : Prop :=
  TaskP n f m g ∧ q = n ∧ (∀ i, i < n → InP (x i) (f i 0) (f i 1)) ∧ (∀ i, i < m → x (g i 0).toNat + g i 2 ≤ x (g i 1).toNat)

set_option maxRecDepth 100000 in
set_option maxHeartbeats 2000000 in
theorem specIsWindowSolution_any (A : Option Addr) (n c : Nat) (f : Nat → Nat → Int) (B : Option Addr) (m d : Nat) (g : Nat → Nat → Int) (C : Option Addr) (q e : Nat) (x : Nat → Int) (W : World) (hn : n ≤ 1048576) (hm : m ≤ 1048576) (_hq : q ≤ 1048576) (hf : RR W 2 A n f) (hg : RR W 3 B m g) (hx : RI W C q x) :
    Calls Try.prog 36 #[.slice A n c, .slice B m d, .slice C q e] W fun e' w' => e' = .returned (.bool (bo (SolP n f m g q x))) ∧ Below W.heap.size W w' := by
  by_cases ht : TaskP n f m g
  · have HT := Lib.hid (taskB_true ht)
    have HTP := Lib.hid ht
    have hn1 := ht.1
    have hn2 := ht.2.1
    have hm1 := ht.2.2.1
    have HW := Lib.hid ht.2.2.2.1
    have HB := Lib.hid ht.2.2.2.2
    clear ht
    by_cases hqn : q = n
    · have HQ := Lib.hid hqn
      have hne : ((q : Int) != (n : Int)) = false := by simp [hqn]
      have hqn1 : q ≤ n := by omega
      have hqn2 : n ≤ q := by omega
      clear hqn
      go_enter Try.func36, Try.ntmps36
      go_wp2_with fail
      refine (specIsTask_any A B n m c d f g _ hn hm hf hg).mono ?_
      rw [HT.out]
      rintro e' w1 ⟨rfl, hb1⟩
      go_wp2
      go_loopw [7] (fun i wr => ∃ k : Nat, k ≤ q ∧ i = .int .i64 k ∧ Below W.heap.size W wr ∧ (∀ i, i < k → InP (x i) (f i 0) (f i 1))) (fun i _ => q - (intOf i).toNat)
      case atStart => exact ⟨0, Nat.zero_le _, rfl, hb1, fun i hi => absurd hi (Nat.not_lt_zero _)⟩
      case round =>
        obtain ⟨k, hk, rfl, hbw, hok⟩ := hrel
        have HOK := Lib.hid hok; clear hok
        by_cases hlt : k < q
        · obtain ⟨b, off, hA, hbl, hcell⟩ := (hf.below hbw (Nat.le_refl _)) k (by omega)
          obtain ⟨b', off', hC, hbl', hx0⟩ := (hx.below hbw (Nat.le_refl _)) k hlt
          subst hA; subst hC
          have hc0 : wr.cell? ⟨b, off + k * 2, none⟩ = some (.int .i64 (f k 0)) := hcell 0 (by omega)
          have hc1 : wr.cell? ⟨b, off + k * 2 + 1, none⟩ = some (.int .i64 (f k 1)) := hcell 1 (by omega)
          clear hcell
          by_cases hv : InP (x k) (f k 0) (f k 1)
          · have HV := Lib.hid (bo_true hv)
            have HP := Lib.hid hv; clear hv
            have hkn : k < n := by omega
            go_wp2_with fail
            go_quiet ((go_at_call 46; exact quietS (l01In_b _ _ _ _ HV.out)))
            go_wp2
            go_roundw
            case rel => exact ⟨k + 1, by omega, by go_num, below_N hbw _, fun i hi => by by_cases e : i = k; exact e ▸ HP.out; exact HOK.out i (by omega)⟩
            case measure => simp [intOf]; omega
          · have HNO := Lib.hid (bo_false (show ¬ SolP n f m g q x from fun h => hv (h.2.2.1 k (by omega))))
            have HV := Lib.hid (bo_false hv); clear hv
            have hkn : k < n := by omega
            go_wp2_with fail
            go_quiet ((go_at_call 46; exact quietS (l01In_b _ _ _ _ HV.out)))
            go_wp2
            go_ret
            exact ⟨ret_bool HNO.out.symm, below_N hbw _⟩
        · have hkq : q ≤ k := by omega
          have HALL := Lib.hid (show ∀ i, i < n → InP (x i) (f i 0) (f i 1) from fun i hi => HOK.out i (by omega))
          have HR := Lib.hid (show ∀ i, i < n → -1 < x i ∧ x i ≤ 1000000 from fun i hi => by
            have h1 := HALL.out i hi
            have h2 := HW.out i hi
            unfold InP at h1; unfold WinOk at h2; omega)
          clear hb1
          go_wp2
          go_loopw [8] (fun i wr => ∃ k : Nat, k ≤ m ∧ i = .int .i64 k ∧ Below W.heap.size W wr ∧ (∀ i, i < k → x (g i 0).toNat + g i 2 ≤ x (g i 1).toNat)) (fun i _ => m - (intOf i).toNat)
          case atStart => exact ⟨0, Nat.zero_le _, rfl, hbw, fun i hi => absurd hi (Nat.not_lt_zero _)⟩
          case round =>
            clear hbw hk hkq hlt
            obtain ⟨j, hj, rfl, hbw, hok⟩ := hrel
            have HOK2 := Lib.hid hok; clear hok
            by_cases hlt : j < m
            · obtain ⟨b, off, hA, hbl, hcell⟩ := (hg.below hbw (Nat.le_refl _)) j hlt
              subst hA
              have hbj := HB.out j hlt
              unfold BondOk at hbj
              obtain ⟨p1, p2, p3, p4, p5, p6⟩ := hbj
              obtain ⟨s, hs⟩ := Int.eq_ofNat_of_zero_le p1
              obtain ⟨t, ht⟩ := Int.eq_ofNat_of_zero_le p3
              have hsn : s < q := by omega
              have htn : t < q := by omega
              have hxs := HR.out s (by omega)
              have hxt := HR.out t (by omega)
              obtain ⟨b', off', hC, hbl', hx0⟩ := (hx.below hbw (Nat.le_refl _)) s hsn
              obtain ⟨b'', off'', hC', hbl'', hx1⟩ := (hx.below hbw (Nat.le_refl _)) t htn
              subst hC
              simp only [Option.some.injEq, Addr.mk.injEq, and_true] at hC'
              obtain ⟨rfl, rfl⟩ := hC'
              have hc0 : wr.cell? ⟨b, off + j * 3, none⟩ = some (.int .i64 (s : Int)) := by have := hcell 0 (by omega); rw [hs] at this; exact this
              have hc1 : wr.cell? ⟨b, off + j * 3 + 1, none⟩ = some (.int .i64 (t : Int)) := by have := hcell 1 (by omega); rw [ht] at this; exact this
              have hc2 : wr.cell? ⟨b, off + j * 3 + 2, none⟩ = some (.int .i64 (g j 2)) := hcell 2 (by omega)
              clear hcell
              have hs0 : (0 : Int) ≤ (s : Int) := Int.natCast_nonneg _
              have ht0 : (0 : Int) ≤ (t : Int) := Int.natCast_nonneg _
              have hs1 : (s : Int) < (q : Int) := by omega
              have ht1 : (t : Int) < (q : Int) := by omega
              have HS := Lib.hid (show (g j 0).toNat = s by omega)
              have HT2 := Lib.hid (show (g j 1).toNat = t by omega)
              clear hs ht p1 p2 p3 p4
              by_cases hv : x s + g j 2 ≤ x t
              · have hd : decide (x t - x s < g j 2) = false := decide_eq_false (by omega)
                go_wp2_with fail
                go_quiet (fail)
                go_wp2
                go_roundw
                case rel => exact ⟨j + 1, by omega, by go_num, below_N hbw _, fun i hi => by by_cases e : i = j; (subst e; rw [HS.out, HT2.out]; exact hv); exact HOK2.out i (by omega)⟩
                case measure => simp [intOf]; omega
              · have HNO := Lib.hid (bo_false (show ¬ SolP n f m g q x from fun h => hv (by have := h.2.2.2 j hlt; rw [HS.out, HT2.out] at this; exact this)))
                have hd : decide (x t - x s < g j 2) = true := decide_eq_true (by omega)
                go_wp2_with fail
                go_quiet (fail)
                go_wp2
                go_ret
                exact ⟨ret_bool HNO.out.symm, below_N hbw _⟩
            · have HY := Lib.hid (bo_true (show SolP n f m g q x from ⟨HTP.out, HQ.out, HALL.out, fun i hi => HOK2.out i (by omega)⟩))
              go_wp2
              go_ret
              exact ⟨ret_bool HY.out.symm, hbw⟩
    · have HNO := Lib.hid (bo_false (show ¬ SolP n f m g q x from fun h => hqn h.2.1))
      have hne : ((q : Int) != (n : Int)) = true := by simp; omega
      clear hqn
      go_enter Try.func36, Try.ntmps36
      go_wp2_with fail
      refine (specIsTask_any A B n m c d f g _ hn hm hf hg).mono ?_
      rw [HT.out]
      rintro e' w1 ⟨rfl, hb1⟩
      go_wp2
      go_ret
      exact ⟨ret_bool HNO.out.symm, hb1⟩
  · have HT := Lib.hid (taskB_false ht)
    have HNO := Lib.hid (bo_false (show ¬ SolP n f m g q x from fun h => ht h.1))
    clear ht
    go_enter Try.func36, Try.ntmps36
    go_wp2_with fail
    refine (specIsTask_any A B n m c d f g _ hn hm hf hg).mono ?_
    rw [HT.out]
    rintro e' w1 ⟨rfl, hb1⟩
    go_wp2
    go_ret
    exact ⟨ret_bool HNO.out.symm, hb1⟩
/-- a bond that x does not meet -/
def MissP (x : Nat → Int) (a b c : Int) : Prop := ¬ (x a.toNat + c ≤ x b.toNat)

set_option maxRecDepth 100000 in
set_option maxHeartbeats 1000000 in
theorem winSol1_any (C : Option Addr) (q e n : Nat) (x : Nat → Int) (a b c : Int) (B : Nat) (W : World) (h : BondOk n a b c) (hqn : n ≤ q) (hr : ∀ i, i < n → -1 < x i ∧ x i ≤ 1000000) (hB : W.cell? ⟨B, 0, none⟩ = some (.slice C q e)) (hx : RI W C q x) :
    Calls Try.prog 73 #[.agg #[.int .i64 a, .int .i64 b, .int .i64 c], .pointer (some ⟨B, 0, none⟩)] W fun e' w' => e' = .returned (.bool (bo (MissP x a b c))) ∧ Below W.heap.size W w' := by
  have hBl := World.block_lt_of_cell? W _ hB
  unfold BondOk at h
  obtain ⟨p1, p2, p3, p4, p5, p6⟩ := h
  obtain ⟨s, rfl⟩ := Int.eq_ofNat_of_zero_le p1
  obtain ⟨t, rfl⟩ := Int.eq_ofNat_of_zero_le p3
  have hxs := hr s (by omega)
  have hxt := hr t (by omega)
  clear hr
  obtain ⟨b', off', hC, hbl', hx0⟩ := hx s (by omega)
  obtain ⟨b'', off'', hC', hbl'', hx1⟩ := hx t (by omega)
  subst hC
  simp only [Option.some.injEq, Addr.mk.injEq, and_true] at hC'
  obtain ⟨rfl, rfl⟩ := hC'
  have hs1 : (s : Int) < (q : Int) := by omega
  have ht1 : (t : Int) < (q : Int) := by omega
  by_cases hv : x s + c ≤ x t
  · have HE := Lib.hid (bo_false (show ¬ MissP x (s : Int) (t : Int) c from fun h => h (by simpa using hv)))
    have hd : decide (x t < x s + c) = false := decide_eq_false (by omega)
    clear hv
    go_enter Try.func73, Try.ntmps73
    go_wp2_with fail
    go_quiet (fail)
    go_wp2
    go_ret
    exact ⟨ret_bool HE.out.symm, below_N ((Below.refl _ _).alloc (Nat.le_refl _) _) _⟩
  · have HE := Lib.hid (bo_true (show MissP x (s : Int) (t : Int) c from fun h => hv (by simpa using h)))
    have hd : decide (x t < x s + c) = true := decide_eq_true (by omega)
    clear hv
    go_enter Try.func73, Try.ntmps73
    go_wp2_with fail
    go_quiet (fail)
    go_wp2
    go_ret
    exact ⟨ret_bool HE.out.symm, below_N ((Below.refl _ _).alloc (Nat.le_refl _) _) _⟩

theorem winSol1_enters : ∀ (args : Array Value) (w : World), (callFunc 73 args).run Try.prog w = .ok (.enter 73 args) w := enters_by Try.func73 (by kernel_rfl) rfl

set_option maxRecDepth 100000 in
set_option maxHeartbeats 2000000 in
theorem implIsWindowSolution_any (A : Option Addr) (n c : Nat) (f : Nat → Nat → Int) (B : Option Addr) (m d : Nat) (g : Nat → Nat → Int) (C : Option Addr) (q e : Nat) (x : Nat → Int) (W : World) (hn : n ≤ 1048576) (hm : m ≤ 1048576) (_hq : q ≤ 1048576) (hf : RR W 2 A n f) (hg : RR W 3 B m g) (hx : RI W C q x) :
    Calls Try.prog 38 #[.slice A n c, .slice B m d, .slice C q e] W fun e' w' => e' = .returned (.bool (bo (SolP n f m g q x))) ∧ Below W.heap.size W w' := by
  have hb0 : Below W.heap.size W (W.alloc (Obj.cells #[Value.slice C q e] 35)) := (Below.refl _ _).alloc (Nat.le_refl _) _
  have hz0 : (W.alloc (Obj.cells #[Value.slice C q e] 35)).heap.size = W.heap.size + 1 := by simp
  have hf0 := hf.below hb0 (Nat.le_refl _)
  have hg0 := hg.below hb0 (Nat.le_refl _)
  by_cases ht : TaskP n f m g
  · have HT := Lib.hid (taskB_true ht)
    have HTP := Lib.hid ht
    have hn1 := ht.1
    have hn2 := ht.2.1
    have hm1 := ht.2.2.1
    have HW := Lib.hid ht.2.2.2.1
    have HB := Lib.hid ht.2.2.2.2
    clear ht
    by_cases hqn : q = n
    · have HQ := Lib.hid hqn
      have hne : ((q : Int) != (n : Int)) = false := by simp [hqn]
      have hqn1 : q ≤ n := by omega
      have hqn2 : n ≤ q := by omega
      clear hqn
      go_enter Try.func38, Try.ntmps38
      go_wp2_with fail
      refine (implIsTask_any A B n m c d f g _ hn hm hf0 hg0).mono ?_
      rw [HT.out]
      rintro e' w1 ⟨rfl, hb1⟩
      have hb1' : Below (W.heap.size + 1) (W.alloc (Obj.cells #[Value.slice C q e] 35)) w1 := hz0 ▸ hb1
      have hk1 : w1.cell? ⟨W.heap.size, 0, none⟩ = some (.slice C q e) := (hb1.cell (p := ⟨W.heap.size, 0, none⟩) (by simp)).trans (c1a _ _ _ 0)
      go_wp2
      go_loopw [22, 7, 8] (fun i _ _ wr => ∃ k : Nat, k ≤ n ∧ i = .int .i64 k ∧ Below (W.heap.size + 1) (W.alloc (Obj.cells #[Value.slice C q e] 35)) wr ∧ (∀ i, i < k → InP (x i) (f i 0) (f i 1))) (fun i _ _ _ => n - (intOf i).toNat)
      case atStart => exact ⟨0, Nat.zero_le _, rfl, hb1', fun i hi => absurd hi (Nat.not_lt_zero _)⟩
      case round =>
        clear hb1 hb1' hk1
        obtain ⟨k, hk, rfl, hbw, hok⟩ := hrel
        have HOK := Lib.hid hok; clear hok
        have hsz := hbw.size
        rw [hz0] at hsz
        have hbW : Below W.heap.size W wr := hb0.trans (hbw.mono (by omega))
        have hkw : wr.cell? ⟨W.heap.size, 0, none⟩ = some (.slice C q e) := (hbw.cell (p := ⟨W.heap.size, 0, none⟩) (by simp)).trans (c1a _ _ _ 0)
        by_cases hlt : k < n
        · obtain ⟨b, off, hA, hbl, hcell⟩ := (hf.below hbW (Nat.le_refl _)) k hlt
          obtain ⟨b', off', hC, hbl', hx0⟩ := (hx.below hbW (Nat.le_refl _)) k (by omega)
          subst hA; subst hC
          have hc0 : wr.cell? ⟨b, off + k * 2, none⟩ = some (.int .i64 (f k 0)) := hcell 0 (by omega)
          have hc1 : wr.cell? ⟨b, off + k * 2 + 1, none⟩ = some (.int .i64 (f k 1)) := hcell 1 (by omega)
          have hWl : W.heap.size < wr.heap.size := by omega
          clear hcell hb0 hz0 hf0 hg0
          have hkq : k < q := by omega
          by_cases hv : InP (x k) (f k 0) (f k 1)
          · have HV := Lib.hid (bo_true hv)
            have HP := Lib.hid hv; clear hv
            go_wp2_with fail
            go_quiet ((go_at_call 50; exact quietS (within_b _ _ _ _ HV.out)))
            go_wp2
            go_roundw
            case rel => exact ⟨k + 1, by omega, by go_num, below_N (hbw.alloc (by omega) _) _, fun i hi => by by_cases e : i = k; exact e ▸ HP.out; exact HOK.out i (by omega)⟩
            case measure => simp [intOf]; omega
          · have HNO := Lib.hid (bo_false (show ¬ SolP n f m g q x from fun h => hv (h.2.2.1 k hlt)))
            have HV := Lib.hid (bo_false hv); clear hv
            go_wp2_with fail
            go_quiet ((go_at_call 50; exact quietS (within_b _ _ _ _ HV.out)))
            go_wp2
            go_ret
            exact ⟨ret_bool HNO.out.symm, below_N (hbW.alloc (by omega) _) _⟩
        · have hkn : n ≤ k := by omega
          have HALL := Lib.hid (show ∀ i, i < n → InP (x i) (f i 0) (f i 1) from fun i hi => HOK.out i (by omega))
          have HR := Lib.hid (show ∀ i, i < n → -1 < x i ∧ x i ≤ 1000000 from fun i hi => by
            have h1 := HALL.out i hi
            have h2 := HW.out i hi
            unfold InP at h1; unfold WinOk at h2; omega)
          go_wp2_with fail
          refine (containsBond_any B m d g 73 _ (fun i => bo (MissP x (g i 0) (g i 1) (g i 2))) _ (by omega) (hg.below hbW (Nat.le_refl _)) winSol1_enters ?_).mono ?_
          · intro i hi w hb
            refine winSol1_any C q e n x (g i 0) (g i 1) (g i 2) W.heap.size w (HB.out i hi) hqn2 HR.out ?_ ((hx.below hbW (Nat.le_refl _)).below hb (Nat.le_refl _))
            exact (hb.cell (p := ⟨W.heap.size, 0, none⟩) (by simp; omega)).trans hkw
          · rintro e' w2 ⟨rfl, hb2⟩
            have hB2 : Below W.heap.size W w2 := hbW.trans (hb2.mono (by omega))
            cases hany : anyB (fun i => bo (MissP x (g i 0) (g i 1) (g i 2))) m with
            | true =>
              obtain ⟨i, hi, hbad⟩ := anyB_is_true hany
              have HE := Lib.hid (bo_false (show ¬ SolP n f m g q x from fun h => of_bo hbad (h.2.2.2 i hi)))
              clear hany hbad
              go_wp2
              go_ret
              exact ⟨ret_bool HE.out.symm, hB2⟩
            | false =>
              have HE := Lib.hid (bo_true (show SolP n f m g q x from ⟨HTP.out, HQ.out, HALL.out, fun i hi => Classical.byContradiction fun h => not_of_bo (anyB_is_false hany i hi) h⟩))
              clear hany
              go_wp2
              go_ret
              exact ⟨ret_bool HE.out.symm, hB2⟩
    · have HNO := Lib.hid (bo_false (show ¬ SolP n f m g q x from fun h => hqn h.2.1))
      have hne : ((q : Int) != (n : Int)) = true := by simp; omega
      clear hqn
      go_enter Try.func38, Try.ntmps38
      go_wp2_with fail
      refine (implIsTask_any A B n m c d f g _ hn hm hf0 hg0).mono ?_
      rw [HT.out]
      rintro e' w1 ⟨rfl, hb1⟩
      have hk1 : w1.cell? ⟨W.heap.size, 0, none⟩ = some (.slice C q e) := (hb1.cell (p := ⟨W.heap.size, 0, none⟩) (by simp)).trans (c1a _ _ _ 0)
      go_wp2
      go_ret
      exact ⟨ret_bool HNO.out.symm, hb0.trans (hb1.mono (by omega))⟩
  · have HT := Lib.hid (taskB_false ht)
    have HNO := Lib.hid (bo_false (show ¬ SolP n f m g q x from fun h => ht h.1))
    clear ht
    go_enter Try.func38, Try.ntmps38
    go_wp2_with fail
    refine (implIsTask_any A B n m c d f g _ hn hm hf0 hg0).mono ?_
    rw [HT.out]
    rintro e' w1 ⟨rfl, hb1⟩
    go_wp2
    go_ret
    exact ⟨ret_bool HNO.out.symm, hb0.trans (hb1.mono (by omega))⟩
end Go.Proofs.Ytmoficihgnipbaa
