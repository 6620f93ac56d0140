/- The law's model answers true. -/
import Derived.Test.YtebmlphobgaboaaSettledSmall
namespace Go.Proofs.Ytebmlphobgaboaa

theorem total_loop {F : Nat} {xs : List Int} : ∀ (n : Nat) (s i : Int), impl_total_L1 F xs n s i = spec_l16Sum_L1 F xs n s i
  | 0, _, _ => rfl
  | n + 1, s, i => by
    simp only [impl_total_L1, spec_l16Sum_L1]
    cases decide (i < (xs.length : Int)) with
    | false => rfl
    | true =>
      simp only [cond_true]
      cases idx xs i with
      | none => rfl
      | some q => simp only [Option.bind_some]; exact total_loop n _ _
theorem total_same {F : Nat} {xs : List Int} : impl_total F xs = spec_l16Sum F xs := by
  unfold impl_total spec_l16Sum
  rw [total_loop]
theorem lawSum_loop {F : Nat} {xs : List Int} : ∀ (n : Nat) (s i : Int), laws_sum_L1 F xs n s i = spec_l16Sum_L1 F xs n s i
  | 0, _, _ => rfl
  | n + 1, s, i => by
    simp only [laws_sum_L1, spec_l16Sum_L1]
    cases decide (i < (xs.length : Int)) with
    | false => rfl
    | true =>
      simp only [cond_true]
      cases idx xs i with
      | none => rfl
      | some q => simp only [Option.bind_some]; exact lawSum_loop n _ _
theorem lawSum_same {F : Nat} {xs : List Int} : laws_sum F xs = spec_l16Sum F xs := by
  unfold laws_sum spec_l16Sum
  rw [lawSum_loop]
theorem specFlat_is {F : Nat} {a : List (List Int)} (hF : 134217728 ≤ F) (hl : a.length ≤ 1000) (hr : ∀ r, r ∈ a → r.length ≤ 1000) : spec_l07Flat F a = some a.flatten := by
  unfold spec_l07Flat
  have H := for0 (L := spec_l07Flat_L1 F a) (len := a.length) (fun k s => s = (a.take k).flatten) (R := fun o => o = some a.flatten) (s := []) (n := F) ?_ ?_ rfl (by omega)
  · rw [H]; rfl
  · rintro n k s hk rfl
    have hx : a[k]? = some a[k] := List.getElem?_eq_getElem hk
    have h1 := flat_sz hr k (by omega)
    have h2 := hr _ (List.getElem_mem hk)
    have h3 : k * 1000 ≤ 1000 * 1000 := Nat.mul_le_mul_right _ (by omega)
    refine .inl ⟨_, ?_, rfl⟩
    simp only [spec_l07Flat_L1, bdT (show (k : Int) < (a.length : Int) by omega), idx_nat, hx, Option.bind_some, app_le (show (a.take k).flatten.length + a[k].length ≤ 67108864 by omega), wrN (show k ≤ 67108864 by omega), List.take_add_one, Option.toList_some, List.flatten_append, List.flatten_cons, List.flatten_nil, List.append_nil]
  · rintro n s rfl
    simp only [spec_l07Flat_L1, bdF (show ¬ (a.length : Int) < (a.length : Int) by omega), List.take_length]

theorem lsz_zero {T : List (List Int)} : ∀ m k, lsz T m ≤ k → k < m → zB (T.getD k []) = true
  | 0, _, _, h => by omega
  | m + 1, k, h1, h2 => by
    unfold lsz at h1
    split at h1
    · rename_i hz
      by_cases hk : k = m
      · rw [hk]; exact hz
      · exact lsz_zero m k h1 (by omega)
    · omega
theorem lsz_last {T : List (List Int)} : ∀ m k, lsz T m = k + 1 → zB (T.getD k []) = false
  | 0, _, h => by unfold lsz at h; omega
  | m + 1, k, h => by
    unfold lsz at h
    split at h
    · exact lsz_last m k h
    · rename_i hz
      obtain rfl : m = k := by omega
      simpa using hz
theorem settled_bad {F : Nat} {g : GEventGraph} {t : GTimetable} {ds : List Int} (hF : 134217728 ≤ F) (h0 : g.Places.length ≤ 1048576) (h1 : t.Starts.length ≤ 1048576) (h2 : ds.length ≤ 1048576) (hd : ¬ delayCode g t ds true = 0) :
    ∃ a b c : Int, c ≠ 0 ∧ spec_SettledAfter F g t ds = some (a, c) ∧ impl_SettledAfter F g t ds = some (a, c) ∧ spec_TotalDelay F g t ds = some (b, c) ∧ impl_TotalDelay F g t ds = some (b, c) := by
  unfold spec_SettledAfter impl_SettledAfter spec_TotalDelay impl_TotalDelay
  rw [bind_of (specDelayCode_is hF h0 h1 h2), bind_of (implDelayCode_is hF h0 h1 h2), bind_of (specDelayCode_is hF h0 h1 h2), bind_of (implDelayCode_is hF h0 h1 h2)]
  simp only [bT (neT hd)]
  exact ⟨_, _, _, hd, rfl, rfl, rfl, rfl⟩
theorem settled_val {F : Nat} {g : GEventGraph} {t : GTimetable} {ds : List Int} (hF : 134217728 ≤ F) (h0 : g.Places.length ≤ 1048576) (h1 : t.Starts.length ≤ 1048576) (h2 : ds.length ≤ 1048576) (hd : delayCode g t ds true = 0) :
    (∃ a b c : Int, c ≠ 0 ∧ spec_SettledAfter F g t ds = some (a, c) ∧ impl_SettledAfter F g t ds = some (a, c) ∧ spec_TotalDelay F g t ds = some (b, c) ∧ impl_TotalDelay F g t ds = some (b, c)) ∨
    (∃ T : List (List Int), T.length = 50 ∧ (∀ r, r ∈ T → r.length ≤ 10) ∧ (∀ r, r ∈ T → allIn r) ∧ spec_SettledAfter F g t ds = some ((lsz T 50 : Int), 0) ∧ impl_SettledAfter F g t ds = some ((lsz T 50 : Int), 0) ∧ spec_TotalDelay F g t ds = some (T.flatten.sum, 0) ∧ impl_TotalDelay F g t ds = some (T.flatten.sum, 0) ∧ impl_DelayTable F g t ds 50 = some (T, 0)) := by
  unfold spec_SettledAfter impl_SettledAfter spec_TotalDelay impl_TotalDelay
  rw [bind_of (specDelayCode_is hF h0 h1 h2), bind_of (implDelayCode_is hF h0 h1 h2), bind_of (specDelayCode_is hF h0 h1 h2), bind_of (implDelayCode_is hF h0 h1 h2)]
  obtain ⟨g1, g2, g3, _, g5, g6⟩ := delayCode_zero hd
  obtain ⟨o, ho⟩ := liveB_some g5
  obtain ⟨hds, hin⟩ := startsB_len g3
  have h10 := (GOk.of g1).n10
  have hl := dtab_len g t o ds 50
  have hrw := dtab_rows (g := g) (t := t) (o := o) hds 50
  have hai := dtab_in (o := o) g6 hin 50
  have s1 := specDTable_is (n := 50) hF g1 (tableB_len g2) ho hds (by omega)
  have s2 := implDTable_is (n := 50) hF g1 (tableB_len g2) ho hds (by omega)
  rw [show ((50 : Nat) : Int) = 50 from rfl] at s1 s2
  have s3 := specLast_is hF hl (fun r hr => by rw [hrw r hr]; exact h10) hai
  have s4 := implLast_is hF (fun r hr => by rw [hrw r hr]; exact h10) 50 F (by omega) (by omega) (by omega)
  generalize hT : dtab g t o ds 50 = T at hl hrw hai s1 s2 s3 s4
  have e1 : spec_l21Settled F g t ds = some (T, (lsz T 50 : Int), decide ((lsz T 50 : Int) ≤ 45)) := by
    unfold spec_l21Settled
    rw [bind_of s1, bind_of s3]
  have e2 : impl_settledTable F g t ds = some (bif decide ((45 : Int) < (lsz T 50 : Int)) then ([], 0, 4) else (T, (lsz T 50 : Int), 0)) := by
    unfold impl_settledTable
    rw [bind_of s2, hl, bind_of s4]
    cases decide ((45 : Int) < (lsz T 50 : Int)) <;> rfl
  rw [bF (neF hd), bF (neF hd), bF (neF hd), bF (neF hd), bind_of e1, bind_of e2, bind_of e1, bind_of e2]
  by_cases h : (lsz T 50 : Int) ≤ 45
  · refine .inr ⟨T, hl, fun r hr => by rw [hrw r hr]; exact h10, hai, ?_⟩
    have hr : ∀ r, r ∈ T → r.length ≤ 1000 := fun r hr => by have := hrw r hr; omega
    have hr10 : ∀ r, r ∈ T → r.length ≤ 10 := fun r hr => by have := hrw r hr; omega
    have c1 := specFlat_is (F := F) (a := T) hF (by omega) hr
    have c2 := concatS_is (F := F) (a := T) hF (by omega) hr
    have hfl : T.flatten.length ≤ 1000 := by
      have : ∀ (l : List (List Int)), (∀ r, r ∈ l → r.length ≤ 10) → l.flatten.length ≤ l.length * 10 := by
        intro l
        induction l with
        | nil => intro _; simp
        | cons r l ih =>
          intro hh
          have := ih fun q hq => hh q (by simp [hq])
          have := hh r (by simp)
          rw [List.flatten_cons, List.length_append, List.length_cons]; omega
      have := this T hr10
      omega
    have c3 := specSum_is (F := F) (xs := T.flatten) hF hfl (fun x hx => by
      obtain ⟨r, hr1, hr2⟩ := List.mem_flatten.1 hx
      exact allIn_mem (hai r hr1) x hr2)
    rw [dT h, dF (show ¬ (45 : Int) < (lsz T 50 : Int) by omega)]
    have hdt : impl_DelayTable F g t ds 50 = some (T, 0) := by
      unfold impl_DelayTable
      have hin50 : inB 50 0 50 = true := by decide
      simp only [within_is, Option.bind_some, hin50, implDelayCode_is hF h0 h1 h2, s2]
      rw [bF (neF hd)]
    refine ⟨rfl, rfl, ?_, ?_, hdt⟩
    · simp only [Bool.not_true, cond_false, c1, Option.bind_some, c3]
    · simp only [bne_self_eq_false, cond_false, c2, Option.bind_some, total_same, c3]
  · refine .inl ?_
    rw [dF h, dT (show (45 : Int) < (lsz T 50 : Int) by omega)]
    exact ⟨_, _, _, by decide, rfl, rfl, rfl, rfl⟩
theorem settled_loop {F : Nat} {T : List (List Int)} (hF : 134217728 ≤ F) (hl : T.length = 50) (hr : ∀ r, r ∈ T → r.length ≤ 10) (hai : ∀ r, r ∈ T → allIn r) : laws_FnSettled_L1 F ((lsz T 50 : Int), 0) (T, 0) F 0 0 = some (.inr T.flatten.sum) := by
  refine for0 (L := laws_FnSettled_L1 F ((lsz T 50 : Int), 0) (T, 0)) (len := T.length) (fun k s => s = ((T.take k).flatten).sum) (R := fun r => r = some (.inr T.flatten.sum)) ?_ ?_ (by simp) (by omega)
  · rintro n k s hk rfl
    have hrow := rowsD hk
    have hm := List.mem_of_getElem? hrow
    have hsum : laws_sum F (T.getD k []) = some (T.getD k []).sum := by
      rw [lawSum_same]
      exact specSum_is hF (by have := hr _ hm; omega) (allIn_mem (hai _ hm))
    obtain ⟨p1, p2, p3⟩ := sum_pos (allIn_mem (hai _ hm))
    obtain ⟨q1, q2, _⟩ := sum_pos (xs := (T.take k).flatten) (fun x hx => by
      obtain ⟨r, hr1, hr2⟩ := List.mem_flatten.1 hx
      exact allIn_mem (hai r (List.mem_of_mem_take hr1)) x hr2)
    have hfl := flat_sz (a := T) (fun r h => by have := hr r h; omega) k (by omega)
    have hrl := hr _ hm
    have hlz := lsz_le T 50
    refine .inl ⟨_, ?_, rfl⟩
    have e : ((T.take (k + 1)).flatten).sum = ((T.take k).flatten).sum + (T.getD k []).sum := by
      rw [List.take_add_one, hrow]
      simp only [Option.toList_some, List.flatten_append, List.flatten_cons, List.flatten_nil, List.append_nil, List.sum_append]
    have hw1 : IntKind.i64.wrap ((lsz T 50 : Int) - 1) = (lsz T 50 : Int) - 1 := wr (by omega) (by omega)
    simp only [laws_FnSettled_L1, bdT (show (k : Int) < (T.length : Int) by omega), idx_nat, hrow, Option.bind_some, hsum, hw1, wr (show -9223372036854775808 ≤ ((T.take k).flatten).sum + (T.getD k []).sum by omega) (show ((T.take k).flatten).sum + (T.getD k []).sum ≤ 9223372036854775807 by omega), e, wrN (show k ≤ 67108864 by omega)]
    by_cases hle : (lsz T 50 : Int) ≤ (k : Int)
    · have hz := lsz_zero (T := T) 50 k (by omega) (by omega)
      rw [hz] at p3
      have hs0 : (T.getD k []).sum = 0 := by
        have : ¬ 0 < (T.getD k []).sum := of_decide_eq_false p3
        omega
      rw [dT hle, neF hs0, beq_false_of_ne (show (k : Int) ≠ (lsz T 50 : Int) - 1 by omega)]
      rfl
    · rw [dF hle]
      by_cases hk1 : (k : Int) = (lsz T 50 : Int) - 1
      · have hz := lsz_last (T := T) 50 k (by omega)
        rw [hz] at p3
        have hs0 : (T.getD k []).sum ≠ 0 := by
          have : 0 < (T.getD k []).sum := of_decide_eq_true p3
          omega
        rw [show ((k : Int) == (lsz T 50 : Int) - 1) = true by rw [hk1]; exact beq_self_eq_true _, beq_false_of_ne hs0]
        rfl
      · rw [beq_false_of_ne hk1]; rfl
  · rintro n s rfl
    simp only [laws_FnSettled_L1, bdF (show ¬ (T.length : Int) < (T.length : Int) by omega), List.take_length]
theorem law_Settled {F : Nat} {x0 : List Int} (hF0 : 9223372036854775808 ≤ F) (_ : x0.length ≤ 9223372036854775807) (hb : ∀ y, y ∈ x0 → 0 ≤ y ∧ y ≤ 255) : laws_FnSettled F x0 = some true := by
  have hF : 134217728 ≤ F := by omega
  unfold laws_FnSettled laws_big
  by_cases hbig : (4096 : Int) < (x0.length : Int)
  · simp only [Option.bind_some, dT hbig, cond_true]
  simp only [Option.bind_some, dF hbig, cond_false]
  have hc : COk x0 := ⟨by omega, hb⟩
  obtain ⟨⟨g, t, ds⟩, hd, b0, b1, b2⟩ : Tot (fun r : GEventGraph × GTimetable × List Int => r.1.Places.length ≤ 1048576 ∧ r.2.1.Starts.length ≤ 1048576 ∧ r.2.2.length ≤ 1048576) (spec_DrawSettledAfter F x0) := by
    unfold spec_DrawSettledAfter
    exact Tot.bind (from_tot hF hc) fun r3 h3 => Tot.bind (l21Draw_tot hF hc h3 (fun g hg => lpS_tot hF hg) (fun g n hg => etS_tot hF hg)) fun r6 h6 => Tot.pure ⟨h6.2.1, h6.2.2.1, h6.2.2.2⟩
  have eg : GEventGraph.mk g.Events g.Places = g := rfl
  have et : GTimetable.mk t.Period t.Starts = t := rfl
  simp only [hd, Option.bind_some, eg, et]
  by_cases hd0 : delayCode g t ds true = 0
  · rcases settled_val hF b0 b1 b2 hd0 with ⟨a, b, c, q0, q1, q2, q3, q4⟩ | ⟨T, t1, t2, t3, q1, q2, q3, q4, q5⟩
    · simp only [q1, q2, q3, q4, Option.bind_some, bne_self_eq_false, cond_false, neT q0, cond_true]
    · simp only [q1, q2, q3, q4, q5, Option.bind_some, bne_self_eq_false, cond_false, settled_loop hF t1 t2 t3, beq_self_eq_true]
  · obtain ⟨a, b, c, q0, q1, q2, q3, q4⟩ := settled_bad hF b0 b1 b2 hd0
    simp only [q1, q2, q3, q4, Option.bind_some, bne_self_eq_false, cond_false, neT q0, cond_true]

end Go.Proofs.Ytebmlphobgaboaa
