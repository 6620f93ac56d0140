/- The law's model answers true. -/
import Derived.Test.YtgkgimglgjfcjaaJustInTimeSmall
namespace Go.Proofs.Ytgkgimglgjfcjaa

/-- one round: the least of what is met -/
def ustep (due h : List Int) (j : Nat) (acc : Int) (i : Nat) : Int := bif h.getD i 0 != (-1000000000000000) then min acc (IntKind.i64.wrap (due.getD (j + i) 0 - h.getD i 0)) else acc
def uval (due h : List Int) (j : Nat) : Int := (List.range (due.length - j)).foldl (ustep due h j) (IntKind.i64.wrap (due.getD j 0 - h.getD 0 0))

theorem idx_sub {h : List Int} {j k : Nat} (hk : j ≤ k) (hl : k < h.length) (hb : k ≤ 67108864) : idx h (IntKind.i64.wrap ((k : Int) - (j : Int))) = some (h.getD (k - j) 0) := by
  rw [wr (by omega) (by omega), show (k : Int) - (j : Int) = ((k - j : Nat) : Int) by omega, idx_nat, getD_of (by omega)]

theorem range_step {S : Type} (f : S → Nat → S) (s : S) {j k : Nat} (h : j ≤ k) : (List.range (k + 1 - j)).foldl f s = f ((List.range (k - j)).foldl f s) (k - j) := by
  rw [show k + 1 - j = (k - j) + 1 by omega, List.range_succ, List.foldl_append]; rfl

theorem spec_round {F : Nat} {due : List Int} {r : List Int × Bool} {j : Nat} (hF : 134217728 ≤ F) (hd : due.length ≤ 50) (hh : r.1.length = due.length) (hj : j < due.length) :
    spec_LatestInputs_L5 F due r (j : Int) F (IntKind.i64.wrap (due.getD j 0 - r.1.getD 0 0)) (j : Int) = some (uval due r.1 j) := by
  refine for_ind (spec_LatestInputs_L5 F due r (j : Int)) due.length (fun k s => j ≤ k ∧ s = (List.range (k - j)).foldl (ustep due r.1 j) (IntKind.i64.wrap (due.getD j 0 - r.1.getD 0 0))) (fun q => q = some (uval due r.1 j)) ?_ ?_ (due.length - j) j _ F (by omega) ⟨Nat.le_refl _, by rw [Nat.sub_self]; rfl⟩ (by omega)
  · rintro n k s hk ⟨hjk, rfl⟩
    refine .inl ⟨_, ?_, by omega, rfl⟩
    simp only [spec_LatestInputs_L5, bdT (show (k : Int) < (due.length : Int) by omega), idx_sub hjk (show k < r.1.length by omega) (by omega), idx_nat, getD_of hk, Option.bind_some, wrN (show k ≤ 67108864 by omega), range_step _ _ hjk]
    rw [show due.getD k 0 = due.getD (j + (k - j)) 0 by rw [show j + (k - j) = k by omega]]
    unfold ustep
    cases (r.1.getD (k - j) 0 != (-1000000000000000)) <;> rfl
  · rintro n s ⟨_, rfl⟩
    simp only [spec_LatestInputs_L5, bdF (show ¬ (due.length : Int) < (due.length : Int) by omega)]; rfl

theorem upd_set {α : Type} {xs : List α} {j : Nat} {x y : α} (h : j < xs.length) : upd (xs.set j x) (j : Int) y = some (xs.set j y) := by
  rw [upd_nat _ (by rw [List.length_set]; exact h), List.set_set]
theorem impl_round {F : Nat} {due xs : List Int} {r : List Int × Int} {j : Nat} (hF : 134217728 ≤ F) (hd : due.length ≤ 50) (hh : r.1.length = due.length) (hj : j < due.length) (hx : xs.length = due.length) :
    impl_LatestInputs_L5 F due r (j : Int) F (xs.set j (IntKind.i64.wrap (due.getD j 0 - r.1.getD 0 0))) (j : Int) = some (xs.set j (uval due r.1 j)) := by
  refine for_ind (impl_LatestInputs_L5 F due r (j : Int)) due.length (fun k s => j ≤ k ∧ s = xs.set j ((List.range (k - j)).foldl (ustep due r.1 j) (IntKind.i64.wrap (due.getD j 0 - r.1.getD 0 0)))) (fun q => q = some (xs.set j (uval due r.1 j))) ?_ ?_ (due.length - j) j _ F (by omega) ⟨Nat.le_refl _, by rw [Nat.sub_self]; rfl⟩ (by omega)
  · rintro n k s hk ⟨hjk, rfl⟩
    refine .inl ⟨_, ?_, by omega, rfl⟩
    have hjx : j < xs.length := by omega
    simp only [impl_LatestInputs_L5, bdT (show (k : Int) < (due.length : Int) by omega), idx_sub hjk (show k < r.1.length by omega) (by omega), idx_nat, getD_of hk, Option.bind_some, wrN (show k ≤ 67108864 by omega), range_step _ _ hjk, set_here hjx, upd_set hjx]
    rw [show due.getD k 0 = due.getD (j + (k - j)) 0 by rw [show j + (k - j) = k by omega]]
    unfold ustep
    cases (r.1.getD (k - j) 0 != (-1000000000000000)) <;> rfl
  · rintro n s ⟨_, rfl⟩
    simp only [impl_LatestInputs_L5, bdF (show ¬ (due.length : Int) < (due.length : Int) by omega)]; rfl

def uvals (due h : List Int) : List Int := (List.range due.length).map (uval due h)

theorem spec_rounds {F : Nat} {due : List Int} {r : List Int × Bool} (hF : 134217728 ≤ F) (hd : due.length ≤ 50) (hh : r.1.length = due.length) : spec_LatestInputs_L4 F due r F [] 0 = some (uvals due r.1) := by
  refine tab_loop (len := due.length) (f := uval due r.1) (L := spec_LatestInputs_L4 F due r) ?_ ?_ (by omega)
  · intro n xs k hk hx
    have h0 : idx r.1 0 = some (r.1.getD 0 0) := (idx_nat r.1 0).trans (getD_of (by omega))
    simp only [spec_LatestInputs_L4, bdT (show (k : Int) < (due.length : Int) by omega), idx_nat, getD_of hk, h0, Option.bind_some, spec_round hF hd hh hk, app_le (show xs.length + [uval due r.1 k].length ≤ 67108864 by simp only [List.length_singleton]; omega), wrN (show k ≤ 67108864 by omega)]
  · intro n xs _
    simp only [spec_LatestInputs_L4, bdF (show ¬ (due.length : Int) < (due.length : Int) by omega)]

theorem impl_rounds {F : Nat} {due xs0 : List Int} {r : List Int × Int} (hF : 134217728 ≤ F) (hd : due.length ≤ 50) (hh : r.1.length = due.length) (hx0 : xs0.length = due.length) : impl_LatestInputs_L4 F due r xs0 F xs0 0 = some (uvals due r.1) := by
  refine fill_loop (ps := List.range due.length) (f := uval due r.1) (L := impl_LatestInputs_L4 F due r xs0) ?_ ?_ (by rw [List.length_range]; exact hx0) (by rw [List.length_range]; omega)
  · intro n xs k x hk hx hl
    rw [List.length_range] at hk hl
    have h0 : idx r.1 0 = some (r.1.getD 0 0) := (idx_nat r.1 0).trans (getD_of (by omega))
    have hxk : x = k := by rw [List.getElem?_range hk] at hx; cases hx; rfl
    subst hxk
    simp only [impl_LatestInputs_L4, bdT (show (x : Int) < (xs0.length : Int) by omega), idx_nat, getD_of hk, getD_of (show x < xs.length by omega), h0, Option.bind_some, upd_nat _ (show x < xs.length by omega), impl_round hF hd hh hk hl, wrN (show x ≤ 67108864 by omega)]
  · intro n xs
    rw [List.length_range]
    simp only [impl_LatestInputs_L4, bdF (show ¬ (due.length : Int) < (xs0.length : Int) by omega)]

/-- no answer is Bottom -/
theorem uval_ne {due h : List Int} {j : Nat} (hj : j < due.length) (hd : ∀ x, x ∈ due → inB x (-1000000) 1000000 = true) (hh : ∀ x, x ∈ h → valB x = true) (hl : h.length = due.length) : -3000000 ≤ uval due h j := by
  have hval : ∀ i, i < due.length → -1000000000000000 ≤ h.getD i 0 ∧ h.getD i 0 ≤ 1000000 := by
    intro i hi
    have := hh (h.getD i 0) (List.mem_of_getElem? (getD_of (by omega)))
    unfold valB at this
    rw [Bool.or_eq_true, beq_iff_eq, inB_true] at this
    omega
  have hdue : ∀ i, i < due.length → -1000000 ≤ due.getD i 0 ∧ due.getD i 0 ≤ 1000000 := fun i hi => inB_true.1 (hd _ (List.mem_of_getElem? (getD_of hi)))
  have hw : ∀ i k, i < due.length → k < due.length → -3000000 ≤ IntKind.i64.wrap (due.getD k 0 - h.getD i 0) := by
    intro i k hi hk
    have h1 := hval i hi; have h2 := hdue k hk
    rw [wr (by omega) (by omega)]; omega
  unfold uval
  have key : ∀ m, m ≤ due.length - j → -3000000 ≤ (List.range m).foldl (ustep due h j) (IntKind.i64.wrap (due.getD j 0 - h.getD 0 0)) := by
    intro m
    induction m with
    | zero => intro _; exact hw 0 j (by omega) hj
    | succ m ih =>
      intro hm
      have := ih (by omega)
      have h2 := hw m (j + m) (by omega) (by omega)
      have step : ∀ acc, -3000000 ≤ acc → -3000000 ≤ ustep due h j acc m := by
        intro acc ha
        unfold ustep
        cases (h.getD m 0 != (-1000000000000000)) with
        | false => exact ha
        | true => simp only [cond_true]; omega
      rw [List.range_succ, List.foldl_append]
      exact step _ this
  exact key _ (Nat.le_refl _)

theorem same_LatestInputs {F : Nat} {x0 : GSystem} {x1 : List Int} (hF : 134217728 ≤ F) (hr : ∀ row, row ∈ x0.A → row.length ≤ 1048576) (hB : x0.B.length ≤ 1048576) (hC : x0.C.length ≤ 1048576) (hD : x1.length ≤ 1048576) :
    ∃ r : List Int × Int, spec_LatestInputs F x0 x1 = some r ∧ impl_LatestInputs F x0 x1 = some r ∧ r.1.length ≤ 1048576 := by
  unfold spec_LatestInputs impl_LatestInputs
  rw [specSystem_is hF hr hB hC, implSystem_is hF hr hB hC]
  cases hs : systemB x0 with
  | false => exact ⟨([], 1), rfl, rfl, by simp⟩
  | true =>
    obtain ⟨a1, a2, a3, a4⟩ := systemB_true hs
    simp only [Option.bind_some, Bool.not_true, cond_false, spec_l24Inputs, specAllFin_is hF hD, implAllWithin_is hF hD, cond_and]
    by_cases hl : x1.length ≤ 50
    · rw [dT (show (x1.length : Int) ≤ 50 by omega), dF (show ¬ (50 : Int) < (x1.length : Int) by omega)]
      simp only [Bool.true_and, cond_false, Option.bind_some]
      cases hd : (x1.all fun x => inB x (-1000000) 1000000) with
      | false => exact ⟨([], 1), rfl, rfl, by simp⟩
      | true =>
        simp only [Bool.not_true, cond_false, specDot_is (F := F) (c := x0.C) (x := x0.B) hF (by omega) (by omega), implDot_is (F := F) (c := x0.C) (x := x0.B) hF (by omega) (by omega), Option.bind_some]
        cases (dotv x0.C x0.B x0.C.length == (-1000000000000000)) with
        | true => exact ⟨([], 5), rfl, rfl, by simp⟩
        | false =>
          have hcl : slices_Clone_int64 F x0.B = some x0.B := by
            unfold slices_Clone_int64
            rw [app_le (by simp only [List.length_nil]; omega)]; rfl
          obtain ⟨o, h1, h2, h3⟩ := resp_loop (F := F) (s := x0) (n := (x1.length : Int)) hF (by omega) a1 a2 a4 x1.length 0 F F [] x0.B x0.B (by omega) (by omega) (by omega) rfl a3 a3 (.inl ⟨rfl, rfl⟩)
          rw [show ((0 : Nat) : Int) = 0 from rfl] at h1 h2
          simp only [cond_false, spec_l24Response, impl_responseOf, hcl, Option.bind_some, h1, h2]
          cases o with
          | none => exact ⟨([], 3), rfl, rfl, by simp⟩
          | some h =>
            obtain ⟨h4, h5⟩ := h3 h rfl
            have h6 := h5 rfl
            have hlen : h.length = x1.length := by omega
            simp only [so, io, Bool.not_true, cond_false, bne_self_eq_false, mk_nat (0 : Int) (show x1.length ≤ 67108864 by omega), Option.bind_some]
            rw [bind_of (spec_rounds (r := (h, true)) hF hl hlen), bind_of (impl_rounds (r := (h, 0)) hF hl hlen (by simp))]
            have hul : (uvals x1 h).length ≤ 1048576 := by unfold uvals; simp; omega
            have hall : ((uvals x1 h).all fun x => inB x (-1000000) 1000000) = (uvals x1 h).all valB := by
              apply Bool.eq_iff_iff.2
              rw [List.all_eq_true, List.all_eq_true]
              constructor
              · intro H x hx
                have := H x hx
                rw [← fin_val, Bool.and_eq_true] at this; exact this.1
              · intro H x hx
                rw [← fin_val, H x hx, Bool.true_and]
                unfold uvals at hx
                rw [List.mem_map] at hx
                obtain ⟨j, hj, rfl⟩ := hx
                have hge := uval_ne (j := j) (due := x1) (h := h) (by simpa using hj) (List.all_eq_true.1 hd) (List.all_eq_true.1 h6) hlen
                cases hb : (uval x1 h j == (-1000000000000000)) with
                | false => rfl
                | true => rw [beq_iff_eq] at hb; omega
            simp only [specAllFin_is hF hul, impl_checkedVector, implAll_is hF hul, hall, Option.bind_some]
            cases (uvals x1 h).all valB with
            | false => exact ⟨([], 3), rfl, rfl, by simp⟩
            | true => exact ⟨(uvals x1 h, 0), rfl, rfl, hul⟩
    · rw [dF (show ¬ (x1.length : Int) ≤ 50 by omega), dT (show (50 : Int) < (x1.length : Int) by omega)]
      exact ⟨([], 1), rfl, rfl, by simp⟩

theorem same_MeetsDue {F : Nat} {x0 : GSystem} {x1 x2 x3 : List Int} (hF : 134217728 ≤ F) (hr : ∀ row, row ∈ x0.A → row.length ≤ 1048576) (hB : x0.B.length ≤ 1048576) (hC : x0.C.length ≤ 1048576) (h1 : x1.length ≤ 1048576) (h2 : x2.length ≤ 1048576) (h3 : x3.length ≤ 1048576) :
    ∃ r : Bool × Int, spec_MeetsDue F x0 x1 x2 x3 = some r ∧ impl_MeetsDue F x0 x1 x2 x3 = some r := by
  unfold spec_MeetsDue impl_MeetsDue
  rw [bind_of (specRunCode_is hF hr hB hC h1 h2), bind_of (implRunCode_is hF hr hB hC h1 h2)]
  cases hok : runOk x0 x1 x2 with
  | false => exact ⟨(false, 1), rfl, rfl⟩
  | true =>
    simp only [cond_true, bne_self_eq_false, cond_false, spec_l24Inputs, specAllFin_is hF h3, implAllWithin_is hF h3, Option.bind_some, cond_and]
    by_cases hl : x3.length ≤ 50
    · rw [dT (show (x3.length : Int) ≤ 50 by omega), dF (show ¬ (50 : Int) < (x3.length : Int) by omega)]
      simp only [Bool.true_and, cond_false, Option.bind_some]
      cases (x3.all fun x => inB x (-1000000) 1000000) with
      | false => exact ⟨(false, 1), rfl, rfl⟩
      | true =>
        simp only [Bool.not_true, cond_false]
        by_cases hn : (x3.length : Int) = (x2.length : Int)
        · rw [bF (neF hn), bF (neF hn.symm)]
          obtain ⟨o, e1, e2, e3⟩ := run_same hF hok
          simp only [e1, e2, Option.bind_some]
          cases o with
          | none => exact ⟨(false, 3), rfl, rfl⟩
          | some p =>
            obtain ⟨_, hp, _⟩ := e3 p rfl
            simp only [Bool.not_true, cond_false, bne_self_eq_false]
            have A := all_loop (ps := List.range p.2.length) (g := fun k => !decide (x3.getD k 0 < p.2.getD k 0)) (r := (false, (0 : Int))) (L := spec_MeetsDue_L1 F x3 (p.2, p.1, true)) (n := F) ?_ ?_ (by rw [List.length_range]; omega)
            have B := all_loop (ps := List.range p.2.length) (g := fun k => !decide (x3.getD k 0 < p.2.getD k 0)) (r := (false, (0 : Int))) (L := impl_MeetsDue_L1 F x3 (p.2, p.1, 0)) (n := F) ?_ ?_ (by rw [List.length_range]; omega)
            · rw [A, B]
              cases (List.range p.2.length).all (fun k => !decide (x3.getD k 0 < p.2.getD k 0)) with
              | false => exact ⟨(false, 0), rfl, rfl⟩
              | true => exact ⟨(true, 0), rfl, rfl⟩
            · intro n k x hk hx
              rw [List.length_range] at hk
              have e : x = k := by rw [List.getElem?_range hk] at hx; cases hx; rfl
              subst e
              simp only [impl_MeetsDue_L1, bdT (show (x : Int) < (p.2.length : Int) by omega), idx_nat, getD_of hk, getD_of (show x < x3.length by omega), Option.bind_some, condn, wrN (show x ≤ 67108864 by omega)]
            · intro n
              rw [List.length_range]
              simp only [impl_MeetsDue_L1, bdF (show ¬ (p.2.length : Int) < (p.2.length : Int) by omega)]
            · intro n k x hk hx
              rw [List.length_range] at hk
              have e : x = k := by rw [List.getElem?_range hk] at hx; cases hx; rfl
              subst e
              simp only [spec_MeetsDue_L1, bdT (show (x : Int) < (p.2.length : Int) by omega), idx_nat, getD_of hk, getD_of (show x < x3.length by omega), Option.bind_some, condn, wrN (show x ≤ 67108864 by omega)]
            · intro n
              rw [List.length_range]
              simp only [spec_MeetsDue_L1, bdF (show ¬ (p.2.length : Int) < (p.2.length : Int) by omega)]
        · rw [bT (neT hn), bT (neT (Ne.symm hn))]
          exact ⟨(false, 2), rfl, rfl⟩
    · rw [dF (show ¬ (x3.length : Int) ≤ 50 by omega), dT (show (50 : Int) < (x3.length : Int) by omega)]
      exact ⟨(false, 1), rfl, rfl⟩

/-! ### The latest inputs and the due dates -/
theorem eqIT {a b : Int} (h : a = b) : (a == b) = true := by simp [h]
theorem eqIF {a b : Int} (h : a ≠ b) : (a == b) = false := by simp [h]
theorem uval_le {due h : List Int} {j i : Nat} (hi : j + i < due.length) (hne : h.getD i 0 ≠ -1000000000000000) : uval due h j ≤ IntKind.i64.wrap (due.getD (j + i) 0 - h.getD i 0) := by
  unfold uval
  have mono : ∀ acc m, ustep due h j acc m ≤ acc := by
    intro acc m; unfold ustep
    cases (h.getD m 0 != (-1000000000000000)) with
    | false => exact Int.le_refl _
    | true => simp only [cond_true]; omega
  have key : ∀ m, i < m → (List.range m).foldl (ustep due h j) (IntKind.i64.wrap (due.getD j 0 - h.getD 0 0)) ≤ IntKind.i64.wrap (due.getD (j + i) 0 - h.getD i 0) := by
    intro m
    induction m with
    | zero => intro h; omega
    | succ m ih =>
      intro hm
      rw [List.range_succ, List.foldl_append]
      show ustep due h j _ m ≤ _
      by_cases e : i = m
      · subst e
        unfold ustep
        rw [neT hne, cond_true]; omega
      · exact Int.le_trans (mono _ _) (ih (by omega))
  exact key _ (by omega)
theorem uval_eq {due h : List Int} {j : Nat} (hj : j < due.length) (h0 : h.getD 0 0 ≠ -1000000000000000) : ∃ i, j + i < due.length ∧ h.getD i 0 ≠ -1000000000000000 ∧ uval due h j = IntKind.i64.wrap (due.getD (j + i) 0 - h.getD i 0) := by
  unfold uval
  have key : ∀ m, m ≤ due.length - j → ∃ i, j + i < due.length ∧ h.getD i 0 ≠ -1000000000000000 ∧ (List.range m).foldl (ustep due h j) (IntKind.i64.wrap (due.getD j 0 - h.getD 0 0)) = IntKind.i64.wrap (due.getD (j + i) 0 - h.getD i 0) := by
    intro m
    induction m with
    | zero => intro _; exact ⟨0, by omega, h0, rfl⟩
    | succ m ih =>
      intro hm
      obtain ⟨i, g1, g2, g3⟩ := ih (by omega)
      rw [List.range_succ, List.foldl_append, g3]
      show ∃ i', _ ∧ _ ∧ ustep due h j _ m = _
      unfold ustep
      by_cases e : h.getD m 0 = -1000000000000000
      · rw [neF e, cond_false]; exact ⟨i, g1, g2, rfl⟩
      · rw [neT e, cond_true]
        rcases Int.le_total (IntKind.i64.wrap (due.getD (j + i) 0 - h.getD i 0)) (IntKind.i64.wrap (due.getD (j + m) 0 - h.getD m 0)) with q | q
        · exact ⟨i, g1, g2, by omega⟩
        · exact ⟨m, by omega, e, by omega⟩
  exact key _ (Nat.le_refl _)
theorem latest_out {F : Nat} {s : GSystem} {due : List Int} (hF : 134217728 ≤ F) (hr : ∀ row, row ∈ s.A → row.length ≤ 1048576) (hB : s.B.length ≤ 1048576) (hC : s.C.length ≤ 1048576) (hD : due.length ≤ 1048576) :
    (∃ c : Int, c ≠ 0 ∧ impl_LatestInputs F s due = some ([], c)) ∨
    (systemB s = true ∧ due.length ≤ 50 ∧ (due.all fun x => inB x (-1000000) 1000000) = true ∧ dotv s.C s.B s.C.length ≠ -1000000000000000 ∧ (∀ j, j < due.length → (bmV s j).all valB = true ∧ valB (outV s (bmV s j)) = true) ∧ (uvals due (respV s due.length)).all valB = true ∧ impl_LatestInputs F s due = some (uvals due (respV s due.length), 0)) := by
  unfold impl_LatestInputs
  rw [implSystem_is hF hr hB hC]
  cases hs : systemB s with
  | false => exact .inl ⟨1, by decide, rfl⟩
  | true =>
    obtain ⟨a1, a2, a3, a4⟩ := systemB_true hs
    simp only [Option.bind_some, Bool.not_true, cond_false, implAllWithin_is hF hD]
    by_cases hl : due.length ≤ 50
    · rw [dF (show ¬ (50 : Int) < (due.length : Int) by omega)]
      simp only [cond_false, Option.bind_some]
      cases hd : (due.all fun x => inB x (-1000000) 1000000) with
      | false => exact .inl ⟨1, by decide, rfl⟩
      | true =>
        simp only [Bool.not_true, cond_false, implDot_is (F := F) (c := s.C) (x := s.B) hF (by omega) (by omega), Option.bind_some]
        by_cases h0 : dotv s.C s.B s.C.length = -1000000000000000
        · rw [bT (eqIT h0)]; exact .inl ⟨5, by decide, rfl⟩
        · rw [bF (eqIF h0)]
          have hcl : slices_Clone_int64 F s.B = some s.B := by
            unfold slices_Clone_int64
            rw [app_le (by simp only [List.length_nil]; omega)]; rfl
          have h := implResp_loop (F := F) (s := s) (n := (due.length : Int)) hF (by omega) a1 a2 a3 a4 due.length 0 F [] (by omega) (by omega) rfl
          simp only [Nat.zero_sub, Nat.zero_add, List.nil_append] at h
          have e : bmV s 0 = s.B := rfl
          rw [e, show ((0 : Nat) : Int) = 0 from rfl] at h
          rcases h with h | ⟨h, h2⟩
          · simp only [impl_responseOf, hcl, Option.bind_some, h]
            exact .inl ⟨3, by decide, rfl⟩
          · have hrs : impl_responseOf F s (due.length : Int) = some (respV s due.length, 0) := by
              simp only [impl_responseOf, hcl, Option.bind_some, h]; rfl
            have hul : (uvals due (respV s due.length)).length ≤ 1048576 := by unfold uvals; simp; omega
            simp only [hrs, Option.bind_some, bne_self_eq_false, cond_false, mk_nat (0 : Int) (show due.length ≤ 67108864 by omega)]
            rw [bind_of (impl_rounds (r := (respV s due.length, 0)) hF hl (respV_len _ _) (by simp))]
            simp only [impl_checkedVector, implAll_is hF hul, Option.bind_some]
            cases hv : (uvals due (respV s due.length)).all valB with
            | false => exact .inl ⟨3, by decide, rfl⟩
            | true => exact .inr ⟨by first | rfl | trivial, hl, by first | rfl | trivial, h0, h2, by first | rfl | trivial, rfl⟩
    · rw [dT (show (50 : Int) < (due.length : Int) by omega)]
      exact .inl ⟨1, by decide, rfl⟩
theorem meets_is {F : Nat} {s : GSystem} {x us due : List Int} (hF : 134217728 ≤ F) (hr : ∀ row, row ∈ s.A → row.length ≤ 1048576) (hB : s.B.length ≤ 1048576) (hC : s.C.length ≤ 1048576) (h1 : x.length ≤ 1048576) (h2 : us.length ≤ 1048576) (h3 : due.length ≤ 50) (hd : (due.all fun x => inB x (-1000000) 1000000) = true) (hn : us.length = due.length) (hok : runOk s x us = true) (hb : s.B.length = s.A.length) (hx : x.all valB = true) (hxl : x.length = s.A.length) :
    impl_MeetsDue F s x us due = some ((runF s x us).elim (false, 3) fun p => ((List.range us.length).all (fun k => !decide (due.getD k 0 < p.2.getD k 0)), 0)) := by
  unfold impl_MeetsDue
  rw [bind_of (implRunCode_is hF hr hB hC h1 h2), hok]
  simp only [cond_true, bne_self_eq_false, cond_false, implAllWithin_is hF (show due.length ≤ 1048576 by omega), Option.bind_some, dF (show ¬ (50 : Int) < (due.length : Int) by omega), hd, Bool.not_true, bF (neF (show (us.length : Int) = (due.length : Int) by omega)), implRun_is hF hok]
  cases hrun : runF s x us with
  | none => rfl
  | some p =>
    obtain ⟨_, _, _, hp, _⟩ := runF_some hb _ _ _ hrun hx hxl
    simp only [Option.elim_some, bne_self_eq_false, cond_false]
    have B := all_loop (ps := List.range us.length) (g := fun k => !decide (due.getD k 0 < p.2.getD k 0)) (r := (false, (0 : Int))) (L := impl_MeetsDue_L1 F due (p.2, p.1, 0)) (n := F) ?_ ?_ (by rw [List.length_range]; have := (runOk_true hok).2.2.2.1; omega)
    · show (Option.bind (impl_MeetsDue_L1 F due (p.2, p.1, 0) F 0) fun r47 => match r47 with | .inl x_ => some x_ | .inr _ => some (true, 0)) = _
      rw [B]
      cases (List.range us.length).all (fun k => !decide (due.getD k 0 < p.2.getD k 0)) <;> rfl
    · intro n k x hk hx
      rw [List.length_range] at hk
      have e : x = k := by rw [List.getElem?_range hk] at hx; cases hx; rfl
      subst e
      simp only [impl_MeetsDue_L1, bdT (show (x : Int) < (p.2.length : Int) by omega), idx_nat, getD_of (show x < p.2.length by omega), getD_of (show x < due.length by omega), Option.bind_some, condn, wrN (show x ≤ 67108864 by omega)]
    · intro n
      rw [List.length_range]
      simp only [impl_MeetsDue_L1, bdF (show ¬ (us.length : Int) < (p.2.length : Int) by omega)]
theorem meets_no {F : Nat} {s : GSystem} {x us due : List Int} (hF : 134217728 ≤ F) (hr : ∀ row, row ∈ s.A → row.length ≤ 1048576) (hB : s.B.length ≤ 1048576) (hC : s.C.length ≤ 1048576) (h1 : x.length ≤ 1048576) (h2 : us.length ≤ 1048576) (hok : runOk s x us = false) : impl_MeetsDue F s x us due = some (false, 1) := by
  unfold impl_MeetsDue
  rw [bind_of (implRunCode_is hF hr hB hC h1 h2), hok]; rfl
theorem runOk_of {s : GSystem} {x us : List Int} (hs : systemB s = true) (hv : x.all valB = true) (hl : x.length = s.A.length) (hu : us.length ≤ 50) (hua : us.all valB = true) : runOk s x us = true := by
  obtain ⟨n1, n10, _⟩ := system_ent hs
  unfold runOk vecB
  simp only [Bool.and_eq_true, beq_iff_eq, decide_eq_true_eq]
  exact ⟨⟨⟨⟨hs, inB_true.2 ⟨by omega, by omega⟩, hv⟩, by omega⟩, hu⟩, hua⟩
theorem runOk_bad {s : GSystem} {x us : List Int} (hua : us.all valB = false) : runOk s x us = false := by
  cases h : runOk s x us with
  | false => rfl
  | true => rw [(runOk_true h).2.2.2.2] at hua; cases hua
theorem nothingJ {F : Nat} {r4 : GSystem × List Int} (hF : 134217728 ≤ F) (hl : r4.1.A.length ≤ 1000) : laws_FnJustInTime_L1 F r4 F [] 0 = some (List.replicate r4.1.A.length (-1000000000000000)) := by
  have H := tab_loop (len := r4.1.A.length) (f := fun _ => (-1000000000000000 : Int)) (L := laws_FnJustInTime_L1 F r4) (n := F) ?_ ?_ (by omega)
  · rw [H]
    refine congrArg some ?_
    apply List.ext_getElem?; intro i
    rw [List.getElem?_map, List.getElem?_replicate]
    by_cases hi : i < r4.1.A.length
    · rw [List.getElem?_range hi, if_pos hi]; rfl
    · rw [List.getElem?_eq_none (by simpa using hi), if_neg hi]; rfl
  · intro n xs k hk hx
    simp only [laws_FnJustInTime_L1, bdT (show (k : Int) < (r4.1.A.length : Int) by omega), app_le (show xs.length + [(-1000000000000000 : Int)].length ≤ 67108864 by simp; omega), Option.bind_some, wrN (show k ≤ 67108864 by omega)]
  · intro n xs _
    simp only [laws_FnJustInTime_L1, bdF (show ¬ (r4.1.A.length : Int) < (r4.1.A.length : Int) by omega)]
/-- the outputs of a run from nothing -/
theorem out_conv {s : GSystem} {us : List Int} {p : List Int × List Int} (hs : systemB s = true) (hu : us.all valB = true) (hb : ∀ m, m < us.length → (bmV s m).all valB = true) (hrun : runF s (List.replicate s.A.length (-1000000000000000)) us = some p) {k : Nat} (hk : k < us.length) :
    p.2.getD k 0 = mx (k + 1) fun m => ta (outV s (bmV s m)) (us.getD (k - m) 0) := by
  obtain ⟨_, _, b3, b4⟩ := systemB_true hs
  have hbot : (List.replicate s.A.length (-1000000000000000 : Int)).all valB = true := by
    rw [List.all_eq_true]; intro y hy; rw [(List.mem_replicate.1 hy).2]; rfl
  obtain ⟨_, _, _, t4, t5⟩ := runF_some b3 _ _ _ hrun hbot (by simp)
  have hcvs : ∀ k, k < us.length → ((us.take k).foldl (nextV s) (List.replicate s.A.length (-1000000000000000))).all valB = true := fun k hk => by
    cases k with
    | zero => exact hbot
    | succ k => exact (t5 k (by omega)).2.1
  rw [(t5 k hk).1]
  exact conv_out hs hu hb hcvs hk (t5 k hk).2.1
theorem met {s : GSystem} {due : List Int} (hs : systemB s = true) (hd : (due.all fun x => inB x (-1000000) 1000000) = true) (hb : ∀ j, j < due.length → (bmV s j).all valB = true ∧ valB (outV s (bmV s j)) = true) (hu : (uvals due (respV s due.length)).all valB = true) {p : List Int × List Int} (hrun : runF s (List.replicate s.A.length (-1000000000000000)) (uvals due (respV s due.length)) = some p) :
    ((List.range due.length).all fun k => !decide (due.getD k 0 < p.2.getD k 0)) = true := by
  have hul : (uvals due (respV s due.length)).length = due.length := by unfold uvals; simp
  have hdue : ∀ i, i < due.length → -1000000 ≤ due.getD i 0 ∧ due.getD i 0 ≤ 1000000 := fun i hi => inB_true.1 (List.all_eq_true.1 hd _ (List.mem_of_getElem? (getD_of hi)))
  rw [List.all_eq_true]; intro k hk
  have hk : k < due.length := by simpa using hk
  have h := out_conv hs hu (fun m hm => (hb m (by omega)).1) hrun (k := k) (by omega)
  rw [h]
  suffices hle : (mx (k + 1) fun m => ta (outV s (bmV s m)) ((uvals due (respV s due.length)).getD (k - m) 0)) ≤ due.getD k 0 by
    rw [decide_eq_false (by omega)]; rfl
  have hdk := hdue k hk
  refine mx_le (by omega) fun m hm => ?_
  have e1 : (uvals due (respV s due.length)).getD (k - m) 0 = uval due (respV s due.length) (k - m) := by
    unfold uvals; rw [List.getD_eq_getElem?_getD, tabM_at (show k - m < due.length by omega)]; rfl
  by_cases h1 : outV s (bmV s m) = -1000000000000000
  · rw [h1, ta_botl]; omega
  · by_cases h2 : (uvals due (respV s due.length)).getD (k - m) 0 = -1000000000000000
    · rw [h2, ta_botr]; omega
    · rw [ta_fin h1 h2, e1]
      have hle := uval_le (due := due) (h := respV s due.length) (j := k - m) (i := m) (by omega) (by rw [respV_at (by omega)]; exact h1)
      rw [respV_at (by omega), show k - m + m = k by omega] at hle
      have hv := okw_val (hb m (by omega)).2
      unfold Okw at hv
      rw [wr (by omega) (by omega)] at hle
      omega
theorem missed {s : GSystem} {due : List Int} {d : Nat} (hs : systemB s = true) (hd : (due.all fun x => inB x (-1000000) 1000000) = true) (h0 : outV s (bmV s 0) ≠ -1000000000000000) (hb : ∀ j, j < due.length → (bmV s j).all valB = true ∧ valB (outV s (bmV s j)) = true) (hdl : d < due.length) (hu : ((uvals due (respV s due.length)).set d (uval due (respV s due.length) d + 1)).all valB = true) (hge : -3000000 ≤ uval due (respV s due.length) d) {p : List Int × List Int} (hrun : runF s (List.replicate s.A.length (-1000000000000000)) ((uvals due (respV s due.length)).set d (uval due (respV s due.length) d + 1)) = some p) :
    ((List.range due.length).all fun k => !decide (due.getD k 0 < p.2.getD k 0)) = false := by
  have hul : ((uvals due (respV s due.length)).set d (uval due (respV s due.length) d + 1)).length = due.length := by rw [List.length_set]; unfold uvals; simp
  have hdue : ∀ i, i < due.length → -1000000 ≤ due.getD i 0 ∧ due.getD i 0 ≤ 1000000 := fun i hi => inB_true.1 (List.all_eq_true.1 hd _ (List.mem_of_getElem? (getD_of hi)))
  obtain ⟨i, g1, g2, g3⟩ := uval_eq (due := due) (h := respV s due.length) hdl (by rw [respV_at (by omega)]; exact h0)
  rw [respV_at (by omega)] at g2 g3
  have h := out_conv hs hu (fun m hm => (hb m (by omega)).1) hrun (k := d + i) (by omega)
  have hge2 := mx_ge (g := fun m => ta (outV s (bmV s m)) (((uvals due (respV s due.length)).set d (uval due (respV s due.length) d + 1)).getD (d + i - m) 0)) (show i < d + i + 1 by omega)
  rw [← h] at hge2
  have e1 : ((uvals due (respV s due.length)).set d (uval due (respV s due.length) d + 1)).getD (d + i - i) 0 = uval due (respV s due.length) d + 1 := by
    rw [show d + i - i = d by omega, List.getD_eq_getElem?_getD, List.getElem?_set, if_pos rfl, if_pos (by rw [List.length_set] at hul; omega)]; rfl
  simp only [e1] at hge2
  rw [ta_fin g2 (by omega)] at hge2
  have hv := okw_val (hb i (by omega)).2
  have hd2 := hdue (d + i) g1
  unfold Okw at hv
  rw [wr (by omega) (by omega)] at g3
  cases hall : (List.range due.length).all fun k => !decide (due.getD k 0 < p.2.getD k 0) with
  | false => rfl
  | true =>
    have := List.all_eq_true.1 hall (d + i) (by simpa using g1)
    rw [decide_eq_true (by omega)] at this
    cases this

theorem law_JustInTime {F : Nat} {x0 : List Int} (hF0 : 9223372036854775808 ≤ F) (_ : x0.length ≤ 9223372036854775807) (hb : ∀ y, y ∈ x0 → 0 ≤ y ∧ y ≤ 255) : laws_FnJustInTime F x0 = some true := by
  have hF : 134217728 ≤ F := by omega
  unfold laws_FnJustInTime laws_big
  by_cases hbig : (4096 : Int) < (x0.length : Int)
  · simp only [Option.bind_some, dT hbig, cond_true]
  simp only [Option.bind_some, dF hbig, cond_false]
  have hc : COk x0 := ⟨by omega, hb⟩
  obtain ⟨⟨s, due⟩, hd1, a0, a1, a2, a3, a4⟩ : Tot (fun r : GSystem × List Int => (∀ row, row ∈ r.1.A → row.length ≤ 1048576) ∧ r.1.B.length ≤ 2000 ∧ r.1.C.length ≤ 2000 ∧ r.2.length ≤ 2000 ∧ r.1.A.length ≤ 1000) (spec_DrawLatestInputs F x0) := by
    unfold spec_DrawLatestInputs
    refine Tot.bind (from_tot hF hc) fun r2 h2 => Tot.bind (drawSystem_tot hF hc h2) fun r5 h5 => Tot.bind (drawInputs_tot hF hc h5.1) fun r6 h6 => ?_
    exact Tot.pure ⟨fun row hrow => by have := h5.2.2.1 row hrow; omega, h5.2.2.2.1, h5.2.2.2.2, h6.2, h5.2.1⟩
  obtain ⟨⟨t, x, us, dv⟩, hd2, b0, b1, b2, b3, b4, b5⟩ : Tot (fun r : GSystem × List Int × List Int × List Int => (∀ row, row ∈ r.1.A → row.length ≤ 1048576) ∧ r.1.B.length ≤ 2000 ∧ r.1.C.length ≤ 2000 ∧ r.2.1.length ≤ 1048576 ∧ r.2.2.1.length ≤ 1048576 ∧ r.2.2.2.length ≤ 1048576) (spec_DrawMeetsDue F x0) := by
    unfold spec_DrawMeetsDue
    refine Tot.bind (from_tot hF hc) fun r2 h2 => Tot.bind (drawSystem_tot hF hc h2) fun r5 h5 => Tot.bind (drawInputs_tot hF hc h5.1) fun r21 h21 => ?_
    have hA := h5.2.1
    have hrow : ∀ row, row ∈ r5.1.A → row.length ≤ 1048576 := fun row hr => by have := h5.2.2.1 row hr; omega
    have hB2 := h5.2.2.2.1
    have hC2 := h5.2.2.2.2
    have hI2 := h21.2
    have hbo : spec_l02Bottom F 1 (max 1 (r5.1.A.length : Int)) = some (tabM 1 (max 1 r5.1.A.length) fun _ _ => -1000000000000000) := by
      have := specBotM_is (F := F) (m := 1) (n := max 1 r5.1.A.length) hF (by omega) (by omega)
      rw [show ((max 1 r5.1.A.length : Nat) : Int) = max 1 (r5.1.A.length : Int) by omega] at this
      exact this
    rw [hbo, Option.bind_some]
    refine Tot.bind (idx_tot (by omega) (by rw [tabM_len]; omega)) fun q hq => ?_
    have hq2 := tabM_rows q hq
    refine Tot.bind (next_tot hc h21.1) fun r39 h39 => ?_
    refine Tot.bind (P := fun r : Int × Int × List Int => SOk x0 r.1 r.2.1 ∧ r.2.2.length ≤ 1048576) (Tot.cond (fun _ => Tot.bind (drawVec_tot hF hc h39.1 (by omega) (by omega)) fun r58 h58 => Tot.pure ⟨h58.1, by have := h58.2; simp only; omega⟩) fun _ => Tot.pure ⟨h39.1, by simp only; omega⟩) fun r48 h48 => ?_
    obtain ⟨p48, s48, v48⟩ := r48
    simp only at h48
    obtain ⟨⟨lu, lc⟩, l1, _, l3⟩ := same_LatestInputs (F := F) (x0 := r5.1) (x1 := r21.1) hF hrow (by omega) (by omega) (by omega)
    simp only at l3
    have e5 : GSystem.mk r5.1.A r5.1.B r5.1.C = r5.1 := rfl
    rw [e5]
    show Tot _ ((spec_LatestInputs F r5.1 r21.1).bind _)
    rw [l1, Option.bind_some]
    refine Tot.cond (fun _ => Tot.bind (drawInputs_tot hF hc h48.1) fun r77 h77 => Tot.pure ⟨hrow, hB2, hC2, h48.2, by have := h77.2; simp only; omega, by simp only; omega⟩) fun _ => ?_
    refine Tot.bind (P := fun r : Int × Int × Bool => SOk x0 r.1 r.2.1 ∧ (r.2.2 = true → 0 < lu.length)) (Tot.cond (fun hpos => Tot.bind (next_tot hc h48.1) fun r92 h92 => Tot.pure ⟨h92.1, fun _ => by have h9 : (0 : Int) < (lu.length : Int) := of_decide_eq_true hpos; omega⟩) fun _ => Tot.pure ⟨h48.1, fun h => by simp at h⟩) fun r86 h86 => ?_
    obtain ⟨p86, s86, v86⟩ := r86
    simp only at h86
    refine Tot.bind (P := fun xs : List Int => xs.length = lu.length) (Tot.cond (fun hv => ?_) fun _ => Tot.pure rfl) fun xs hxs => Tot.pure ⟨hrow, hB2, hC2, h48.2, by simp only; omega, by simp only; omega⟩
    have hpos := h86.2 hv
    refine Tot.bind (next_tot hc h86.1) fun r118 h118 => ?_
    have hlt : r118.1 < (lu.length : Int) := by have h9 : r118.1 < (lu.length : Int) ∨ r118.1 = 0 := h118.2.2; omega
    exact Tot.bind (idx_tot h118.2.1 hlt) fun q1 _ => Tot.bind (next_tot hc h118.1) fun r130 h130 => Tot.bind (idx_tot h118.2.1 hlt) fun q2 _ => Tot.bind (upd_tot h118.2.1 hlt) fun ys hys => Tot.pure hys
  simp only at a0 a1 a2 a3 a4 b0 b1 b2 b3 b4 b5
  have es : GSystem.mk s.A s.B s.C = s := rfl
  have et : GSystem.mk t.A t.B t.C = t := rfl
  obtain ⟨⟨u, c1⟩, p1, p2, p3⟩ := same_LatestInputs (F := F) (x0 := s) (x1 := due) hF a0 (by omega) (by omega) (by omega)
  obtain ⟨⟨v, c2⟩, q1, q2⟩ := same_MeetsDue (F := F) (x0 := t) (x1 := x) (x2 := us) (x3 := dv) hF b0 (by omega) (by omega) b3 b4 b5
  simp only at p3
  simp only [hd1, hd2, Option.bind_some, es, et, p1, p2, q1, q2, bne_self_eq_false, cond_false, lkI hF p3, Bool.not_true]
  by_cases hc1 : c1 = 0
  · by_cases hn : (u.length : Int) = 0
    · rw [bF (neF hc1), Option.bind_some, eqIT hn, cond_true]
    · rw [bF (neF hc1), Option.bind_some, eqIF hn, cond_false]
      rcases latest_out (F := F) (s := s) (due := due) hF a0 (by omega) (by omega) (by omega) with ⟨c, hc0, h1⟩ | ⟨hs, hl, hda, h0, hbm, hu, h1⟩
      · rw [p2] at h1
        simp only [Option.some.injEq, Prod.mk.injEq] at h1
        exact absurd (h1.2.symm.trans hc1) hc0
      · rw [p2] at h1
        simp only [Option.some.injEq, Prod.mk.injEq] at h1
        obtain ⟨rfl, _⟩ := h1
        have hul : (uvals due (respV s due.length)).length = due.length := by unfold uvals; simp
        obtain ⟨n1, n10, _, _, _, _⟩ := system_ent hs
        obtain ⟨_, _, hBl, _⟩ := systemB_true hs
        have hbot : (List.replicate s.A.length (-1000000000000000 : Int)).all valB = true := by
          rw [List.all_eq_true]; intro y hy; rw [(List.mem_replicate.1 hy).2]; rfl
        obtain ⟨⟨i0, g0⟩, hro, hi0⟩ := roll_tot (F := F) (code := x0) (seed := 2402) hF hc
        simp only at hi0
        subst hi0
        obtain ⟨⟨pt, j, g'⟩, hbe, v0, v1, v2, v3⟩ := below_tot (F := F) (h := g0) (i := 0) (n := ((uvals due (respV s due.length)).length : Int)) hc (by decide) (by omega) (by omega)
        simp only at v0 v1
        obtain ⟨d, rfl⟩ : ∃ d : Nat, pt = (d : Int) := ⟨pt.toNat, by omega⟩
        have hdl : d < due.length := by omega
        have hud : (uvals due (respV s due.length)).getD d 0 = uval due (respV s due.length) d := by
          unfold uvals; rw [List.getD_eq_getElem?_getD, tabM_at hdl]; rfl
        have hudw := all_okw hu (show d < (uvals due (respV s due.length)).length by omega)
        rw [hud] at hudw
        have hresp : ∀ x, x ∈ respV s due.length → valB x = true := fun x hx => by
          unfold respV at hx
          rw [List.mem_map] at hx
          obtain ⟨j, hj, rfl⟩ := hx
          exact (hbm j (by simpa using hj)).2
        have hge := uval_ne (j := d) (due := due) (h := respV s due.length) hdl (List.all_eq_true.1 hda) hresp (respV_len _ _)
        have hwd : IntKind.i64.wrap (uval due (respV s due.length) d + 1) = uval due (respV s due.length) d + 1 := by
          unfold Okw at hudw
          exact wr (by omega) (by omega)
        have happ : app ([] : List Int) (uvals due (respV s due.length)) = some (uvals due (respV s due.length)) := by
          rw [app_le (by simp only [List.length_nil]; omega)]; rfl
        have hgd := getD_of (show d < (uvals due (respV s due.length)).length by omega)
        rw [hud] at hgd
        have hok : runOk s (List.replicate s.A.length (-1000000000000000)) (uvals due (respV s due.length)) = true := runOk_of hs hbot (by simp) (by omega) hu
        have M1 := meets_is (F := F) (s := s) (x := List.replicate s.A.length (-1000000000000000)) (us := uvals due (respV s due.length)) (due := due) hF a0 (by omega) (by omega) (by simp; omega) (by omega) hl hda hul hok hBl hbot (by simp)
        have M1' : impl_MeetsDue F s (List.replicate s.A.length (-1000000000000000)) (uvals due (respV s due.length)) due = some (false, 3) ∨ impl_MeetsDue F s (List.replicate s.A.length (-1000000000000000)) (uvals due (respV s due.length)) due = some (true, 0) := by
          cases hrun : runF s (List.replicate s.A.length (-1000000000000000)) (uvals due (respV s due.length)) with
          | none => rw [hrun] at M1; exact .inl M1
          | some p =>
            rw [hrun] at M1
            simp only [Option.elim_some, hul, met hs hda hbm hu hrun] at M1
            exact .inr M1
        have hsl : ((uvals due (respV s due.length)).set d (uval due (respV s due.length) d + 1)).length = due.length := by rw [List.length_set]; exact hul
        have M2' : impl_MeetsDue F s (List.replicate s.A.length (-1000000000000000)) ((uvals due (respV s due.length)).set d (uval due (respV s due.length) d + 1)) due = some (false, 1) ∨ impl_MeetsDue F s (List.replicate s.A.length (-1000000000000000)) ((uvals due (respV s due.length)).set d (uval due (respV s due.length) d + 1)) due = some (false, 3) ∨ impl_MeetsDue F s (List.replicate s.A.length (-1000000000000000)) ((uvals due (respV s due.length)).set d (uval due (respV s due.length) d + 1)) due = some (false, 0) := by
          cases hu2 : ((uvals due (respV s due.length)).set d (uval due (respV s due.length) d + 1)).all valB with
          | false => exact .inl (meets_no hF a0 (by omega) (by omega) (by simp; omega) (by omega) (runOk_bad hu2))
          | true =>
            have hok2 : runOk s (List.replicate s.A.length (-1000000000000000)) ((uvals due (respV s due.length)).set d (uval due (respV s due.length) d + 1)) = true := runOk_of hs hbot (by simp) (by omega) hu2
            have M2 := meets_is (F := F) (s := s) (x := List.replicate s.A.length (-1000000000000000)) (us := (uvals due (respV s due.length)).set d (uval due (respV s due.length) d + 1)) (due := due) hF a0 (by omega) (by omega) (by simp; omega) (by omega) hl hda hsl hok2 hBl hbot (by simp)
            cases hrun : runF s (List.replicate s.A.length (-1000000000000000)) ((uvals due (respV s due.length)).set d (uval due (respV s due.length) d + 1)) with
            | none => rw [hrun] at M2; exact .inr (.inl M2)
            | some p =>
              rw [hrun] at M2
              simp only [Option.elim_some, hsl, missed hs hda h0 hbm hdl hu2 hge hrun] at M2
              exact .inr (.inr M2)
        simp only [nothingJ (F := F) (r4 := (s, due)) hF (by simp only; omega), Option.bind_some, happ, hro, hbe, idx_nat, hgd, hwd, upd_nat _ (show d < (uvals due (respV s due.length)).length by omega)]
        rcases M1' with M1' | M1' <;> rcases M2' with M2' | M2' | M2' <;> rw [M1', Option.bind_some, M2'] <;> rfl
  · rw [bT (neT hc1), Option.bind_some, cond_true]

end Go.Proofs.Ytgkgimglgjfcjaa
