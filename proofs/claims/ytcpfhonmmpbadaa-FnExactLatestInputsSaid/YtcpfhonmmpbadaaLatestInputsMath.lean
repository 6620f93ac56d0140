/- The reference and the program answer alike. -/
import Derived.Test.YtcpfhonmmpbadaaLatestInputsSmall
namespace Go.Proofs.Ytcpfhonmmpbadaa

/-- one round: the least of what is met -/
def ustep (due h : List Int) (j : Nat) (acc : Int) (i : Nat) : Int := bif h.getD i 0 != (-1000000000000000) then min acc (IntKind.i64.wrap (due.getD (j + i) 0 - h.getD i 0)) else acc
def uval (due h : List Int) (j : Nat) : Int := (List.range (due.length - j)).foldl (ustep due h j) (IntKind.i64.wrap (due.getD j 0 - h.getD 0 0))

theorem idx_sub {h : List Int} {j k : Nat} (hk : j ≤ k) (hl : k < h.length) (hb : k ≤ 67108864) : idx h (IntKind.i64.wrap ((k : Int) - (j : Int))) = some (h.getD (k - j) 0) := by
  rw [wr (by omega) (by omega), show (k : Int) - (j : Int) = ((k - j : Nat) : Int) by omega, idx_nat, getD_of (by omega)]

theorem range_step {S : Type} (f : S → Nat → S) (s : S) {j k : Nat} (h : j ≤ k) : (List.range (k + 1 - j)).foldl f s = f ((List.range (k - j)).foldl f s) (k - j) := by
  rw [show k + 1 - j = (k - j) + 1 by omega, List.range_succ, List.foldl_append]; rfl

theorem spec_round {F : Nat} {due : List Int} {r : List Int × Bool} {j : Nat} (hF : 134217728 ≤ F) (hd : due.length ≤ 50) (hh : r.1.length = due.length) (hj : j < due.length) :
    spec_LatestInputs_L5 F due r (j : Int) F (IntKind.i64.wrap (due.getD j 0 - r.1.getD 0 0)) (j : Int) = some (uval due r.1 j) := by
  refine for_ind (spec_LatestInputs_L5 F due r (j : Int)) due.length (fun k s => j ≤ k ∧ s = (List.range (k - j)).foldl (ustep due r.1 j) (IntKind.i64.wrap (due.getD j 0 - r.1.getD 0 0))) (fun q => q = some (uval due r.1 j)) ?_ ?_ (due.length - j) j _ F (by omega) ⟨Nat.le_refl _, by rw [Nat.sub_self]; rfl⟩ (by omega)
  · rintro n k s hk ⟨hjk, rfl⟩
    refine .inl ⟨_, ?_, by omega, rfl⟩
    simp only [spec_LatestInputs_L5, bdT (show (k : Int) < (due.length : Int) by omega), idx_sub hjk (show k < r.1.length by omega) (by omega), idx_nat, getD_of hk, Option.bind_some, wrN (show k ≤ 67108864 by omega), range_step _ _ hjk]
    rw [show due.getD k 0 = due.getD (j + (k - j)) 0 by rw [show j + (k - j) = k by omega]]
    unfold ustep
    cases (r.1.getD (k - j) 0 != (-1000000000000000)) <;> rfl
  · rintro n s ⟨_, rfl⟩
    simp only [spec_LatestInputs_L5, bdF (show ¬ (due.length : Int) < (due.length : Int) by omega)]; rfl

theorem upd_set {α : Type} {xs : List α} {j : Nat} {x y : α} (h : j < xs.length) : upd (xs.set j x) (j : Int) y = some (xs.set j y) := by
  rw [upd_nat _ (by rw [List.length_set]; exact h), List.set_set]
theorem impl_round {F : Nat} {due xs : List Int} {r : List Int × Int} {j : Nat} (hF : 134217728 ≤ F) (hd : due.length ≤ 50) (hh : r.1.length = due.length) (hj : j < due.length) (hx : xs.length = due.length) :
    impl_LatestInputs_L5 F due r (j : Int) F (xs.set j (IntKind.i64.wrap (due.getD j 0 - r.1.getD 0 0))) (j : Int) = some (xs.set j (uval due r.1 j)) := by
  refine for_ind (impl_LatestInputs_L5 F due r (j : Int)) due.length (fun k s => j ≤ k ∧ s = xs.set j ((List.range (k - j)).foldl (ustep due r.1 j) (IntKind.i64.wrap (due.getD j 0 - r.1.getD 0 0)))) (fun q => q = some (xs.set j (uval due r.1 j))) ?_ ?_ (due.length - j) j _ F (by omega) ⟨Nat.le_refl _, by rw [Nat.sub_self]; rfl⟩ (by omega)
  · rintro n k s hk ⟨hjk, rfl⟩
    refine .inl ⟨_, ?_, by omega, rfl⟩
    have hjx : j < xs.length := by omega
    simp only [impl_LatestInputs_L5, bdT (show (k : Int) < (due.length : Int) by omega), idx_sub hjk (show k < r.1.length by omega) (by omega), idx_nat, getD_of hk, Option.bind_some, wrN (show k ≤ 67108864 by omega), range_step _ _ hjk, set_here hjx, upd_set hjx]
    rw [show due.getD k 0 = due.getD (j + (k - j)) 0 by rw [show j + (k - j) = k by omega]]
    unfold ustep
    cases (r.1.getD (k - j) 0 != (-1000000000000000)) <;> rfl
  · rintro n s ⟨_, rfl⟩
    simp only [impl_LatestInputs_L5, bdF (show ¬ (due.length : Int) < (due.length : Int) by omega)]; rfl

def uvals (due h : List Int) : List Int := (List.range due.length).map (uval due h)

theorem spec_rounds {F : Nat} {due : List Int} {r : List Int × Bool} (hF : 134217728 ≤ F) (hd : due.length ≤ 50) (hh : r.1.length = due.length) : spec_LatestInputs_L4 F due r F [] 0 = some (uvals due r.1) := by
  refine tab_loop (len := due.length) (f := uval due r.1) (L := spec_LatestInputs_L4 F due r) ?_ ?_ (by omega)
  · intro n xs k hk hx
    have h0 : idx r.1 0 = some (r.1.getD 0 0) := (idx_nat r.1 0).trans (getD_of (by omega))
    simp only [spec_LatestInputs_L4, bdT (show (k : Int) < (due.length : Int) by omega), idx_nat, getD_of hk, h0, Option.bind_some, spec_round hF hd hh hk, app_le (show xs.length + [uval due r.1 k].length ≤ 67108864 by simp only [List.length_singleton]; omega), wrN (show k ≤ 67108864 by omega)]
  · intro n xs _
    simp only [spec_LatestInputs_L4, bdF (show ¬ (due.length : Int) < (due.length : Int) by omega)]

theorem impl_rounds {F : Nat} {due xs0 : List Int} {r : List Int × Int} (hF : 134217728 ≤ F) (hd : due.length ≤ 50) (hh : r.1.length = due.length) (hx0 : xs0.length = due.length) : impl_LatestInputs_L4 F due r xs0 F xs0 0 = some (uvals due r.1) := by
  refine fill_loop (ps := List.range due.length) (f := uval due r.1) (L := impl_LatestInputs_L4 F due r xs0) ?_ ?_ (by rw [List.length_range]; exact hx0) (by rw [List.length_range]; omega)
  · intro n xs k x hk hx hl
    rw [List.length_range] at hk hl
    have h0 : idx r.1 0 = some (r.1.getD 0 0) := (idx_nat r.1 0).trans (getD_of (by omega))
    have hxk : x = k := by rw [List.getElem?_range hk] at hx; cases hx; rfl
    subst hxk
    simp only [impl_LatestInputs_L4, bdT (show (x : Int) < (xs0.length : Int) by omega), idx_nat, getD_of hk, getD_of (show x < xs.length by omega), h0, Option.bind_some, upd_nat _ (show x < xs.length by omega), impl_round hF hd hh hk hl, wrN (show x ≤ 67108864 by omega)]
  · intro n xs
    rw [List.length_range]
    simp only [impl_LatestInputs_L4, bdF (show ¬ (due.length : Int) < (xs0.length : Int) by omega)]

/-- no answer is Bottom -/
theorem uval_ne {due h : List Int} {j : Nat} (hj : j < due.length) (hd : ∀ x, x ∈ due → inB x (-1000000) 1000000 = true) (hh : ∀ x, x ∈ h → valB x = true) (hl : h.length = due.length) : -3000000 ≤ uval due h j := by
  have hval : ∀ i, i < due.length → -1000000000000000 ≤ h.getD i 0 ∧ h.getD i 0 ≤ 1000000 := by
    intro i hi
    have := hh (h.getD i 0) (List.mem_of_getElem? (getD_of (by omega)))
    unfold valB at this
    rw [Bool.or_eq_true, beq_iff_eq, inB_true] at this
    omega
  have hdue : ∀ i, i < due.length → -1000000 ≤ due.getD i 0 ∧ due.getD i 0 ≤ 1000000 := fun i hi => inB_true.1 (hd _ (List.mem_of_getElem? (getD_of hi)))
  have hw : ∀ i k, i < due.length → k < due.length → -3000000 ≤ IntKind.i64.wrap (due.getD k 0 - h.getD i 0) := by
    intro i k hi hk
    have h1 := hval i hi; have h2 := hdue k hk
    rw [wr (by omega) (by omega)]; omega
  unfold uval
  have key : ∀ m, m ≤ due.length - j → -3000000 ≤ (List.range m).foldl (ustep due h j) (IntKind.i64.wrap (due.getD j 0 - h.getD 0 0)) := by
    intro m
    induction m with
    | zero => intro _; exact hw 0 j (by omega) hj
    | succ m ih =>
      intro hm
      have := ih (by omega)
      have h2 := hw m (j + m) (by omega) (by omega)
      have step : ∀ acc, -3000000 ≤ acc → -3000000 ≤ ustep due h j acc m := by
        intro acc ha
        unfold ustep
        cases (h.getD m 0 != (-1000000000000000)) with
        | false => exact ha
        | true => simp only [cond_true]; omega
      rw [List.range_succ, List.foldl_append]
      exact step _ this
  exact key _ (Nat.le_refl _)

theorem same_LatestInputs {F : Nat} {x0 : GSystem} {x1 : List Int} (hF : 134217728 ≤ F) (hr : ∀ row, row ∈ x0.A → row.length ≤ 1048576) (hB : x0.B.length ≤ 1048576) (hC : x0.C.length ≤ 1048576) (hD : x1.length ≤ 1048576) :
    ∃ r : List Int × Int, spec_LatestInputs F x0 x1 = some r ∧ impl_LatestInputs F x0 x1 = some r ∧ r.1.length ≤ 1048576 := by
  unfold spec_LatestInputs impl_LatestInputs
  rw [specSystem_is hF hr hB hC, implSystem_is hF hr hB hC]
  cases hs : systemB x0 with
  | false => exact ⟨([], 1), rfl, rfl, by simp⟩
  | true =>
    obtain ⟨a1, a2, a3, a4⟩ := systemB_true hs
    simp only [Option.bind_some, Bool.not_true, cond_false, spec_l24Inputs, specAllFin_is hF hD, implAllWithin_is hF hD, cond_and]
    by_cases hl : x1.length ≤ 50
    · rw [dT (show (x1.length : Int) ≤ 50 by omega), dF (show ¬ (50 : Int) < (x1.length : Int) by omega)]
      simp only [Bool.true_and, cond_false, Option.bind_some]
      cases hd : (x1.all fun x => inB x (-1000000) 1000000) with
      | false => exact ⟨([], 1), rfl, rfl, by simp⟩
      | true =>
        simp only [Bool.not_true, cond_false, specDot_is (F := F) (c := x0.C) (x := x0.B) hF (by omega) (by omega), implDot_is (F := F) (c := x0.C) (x := x0.B) hF (by omega) (by omega), Option.bind_some]
        cases (dotv x0.C x0.B x0.C.length == (-1000000000000000)) with
        | true => exact ⟨([], 5), rfl, rfl, by simp⟩
        | false =>
          have hcl : slices_Clone_int64 F x0.B = some x0.B := by
            unfold slices_Clone_int64
            rw [app_le (by simp only [List.length_nil]; omega)]; rfl
          obtain ⟨o, h1, h2, h3⟩ := resp_loop (F := F) (s := x0) (n := (x1.length : Int)) hF (by omega) a1 a2 a4 x1.length 0 F F [] x0.B x0.B (by omega) (by omega) (by omega) rfl a3 a3 (.inl ⟨rfl, rfl⟩)
          rw [show ((0 : Nat) : Int) = 0 from rfl] at h1 h2
          simp only [cond_false, spec_l24Response, impl_responseOf, hcl, Option.bind_some, h1, h2]
          cases o with
          | none => exact ⟨([], 3), rfl, rfl, by simp⟩
          | some h =>
            obtain ⟨h4, h5⟩ := h3 h rfl
            have h6 := h5 rfl
            have hlen : h.length = x1.length := by omega
            simp only [so, io, Bool.not_true, cond_false, bne_self_eq_false, mk_nat (0 : Int) (show x1.length ≤ 67108864 by omega), Option.bind_some]
            rw [bind_of (spec_rounds (r := (h, true)) hF hl hlen), bind_of (impl_rounds (r := (h, 0)) hF hl hlen (by simp))]
            have hul : (uvals x1 h).length ≤ 1048576 := by unfold uvals; simp; omega
            have hall : ((uvals x1 h).all fun x => inB x (-1000000) 1000000) = (uvals x1 h).all valB := by
              apply Bool.eq_iff_iff.2
              rw [List.all_eq_true, List.all_eq_true]
              constructor
              · intro H x hx
                have := H x hx
                rw [← fin_val, Bool.and_eq_true] at this; exact this.1
              · intro H x hx
                rw [← fin_val, H x hx, Bool.true_and]
                unfold uvals at hx
                rw [List.mem_map] at hx
                obtain ⟨j, hj, rfl⟩ := hx
                have hge := uval_ne (j := j) (due := x1) (h := h) (by simpa using hj) (List.all_eq_true.1 hd) (List.all_eq_true.1 h6) hlen
                cases hb : (uval x1 h j == (-1000000000000000)) with
                | false => rfl
                | true => rw [beq_iff_eq] at hb; omega
            simp only [specAllFin_is hF hul, impl_checkedVector, implAll_is hF hul, hall, Option.bind_some]
            cases (uvals x1 h).all valB with
            | false => exact ⟨([], 3), rfl, rfl, by simp⟩
            | true => exact ⟨(uvals x1 h, 0), rfl, rfl, hul⟩
    · rw [dF (show ¬ (x1.length : Int) ≤ 50 by omega), dT (show (50 : Int) < (x1.length : Int) by omega)]
      exact ⟨([], 1), rfl, rfl, by simp⟩

end Go.Proofs.Ytcpfhonmmpbadaa
