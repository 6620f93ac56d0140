/- The reference and the program answer alike. -/
import Derived.Test.YtpmebacdmilecaaPartOfGraphSmall
namespace Go.Proofs.Ytpmebacdmilecaa

theorem take_set_here {α : Type} {xs : List α} {k : Nat} {x : α} (h : k < xs.length) : (xs.set k x).take (k + 1) = xs.take k ++ [x] := by
  rw [List.take_add_one, set_here h, List.take_set, List.set_eq_of_length_le (by rw [List.length_take]; omega)]; rfl
/-- what is kept of a list -/
theorem delFunc_is {F : Nat} {xs : List GPlace} {m : GPlace → Option Bool} {h : GPlace → Bool} (hF : 134217728 ≤ F) (hl : xs.length ≤ 1048576) (hm : ∀ x, m x = some (h x)) : ∃ full, slices_DeleteFunc_Place F xs m = some (xs.filter (fun x => !h x), full) := by
  unfold slices_DeleteFunc_Place
  rw [bind_of (slices_IndexFunc_Place_is (h := h) hF (by omega) (fun x _ => hm x))]
  cases hf : xs.findIdx? h with
  | none =>
    have hn := List.findIdx?_eq_none_iff.1 hf
    have : xs.filter (fun x => !h x) = xs := List.filter_eq_self.2 fun x hx => by rw [hn x hx]; rfl
    rw [this]
    exact ⟨xs, rfl⟩
  | some i =>
    obtain ⟨hi, h1, h2⟩ := List.findIdx?_eq_some_iff_getElem.1 hf
    have hpre : xs.take i = (xs.take (i + 1)).filter (fun x => !h x) := by
      have hk : (xs.take i).filter (fun x => !h x) = xs.take i := List.filter_eq_self.2 fun x hx => by
        obtain ⟨j, hj, rfl⟩ := List.getElem_of_mem hx
        rw [List.getElem_take]
        rw [List.length_take] at hj
        have := h2 j (by omega)
        cases hh : h xs[j] with
        | false => rfl
        | true => exact absurd hh this
      rw [List.take_add_one, List.getElem?_eq_getElem hi, List.filter_append, hk]
      simp [h1]
    have H := for_ind (fun n (s : List GPlace × Int) i => slices_DeleteFunc_Place_L1 F m n s.1 s.2 i) xs.length
      (fun k s => ∃ w : Nat, s.2 = (w : Int) ∧ w < k ∧ s.1.length = xs.length ∧ s.1.take w = (xs.take k).filter (fun x => !h x) ∧ ∀ j, k ≤ j → s.1[j]? = xs[j]?)
      (fun o => ∃ (c : List GPlace) (w : Nat), o = some (c, (w : Int)) ∧ w ≤ xs.length ∧ c.length = xs.length ∧ c.take w = xs.filter fun x => !h x) ?_ ?_ (xs.length - (i + 1)) (i + 1) (xs, (i : Int)) F (by omega) ⟨i, rfl, by omega, rfl, hpre, fun _ _ => rfl⟩ (by omega)
    · obtain ⟨c, w, e1, e2, e3, e4⟩ := H
      simp only at e1
      have hne : (firstAt (some i) == (-1 : Int)) = false := beq_false_of_ne (by simp only [firstAt]; omega)
      have hw : IntKind.i64.wrap (firstAt (some i) + 1) = ((i + 1 : Nat) : Int) := wrN (by omega)
      have hc : cutFrom c (w : Int) = some (c.drop w) := by unfold cutFrom; rw [if_pos (by omega)]; rfl
      have hc2 : cutTo (clr c (w : Int) (GPlace.mk 0 0 0 0)) (w : Int) = some (xs.filter fun x => !h x) := by
        unfold cutTo
        rw [if_pos (by rw [clr_len]; omega), ← e4]
        unfold clr
        rw [Int.toNat_natCast, List.take_append_of_le_length (by rw [List.length_take]; omega), List.take_take, Nat.min_self]
      rw [bF hne, hw, show firstAt (some i) = (i : Int) from rfl, e1]
      simp only [Option.bind_some, hc, hc2]
      exact ⟨_, rfl⟩
    · rintro n k ⟨c, w0⟩ hk ⟨w, e1, e2, e3, e4, e5⟩
      simp only at e1 e3 e4 e5
      subst e1
      have hx : xs[k]? = some xs[k] := List.getElem?_eq_getElem hk
      have hq : c[k]? = some xs[k] := (e5 k (Nat.le_refl _)).trans hx
      have hwc : c[w]? = some (c[w]'(by omega)) := List.getElem?_eq_getElem _
      have htk : (xs.take (k + 1)).filter (fun x => !h x) = (xs.take k).filter (fun x => !h x) ++ [xs[k]].filter fun x => !h x := by
        rw [List.take_add_one, hx, List.filter_append]; rfl
      cases hd : h xs[k] with
      | false =>
        refine .inl ⟨(c.set w xs[k], ((w + 1 : Nat) : Int)), ?_, w + 1, rfl, by omega, by simp only [List.length_set]; exact e3, ?_, ?_⟩
        · simp only [slices_DeleteFunc_Place_L1, bdT (show (k : Int) < (c.length : Int) by omega), idx_nat, hq, hm, hd, hwc, Option.bind_some, Bool.not_false, cond_true, upd_nat _ (show w < c.length by omega), wrN (show w ≤ 67108864 by omega), wrN (show k ≤ 67108864 by omega)]
        · simp only
          rw [take_set_here (by omega), e4, htk]
          simp [hd]
        · intro j hj
          simp only
          rw [set_keep (by omega)]; exact e5 j (by omega)
      | true =>
        refine .inl ⟨(c, (w : Int)), ?_, w, rfl, by omega, e3, ?_, fun j hj => e5 j (by omega)⟩
        · simp only [slices_DeleteFunc_Place_L1, bdT (show (k : Int) < (c.length : Int) by omega), idx_nat, hq, hm, hd, Option.bind_some, Bool.not_true, cond_false, wrN (show k ≤ 67108864 by omega)]
        · simp only
          rw [e4, htk]
          simp [hd]
    · rintro n ⟨c, w0⟩ ⟨w, e1, e2, e3, e4, e5⟩
      simp only at e1 e3 e4
      subst e1
      rw [List.take_length] at e4
      exact ⟨c, w, by simp only [slices_DeleteFunc_Place_L1, bdF (show ¬ (xs.length : Int) < (c.length : Int) by omega)], by omega, e3, e4⟩
def incP (ev : List Int) : Prop := ∀ k, k + 1 < ev.length → ev.getD k 0 < ev.getD (k + 1) 0
theorem incP_lt {ev : List Int} (h : incP ev) (i : Nat) : ∀ d, i + d + 1 < ev.length → ev.getD i 0 < ev.getD (i + d + 1) 0
  | 0, hd => h i hd
  | d + 1, hd => Int.lt_trans (incP_lt h i d (by omega)) (h (i + d + 1) hd)
theorem incP_ne {ev : List Int} (h : incP ev) {i j : Nat} (hi : i < ev.length) (hj : j < ev.length) (hij : i ≠ j) : ev.getD i 0 ≠ ev.getD j 0 := by
  rcases Nat.lt_or_gt_of_ne hij with h1 | h1
  · have := incP_lt h i (j - i - 1) (by omega)
    rw [show i + (j - i - 1) + 1 = j by omega] at this; omega
  · have := incP_lt h j (i - j - 1) (by omega)
    rw [show j + (i - j - 1) + 1 = i by omega] at this; omega
theorem implInc_is {F : Nat} {ev : List Int} (hF : 134217728 ≤ F) (hl : ev.length ≤ 1048576) (h0 : 1 ≤ ev.length) : ∃ b, impl_increasing F ev = some b ∧ (b = true ↔ incP ev) := by
  by_cases hi : incP ev
  · refine ⟨true, ?_, by simp [hi]⟩
    have H := for_ind (fun n (_ : Unit) i => impl_increasing_L1 F ev n i) ev.length (fun k _ => 1 ≤ k) (fun o => o = some (.inr ())) ?_ ?_ (ev.length - 1) 1 () F (by omega) (Nat.le_refl _) (by omega)
    · unfold impl_increasing
      have H : impl_increasing_L1 F ev F 1 = some (.inr ()) := H
      rw [H]; rfl
    · rintro n k _ hk h1
      obtain ⟨k, rfl⟩ : ∃ q, k = q + 1 := ⟨k - 1, by omega⟩
      refine .inl ⟨(), ?_, by omega⟩
      have := hi k hk
      have hw : IntKind.i64.wrap (((k + 1 : Nat) : Int) - 1) = (k : Int) := by rw [wr (by omega) (by omega)]; omega
      simp only [impl_increasing_L1, bdT (show ((k + 1 : Nat) : Int) < (ev.length : Int) by omega), hw, idx_nat, getD_of (show k < ev.length by omega), getD_of hk, Option.bind_some, bdF (show ¬ ev.getD (k + 1) 0 ≤ ev.getD k 0 by omega), wrN (show k + 1 ≤ 67108864 by omega)]
    · rintro n _ _
      simp only [impl_increasing_L1, bdF (show ¬ (ev.length : Int) < (ev.length : Int) by omega)]
  · refine ⟨false, ?_, by simp [hi]⟩
    have H := for_ind (fun n (_ : Unit) i => impl_increasing_L1 F ev n i) ev.length (fun k _ => 1 ≤ k ∧ ∀ j, j + 1 < k → ev.getD j 0 < ev.getD (j + 1) 0) (fun o => o = some (.inl false)) ?_ ?_ (ev.length - 1) 1 () F (by omega) ⟨Nat.le_refl _, fun j hj => by omega⟩ (by omega)
    · unfold impl_increasing
      have H : impl_increasing_L1 F ev F 1 = some (.inl false) := H
      rw [H]; rfl
    · rintro n k _ hk ⟨h1, h2⟩
      obtain ⟨k, rfl⟩ : ∃ q, k = q + 1 := ⟨k - 1, by omega⟩
      have hw : IntKind.i64.wrap (((k + 1 : Nat) : Int) - 1) = (k : Int) := by rw [wr (by omega) (by omega)]; omega
      by_cases hb : ev.getD (k + 1) 0 ≤ ev.getD k 0
      · refine .inr ?_
        simp only [impl_increasing_L1, bdT (show ((k + 1 : Nat) : Int) < (ev.length : Int) by omega), hw, idx_nat, getD_of (show k < ev.length by omega), getD_of hk, Option.bind_some, bdT hb]
      · refine .inl ⟨(), ?_, by omega, fun j hj => ?_⟩
        · simp only [impl_increasing_L1, bdT (show ((k + 1 : Nat) : Int) < (ev.length : Int) by omega), hw, idx_nat, getD_of (show k < ev.length by omega), getD_of hk, Option.bind_some, bdF hb, wrN (show k + 1 ≤ 67108864 by omega)]
        · by_cases e : j = k
          · subst e; omega
          · exact h2 j (by omega)
    · rintro n _ ⟨_, h2⟩
      exact absurd h2 hi
/-- where an event stands -/
def whr (ev : List Int) (e : Int) : Int := firstAt (ev.findIdx? fun y => e == y)
theorem index_is {F : Nat} {ev : List Int} {e : Int} (hF : 134217728 ≤ F) (hl : ev.length ≤ 1048576) : slices_Index_int64 F ev e = some (whr ev e) := by
  unfold slices_Index_int64
  rw [find_loop (ps := ev) (h := fun y => e == y) (v := fun k => (k : Int)) (L := slices_Index_int64_L1 F ev e) ?_ ?_ (by omega)]
  · unfold whr
    cases ev.findIdx? fun y => e == y <;> rfl
  · intro n k y hk hy
    simp only [slices_Index_int64_L1, bdT (show (k : Int) < (ev.length : Int) by omega), idx_nat, hy, Option.bind_some, wrN (show k ≤ 67108864 by omega)]
  · intro n
    simp only [slices_Index_int64_L1, bdF (show ¬ (ev.length : Int) < (ev.length : Int) by omega)]
theorem whr_at {ev : List Int} (h : incP ev) {i : Nat} (hi : i < ev.length) {e : Int} (he : ev.getD i 0 = e) : whr ev e = (i : Int) := by
  unfold whr
  cases hf : ev.findIdx? fun y => e == y with
  | none =>
    have := List.findIdx?_eq_none_iff.1 hf _ (List.mem_of_getElem? (getD_of hi))
    rw [he, beq_self_eq_true] at this; cases this
  | some j =>
    obtain ⟨hj, h1, _⟩ := List.findIdx?_eq_some_iff_getElem.1 hf
    have h2 : ev.getD j 0 = ev[j] := by rw [List.getD_eq_getElem?_getD, List.getElem?_eq_getElem hj]; rfl
    have h3 : e = ev[j] := by simpa using h1
    by_cases e : j = i
    · subst e; rfl
    · exact absurd (by rw [he, h2, h3]) (incP_ne h hj hi e)
theorem whr_not {ev : List Int} {e : Int} (h : ∀ i, i < ev.length → ev.getD i 0 ≠ e) : whr ev e = -1 := by
  unfold whr
  cases hf : ev.findIdx? fun y => e == y with
  | none => rfl
  | some j =>
    obtain ⟨hj, h1, _⟩ := List.findIdx?_eq_some_iff_getElem.1 hf
    have h2 : ev.getD j 0 = ev[j] := by rw [List.getD_eq_getElem?_getD, List.getElem?_eq_getElem hj]; rfl
    have h3 : e = ev[j] := by simpa using h1
    exact absurd (by rw [h2, h3]) (h j hj)
/-- the table of the reference -/
structure PTab (ev s : List Int) (E k : Nat) : Prop where
  len : s.length = E
  here : ∀ i, i < k → s[(ev.getD i 0).toNat]? = some (i : Int)
  not : ∀ e, e < E → (∀ i, i < k → (ev.getD i 0).toNat ≠ e) → s[e]? = some (-1000000000000000)
def allR (E : Nat) (ev : List Int) : Prop := ∀ x, x ∈ ev → 0 ≤ x ∧ x < (E : Int)
theorem specLoop_good {F E : Nat} {x0 : GEventGraph} {ev : List Int} (hF : 134217728 ≤ F) (hl : ev.length ≤ 1048576) (hE : x0.Events = (E : Int)) (hE1 : 1 ≤ E) (hE2 : E ≤ 10) (ha : allR E ev) (hi : incP ev) :
    ∃ s, spec_PartOfGraph_L1 F x0 ev F (List.replicate E (-1000000000000000)) 0 = some (.inr s) ∧ PTab ev s E ev.length := by
  refine for0 (L := spec_PartOfGraph_L1 F x0 ev) (len := ev.length) (fun k s => PTab ev s E k) (R := fun o => ∃ s, o = some (.inr s) ∧ PTab ev s E ev.length) ?_ ?_ ⟨by simp, fun i hi => by omega, fun e he _ => by rw [List.getElem?_replicate, if_pos he]⟩ (by omega)
  · rintro n k s hk ⟨h1, h2, h3⟩
    have hx := getD_of hk
    obtain ⟨a0, a1⟩ := ha _ (List.mem_of_getElem? hx)
    have hwE : IntKind.i64.wrap (x0.Events - 1) = (E : Int) - 1 := by rw [hE, wr (by omega) (by omega)]
    have hin : inB (ev.getD k 0) 0 ((E : Int) - 1) = true := inB_true.2 ⟨a0, by omega⟩
    have hidx : idx s (ev.getD k 0) = some (s.getD (ev.getD k 0).toNat 0) := getI a0 (by omega)
    have hupd : upd s (ev.getD k 0) (k : Int) = some (s.set (ev.getD k 0).toNat (k : Int)) := upd_int _ a0 (by omega)
    have hcond : (bif decide (0 < (k : Int)) then (idx ev (k : Int)).bind fun q162 => (idx ev (IntKind.i64.wrap ((k : Int) - 1))).bind fun q164 => some (decide (q162 ≤ q164)) else some false) = some false := by
      by_cases hk0 : 0 < k
      · obtain ⟨k, rfl⟩ : ∃ q, k = q + 1 := ⟨k - 1, by omega⟩
        have hw : IntKind.i64.wrap (((k + 1 : Nat) : Int) - 1) = (k : Int) := by rw [wr (by omega) (by omega)]; omega
        have := hi k hk
        rw [bdT (by omega), hw, idx_nat, idx_nat, hx, getD_of (show k < ev.length by omega), Option.bind_some, Option.bind_some, dF (by omega)]
      · rw [bdF (by omega)]
    refine .inl ⟨s.set (ev.getD k 0).toNat (k : Int), ?_, ⟨by rw [List.length_set]; exact h1, fun i hi' => ?_, fun e he hn => ?_⟩⟩
    · simp only [spec_PartOfGraph_L1, bdT (show (k : Int) < (ev.length : Int) by omega)]
      rw [hcond]
      simp only [idx_nat, hx, Option.bind_some, specIn_is, hwE, hin, Bool.not_true, cond_false, hidx, hupd, wrN (show k ≤ 67108864 by omega)]
    · by_cases e : i = k
      · subst e; exact set_here (by omega)
      · have hne := incP_ne hi (show i < ev.length by omega) hk e
        have hxi := ha _ (List.mem_of_getElem? (getD_of (show i < ev.length by omega)))
        rw [set_keep (by omega)]; exact h2 i (by omega)
    · have := hn k (by omega)
      rw [set_keep (Ne.symm this)]; exact h3 e he fun i hi' => hn i (by omega)
  · rintro n s h
    exact ⟨s, by simp only [spec_PartOfGraph_L1, bdF (show ¬ (ev.length : Int) < (ev.length : Int) by omega)], h⟩
theorem specLoop_bad {F E : Nat} {x0 : GEventGraph} {ev : List Int} (hF : 134217728 ≤ F) (hl : ev.length ≤ 1048576) (hE : x0.Events = (E : Int)) (hE1 : 1 ≤ E) (hE2 : E ≤ 10) (hbad : ¬ (allR E ev ∧ incP ev)) :
    spec_PartOfGraph_L1 F x0 ev F (List.replicate E (-1000000000000000)) 0 = some (.inl (⟨0, []⟩, 2)) := by
  refine for0 (L := spec_PartOfGraph_L1 F x0 ev) (len := ev.length) (fun k s => s.length = E ∧ (∀ i, i < k → 0 ≤ ev.getD i 0 ∧ ev.getD i 0 < (E : Int)) ∧ ∀ i, i + 1 < k → ev.getD i 0 < ev.getD (i + 1) 0) (R := fun o => o = some (.inl (⟨0, []⟩, 2))) ?_ ?_ ⟨by simp, fun i hi => by omega, fun i hi => by omega⟩ (by omega)
  · rintro n k s hk ⟨h1, h2, h3⟩
    have hx := getD_of hk
    have hwE : IntKind.i64.wrap (x0.Events - 1) = (E : Int) - 1 := by rw [hE, wr (by omega) (by omega)]
    by_cases hr : 0 ≤ ev.getD k 0 ∧ ev.getD k 0 < (E : Int)
    · have hin : inB (ev.getD k 0) 0 ((E : Int) - 1) = true := inB_true.2 ⟨hr.1, by omega⟩
      have hidx : idx s (ev.getD k 0) = some (s.getD (ev.getD k 0).toNat 0) := getI hr.1 (by omega)
      have hupd : upd s (ev.getD k 0) (k : Int) = some (s.set (ev.getD k 0).toNat (k : Int)) := upd_int _ hr.1 (by omega)
      by_cases hb : 0 < k ∧ ev.getD k 0 ≤ ev.getD (k - 1) 0
      · refine .inr ?_
        have hcond : (bif decide (0 < (k : Int)) then (idx ev (k : Int)).bind fun q162 => (idx ev (IntKind.i64.wrap ((k : Int) - 1))).bind fun q164 => some (decide (q162 ≤ q164)) else some false) = some true := by
          obtain ⟨hk0, hb⟩ := hb
          obtain ⟨k, rfl⟩ : ∃ q, k = q + 1 := ⟨k - 1, by omega⟩
          have hw : IntKind.i64.wrap (((k + 1 : Nat) : Int) - 1) = (k : Int) := by rw [wr (by omega) (by omega)]; omega
          rw [bdT (by omega), hw, idx_nat, idx_nat, hx, getD_of (show k < ev.length by omega), Option.bind_some, Option.bind_some, dT (show ev.getD (k + 1) 0 ≤ ev.getD k 0 from hb)]
        simp only [spec_PartOfGraph_L1, bdT (show (k : Int) < (ev.length : Int) by omega)]
        rw [hcond]
        simp only [idx_nat, hx, Option.bind_some, specIn_is, hwE, hin, Bool.not_true, cond_false, cond_true]
      · have hcond : (bif decide (0 < (k : Int)) then (idx ev (k : Int)).bind fun q162 => (idx ev (IntKind.i64.wrap ((k : Int) - 1))).bind fun q164 => some (decide (q162 ≤ q164)) else some false) = some false := by
          by_cases hk0 : 0 < k
          · obtain ⟨k, rfl⟩ : ∃ q, k = q + 1 := ⟨k - 1, by omega⟩
            have hw : IntKind.i64.wrap (((k + 1 : Nat) : Int) - 1) = (k : Int) := by rw [wr (by omega) (by omega)]; omega
            rw [Nat.add_sub_cancel] at hb
            rw [bdT (by omega), hw, idx_nat, idx_nat, hx, getD_of (show k < ev.length by omega), Option.bind_some, Option.bind_some, dF (by omega)]
          · rw [bdF (by omega)]
        refine .inl ⟨s.set (ev.getD k 0).toNat (k : Int), ?_, by rw [List.length_set]; exact h1, fun i hi' => ?_, fun i hi' => ?_⟩
        · simp only [spec_PartOfGraph_L1, bdT (show (k : Int) < (ev.length : Int) by omega)]
          rw [hcond]
          simp only [idx_nat, hx, Option.bind_some, specIn_is, hwE, hin, Bool.not_true, cond_false, hidx, hupd, wrN (show k ≤ 67108864 by omega)]
        · by_cases e : i = k
          · subst e; exact hr
          · exact h2 i (by omega)
        · by_cases e : i + 1 = k
          · subst e; rw [Nat.add_sub_cancel] at hb; omega
          · exact h3 i (by omega)
    · refine .inr ?_
      have hin : inB (ev.getD k 0) 0 ((E : Int) - 1) = false := inB_false (by omega)
      simp only [spec_PartOfGraph_L1, bdT (show (k : Int) < (ev.length : Int) by omega), idx_nat, hx, Option.bind_some, specIn_is, hwE, hin, Bool.not_false, cond_true]
  · rintro n s ⟨_, h2, h3⟩
    refine absurd ⟨fun x hx => ?_, h3⟩ hbad
    obtain ⟨i, hi, rfl⟩ := List.getElem_of_mem hx
    have := h2 i hi
    rw [List.getD_eq_getElem?_getD, List.getElem?_eq_getElem hi] at this
    exact this
def relW (ev : List Int) (q : GPlace) : GPlace := ⟨whr ev q.From, whr ev q.To, q.Delay, q.Tokens⟩
def keepW (ev : List Int) (q : GPlace) : List GPlace := if 0 ≤ whr ev q.From ∧ 0 ≤ whr ev q.To then [relW ev q] else []
theorem filter_keep (ev : List Int) : ∀ ps : List GPlace, (ps.map (relW ev)).filter (fun x => !(decide (x.From < 0) || decide (x.To < 0))) = ps.flatMap (keepW ev)
  | [] => rfl
  | q :: ps => by
    rw [List.map_cons, List.flatMap_cons, List.filter_cons, filter_keep ev ps]
    unfold keepW
    by_cases h : 0 ≤ whr ev q.From ∧ 0 ≤ whr ev q.To
    · have e : (!(decide ((relW ev q).From < 0) || decide ((relW ev q).To < 0))) = true := by
        rw [dF (show ¬ (relW ev q).From < 0 by simp only [relW]; omega), dF (show ¬ (relW ev q).To < 0 by simp only [relW]; omega)]; rfl
      rw [if_pos e, if_pos h]; rfl
    · have e : ¬ (!(decide ((relW ev q).From < 0) || decide ((relW ev q).To < 0))) = true := by
        intro hh
        rw [Bool.not_eq_true', Bool.or_eq_false_iff, decide_eq_false_iff_not, decide_eq_false_iff_not] at hh
        simp only [relW] at hh
        omega
      rw [if_neg e, if_neg h]; rfl

theorem same_PartOfGraph {F : Nat} {x0 : GEventGraph} {x1 : List Int} (hF : 134217728 ≤ F) (h0 : x0.Places.length ≤ 1048576) (h1 : x1.length ≤ 1048576) :
    ∃ r : GEventGraph × Int, spec_PartOfGraph F x0 x1 = some r ∧ impl_PartOfGraph F x0 x1 = some r ∧ r.1.Places.length ≤ 1048576 := by
  unfold spec_PartOfGraph impl_PartOfGraph
  rw [bind_of (specGraph_is hF h0), bind_of (implGraph_is hF h0)]
  cases hg : graphB x0 with
  | false => exact ⟨(⟨0, []⟩, 1), rfl, rfl, by simp⟩
  | true =>
    obtain ⟨g1, g2, g3, gw, g5⟩ := graphB_true hg
    obtain ⟨E, hE⟩ : ∃ E : Nat, x0.Events = (E : Int) := ⟨x0.Events.toNat, by omega⟩
    have hbot : spec_l02Bottom F 1 x0.Events = some (tabM 1 E fun _ _ => (-1000000000000000)) := by
      rw [hE]; exact specBotM_is (m := 1) hF (by omega) (by omega)
    have hrow : idx (tabM 1 E fun _ _ => (-1000000000000000 : Int)) 0 = some (List.replicate E (-1000000000000000)) := by
      rw [show (0 : Int) = ((0 : Nat) : Int) from rfl, idx_nat, tabM_row (by omega)]
      refine congrArg some (row_of (by simp) fun j hj => ?_).symm
      rw [List.getElem?_replicate, if_pos hj]
    simp only [Bool.not_true, cond_false, hbot, hrow, Option.bind_some, implAllWithin_is hF h1]
    by_cases hgood : allR E x1 ∧ incP x1
    · obtain ⟨s, hs, hP⟩ := specLoop_good (F := F) hF h1 hE (by omega) (by omega) hgood.1 hgood.2
      rw [hs]
      simp only [Option.bind_some]
      have hall : (x1.all fun x => inB x 0 (IntKind.i64.wrap (x0.Events - 1))) = true := List.all_eq_true.2 fun x hx => by
        have := hgood.1 x hx
        rw [gw]; exact inB_true.2 ⟨this.1, by omega⟩
      cases hl : ((x1.length : Int) == 0) with
      | true => exact ⟨(⟨0, []⟩, 2), rfl, rfl, by simp⟩
      | false =>
        have hl0 : 1 ≤ x1.length := by
          have : (x1.length : Int) ≠ 0 := by simpa using hl
          omega
        obtain ⟨b, hb, hbi⟩ := implInc_is hF h1 hl0
        rw [hb, hbi.2 hgood.2, hall]
        simp only [Bool.not_true, cond_false, Option.bind_some]
        have hval : ∀ e : Int, 0 ≤ e → e < (E : Int) → ∃ v, idx s e = some v ∧ ((0 ≤ v ∧ v = whr x1 e) ∨ (v < 0 ∧ whr x1 e < 0)) := by
          intro e e0 e1
          have hge := getI (xs := s) e0 (by rw [hP.len]; exact e1)
          refine ⟨_, hge, ?_⟩
          by_cases hh : ∃ i, i < x1.length ∧ (x1.getD i 0).toNat = e.toNat
          · obtain ⟨i, hi, he⟩ := hh
            have hxi := hgood.1 _ (List.mem_of_getElem? (getD_of hi))
            have he' : x1.getD i 0 = e := by omega
            have hv := hP.here i hi
            rw [he] at hv
            rw [List.getD_eq_getElem?_getD, hv, whr_at hgood.2 hi he', Option.getD_some]
            exact .inl ⟨by omega, rfl⟩
          · have hv := hP.not e.toNat (by omega) fun i hi he => hh ⟨i, hi, he⟩
            rw [List.getD_eq_getElem?_getD, hv, whr_not (fun i hi he => hh ⟨i, hi, by rw [he]⟩), Option.getD_some]
            exact .inr ⟨by decide, by decide⟩
        have S : spec_l19Map F x0 (x1.length : Int) s = some ⟨(x1.length : Int), x0.Places.flatMap (keepW x1)⟩ := by
          unfold spec_l19Map
          rw [grow_loop (ps := x0.Places) (g := keepW x1) (L := spec_l19Map_L1 F x0 s) ?_ ?_ ?_ (by omega)]
          · rfl
          · intro q; unfold keepW; split <;> simp
          · intro n xs k q hk hq hx
            have hq5 := g5 q (List.mem_of_getElem? hq)
            obtain ⟨v1, i1, c1⟩ := hval q.From hq5.1 (by omega)
            obtain ⟨v2, i2, c2⟩ := hval q.To hq5.2.2.1 (by omega)
            have happ : app xs [relW x1 q] = some (xs ++ [relW x1 q]) := app_le (by simp only [List.length_singleton]; omega)
            simp only [spec_l19Map_L1, bdT (show (k : Int) < (x0.Places.length : Int) by omega), idx_nat, hq, Option.bind_some, i1, i2, wrN (show k ≤ 67108864 by omega)]
            rcases c1 with ⟨p1, rfl⟩ | ⟨p1, w1⟩
            · rcases c2 with ⟨p2, rfl⟩ | ⟨p2, w2⟩
              · rw [bdT p1, dT p2, Option.bind_some, cond_true, show (GPlace.mk (whr x1 q.From) (whr x1 q.To) q.Delay q.Tokens) = relW x1 q from rfl, happ, Option.bind_some]
                unfold keepW; rw [if_pos ⟨p1, p2⟩]
              · rw [bdT p1, dF (show ¬ 0 ≤ v2 by omega), Option.bind_some, cond_false]
                unfold keepW; rw [if_neg (by omega), List.append_nil]
            · rw [bdF (show ¬ 0 ≤ v1 by omega), Option.bind_some, cond_false]
              unfold keepW; rw [if_neg (by omega), List.append_nil]
          · intro n xs
            simp only [spec_l19Map_L1, bdF (show ¬ (x0.Places.length : Int) < (x0.Places.length : Int) by omega)]
        have I : impl_mappedGraph F x0 (x1.length : Int) (fun y => impl_PartOfGraph_c1 F y x1) = some ⟨(x1.length : Int), x0.Places.map (relW x1)⟩ := by
          unfold impl_mappedGraph
          rw [grow_loop (ps := x0.Places) (g := fun q => [relW x1 q]) (L := impl_mappedGraph_L1 F x0 (fun y => impl_PartOfGraph_c1 F y x1)) (by simp) ?_ ?_ (by omega)]
          · rw [Option.bind_some, flatMap_one]
          · intro n xs k q hk hq hx
            have happ : app xs [relW x1 q] = some (xs ++ [relW x1 q]) := app_le (by simp only [List.length_singleton]; omega)
            simp only [impl_mappedGraph_L1, impl_PartOfGraph_c1, bdT (show (k : Int) < (x0.Places.length : Int) by omega), idx_nat, hq, Option.bind_some, index_is hF h1, wrN (show k ≤ 67108864 by omega)]
            rw [show (GPlace.mk (whr x1 q.From) (whr x1 q.To) q.Delay q.Tokens) = relW x1 q from rfl, happ]; rfl
          · intro n xs
            simp only [impl_mappedGraph_L1, bdF (show ¬ (x0.Places.length : Int) < (x0.Places.length : Int) by omega)]
        obtain ⟨full, hdel⟩ := delFunc_is (F := F) (xs := x0.Places.map (relW x1)) (m := fun y => impl_PartOfGraph_c2 F y) (h := fun x => decide (x.From < 0) || decide (x.To < 0)) hF (by rw [List.length_map]; exact h0) (fun x => by simp only [impl_PartOfGraph_c2, cond_or, Option.bind_some])
        rw [filter_keep] at hdel
        rw [S, I]
        simp only [Option.bind_some, hdel]
        refine ⟨(⟨(x1.length : Int), x0.Places.flatMap (keepW x1)⟩, 0), rfl, rfl, ?_⟩
        rw [← filter_keep]
        exact Nat.le_trans (List.length_filter_le _ _) (by rw [List.length_map]; omega)
    · rw [specLoop_bad (F := F) hF h1 hE (by omega) (by omega) hgood]
      refine ⟨(⟨0, []⟩, 2), rfl, ?_, by simp⟩
      cases hl : ((x1.length : Int) == 0) with
      | true => rfl
      | false =>
        have hl0 : 1 ≤ x1.length := by
          have : (x1.length : Int) ≠ 0 := by simpa using hl
          omega
        obtain ⟨b, hb, hbi⟩ := implInc_is hF h1 hl0
        cases hall : (x1.all fun x => inB x 0 (IntKind.i64.wrap (x0.Events - 1))) with
        | false => rfl
        | true =>
          have ha : allR E x1 := fun x hx => by
            have := List.all_eq_true.1 hall x hx
            rw [gw] at this
            have := inB_true.1 this
            omega
          have : b = false := by
            cases b with
            | false => rfl
            | true => exact absurd ⟨ha, hbi.1 rfl⟩ hgood
          rw [hb, this]; rfl

end Go.Proofs.Ytpmebacdmilecaa
