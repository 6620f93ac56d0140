/- The law's model answers true. -/
import Derived.Test.YtgkgimglgjfcjaaJoinedSmall
namespace Go.Proofs.Ytgkgimglgjfcjaa

theorem specResult_is {F : Nat} {g : GEventGraph} (hF : 134217728 ≤ F) (hl : g.Places.length ≤ 1048576) : spec_l19Result F g = some (bif graphB g then (g, 0) else (⟨0, []⟩, 3)) := by
  unfold spec_l19Result
  rw [bind_of (specGraph_is hF hl)]
  cases graphB g <;> rfl
theorem implResult_is {F : Nat} {g : GEventGraph} (hF : 134217728 ≤ F) (hl : g.Places.length ≤ 1048576) : impl_checkedGraph F g = some (bif graphB g then (g, 0) else (⟨0, []⟩, 3)) := by
  unfold impl_checkedGraph
  rw [bind_of (implGraph_is hF hl)]
  cases graphB g <;> rfl

/-- what becomes of an event -/
def merged (a b e : Int) : Int := if e = b then a else if b < e then e - 1 else e
def mergedPlace (a b : Int) (p : GPlace) : GPlace := ⟨merged a b p.From, merged a b p.To, p.Delay, p.Tokens⟩
def mergedGraph (a b : Int) (g : GEventGraph) : GEventGraph := ⟨g.Events - 1, g.Places.map (mergedPlace a b)⟩

theorem implMerge_is {F : Nat} {a b : Int} {g : GEventGraph} (hF : 134217728 ≤ F) (hl : g.Places.length ≤ 1048576) (hp : ∀ p, p ∈ g.Places → 0 ≤ p.From ∧ p.From < 10 ∧ 0 ≤ p.To ∧ p.To < 10) (n : Int) :
    impl_mappedGraph F g n (fun x0 => impl_MergeEvents_c1 F x0 b a) = some ⟨n, g.Places.map (mergedPlace a b)⟩ := by
  have one : ∀ e : Int, 0 ≤ e → e < 10 → impl_MergeEvents_c1 F e b a = some (merged a b e) := by
    intro e h0 h1
    unfold impl_MergeEvents_c1 merged
    by_cases h : e = b
    · rw [if_pos h, bT (by simp [h])]
    · rw [if_neg h, bF (by simp [h])]
      by_cases h2 : b < e
      · rw [if_pos h2, bdT h2, wr (by omega) (by omega)]
      · rw [if_neg h2, bdF h2]
  unfold impl_mappedGraph
  rw [grow_loop (ps := g.Places) (g := fun p => [mergedPlace a b p]) (L := impl_mappedGraph_L1 F g (fun x0 => impl_MergeEvents_c1 F x0 b a)) (by simp) ?_ ?_ (by omega)]
  · rw [Option.bind_some, flatMap_one]
  · intro n xs k x hk hx hxl
    have hm := hp x (List.mem_of_getElem? hx)
    simp only [impl_mappedGraph_L1, bdT (show (k : Int) < (g.Places.length : Int) by omega), idx_nat, hx, Option.bind_some, one _ hm.1 hm.2.1, one _ hm.2.2.1 hm.2.2.2, app_le (show xs.length + [(⟨merged a b x.From, merged a b x.To, x.Delay, x.Tokens⟩ : GPlace)].length ≤ 67108864 by simp only [List.length_singleton]; omega), wrN (show k ≤ 67108864 by omega), mergedPlace]
  · intro n xs
    simp only [impl_mappedGraph_L1, bdF (show ¬ (g.Places.length : Int) < (g.Places.length : Int) by omega)]

theorem specMTable_is {F : Nat} {a b : Int} {g : GEventGraph} (hF : 134217728 ≤ F) (h1 : 1 ≤ g.Events) (h2 : g.Events ≤ 10) :
    spec_MergeEvents_L1 F g a b F [] 0 = some ((List.range g.Events.toNat).map fun (i : Nat) => merged a b (i : Int)) := by
  refine tab_loop (len := g.Events.toNat) (f := fun (i : Nat) => merged a b (i : Int)) (L := spec_MergeEvents_L1 F g a b) ?_ ?_ (by omega)
  · intro n xs k hk hx
    have hlt : (k : Int) < g.Events := by omega
    unfold merged
    by_cases h : (k : Int) = b
    · simp only [spec_MergeEvents_L1, bdT hlt, if_pos h, bT (show ((k : Int) == b) = true by simp [h]), app_le (show xs.length + [a].length ≤ 67108864 by simp only [List.length_singleton]; omega), Option.bind_some, wrN (show k ≤ 67108864 by omega)]
    · have hb : ((k : Int) == b) = false := by simp [h]
      by_cases h2 : b < (k : Int)
      · simp only [spec_MergeEvents_L1, bdT hlt, if_neg h, bF hb, if_pos h2, bdT h2, wr (show -9223372036854775808 ≤ (k : Int) - 1 by omega) (by omega), app_le (show xs.length + [(k : Int) - 1].length ≤ 67108864 by simp only [List.length_singleton]; omega), Option.bind_some, wrN (show k ≤ 67108864 by omega)]
      · simp only [spec_MergeEvents_L1, bdT hlt, if_neg h, bF hb, if_neg h2, bdF h2, app_le (show xs.length + [(k : Int)].length ≤ 67108864 by simp only [List.length_singleton]; omega), Option.bind_some, wrN (show k ≤ 67108864 by omega)]
  · intro n xs hx
    simp only [spec_MergeEvents_L1, bdF (show ¬ ((g.Events.toNat : Nat) : Int) < g.Events by omega)]

theorem table_at {n : Nat} {f : Nat → Int} {i : Int} (h0 : 0 ≤ i) (h1 : i < n) : idx ((List.range n).map f) i = some (f i.toNat) := by
  unfold idx; rw [if_pos h0, List.getElem?_map, List.getElem?_range (by omega)]; rfl

theorem specMap_is {F : Nat} {a b : Int} {g : GEventGraph} (hF : 134217728 ≤ F) (hl : g.Places.length ≤ 1048576) (h1 : 1 ≤ g.Events) (h2 : g.Events ≤ 10) (ha : 0 ≤ a) (hab : a < b) (_ : b < g.Events) (hp : ∀ p, p ∈ g.Places → 0 ≤ p.From ∧ p.From < g.Events ∧ 0 ≤ p.To ∧ p.To < g.Events) (n : Int) :
    spec_l19Map F g n ((List.range g.Events.toNat).map fun (i : Nat) => merged a b (i : Int)) = some ⟨n, g.Places.map (mergedPlace a b)⟩ := by
  have at_ : ∀ e : Int, 0 ≤ e → e < g.Events → idx ((List.range g.Events.toNat).map fun (i : Nat) => merged a b (i : Int)) e = some (merged a b e) ∧ 0 ≤ merged a b e := by
    intro e h0 h1
    refine ⟨?_, by unfold merged; split <;> (try split) <;> omega⟩
    rw [table_at h0 (by omega)]
    rw [show ((e.toNat : Nat) : Int) = e by omega]
  unfold spec_l19Map
  rw [grow_loop (ps := g.Places) (g := fun p => [mergedPlace a b p]) (L := spec_l19Map_L1 F g ((List.range g.Events.toNat).map fun (i : Nat) => merged a b (i : Int))) (by simp) ?_ ?_ (by omega)]
  · rw [Option.bind_some, flatMap_one]
  · intro n xs k x hk hx hxl
    have hm := hp x (List.mem_of_getElem? hx)
    have e1 := at_ _ hm.1 hm.2.1
    have e2 := at_ _ hm.2.2.1 hm.2.2.2
    simp only [spec_l19Map_L1, bdT (show (k : Int) < (g.Places.length : Int) by omega), idx_nat, hx, Option.bind_some, e1.1, e2.1, bdT e1.2, dT e2.2, cond_true, app_le (show xs.length + [(⟨merged a b x.From, merged a b x.To, x.Delay, x.Tokens⟩ : GPlace)].length ≤ 67108864 by simp only [List.length_singleton]; omega), wrN (show k ≤ 67108864 by omega), mergedPlace]
  · intro n xs
    simp only [spec_l19Map_L1, bdF (show ¬ (g.Places.length : Int) < (g.Places.length : Int) by omega)]

theorem take_set_here {α : Type} {xs : List α} {k : Nat} {x : α} (h : k < xs.length) : (xs.set k x).take (k + 1) = xs.take k ++ [x] := by
  rw [List.take_add_one, set_here h, List.take_set, List.set_eq_of_length_le (by rw [List.length_take]; omega)]; rfl
/-- what is kept of a list -/
theorem delFunc_is {F : Nat} {xs : List GPlace} {m : GPlace → Option Bool} {h : GPlace → Bool} (hF : 134217728 ≤ F) (hl : xs.length ≤ 1048576) (hm : ∀ x, m x = some (h x)) : ∃ full, slices_DeleteFunc_Place F xs m = some (xs.filter (fun x => !h x), full) := by
  unfold slices_DeleteFunc_Place
  rw [bind_of (slices_IndexFunc_Place_is (h := h) hF (by omega) (fun x _ => hm x))]
  cases hf : xs.findIdx? h with
  | none =>
    have hn := List.findIdx?_eq_none_iff.1 hf
    have : xs.filter (fun x => !h x) = xs := List.filter_eq_self.2 fun x hx => by rw [hn x hx]; rfl
    rw [this]
    exact ⟨xs, rfl⟩
  | some i =>
    obtain ⟨hi, h1, h2⟩ := List.findIdx?_eq_some_iff_getElem.1 hf
    have hpre : xs.take i = (xs.take (i + 1)).filter (fun x => !h x) := by
      have hk : (xs.take i).filter (fun x => !h x) = xs.take i := List.filter_eq_self.2 fun x hx => by
        obtain ⟨j, hj, rfl⟩ := List.getElem_of_mem hx
        rw [List.getElem_take]
        rw [List.length_take] at hj
        have := h2 j (by omega)
        cases hh : h xs[j] with
        | false => rfl
        | true => exact absurd hh this
      rw [List.take_add_one, List.getElem?_eq_getElem hi, List.filter_append, hk]
      simp [h1]
    have H := for_ind (fun n (s : List GPlace × Int) i => slices_DeleteFunc_Place_L1 F m n s.1 s.2 i) xs.length
      (fun k s => ∃ w : Nat, s.2 = (w : Int) ∧ w < k ∧ s.1.length = xs.length ∧ s.1.take w = (xs.take k).filter (fun x => !h x) ∧ ∀ j, k ≤ j → s.1[j]? = xs[j]?)
      (fun o => ∃ (c : List GPlace) (w : Nat), o = some (c, (w : Int)) ∧ w ≤ xs.length ∧ c.length = xs.length ∧ c.take w = xs.filter fun x => !h x) ?_ ?_ (xs.length - (i + 1)) (i + 1) (xs, (i : Int)) F (by omega) ⟨i, rfl, by omega, rfl, hpre, fun _ _ => rfl⟩ (by omega)
    · obtain ⟨c, w, e1, e2, e3, e4⟩ := H
      simp only at e1
      have hne : (firstAt (some i) == (-1 : Int)) = false := beq_false_of_ne (by simp only [firstAt]; omega)
      have hw : IntKind.i64.wrap (firstAt (some i) + 1) = ((i + 1 : Nat) : Int) := wrN (by omega)
      have hc : cutFrom c (w : Int) = some (c.drop w) := by unfold cutFrom; rw [if_pos (by omega)]; rfl
      have hc2 : cutTo (clr c (w : Int) (GPlace.mk 0 0 0 0)) (w : Int) = some (xs.filter fun x => !h x) := by
        unfold cutTo
        rw [if_pos (by rw [clr_len]; omega), ← e4]
        unfold clr
        rw [Int.toNat_natCast, List.take_append_of_le_length (by rw [List.length_take]; omega), List.take_take, Nat.min_self]
      rw [bF hne, hw, show firstAt (some i) = (i : Int) from rfl, e1]
      simp only [Option.bind_some, hc, hc2]
      exact ⟨_, rfl⟩
    · rintro n k ⟨c, w0⟩ hk ⟨w, e1, e2, e3, e4, e5⟩
      simp only at e1 e3 e4 e5
      subst e1
      have hx : xs[k]? = some xs[k] := List.getElem?_eq_getElem hk
      have hq : c[k]? = some xs[k] := (e5 k (Nat.le_refl _)).trans hx
      have hwc : c[w]? = some (c[w]'(by omega)) := List.getElem?_eq_getElem _
      have htk : (xs.take (k + 1)).filter (fun x => !h x) = (xs.take k).filter (fun x => !h x) ++ [xs[k]].filter fun x => !h x := by
        rw [List.take_add_one, hx, List.filter_append]; rfl
      cases hd : h xs[k] with
      | false =>
        refine .inl ⟨(c.set w xs[k], ((w + 1 : Nat) : Int)), ?_, w + 1, rfl, by omega, by simp only [List.length_set]; exact e3, ?_, ?_⟩
        · simp only [slices_DeleteFunc_Place_L1, bdT (show (k : Int) < (c.length : Int) by omega), idx_nat, hq, hm, hd, hwc, Option.bind_some, Bool.not_false, cond_true, upd_nat _ (show w < c.length by omega), wrN (show w ≤ 67108864 by omega), wrN (show k ≤ 67108864 by omega)]
        · simp only
          rw [take_set_here (by omega), e4, htk]
          simp [hd]
        · intro j hj
          simp only
          rw [set_keep (by omega)]; exact e5 j (by omega)
      | true =>
        refine .inl ⟨(c, (w : Int)), ?_, w, rfl, by omega, e3, ?_, fun j hj => e5 j (by omega)⟩
        · simp only [slices_DeleteFunc_Place_L1, bdT (show (k : Int) < (c.length : Int) by omega), idx_nat, hq, hm, hd, Option.bind_some, Bool.not_true, cond_false, wrN (show k ≤ 67108864 by omega)]
        · simp only
          rw [e4, htk]
          simp [hd]
    · rintro n ⟨c, w0⟩ ⟨w, e1, e2, e3, e4, e5⟩
      simp only at e1 e3 e4
      subst e1
      rw [List.take_length] at e4
      exact ⟨c, w, by simp only [slices_DeleteFunc_Place_L1, bdF (show ¬ (xs.length : Int) < (c.length : Int) by omega)], by omega, e3, e4⟩
def incP (ev : List Int) : Prop := ∀ k, k + 1 < ev.length → ev.getD k 0 < ev.getD (k + 1) 0
theorem incP_lt {ev : List Int} (h : incP ev) (i : Nat) : ∀ d, i + d + 1 < ev.length → ev.getD i 0 < ev.getD (i + d + 1) 0
  | 0, hd => h i hd
  | d + 1, hd => Int.lt_trans (incP_lt h i d (by omega)) (h (i + d + 1) hd)
theorem incP_ne {ev : List Int} (h : incP ev) {i j : Nat} (hi : i < ev.length) (hj : j < ev.length) (hij : i ≠ j) : ev.getD i 0 ≠ ev.getD j 0 := by
  rcases Nat.lt_or_gt_of_ne hij with h1 | h1
  · have := incP_lt h i (j - i - 1) (by omega)
    rw [show i + (j - i - 1) + 1 = j by omega] at this; omega
  · have := incP_lt h j (i - j - 1) (by omega)
    rw [show j + (i - j - 1) + 1 = i by omega] at this; omega
theorem implInc_is {F : Nat} {ev : List Int} (hF : 134217728 ≤ F) (hl : ev.length ≤ 1048576) (h0 : 1 ≤ ev.length) : ∃ b, impl_increasing F ev = some b ∧ (b = true ↔ incP ev) := by
  by_cases hi : incP ev
  · refine ⟨true, ?_, by simp [hi]⟩
    have H := for_ind (fun n (_ : Unit) i => impl_increasing_L1 F ev n i) ev.length (fun k _ => 1 ≤ k) (fun o => o = some (.inr ())) ?_ ?_ (ev.length - 1) 1 () F (by omega) (Nat.le_refl _) (by omega)
    · unfold impl_increasing
      have H : impl_increasing_L1 F ev F 1 = some (.inr ()) := H
      rw [H]; rfl
    · rintro n k _ hk h1
      obtain ⟨k, rfl⟩ : ∃ q, k = q + 1 := ⟨k - 1, by omega⟩
      refine .inl ⟨(), ?_, by omega⟩
      have := hi k hk
      have hw : IntKind.i64.wrap (((k + 1 : Nat) : Int) - 1) = (k : Int) := by rw [wr (by omega) (by omega)]; omega
      simp only [impl_increasing_L1, bdT (show ((k + 1 : Nat) : Int) < (ev.length : Int) by omega), hw, idx_nat, getD_of (show k < ev.length by omega), getD_of hk, Option.bind_some, bdF (show ¬ ev.getD (k + 1) 0 ≤ ev.getD k 0 by omega), wrN (show k + 1 ≤ 67108864 by omega)]
    · rintro n _ _
      simp only [impl_increasing_L1, bdF (show ¬ (ev.length : Int) < (ev.length : Int) by omega)]
  · refine ⟨false, ?_, by simp [hi]⟩
    have H := for_ind (fun n (_ : Unit) i => impl_increasing_L1 F ev n i) ev.length (fun k _ => 1 ≤ k ∧ ∀ j, j + 1 < k → ev.getD j 0 < ev.getD (j + 1) 0) (fun o => o = some (.inl false)) ?_ ?_ (ev.length - 1) 1 () F (by omega) ⟨Nat.le_refl _, fun j hj => by omega⟩ (by omega)
    · unfold impl_increasing
      have H : impl_increasing_L1 F ev F 1 = some (.inl false) := H
      rw [H]; rfl
    · rintro n k _ hk ⟨h1, h2⟩
      obtain ⟨k, rfl⟩ : ∃ q, k = q + 1 := ⟨k - 1, by omega⟩
      have hw : IntKind.i64.wrap (((k + 1 : Nat) : Int) - 1) = (k : Int) := by rw [wr (by omega) (by omega)]; omega
      by_cases hb : ev.getD (k + 1) 0 ≤ ev.getD k 0
      · refine .inr ?_
        simp only [impl_increasing_L1, bdT (show ((k + 1 : Nat) : Int) < (ev.length : Int) by omega), hw, idx_nat, getD_of (show k < ev.length by omega), getD_of hk, Option.bind_some, bdT hb]
      · refine .inl ⟨(), ?_, by omega, fun j hj => ?_⟩
        · simp only [impl_increasing_L1, bdT (show ((k + 1 : Nat) : Int) < (ev.length : Int) by omega), hw, idx_nat, getD_of (show k < ev.length by omega), getD_of hk, Option.bind_some, bdF hb, wrN (show k + 1 ≤ 67108864 by omega)]
        · by_cases e : j = k
          · subst e; omega
          · exact h2 j (by omega)
    · rintro n _ ⟨_, h2⟩
      exact absurd h2 hi
/-- where an event stands -/
def whr (ev : List Int) (e : Int) : Int := firstAt (ev.findIdx? fun y => e == y)
theorem index_is {F : Nat} {ev : List Int} {e : Int} (hF : 134217728 ≤ F) (hl : ev.length ≤ 1048576) : slices_Index_int64 F ev e = some (whr ev e) := by
  unfold slices_Index_int64
  rw [find_loop (ps := ev) (h := fun y => e == y) (v := fun k => (k : Int)) (L := slices_Index_int64_L1 F ev e) ?_ ?_ (by omega)]
  · unfold whr
    cases ev.findIdx? fun y => e == y <;> rfl
  · intro n k y hk hy
    simp only [slices_Index_int64_L1, bdT (show (k : Int) < (ev.length : Int) by omega), idx_nat, hy, Option.bind_some, wrN (show k ≤ 67108864 by omega)]
  · intro n
    simp only [slices_Index_int64_L1, bdF (show ¬ (ev.length : Int) < (ev.length : Int) by omega)]
theorem whr_at {ev : List Int} (h : incP ev) {i : Nat} (hi : i < ev.length) {e : Int} (he : ev.getD i 0 = e) : whr ev e = (i : Int) := by
  unfold whr
  cases hf : ev.findIdx? fun y => e == y with
  | none =>
    have := List.findIdx?_eq_none_iff.1 hf _ (List.mem_of_getElem? (getD_of hi))
    rw [he, beq_self_eq_true] at this; cases this
  | some j =>
    obtain ⟨hj, h1, _⟩ := List.findIdx?_eq_some_iff_getElem.1 hf
    have h2 : ev.getD j 0 = ev[j] := by rw [List.getD_eq_getElem?_getD, List.getElem?_eq_getElem hj]; rfl
    have h3 : e = ev[j] := by simpa using h1
    by_cases e : j = i
    · subst e; rfl
    · exact absurd (by rw [he, h2, h3]) (incP_ne h hj hi e)
theorem whr_not {ev : List Int} {e : Int} (h : ∀ i, i < ev.length → ev.getD i 0 ≠ e) : whr ev e = -1 := by
  unfold whr
  cases hf : ev.findIdx? fun y => e == y with
  | none => rfl
  | some j =>
    obtain ⟨hj, h1, _⟩ := List.findIdx?_eq_some_iff_getElem.1 hf
    have h2 : ev.getD j 0 = ev[j] := by rw [List.getD_eq_getElem?_getD, List.getElem?_eq_getElem hj]; rfl
    have h3 : e = ev[j] := by simpa using h1
    exact absurd (by rw [h2, h3]) (h j hj)
def allR (E : Nat) (ev : List Int) : Prop := ∀ x, x ∈ ev → 0 ≤ x ∧ x < (E : Int)
def relW (ev : List Int) (q : GPlace) : GPlace := ⟨whr ev q.From, whr ev q.To, q.Delay, q.Tokens⟩
def keepW (ev : List Int) (q : GPlace) : List GPlace := if 0 ≤ whr ev q.From ∧ 0 ≤ whr ev q.To then [relW ev q] else []
theorem filter_keep (ev : List Int) : ∀ ps : List GPlace, (ps.map (relW ev)).filter (fun x => !(decide (x.From < 0) || decide (x.To < 0))) = ps.flatMap (keepW ev)
  | [] => rfl
  | q :: ps => by
    rw [List.map_cons, List.flatMap_cons, List.filter_cons, filter_keep ev ps]
    unfold keepW
    by_cases h : 0 ≤ whr ev q.From ∧ 0 ≤ whr ev q.To
    · have e : (!(decide ((relW ev q).From < 0) || decide ((relW ev q).To < 0))) = true := by
        rw [dF (show ¬ (relW ev q).From < 0 by simp only [relW]; omega), dF (show ¬ (relW ev q).To < 0 by simp only [relW]; omega)]; rfl
      rw [if_pos e, if_pos h]; rfl
    · have e : ¬ (!(decide ((relW ev q).From < 0) || decide ((relW ev q).To < 0))) = true := by
        intro hh
        rw [Bool.not_eq_true', Bool.or_eq_false_iff, decide_eq_false_iff_not, decide_eq_false_iff_not] at hh
        simp only [relW] at hh
        omega
      rw [if_neg e, if_neg h]; rfl

theorem part_is {F E : Nat} {x0 : GEventGraph} {x1 : List Int} (hF : 134217728 ≤ F) (hg : graphB x0 = true) (hE : x0.Events = (E : Int)) (h1 : x1.length ≤ 1000) (hl0 : 1 ≤ x1.length) (ha : allR E x1) (hi : incP x1) : impl_PartOfGraph F x0 x1 = some (⟨(x1.length : Int), x0.Places.flatMap (keepW x1)⟩, 0) := by
  obtain ⟨g1, g2, g3, gw, g5⟩ := graphB_true hg
  unfold impl_PartOfGraph
  rw [bind_of (implGraph_is hF (by omega)), hg]
  have hall : (x1.all fun x => inB x 0 (IntKind.i64.wrap (x0.Events - 1))) = true := List.all_eq_true.2 fun x hx => by
    have := ha x hx
    rw [gw]; exact inB_true.2 ⟨this.1, by omega⟩
  have hl : ((x1.length : Int) == 0) = false := beq_false_of_ne (by omega)
  obtain ⟨b, hb, hbi⟩ := implInc_is (F := F) hF (by omega) hl0
  simp only [Bool.not_true, cond_false, Option.bind_some, implAllWithin_is hF (show x1.length ≤ 1048576 by omega)]
  rw [hl, hb, hbi.2 hi, hall]
  simp only [Bool.not_true, cond_false, Option.bind_some]
  have I : impl_mappedGraph F x0 (x1.length : Int) (fun y => impl_PartOfGraph_c1 F y x1) = some ⟨(x1.length : Int), x0.Places.map (relW x1)⟩ := by
    unfold impl_mappedGraph
    rw [grow_loop (ps := x0.Places) (g := fun q => [relW x1 q]) (L := impl_mappedGraph_L1 F x0 (fun y => impl_PartOfGraph_c1 F y x1)) (by simp) ?_ ?_ (by omega)]
    · rw [Option.bind_some, flatMap_one]
    · intro n xs k q hk hq hx
      have happ : app xs [relW x1 q] = some (xs ++ [relW x1 q]) := app_le (by simp only [List.length_singleton]; omega)
      simp only [impl_mappedGraph_L1, impl_PartOfGraph_c1, bdT (show (k : Int) < (x0.Places.length : Int) by omega), idx_nat, hq, Option.bind_some, index_is (F := F) (ev := x1) hF (by omega), wrN (show k ≤ 67108864 by omega)]
      rw [show (GPlace.mk (whr x1 q.From) (whr x1 q.To) q.Delay q.Tokens) = relW x1 q from rfl, happ]; rfl
    · intro n xs
      simp only [impl_mappedGraph_L1, bdF (show ¬ (x0.Places.length : Int) < (x0.Places.length : Int) by omega)]
  obtain ⟨full, hdel⟩ := delFunc_is (F := F) (xs := x0.Places.map (relW x1)) (m := fun y => impl_PartOfGraph_c2 F y) (h := fun x => decide (x.From < 0) || decide (x.To < 0)) hF (by rw [List.length_map]; omega) (fun x => by simp only [impl_PartOfGraph_c2, cond_or, Option.bind_some])
  rw [filter_keep] at hdel
  rw [I]
  simp only [Option.bind_some, hdel]

theorem graphB_of {g : GEventGraph} (h1 : 1 ≤ g.Events) (h2 : g.Events ≤ 10) (h3 : g.Places.length ≤ 30) (h : ∀ p, p ∈ g.Places → 0 ≤ p.From ∧ p.From < g.Events ∧ 0 ≤ p.To ∧ p.To < g.Events ∧ 0 ≤ p.Delay ∧ p.Delay ≤ 1000 ∧ 0 ≤ p.Tokens ∧ p.Tokens ≤ 5) : graphB g = true := by
  have hw : IntKind.i64.wrap (g.Events - 1) = g.Events - 1 := wr (by omega) (by omega)
  unfold graphB
  simp only [Bool.and_eq_true, inB_true, decide_eq_true_eq, List.all_eq_true]
  refine ⟨fun p hp => ?_, ⟨h1, h2⟩, by omega⟩
  have := h p hp
  unfold placeB
  rw [hw]
  simp only [Bool.and_eq_true, inB_true]
  omega
theorem lkG {F : Nat} {g : GEventGraph} (hF : 134217728 ≤ F) (hl : g.Places.length ≤ 1048576) : laws_likeGraphs9 F g g = some true := by
  unfold laws_likeGraphs9
  have L : laws_likeGraphs9_L1 F g g F 0 = some (.inr ()) := by
    refine same_loop (len := g.Places.length) (L := laws_likeGraphs9_L1 F g g) ?_ ?_ (by omega)
    · intro n k hk
      simp only [laws_likeGraphs9_L1, bdT (show (k : Int) < (g.Places.length : Int) by omega), idx_nat, plD_of hk, Option.bind_some, beq_self_eq_true, Bool.and_self, Bool.not_true, cond_false, wrN (show k ≤ 67108864 by omega)]
    · intro n
      simp only [laws_likeGraphs9_L1, bdF (show ¬ (g.Places.length : Int) < (g.Places.length : Int) by omega)]
  simp only [bne_self_eq_false, cond_false, Option.bind_some, L]

/-! ### Merging -/
theorem merge_out {F : Nat} {g : GEventGraph} {a b : Int} (hF : 134217728 ≤ F) (hl : g.Places.length ≤ 1048576) :
    (∃ c : Int, c ≠ 0 ∧ spec_MergeEvents F g a b = some (⟨0, []⟩, c) ∧ impl_MergeEvents F g a b = some (⟨0, []⟩, c)) ∨
    (graphB g = true ∧ 0 ≤ a ∧ a < b ∧ b < g.Events ∧ spec_MergeEvents F g a b = some (mergedGraph a b g, 0) ∧ impl_MergeEvents F g a b = some (mergedGraph a b g, 0)) := by
  unfold spec_MergeEvents impl_MergeEvents
  rw [bind_of (specGraph_is hF hl), bind_of (implGraph_is hF hl)]
  cases hg : graphB g with
  | false => exact .inl ⟨1, by decide, rfl, rfl⟩
  | true =>
    obtain ⟨h1, h2, h3, hw, hp⟩ := graphB_true hg
    have hw : IntKind.i64.wrap (g.Events - 1) = g.Events - 1 := hw
    simp only [Bool.not_true, cond_false, impl_isEvent, within_is, Option.bind_some, hw, condn, cond_or]
    by_cases hc : 0 ≤ a ∧ a < b ∧ b < g.Events
    · have c1 : (decide (a < 0) || (decide (g.Events ≤ b) || decide (b ≤ a))) = false := by simp; omega
      have c2 : (bif inB a 0 (g.Events - 1) then bif inB b 0 (g.Events - 1) then some (decide (b ≤ a)) else some true else some true) = some false := by
        rw [bT (inB_true.2 ⟨by omega, by omega⟩), bT (inB_true.2 ⟨by omega, by omega⟩), decide_eq_false (by omega)]
      refine .inr ⟨by first | rfl | trivial, hc.1, hc.2.1, hc.2.2, ?_, ?_⟩
      · rw [bF c1, bind_of (specMTable_is hF h1 h2), bind_of (specMap_is hF hl h1 h2 hc.1 hc.2.1 hc.2.2 hp _)]; rfl
      · rw [bind_of c2, cond_false, bind_of (implMerge_is hF hl (fun p hm => by have := hp p hm; omega) _)]; rfl
    · have c1 : (decide (a < 0) || (decide (g.Events ≤ b) || decide (b ≤ a))) = true := by simp; omega
      have c2 : (bif inB a 0 (g.Events - 1) then bif inB b 0 (g.Events - 1) then some (decide (b ≤ a)) else some true else some true) = some true := by
        cases e1 : inB a 0 (g.Events - 1) with
        | false => rfl
        | true =>
          cases e2 : inB b 0 (g.Events - 1) with
          | false => rfl
          | true =>
            have := inB_true.1 e1; have := inB_true.1 e2
            rw [cond_true, cond_true, decide_eq_true (by omega)]
      exact .inl ⟨2, by decide, by rw [bT c1], by rw [bind_of c2, cond_true]⟩
theorem merged_ok {g : GEventGraph} {a b : Int} (hg : graphB g = true) (h0 : 0 ≤ a) (h1 : a < b) (h2 : b < g.Events) : graphB (mergedGraph a b g) = true := by
  obtain ⟨g1, g2, g3, _, _⟩ := graphB_true hg
  refine graphB_of (by show 1 ≤ g.Events - 1; omega) (by show g.Events - 1 ≤ 10; omega) (by show (g.Places.map _).length ≤ 30; rw [List.length_map]; exact g3) fun p hp => ?_
  obtain ⟨q, hq, rfl⟩ := List.mem_map.1 hp
  obtain ⟨r1, r2, r3, r4, r5, r6, r7, r8⟩ := graphB_range hg q hq
  show 0 ≤ merged a b q.From ∧ merged a b q.From < g.Events - 1 ∧ 0 ≤ merged a b q.To ∧ merged a b q.To < g.Events - 1 ∧ 0 ≤ q.Delay ∧ q.Delay ≤ 1000 ∧ 0 ≤ q.Tokens ∧ q.Tokens ≤ 5
  have key : ∀ e, 0 ≤ e → e < g.Events → 0 ≤ merged a b e ∧ merged a b e < g.Events - 1 := by
    intro e e0 e1
    unfold merged
    split
    · omega
    · split <;> omega
  have k1 := key _ r1 r2
  have k2 := key _ r3 r4
  omega

/-! ### Joining -/
def shiftP (E : Int) (p : GPlace) : GPlace := ⟨p.From + E, p.To + E, p.Delay, p.Tokens⟩
def joinG (g h : GEventGraph) : GEventGraph := ⟨g.Events + h.Events, g.Places ++ h.Places.map (shiftP g.Events)⟩
theorem join_step {g h : GEventGraph} (hg : graphB g = true) (hh : graphB h = true) {k : Nat} (hk : k < h.Places.length) :
    app (g.Places ++ (h.Places.take k).map (shiftP g.Events)) [GPlace.mk (IntKind.i64.wrap ((plD h k).From + g.Events)) (IntKind.i64.wrap ((plD h k).To + g.Events)) (plD h k).Delay (plD h k).Tokens] = some (g.Places ++ (h.Places.take (k + 1)).map (shiftP g.Events)) := by
  obtain ⟨g1, g2, g3, _, _⟩ := graphB_true hg
  obtain ⟨h1, h2, h3, _, hp⟩ := graphB_true hh
  obtain ⟨r1, r2, r3, r4⟩ := hp _ (List.mem_of_getElem? (plD_of hk))
  rw [wr (n := (plD h k).From + g.Events) (by omega) (by omega), wr (n := (plD h k).To + g.Events) (by omega) (by omega)]
  rw [app_le (by rw [List.length_append, List.length_map, List.length_take, List.length_singleton]; omega), List.append_assoc, List.take_add_one, plD_of hk, Option.toList_some, List.map_append]; rfl
theorem join_out {F : Nat} {g h : GEventGraph} (hF : 134217728 ≤ F) (hl : g.Places.length ≤ 1048576) (hl2 : h.Places.length ≤ 1048576) :
    (∃ c : Int, c ≠ 0 ∧ spec_JoinGraphs F g h = some (⟨0, []⟩, c) ∧ impl_JoinGraphs F g h = some (⟨0, []⟩, c)) ∨
    (graphB g = true ∧ graphB h = true ∧ graphB (joinG g h) = true ∧ spec_JoinGraphs F g h = some (joinG g h, 0) ∧ impl_JoinGraphs F g h = some (joinG g h, 0)) := by
  unfold spec_JoinGraphs impl_JoinGraphs
  rw [specGraph_is hF hl, implGraph_is hF hl, specGraph_is hF hl2, implGraph_is hF hl2]
  simp only [Option.bind_some]
  cases hg : graphB g with
  | false => exact .inl ⟨1, by decide, rfl, rfl⟩
  | true =>
    cases hh : graphB h with
    | false => exact .inl ⟨1, by decide, rfl, rfl⟩
    | true =>
      obtain ⟨g1, g2, g3, _, _⟩ := graphB_true hg
      obtain ⟨h1, h2, h3, _, hp⟩ := graphB_true hh
      have ha : app ([] : List GPlace) g.Places = some g.Places := by rw [app_le (by simp only [List.length_nil]; omega)]; rfl
      have S : spec_JoinGraphs_L1 F g h F g.Places 0 = some (joinG g h).Places := by
        refine for0 (L := spec_JoinGraphs_L1 F g h) (len := h.Places.length) (fun k xs => xs = g.Places ++ (h.Places.take k).map (shiftP g.Events)) (R := fun o => o = some (joinG g h).Places) ?_ ?_ (by simp) (by omega)
        · rintro n k xs hk rfl
          refine .inl ⟨_, ?_, rfl⟩
          simp only [spec_JoinGraphs_L1, bdT (show (k : Int) < (h.Places.length : Int) by omega), idx_nat, plD_of hk, Option.bind_some, join_step hg hh hk, wrN (show k ≤ 67108864 by omega)]
        · rintro n xs rfl
          simp only [spec_JoinGraphs_L1, bdF (show ¬ (h.Places.length : Int) < (h.Places.length : Int) by omega), List.take_length]; rfl
      have I : impl_JoinGraphs_L1 F g h F g.Places 0 = some (joinG g h).Places := by
        refine for0 (L := impl_JoinGraphs_L1 F g h) (len := h.Places.length) (fun k xs => xs = g.Places ++ (h.Places.take k).map (shiftP g.Events)) (R := fun o => o = some (joinG g h).Places) ?_ ?_ (by simp) (by omega)
        · rintro n k xs hk rfl
          refine .inl ⟨_, ?_, rfl⟩
          simp only [impl_JoinGraphs_L1, bdT (show (k : Int) < (h.Places.length : Int) by omega), idx_nat, plD_of hk, Option.bind_some, join_step hg hh hk, wrN (show k ≤ 67108864 by omega)]
        · rintro n xs rfl
          simp only [impl_JoinGraphs_L1, bdF (show ¬ (h.Places.length : Int) < (h.Places.length : Int) by omega), List.take_length]; rfl
      have hw : IntKind.i64.wrap (g.Events + h.Events) = g.Events + h.Events := wr (by omega) (by omega)
      have eJ : GEventGraph.mk (g.Events + h.Events) (joinG g h).Places = joinG g h := rfl
      have hjl : (joinG g h).Places.length ≤ 1048576 := by show (g.Places ++ h.Places.map _).length ≤ _; rw [List.length_append, List.length_map]; omega
      simp only [Bool.not_true, cond_false, Option.bind_some, spec_l11Own, impl_cloneGraph, slices_Clone_Place, ha, S, I, hw, eJ, specResult_is hF hjl, implResult_is hF hjl]
      cases hj : graphB (joinG g h) with
      | false => exact .inl ⟨3, by decide, rfl, rfl⟩
      | true => exact .inr ⟨by first | rfl | trivial, by first | rfl | trivial, by first | rfl | trivial, rfl, rfl⟩
def up (a n : Nat) : List Int := (List.range n).map fun i => ((a + i : Nat) : Int)
theorem up_len (a n : Nat) : (up a n).length = n := by unfold up; simp
theorem up_at {a n i : Nat} (h : i < n) : (up a n).getD i 0 = ((a + i : Nat) : Int) := by
  unfold up; rw [List.getD_eq_getElem?_getD, List.getElem?_map, List.getElem?_range h]; rfl
theorem up_succ (a n : Nat) : up a (n + 1) = up a n ++ [((a + n : Nat) : Int)] := by unfold up; rw [List.range_succ, List.map_append]; rfl
theorem up_inc (a n : Nat) : incP (up a n) := by
  intro k hk
  rw [up_len] at hk
  rw [up_at (by omega), up_at hk]; omega
theorem up_all {a n E : Nat} (h : a + n ≤ E) : allR E (up a n) := by
  intro x hx
  unfold up at hx
  obtain ⟨i, hi, rfl⟩ := List.mem_map.1 hx
  have : i < n := by simpa using hi
  omega
theorem whr_up {a n : Nat} {e : Int} (h0 : (a : Int) ≤ e) (h1 : e < ((a + n : Nat) : Int)) : whr (up a n) e = e - a := by
  rw [whr_at (up_inc a n) (i := (e - a).toNat) (by rw [up_len]; omega) (by rw [up_at (by omega)]; omega)]; omega
theorem whr_off {a n : Nat} {e : Int} (h : ¬ ((a : Int) ≤ e ∧ e < ((a + n : Nat) : Int))) : whr (up a n) e = -1 := whr_not fun i hi => by
  rw [up_len] at hi
  rw [up_at hi]; omega
theorem flat_id {l : List GPlace} {m f : GPlace → List GPlace} (h : ∀ p, p ∈ l → f p = m p) : l.flatMap f = l.flatMap m := by
  induction l with
  | nil => rfl
  | cons p l ih => rw [List.flatMap_cons, List.flatMap_cons, h p List.mem_cons_self, ih fun q hq => h q (List.mem_cons_of_mem _ hq)]
theorem part1 {g h : GEventGraph} (hg : graphB g = true) (hh : graphB h = true) : (joinG g h).Places.flatMap (keepW (up 0 g.Events.toNat)) = g.Places := by
  obtain ⟨g1, g2, g3, _, gp⟩ := graphB_true hg
  obtain ⟨h1, h2, h3, _, hp⟩ := graphB_true hh
  show (g.Places ++ h.Places.map (shiftP g.Events)).flatMap _ = _
  rw [List.flatMap_append, flat_id (m := fun p => [p]) (l := g.Places) (fun p hp => by
    obtain ⟨r1, r2, r3, r4⟩ := gp p hp
    unfold keepW relW
    rw [whr_up (by omega) (by omega), whr_up (by omega) (by omega), if_pos (by omega)]
    simp), flat_id (m := fun _ => []) (l := h.Places.map (shiftP g.Events)) (fun p hp2 => by
    obtain ⟨q, hq, rfl⟩ := List.mem_map.1 hp2
    obtain ⟨r1, r2, r3, r4⟩ := hp q hq
    unfold keepW shiftP
    rw [whr_off (e := q.From + g.Events) (by omega), if_neg (by omega)])]
  simp
theorem part2 {g h : GEventGraph} (hg : graphB g = true) (hh : graphB h = true) : (joinG g h).Places.flatMap (keepW (up g.Events.toNat h.Events.toNat)) = h.Places := by
  obtain ⟨g1, g2, g3, _, gp⟩ := graphB_true hg
  obtain ⟨h1, h2, h3, _, hp⟩ := graphB_true hh
  show (g.Places ++ h.Places.map (shiftP g.Events)).flatMap _ = _
  rw [List.flatMap_append, flat_id (m := fun _ => []) (l := g.Places) (fun p hp => by
    obtain ⟨r1, r2, r3, r4⟩ := gp p hp
    unfold keepW
    rw [whr_off (e := p.From) (by omega), if_neg (by omega)]), List.flatMap_map, flat_id (m := fun p => [p]) (l := h.Places) (fun q hq => by
    obtain ⟨r1, r2, r3, r4⟩ := hp q hq
    unfold keepW relW shiftP
    rw [whr_up (e := q.From + g.Events) (by omega) (by omega), whr_up (e := q.To + g.Events) (by omega) (by omega), if_pos (by omega)]
    have e1 : q.From + g.Events - ((g.Events.toNat : Nat) : Int) = q.From := by omega
    have e2 : q.To + g.Events - ((g.Events.toNat : Nat) : Int) = q.To := by omega
    rw [e1, e2])]
  simp

/-! ### Splitting -/
def splitG (g : GEventGraph) (i d : Int) : GEventGraph := ⟨g.Events + 1, g.Places.set i.toNat ⟨(plD g i.toNat).From, g.Events, d, 0⟩ ++ [⟨g.Events, (plD g i.toNat).To, (plD g i.toNat).Delay - d, (plD g i.toNat).Tokens⟩]⟩
theorem split_out {F : Nat} {g : GEventGraph} {i d : Int} (hF : 134217728 ≤ F) (hl : g.Places.length ≤ 1048576) :
    (∃ c : Int, c ≠ 0 ∧ spec_SplitPlace F g i d = some (⟨0, []⟩, c) ∧ impl_SplitPlace F g i d = some (⟨0, []⟩, c)) ∨
    (graphB g = true ∧ i.toNat < g.Places.length ∧ 0 ≤ d ∧ d ≤ (plD g i.toNat).Delay ∧ graphB (splitG g i d) = true ∧ spec_SplitPlace F g i d = some (splitG g i d, 0) ∧ impl_SplitPlace F g i d = some (splitG g i d, 0)) := by
  unfold spec_SplitPlace impl_SplitPlace spec_l11Index
  rw [bind_of (implGraph_is hF hl), bind_of (specGraph_is hF hl)]
  cases hg : graphB g with
  | false => exact .inl ⟨1, by decide, rfl, rfl⟩
  | true =>
    obtain ⟨h1, h2, h3, hw, hp⟩ := graphB_true hg
    have hw2 : IntKind.i64.wrap ((g.Places.length : Int) - 1) = (g.Places.length : Int) - 1 := wr (by omega) (by omega)
    simp only [Bool.not_true, cond_false, specIn_is, within_is, Option.bind_some, hw2]
    cases hi : inB i 0 ((g.Places.length : Int) - 1) with
    | false => exact .inl ⟨2, by decide, rfl, rfl⟩
    | true =>
      obtain ⟨i0, i1⟩ := inB_true.1 hi
      have hx : idx g.Places i = some (plD g i.toNat) := by
        have := idx_nat g.Places i.toNat
        rw [show ((i.toNat : Nat) : Int) = i by omega] at this
        rw [this, plD_of (by omega)]
      simp only [Bool.not_true, cond_false, hx, Option.bind_some]
      cases hd : inB d 0 (plD g i.toNat).Delay with
      | false => exact .inl ⟨2, by decide, rfl, rfl⟩
      | true =>
        obtain ⟨d0, d1⟩ := inB_true.1 hd
        obtain ⟨r1, r2, r3, r4, r5, r6, r7, r8⟩ := graphB_range hg _ (List.mem_of_getElem? (plD_of (g := g) (k := i.toNat) (by omega)))
        have hc : ((0 : Int) == 0) = true := rfl
        have hn : ((0 : Int) != 0) = false := rfl
        have ha : app ([] : List GPlace) g.Places = some g.Places := by rw [app_le (by simp only [List.length_nil]; omega)]; rfl
        have hwd : IntKind.i64.wrap ((plD g i.toNat).Delay - d) = (plD g i.toNat).Delay - d := wr (by omega) (by omega)
        have hwe : IntKind.i64.wrap (g.Events + 1) = g.Events + 1 := wr (by omega) (by omega)
        have hsl : (splitG g i d).Places.length ≤ 1048576 := by show (g.Places.set _ _ ++ [_]).length ≤ _; rw [List.length_append, List.length_set, List.length_singleton]; omega
        simp only [hc, hn, cond_true, Bool.not_true, cond_false, Option.bind_some, spec_l11Own, impl_cloneGraph, slices_Clone_Place, ha, hx, upd_int _ i0 (show i < (g.Places.length : Int) by omega), hwd, hwe]
        rw [app_le (by simp only [List.length_set, List.length_singleton]; omega)]
        simp only [Option.bind_some]
        show (∃ c : Int, c ≠ 0 ∧ ((spec_l19Result F (splitG g i d)).bind _) = _ ∧ ((impl_checkedGraph F (splitG g i d)).bind _) = _) ∨ (_ ∧ _ ∧ _ ∧ _ ∧ _ ∧ ((spec_l19Result F (splitG g i d)).bind _) = _ ∧ ((impl_checkedGraph F (splitG g i d)).bind _) = _)
        rw [specResult_is hF hsl, implResult_is hF hsl]
        simp only [Option.bind_some]
        cases hs : graphB (splitG g i d) with
        | false => exact .inl ⟨3, by decide, rfl, rfl⟩
        | true => exact .inr ⟨by first | rfl | trivial, by omega, d0, d1, by first | rfl | trivial, rfl, rfl⟩
theorem mem_set_or {ps : List GPlace} {i : Nat} {x q : GPlace} (hq : q ∈ ps) (hi : i < ps.length) : q = ps.getD i ⟨0, 0, 0, 0⟩ ∨ q ∈ ps.set i x := by
  obtain ⟨j, hj, rfl⟩ := List.getElem_of_mem hq
  by_cases h : j = i
  · subst h
    left; rw [List.getD_eq_getElem?_getD, List.getElem?_eq_getElem hj]; rfl
  · right
    refine List.mem_of_getElem? (i := j) ?_
    rw [List.getElem?_set, if_neg (Ne.symm h), List.getElem?_eq_getElem hj]
theorem split_mem {g : GEventGraph} {i d : Int} (hi : i.toNat < g.Places.length) : (∀ q, q ∈ (splitG g i d).Places → q ∈ g.Places ∨ q = ⟨(plD g i.toNat).From, g.Events, d, 0⟩ ∨ q = ⟨g.Events, (plD g i.toNat).To, (plD g i.toNat).Delay - d, (plD g i.toNat).Tokens⟩) ∧ (∀ q, q ∈ g.Places → q = plD g i.toNat ∨ q ∈ (splitG g i d).Places) ∧ (⟨(plD g i.toNat).From, g.Events, d, 0⟩ : GPlace) ∈ (splitG g i d).Places ∧ (⟨g.Events, (plD g i.toNat).To, (plD g i.toNat).Delay - d, (plD g i.toNat).Tokens⟩ : GPlace) ∈ (splitG g i d).Places := by
  refine ⟨fun q hq => ?_, fun q hq => ?_, ?_, ?_⟩
  · rcases List.mem_append.1 hq with h | h
    · rcases List.mem_or_eq_of_mem_set h with h | h
      · exact .inl h
      · exact .inr (.inl h)
    · exact .inr (.inr (by simpa using h))
  · rcases mem_set_or (x := ⟨(plD g i.toNat).From, g.Events, d, 0⟩) hq hi with h | h
    · exact .inl h
    · exact .inr (List.mem_append.2 (.inl h))
  · refine List.mem_append.2 (.inl (List.mem_of_getElem? (i := i.toNat) ?_))
    rw [List.getElem?_set, if_pos rfl, if_pos hi]
  · exact List.mem_append.2 (.inr (by simp))
theorem split_live {g : GEventGraph} {i d : Int} (hg : graphB g = true) (hs : graphB (splitG g i d) = true) (hi : i.toNat < g.Places.length) : liveB (splitG g i d) (splitG g i d).Events.toNat = liveB g g.Events.toNat := by
  obtain ⟨m1, m2, m3, m4⟩ := split_mem (d := d) hi
  obtain ⟨g1, g2, _, _, _⟩ := graphB_true hg
  have hpm := List.mem_of_getElem? (plD_of hi)
  obtain ⟨r1, r2, r3, r4, r5, r6, r7, r8⟩ := graphB_range hg _ hpm
  refine Bool.eq_iff_iff.2 ?_
  rw [live_rank hg, live_rank hs]
  constructor
  · rintro ⟨ρ, h⟩
    refine ⟨ρ, fun u v huv => ?_⟩
    obtain ⟨q, hq, q0, qf, qt⟩ := mem_eP huv
    rcases m2 q hq with rfl | hq2
    · have e1 := h u g.Events.toNat (eP_mem m3 rfl qf (by show g.Events = _; omega))
      have e2 := h g.Events.toNat v (eP_mem m4 q0 (by show g.Events = _; omega) qt)
      omega
    · exact h u v (eP_mem hq2 q0 qf qt)
  · rintro ⟨ρ, h⟩
    refine ⟨fun u => if u = g.Events.toNat then 2 * ρ (plD g i.toNat).From.toNat + 1 else 2 * ρ u, fun u v huv => ?_⟩
    obtain ⟨q, hq, q0, qf, qt⟩ := mem_eP huv
    rcases m1 q hq with hq2 | rfl | rfl
    · obtain ⟨s1, s2, s3, s4, _⟩ := graphB_range hg q hq2
      have := h u v (eP_mem hq2 q0 qf qt)
      show (if u = g.Events.toNat then _ else _) < (if v = g.Events.toNat then _ else _)
      rw [if_neg (by omega), if_neg (by omega)]; omega
    · simp only at qf qt
      show (if u = g.Events.toNat then _ else _) < (if v = g.Events.toNat then _ else _)
      rw [if_neg (by omega), if_pos (by omega), show (plD g i.toNat).From.toNat = u by omega]; omega
    · simp only at qf qt q0
      have := h (plD g i.toNat).From.toNat v (eP_mem hpm q0 (by omega) qt)
      show (if u = g.Events.toNat then _ else _) < (if v = g.Events.toNat then _ else _)
      rw [if_pos (by omega), if_neg (by omega)]; omega
theorem split_ft {g : GEventGraph} {i d : Int} {n : Nat} {T : Nat → Nat → Int} (hg : graphB g = true) (hi : i.toNat < g.Places.length) (h0 : 0 ≤ d) (h : FTs (splitG g i d) n T) : FTs g n T := by
  obtain ⟨m1, m2, m3, m4⟩ := split_mem (d := d) hi
  obtain ⟨g1, g2, _, _, _⟩ := graphB_true hg
  have hpm := List.mem_of_getElem? (plD_of hi)
  obtain ⟨r1, r2, r3, r4, r5, r6, r7, r8⟩ := graphB_range hg _ hpm
  have hE : (splitG g i d).Events.toNat = g.Events.toNat + 1 := by show (g.Events + 1).toNat = _; omega
  have hN : ∀ k, k < n → T k g.Events.toNat = T k (plD g i.toNat).From.toNat + d := by
    intro k hk
    have t1 : (plD g i.toNat).From.toNat < (splitG g i d).Events.toNat := by omega
    have t2 : g.Events.toNat < (splitG g i d).Events.toNat := by omega
    have t3 : g.Events = ((g.Events.toNat : Nat) : Int) := by omega
    have l1 := (h k hk _ t2).2.1 _ m3 t3 (Int.natCast_nonneg k)
    have b1 := (h k hk _ t1).1
    simp only [Int.toNat_zero, Nat.sub_zero] at l1
    rcases (h k hk _ t2).2.2 with a3 | ⟨q, hq, qt, qw, a3⟩
    · omega
    · rcases m1 q hq with hq2 | rfl | rfl
      · obtain ⟨s1, s2, s3, s4, _⟩ := graphB_range hg q hq2
        omega
      · simpa using a3
      · simp only at qt; omega
  intro k hk e he
  obtain ⟨a1, a2, a3⟩ := h k hk e (by omega)
  refine ⟨a1, fun q hq qt qw => ?_, ?_⟩
  · rcases m2 q hq with rfl | hq2
    · have l1 := a2 _ m4 qt qw
      simp only at l1
      have l2 := hN (k - (plD g i.toNat).Tokens.toNat) (by omega)
      rw [l2] at l1
      omega
    · exact a2 q hq2 qt qw
  · rcases a3 with a3 | ⟨q, hq, qt, qw, a3⟩
    · exact .inl a3
    · rcases m1 q hq with hq2 | rfl | rfl
      · exact .inr ⟨q, hq2, qt, qw, a3⟩
      · simp only at qt; omega
      · simp only at qt qw a3
        have l2 := hN (k - (plD g i.toNat).Tokens.toNat) (by omega)
        rw [l2] at a3
        exact .inr ⟨plD g i.toNat, hpm, qt, qw, by omega⟩
theorem split_times {F : Nat} {g : GEventGraph} {i d : Int} (hF : 134217728 ≤ F) (hg : graphB g = true) (hi : i.toNat < g.Places.length) (h0 : 0 ≤ d) (hs : graphB (splitG g i d) = true) :
    (impl_FiringTimes F g 5 = some ([], 5) ∧ impl_FiringTimes F (splitG g i d) 5 = some ([], 5)) ∨ (∃ A B : List (List Int), A.length = 5 ∧ B.length = 5 ∧ (∀ k, k < 5 → (A.getD k []).length = g.Events.toNat ∧ (B.getD k []).take g.Events.toNat = A.getD k [] ∧ (B.getD k []).length = g.Events.toNat + 1) ∧ impl_FiringTimes F g 5 = some (A, 0) ∧ impl_FiringTimes F (splitG g i d) 5 = some (B, 0)) := by
  obtain ⟨g1, g2, g3, _, _⟩ := graphB_true hg
  obtain ⟨s1, s2, s3, _, _⟩ := graphB_true hs
  have hlv := split_live hg hs hi
  have hE : (splitG g i d).Events.toNat = g.Events.toNat + 1 := by show (g.Events + 1).toNat = _; omega
  cases ho : fire (eP g.Places) g.Events.toNat g.Events.toNat [] with
  | none =>
    left
    have hl1 : liveB g g.Events.toNat = false := by unfold liveB; rw [ho]; rfl
    have c1 : fireCode g 5 = 5 := by unfold fireCode; rw [hg, hl1]; rfl
    have c2 : fireCode (splitG g i d) 5 = 5 := by unfold fireCode; rw [hs, hlv, hl1]; rfl
    constructor
    · unfold impl_FiringTimes; rw [bind_of (implFCode_is hF (by omega)), c1]; rfl
    · unfold impl_FiringTimes; rw [bind_of (implFCode_is hF (by omega)), c2]; rfl
  | some o =>
    right
    have hl1 : liveB g g.Events.toNat = true := by unfold liveB; rw [ho]; rfl
    cases ho2 : fire (eP (splitG g i d).Places) (splitG g i d).Events.toNat (splitG g i d).Events.toNat [] with
    | none =>
      rw [hl1] at hlv
      unfold liveB at hlv
      rw [ho2] at hlv; cases hlv
    | some o2 =>
      have t1 : impl_FiringTimes F g 5 = some (ttab g o (zeros g) 5, 0) := implFiring_is (n := 5) hF hg (by omega) ho
      have t2 : impl_FiringTimes F (splitG g i d) 5 = some (ttab (splitG g i d) o2 (zeros (splitG g i d)) 5, 0) := implFiring_is (n := 5) hF hs (by omega) ho2
      have f1 := ttab_spec (n := 5) hg ho (by omega)
      have f2 := split_ft hg hi h0 (ttab_spec (n := 5) hs ho2 (by omega))
      have hu := ft_unique hg (order_rank hg ho) f1 f2
      have hz1 : (zeros g).length = g.Events.toNat := by unfold zeros; simp
      have hz2 : (zeros (splitG g i d)).length = (splitG g i d).Events.toNat := by unfold zeros; simp
      have hr1 : ∀ k, k < 5 → ((ttab g o (zeros g) 5).getD k []).length = g.Events.toNat := fun k hk => ttab_rows hz1 5 _ (by
        rw [List.getD_eq_getElem?_getD, List.getElem?_eq_getElem (by rw [ttab_len]; exact hk)]; exact List.getElem_mem _)
      have hr2 : ∀ k, k < 5 → ((ttab (splitG g i d) o2 (zeros (splitG g i d)) 5).getD k []).length = g.Events.toNat + 1 := fun k hk => by
        rw [← hE]
        exact ttab_rows hz2 5 _ (by
          rw [List.getD_eq_getElem?_getD, List.getElem?_eq_getElem (by rw [ttab_len]; exact hk)]; exact List.getElem_mem _)
      refine ⟨_, _, ttab_len _ _ _ _, ttab_len _ _ _ _, fun k hk => ⟨hr1 k hk, ?_, hr2 k hk⟩, t1, t2⟩
      have l1 := hr1 k hk
      have l2 := hr2 k hk
      have huk := hu k hk
      unfold gE at huk
      generalize (ttab g o (zeros g) 5).getD k [] = X at l1 huk
      generalize (ttab (splitG g i d) o2 (zeros (splitG g i d)) 5).getD k [] = Y at l2 huk
      apply List.ext_getElem?; intro e
      rw [List.getElem?_take]
      by_cases he : e < g.Events.toNat
      · rw [if_pos he, getD_of (show e < Y.length by omega), getD_of (show e < X.length by omega), huk e he]
      · rw [if_neg he, List.getElem?_eq_none (by omega)]

theorem law_Joined {F : Nat} {x0 : List Int} (hF0 : 9223372036854775808 ≤ F) (_ : x0.length ≤ 9223372036854775807) (hb : ∀ y, y ∈ x0 → 0 ≤ y ∧ y ≤ 255) : laws_FnJoined F x0 = some true := by
  have hF : 134217728 ≤ F := by omega
  unfold laws_FnJoined laws_big
  by_cases hbig : (4096 : Int) < (x0.length : Int)
  · simp only [Option.bind_some, dT hbig, cond_true]
  simp only [Option.bind_some, dF hbig, cond_false]
  have hc : COk x0 := ⟨by omega, hb⟩
  obtain ⟨⟨g, h⟩, hd1, a0, a1⟩ : Tot (fun r : GEventGraph × GEventGraph => r.1.Places.length ≤ 100 ∧ r.2.Places.length ≤ 100) (spec_DrawJoinGraphs F x0) := by
    unfold spec_DrawJoinGraphs
    exact Tot.bind (from_tot hF hc) fun r2 h2 => Tot.bind (l11Draw_tot hF hc h2) fun r5 h5 => Tot.bind (l11Draw_tot hF hc h5.1) fun r6 h6 => Tot.pure ⟨h5.2.1, h6.2.1⟩
  obtain ⟨⟨s, i, d⟩, hd2, b0⟩ : Tot (fun r : GEventGraph × Int × Int => r.1.Places.length ≤ 100) (spec_DrawSplitPlace F x0) := by
    unfold spec_DrawSplitPlace spec_l11DrawIndex
    refine Tot.bind (from_tot hF hc) fun r2 h2 => ?_
    refine Tot.bind (P := fun r : (GEventGraph × Int) × Int × Int => SOk x0 r.2.1 r.2.2 ∧ r.1.1.Places.length ≤ 100) (Tot.bind (l11Draw_tot hF hc h2) fun r5 h5 => Tot.bind (next_tot hc h5.1) fun r6 h6 => Tot.cond (fun _ => Tot.bind (pick_tot hc h6.1 (by simp)) fun r7 h7 => Tot.pure ⟨h7.1, h5.2.1⟩) fun _ => Tot.bind (next_tot hc h6.1) fun r7 h7 => Tot.pure ⟨h7.1, h5.2.1⟩) fun r5 h5 => ?_
    exact Tot.bind (next_tot hc h5.1) fun r6 h6 => Tot.bind (next_tot hc h6.1) fun r7 h7 => Tot.pure h5.2
  obtain ⟨⟨m, a, b⟩, hd3, c0⟩ : Tot (fun r : GEventGraph × Int × Int => r.1.Places.length ≤ 100) (spec_DrawMergeEvents F x0) := by
    unfold spec_DrawMergeEvents spec_l11DrawEvent
    refine Tot.bind (from_tot hF hc) fun r2 h2 => ?_
    refine Tot.bind (P := fun r : (GEventGraph × Int) × Int × Int => SOk x0 r.2.1 r.2.2 ∧ r.1.1.Places.length ≤ 100) (Tot.bind (l11Draw_tot hF hc h2) fun r5 h5 => Tot.bind (next_tot hc h5.1) fun r6 h6 => Tot.cond (fun _ => Tot.bind (pick_tot hc h6.1 (by simp)) fun r7 h7 => Tot.pure ⟨h7.1, h5.2.1⟩) fun _ => Tot.bind (next_tot hc h6.1) fun r7 h7 => Tot.pure ⟨h7.1, h5.2.1⟩) fun r5 h5 => ?_
    exact Tot.bind (next_tot hc h5.1) fun r6 h6 => Tot.pure h5.2
  simp only at a0 a1 b0 c0
  have eg : ∀ q : GEventGraph, GEventGraph.mk q.Events q.Places = q := fun _ => rfl
  have hnil : laws_likeGraphs9 F ⟨0, []⟩ ⟨0, []⟩ = some true := lkG hF (by simp)
  have lk1 : ∀ q : GEventGraph, graphB q = true → laws_likeGraphs9 F q q = some true := fun q hq => lkG hF (by obtain ⟨_, _, h3, _⟩ := graphB_true hq; omega)
  obtain ⟨J, j1, p1, p2, p3, p4⟩ : ∃ J c, spec_JoinGraphs F g h = some (J, c) ∧ impl_JoinGraphs F g h = some (J, c) ∧ laws_likeGraphs9 F J J = some true ∧ (c = 0 → J = joinG g h ∧ graphB g = true ∧ graphB h = true ∧ graphB (joinG g h) = true) := by
    rcases join_out (F := F) (g := g) (h := h) hF (by omega) (by omega) with ⟨c, h0, h1, h2⟩ | ⟨g1, g2, g3, h1, h2⟩
    · exact ⟨_, _, h1, h2, hnil, fun h => absurd h h0⟩
    · exact ⟨_, _, h1, h2, lk1 _ g3, fun _ => ⟨rfl, g1, g2, g3⟩⟩
  obtain ⟨S, s1, q1, q2, q3, q4⟩ : ∃ S c, spec_SplitPlace F s i d = some (S, c) ∧ impl_SplitPlace F s i d = some (S, c) ∧ laws_likeGraphs9 F S S = some true ∧ (c = 0 → S = splitG s i d ∧ graphB s = true ∧ i.toNat < s.Places.length ∧ 0 ≤ d ∧ d ≤ (plD s i.toNat).Delay ∧ graphB (splitG s i d) = true) := by
    rcases split_out (F := F) (g := s) (i := i) (d := d) hF (by omega) with ⟨c, h0, h1, h2⟩ | ⟨g1, g2, g3, g4, g5, h1, h2⟩
    · exact ⟨_, _, h1, h2, hnil, fun h => absurd h h0⟩
    · exact ⟨_, _, h1, h2, lk1 _ g5, fun _ => ⟨rfl, g1, g2, g3, g4, g5⟩⟩
  obtain ⟨M, m1, t1, t2, t3, t4⟩ : ∃ M c, spec_MergeEvents F m a b = some (M, c) ∧ impl_MergeEvents F m a b = some (M, c) ∧ laws_likeGraphs9 F M M = some true ∧ (c = 0 → M = mergedGraph a b m ∧ graphB m = true ∧ graphB (mergedGraph a b m) = true) := by
    rcases merge_out (F := F) (g := m) (a := a) (b := b) hF (by omega) with ⟨c, h0, h1, h2⟩ | ⟨g1, g2, g3, g4, h1, h2⟩
    · exact ⟨_, _, h1, h2, hnil, fun h => absurd h h0⟩
    · exact ⟨_, _, h1, h2, lk1 _ (merged_ok g1 g2 g3 g4), fun _ => ⟨rfl, g1, merged_ok g1 g2 g3 g4⟩⟩
  simp only [hd1, hd2, hd3, Option.bind_some, eg, p1, p2, q1, q2, t1, t2, bne_self_eq_false, cond_false, p3, q3, t3, Bool.not_true]
  have hM : (bif m1 == 0 then (bif M.Events != IntKind.i64.wrap (m.Events - 1) then some true else bif (M.Places.length : Int) != (m.Places.length : Int) then some true else (impl_IsEventGraph F M).bind fun r109 => some (!r109)) else some false) = some false := by
    by_cases hm : m1 = 0
    · obtain ⟨rfl, e1, e2⟩ := t4 hm
      obtain ⟨z1, z2, z3, zw, _⟩ := graphB_true e1
      have y1 : (mergedGraph a b m).Events = m.Events - 1 := rfl
      have y2 : (mergedGraph a b m).Places.length = m.Places.length := List.length_map ..
      rw [bT (show (m1 == 0) = true by simp [hm]), zw, y1, y2, bne_self_eq_false, bne_self_eq_false, cond_false, cond_false, implGraph_is hF (by omega), e2]; rfl
    · rw [bF (show (m1 == 0) = false by simp [hm])]
  rw [hM]
  simp only [Option.bind_some, cond_false]
  refine (bind_of (?_ : _ = some (Sum.inr ()))).trans ?_
  · by_cases hs1 : s1 = 0
    · obtain ⟨rfl, e1, e2, e3, _, e5⟩ := q4 hs1
      rw [bT (show (s1 == 0) = true by simp [hs1])]
      obtain ⟨z1, z2, z3, _, _⟩ := graphB_true e1
      rcases split_times (F := F) hF e1 e2 e3 e5 with ⟨w1, w2⟩ | ⟨A, B, lA, lB, hAB, w1, w2⟩
      · have L : laws_FnJoined_L2 F (s, i, d) ([], 5) ([], 5) F 0 = some (.inr ()) := by
          obtain ⟨F', rfl⟩ : ∃ q, F = q + 1 := ⟨F - 1, by omega⟩
          rfl
        rw [w1, w2]
        simp only [Option.bind_some, bne_self_eq_false, cond_false, L]
      · have L : laws_FnJoined_L2 F (s, i, d) (A, 0) (B, 0) F 0 = some (.inr ()) := by
          refine same_loop (len := 5) (L := laws_FnJoined_L2 F (s, i, d) (A, 0) (B, 0)) ?_ ?_ (by omega)
          · intro n k hk
            obtain ⟨u1, u2, u3⟩ := hAB k hk
            have e6 : A[k]? = some (A.getD k []) := by rw [List.getD_eq_getElem?_getD, List.getElem?_eq_getElem (by omega)]; rfl
            have e7 : B[k]? = some (B.getD k []) := by rw [List.getD_eq_getElem?_getD, List.getElem?_eq_getElem (by omega)]; rfl
            have hct : cutTo (B.getD k []) s.Events = some (A.getD k []) := by
              unfold cutTo; rw [if_pos ⟨by omega, by omega⟩, u2]
            simp only [laws_FnJoined_L2, lA, bdT (show (k : Int) < ((5 : Nat) : Int) by omega), idx_nat, e6, e7, Option.bind_some, hct, lkI (F := F) (xs := A.getD k []) hF (by omega), Bool.not_true, cond_false, wrN (show k ≤ 67108864 by omega)]
          · intro n
            simp only [laws_FnJoined_L2, lA, bdF (show ¬ ((5 : Nat) : Int) < ((5 : Nat) : Int) by omega)]
        rw [w1, w2]
        simp only [Option.bind_some, bne_self_eq_false, cond_false, lA, lB, L]
    · rw [bF (show (s1 == 0) = false by simp [hs1])]
  simp only
  by_cases hj : j1 = 0
  · obtain ⟨rfl, e1, e2, e3⟩ := p4 hj
    rw [bF (neF hj)]
    obtain ⟨g1, g2, g3, _, _⟩ := graphB_true e1
    obtain ⟨h1, h2, h3, _, _⟩ := graphB_true e2
    obtain ⟨k1, k2, k3, _, _⟩ := graphB_true e3
    have hJE : (joinG g h).Events = g.Events + h.Events := rfl
    have L3 : laws_FnJoined_L3 F (g, h) (joinG g h, j1) F [] [] 0 = some (up 0 g.Events.toNat, up g.Events.toNat h.Events.toNat) := by
      refine for0 (L := fun n (s : List Int × List Int) x => laws_FnJoined_L3 F (g, h) (joinG g h, j1) n s.1 s.2 x) (len := g.Events.toNat + h.Events.toNat) (fun k s => s = (up 0 (min k g.Events.toNat), up g.Events.toNat (k - g.Events.toNat))) (R := fun o => o = some (up 0 g.Events.toNat, up g.Events.toNat h.Events.toNat)) (s := ([], [])) ?_ ?_ (by simp [up]) (by omega)
      · rintro n k s hk rfl
        refine .inl ⟨_, ?_, rfl⟩
        by_cases hlt : k < g.Events.toNat
        · have ha := app_le (xs := up 0 (min k g.Events.toNat)) (ys := [(k : Int)]) (by rw [up_len]; simp only [List.length_singleton]; omega)
          simp only [laws_FnJoined_L3, hJE, bdT (show (k : Int) < g.Events + h.Events by omega), bdT (show (k : Int) < g.Events by omega), ha, Option.bind_some, wrN (show k ≤ 67108864 by omega)]
          rw [show min (k + 1) g.Events.toNat = min k g.Events.toNat + 1 by omega, up_succ, show 0 + min k g.Events.toNat = k by omega, show k + 1 - g.Events.toNat = k - g.Events.toNat by omega]
        · have ha := app_le (xs := up g.Events.toNat (k - g.Events.toNat)) (ys := [(k : Int)]) (by rw [up_len]; simp only [List.length_singleton]; omega)
          simp only [laws_FnJoined_L3, hJE, bdT (show (k : Int) < g.Events + h.Events by omega), bdF (show ¬ (k : Int) < g.Events by omega), ha, Option.bind_some, wrN (show k ≤ 67108864 by omega)]
          rw [show min (k + 1) g.Events.toNat = min k g.Events.toNat by omega, show k + 1 - g.Events.toNat = (k - g.Events.toNat) + 1 by omega, up_succ, show g.Events.toNat + (k - g.Events.toNat) = k by omega]
      · rintro n s rfl
        simp only [laws_FnJoined_L3, hJE, bdF (show ¬ (((g.Events.toNat + h.Events.toNat : Nat) : Int)) < g.Events + h.Events by omega)]
        rw [show min (g.Events.toNat + h.Events.toNat) g.Events.toNat = g.Events.toNat by omega, Nat.add_sub_cancel_left]
    have P1 := part_is (F := F) (E := (g.Events + h.Events).toNat) (x0 := joinG g h) (x1 := up 0 g.Events.toNat) hF e3 (by rw [hJE]; omega) (by rw [up_len]; omega) (by rw [up_len]; omega) (up_all (by omega)) (up_inc _ _)
    have P2 := part_is (F := F) (E := (g.Events + h.Events).toNat) (x0 := joinG g h) (x1 := up g.Events.toNat h.Events.toNat) hF e3 (by rw [hJE]; omega) (by rw [up_len]; omega) (by rw [up_len]; omega) (up_all (by omega)) (up_inc _ _)
    rw [part1 e1 e2, up_len, show ((g.Events.toNat : Nat) : Int) = g.Events by omega, eg] at P1
    rw [part2 e1 e2, up_len, show ((h.Events.toNat : Nat) : Int) = h.Events by omega, eg] at P2
    rw [L3, Option.bind_some]
    simp only [P1, P2, Option.bind_some, beq_self_eq_true, cond_true, lk1 g e1, lk1 h e2]
  · rw [bT (neT hj)]

end Go.Proofs.Ytgkgimglgjfcjaa
