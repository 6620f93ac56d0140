/- Plain lemmas about the small functions of the laws. -/
import Derived.Test.YtpmebacdmilecaaLatestTimesModels
import Derived.Test.YtpmebacdmilecaaBf
namespace Go.Proofs.Ytpmebacdmilecaa

def toP_Int64 (p : Int) : Int := p
theorem szInt64S_is {F : Nat} {ps : List Int} {left : Int} (h0 : 0 ≤ left) (h1 : left ≤ 1048576) (h : ps.length ≤ 9223372036854775807) : ∃ r, laws_szInt64S F ps left = some r ∧ (r < 0 ∨ (0 ≤ r ∧ r + ps.length = left)) := by
  unfold laws_szInt64S
  rw [wr (by omega) (by omega)]
  by_cases hc : left - (ps.length : Int) < 0
  · exact ⟨-1, by rw [bdT hc], .inl (by decide)⟩
  · exact ⟨left - ps.length, by rw [bdF hc], .inr ⟨by omega, by omega⟩⟩
theorem toInt64S_is {F : Nat} {ps : List Int} (hF : 134217728 ≤ F) (h : ps.length ≤ 1048576) : laws_toInt64S F ps = some (ps.map toP_Int64) := by
  unfold laws_toInt64S
  rw [mk_nat _ (by omega)]
  simp only [Option.bind_some]
  rw [fill_loop (ps := ps) (f := toP_Int64) (L := laws_toInt64S_L1 F ps) ?_ ?_ (by simp) (by omega)]; rfl
  · intro n xs k x hk hx hl
    have hk' : k < xs.length := by omega
    have hq : xs[k]? = some xs[k] := List.getElem?_eq_getElem hk'
    simp only [laws_toInt64S_L1, bdT (show (k : Int) < (ps.length : Int) by omega), idx_nat, hx, hq, Option.bind_some, upd_nat, hk', wrN (show k ≤ 67108864 by omega), toP_Int64]
  · intro n xs
    simp only [laws_toInt64S_L1, bdF (show ¬ (ps.length : Int) < (ps.length : Int) by omega)]
theorem eqInt64S_same {F : Nat} {xs : List Int} (hF : 134217728 ≤ F) (h : xs.length ≤ 16777216) : laws_eqInt64S F xs xs = some true := by
  unfold laws_eqInt64S
  rw [bF (neF rfl), same_loop (L := laws_eqInt64S_L1 F xs xs) (len := xs.length) ?_ ?_ (by omega)]; rfl
  · intro n k hk
    have hq : xs[k]? = some xs[k] := List.getElem?_eq_getElem hk
    simp only [laws_eqInt64S_L1, bdT (show (k : Int) < (xs.length : Int) by omega), idx_nat, hq, Option.bind_some, bne_self_eq_false, cond_false, wrN (show k ≤ 67108864 by omega)]
  · intro n
    simp only [laws_eqInt64S_L1, bdF (show ¬ (xs.length : Int) < (xs.length : Int) by omega)]
def mrk_Int64 (k : Int) (i : Nat) : Int := k + 1 * (i : Int)
theorem markInt64S_is {F : Nat} {ps : List Int} {k : Int} (hF : 134217728 ≤ F) (h : ps.length ≤ 16777216) (h0 : 0 ≤ k) (h1 : k ≤ 1000000000000) :
    ∃ ms, laws_markInt64S F ps k = some (k + 1 * (ps.length : Int), ms) ∧ ms.length = ps.length ∧ ∀ i, i < ps.length → ms[i]? = some (mrk_Int64 k i) := by
  have H := for0 (L := fun n (s : List Int × Int) i => laws_markInt64S_L1 F n s.1 s.2 i) (len := ps.length) (fun j s => s.1.length = ps.length ∧ s.2 = k + 1 * (j : Int) ∧ ∀ i, i < j → s.1[i]? = some (mrk_Int64 k i))
    (R := fun r => ∃ ms, r = some (ms, k + 1 * (ps.length : Int)) ∧ ms.length = ps.length ∧ ∀ i, i < ps.length → ms[i]? = some (mrk_Int64 k i)) (s := (ps, k)) (n := F) ?_ ?_ ⟨rfl, by simp, by intro i hi; omega⟩ (by omega)
  · obtain ⟨ms, he, hl, hi⟩ := H
    refine ⟨ms, ?_, hl, hi⟩
    unfold laws_markInt64S
    rw [bind_of he]
  · rintro n j ⟨xs, s⟩ hj ⟨hl, hs, hi⟩
    simp only at hl hs hi
    subst hs
    have hk' : j < xs.length := by omega
    have hq : xs[j]? = some xs[j] := List.getElem?_eq_getElem hk'
    have w1 : IntKind.i64.wrap (k + 1 * (j : Int) + 1) = k + 1 * (j : Int) + 1 := wr (by omega) (by omega)
    refine .inl ⟨(xs.set j (mrk_Int64 k j), k + 1 * (j : Int) + 1), ?_, by rw [List.length_set]; exact hl, by simp only; omega, ?_⟩
    · simp only [laws_markInt64S_L1, bdT (show (j : Int) < (xs.length : Int) by omega), idx_nat, hq, Option.bind_some, upd_nat, hk', wrN (show j ≤ 67108864 by omega), w1, mrk_Int64]
    · intro i hij
      by_cases e : i = j
      · subst e; exact set_here hk'
      · simp only; rw [set_keep e]; exact hi i (by omega)
  · rintro n ⟨xs, s⟩ ⟨hl, hs, hi⟩
    simp only at hl hs hi
    refine ⟨xs, ?_, hl, hi⟩
    simp only [laws_markInt64S_L1, bdF (show ¬ (ps.length : Int) < (xs.length : Int) by omega), hs]
theorem heldInt64S_is {F : Nat} {ms : List Int} {k : Int} (hF : 134217728 ≤ F) (h : ms.length ≤ 16777216) (h0 : 0 ≤ k) (h1 : k ≤ 1000000000000) (hm : ∀ i, i < ms.length → ms[i]? = some (mrk_Int64 k i)) :
    laws_heldInt64S F ms k = some (k + 1 * (ms.length : Int)) := by
  unfold laws_heldInt64S
  rw [show laws_heldInt64S_L1 F ms F k 0 = some (.inr (k + 1 * (ms.length : Int))) from ?_]; rfl
  refine for0 (L := fun n (s : Int) i => laws_heldInt64S_L1 F ms n s i) (len := ms.length) (fun j s => s = k + 1 * (j : Int)) (R := fun r => r = some (.inr (k + 1 * (ms.length : Int)))) ?_ ?_ (by simp) (by omega)
  · rintro n j s hj rfl
    have w1 : IntKind.i64.wrap (k + 1 * (j : Int) + 1) = k + 1 * (j : Int) + 1 := wr (by omega) (by omega)
    refine .inl ⟨k + 1 * (j : Int) + 1, ?_, by omega⟩
    simp only [laws_heldInt64S_L1, bdT (show (j : Int) < (ms.length : Int) by omega), idx_nat, hm j hj, Option.bind_some, wrN (show j ≤ 67108864 by omega), w1, mrk_Int64, bne_self_eq_false, cond_false]
  · rintro n s rfl
    simp only [laws_heldInt64S_L1, bdF (show ¬ (ms.length : Int) < (ms.length : Int) by omega)]

def toP_Place (p : LPlace) : GPlace := ⟨p.From, p.To, p.Delay, p.Tokens⟩
theorem szPlaceS_is {F : Nat} {ps : List LPlace} {left : Int} (h0 : 0 ≤ left) (h1 : left ≤ 1048576) (h : ps.length ≤ 9223372036854775807) : ∃ r, laws_szPlaceS F ps left = some r ∧ (r < 0 ∨ (0 ≤ r ∧ r + ps.length = left)) := by
  unfold laws_szPlaceS
  rw [wr (by omega) (by omega)]
  by_cases hc : left - (ps.length : Int) < 0
  · exact ⟨-1, by rw [bdT hc], .inl (by decide)⟩
  · exact ⟨left - ps.length, by rw [bdF hc], .inr ⟨by omega, by omega⟩⟩
theorem toPlaceS_is {F : Nat} {ps : List LPlace} (hF : 134217728 ≤ F) (h : ps.length ≤ 1048576) : laws_toPlaceS F ps = some (ps.map toP_Place) := by
  unfold laws_toPlaceS
  rw [mk_nat _ (by omega)]
  simp only [Option.bind_some]
  rw [fill_loop (ps := ps) (f := toP_Place) (L := laws_toPlaceS_L1 F ps) ?_ ?_ (by simp) (by omega)]; rfl
  · intro n xs k x hk hx hl
    have hk' : k < xs.length := by omega
    have hq : xs[k]? = some xs[k] := List.getElem?_eq_getElem hk'
    simp only [laws_toPlaceS_L1, bdT (show (k : Int) < (ps.length : Int) by omega), idx_nat, hx, hq, laws_toPlace, Option.bind_some, upd_nat, hk', wrN (show k ≤ 67108864 by omega), toP_Place]
  · intro n xs
    simp only [laws_toPlaceS_L1, bdF (show ¬ (ps.length : Int) < (ps.length : Int) by omega)]
theorem eqPlace_same {F : Nat} (x : GPlace) : laws_eqPlace F x x = some true := by
  simp only [laws_eqPlace, bne_self_eq_false, cond_false]
theorem eqPlaceS_same {F : Nat} {xs : List GPlace} (hF : 134217728 ≤ F) (h : xs.length ≤ 16777216) : laws_eqPlaceS F xs xs = some true := by
  unfold laws_eqPlaceS
  rw [bF (neF rfl), same_loop (L := laws_eqPlaceS_L1 F xs xs) (len := xs.length) ?_ ?_ (by omega)]; rfl
  · intro n k hk
    have hq : xs[k]? = some xs[k] := List.getElem?_eq_getElem hk
    simp only [laws_eqPlaceS_L1, bdT (show (k : Int) < (xs.length : Int) by omega), idx_nat, hq, Option.bind_some, eqPlace_same, Bool.not_true, cond_false, wrN (show k ≤ 67108864 by omega)]
  · intro n
    simp only [laws_eqPlaceS_L1, bdF (show ¬ (xs.length : Int) < (xs.length : Int) by omega)]
def mrk_Place (k : Int) (i : Nat) : GPlace := ⟨k + 4 * (i : Int), k + 4 * (i : Int) + 1, k + 4 * (i : Int) + 1 + 1, k + 4 * (i : Int) + 1 + 1 + 1⟩
theorem markPlaceS_is {F : Nat} {ps : List GPlace} {k : Int} (hF : 134217728 ≤ F) (h : ps.length ≤ 16777216) (h0 : 0 ≤ k) (h1 : k ≤ 1000000000000) :
    ∃ ms, laws_markPlaceS F ps k = some (k + 4 * (ps.length : Int), ms) ∧ ms.length = ps.length ∧ ∀ i, i < ps.length → ms[i]? = some (mrk_Place k i) := by
  have H := for0 (L := fun n (s : List GPlace × Int) i => laws_markPlaceS_L1 F n s.1 s.2 i) (len := ps.length) (fun j s => s.1.length = ps.length ∧ s.2 = k + 4 * (j : Int) ∧ ∀ i, i < j → s.1[i]? = some (mrk_Place k i))
    (R := fun r => ∃ ms, r = some (ms, k + 4 * (ps.length : Int)) ∧ ms.length = ps.length ∧ ∀ i, i < ps.length → ms[i]? = some (mrk_Place k i)) (s := (ps, k)) (n := F) ?_ ?_ ⟨rfl, by simp, by intro i hi; omega⟩ (by omega)
  · obtain ⟨ms, he, hl, hi⟩ := H
    refine ⟨ms, ?_, hl, hi⟩
    unfold laws_markPlaceS
    rw [bind_of he]
  · rintro n j ⟨xs, s⟩ hj ⟨hl, hs, hi⟩
    simp only at hl hs hi
    subst hs
    have hk' : j < xs.length := by omega
    have hq : xs[j]? = some xs[j] := List.getElem?_eq_getElem hk'
    have w1 : IntKind.i64.wrap (k + 4 * (j : Int) + 1) = k + 4 * (j : Int) + 1 := wr (by omega) (by omega)
    have w2 : IntKind.i64.wrap (k + 4 * (j : Int) + 1 + 1) = k + 4 * (j : Int) + 1 + 1 := wr (by omega) (by omega)
    have w3 : IntKind.i64.wrap (k + 4 * (j : Int) + 1 + 1 + 1) = k + 4 * (j : Int) + 1 + 1 + 1 := wr (by omega) (by omega)
    have w4 : IntKind.i64.wrap (k + 4 * (j : Int) + 1 + 1 + 1 + 1) = k + 4 * (j : Int) + 1 + 1 + 1 + 1 := wr (by omega) (by omega)
    refine .inl ⟨(xs.set j (mrk_Place k j), k + 4 * (j : Int) + 1 + 1 + 1 + 1), ?_, by rw [List.length_set]; exact hl, by simp only; omega, ?_⟩
    · simp only [laws_markPlaceS_L1, bdT (show (j : Int) < (xs.length : Int) by omega), idx_nat, hq, Option.bind_some, upd_nat, hk', set_here, List.length_set, List.set_set, wrN (show j ≤ 67108864 by omega), w1, w2, w3, w4, mrk_Place]
    · intro i hij
      by_cases e : i = j
      · subst e; exact set_here hk'
      · simp only; rw [set_keep e]; exact hi i (by omega)
  · rintro n ⟨xs, s⟩ ⟨hl, hs, hi⟩
    simp only at hl hs hi
    refine ⟨xs, ?_, hl, hi⟩
    simp only [laws_markPlaceS_L1, bdF (show ¬ (ps.length : Int) < (xs.length : Int) by omega), hs]

theorem szEventGraph_is {F : Nat} {g : LEventGraph} {left : Int} (h0 : 0 ≤ left) (h1 : left ≤ 1048576) (h : g.Places.length ≤ 9223372036854775807) : ∃ r, laws_szEventGraph F g left = some r ∧ (r < 0 ∨ (0 ≤ r ∧ r + g.Places.length = left)) := by
  obtain ⟨r, hr, h2⟩ := szPlaceS_is (F := F) h0 h1 h
  unfold laws_szEventGraph
  rw [bind_of hr]
  by_cases hc : r < 0
  · exact ⟨-1, by rw [bdT hc], .inl (by decide)⟩
  · exact ⟨r, by rw [bdF hc], h2⟩
def toP_EventGraph (g : LEventGraph) : GEventGraph := ⟨g.Events, g.Places.map toP_Place⟩
theorem toEventGraph_is {F : Nat} {g : LEventGraph} (hF : 134217728 ≤ F) (h : g.Places.length ≤ 1048576) : laws_toEventGraph F g = some (toP_EventGraph g) := by
  unfold laws_toEventGraph
  rw [bind_of (toPlaceS_is hF h)]; rfl
theorem eqEventGraph_same {F : Nat} (x : GEventGraph) (hF : 134217728 ≤ F) (h : x.Places.length ≤ 16777216) : laws_eqEventGraph F x x = some true := by
  simp only [laws_eqEventGraph, eqPlaceS_same hF h, bne_self_eq_false, cond_false, Option.bind_some, Bool.not_true]
theorem markEventGraph_is {F : Nat} {g : GEventGraph} {k : Int} (hF : 134217728 ≤ F) (h : g.Places.length ≤ 16777216) (h0 : 0 ≤ k) (h1 : k ≤ 1000000000000) :
    ∃ ms, laws_markEventGraph F g k = some (k + 4 * (g.Places.length : Int), ms) ∧ ms.length = g.Places.length ∧ ∀ i, i < g.Places.length → ms[i]? = some (mrk_Place k i) := by
  obtain ⟨ms, he, hl, hi⟩ := markPlaceS_is hF h h0 h1
  exact ⟨ms, by unfold laws_markEventGraph; rw [bind_of he], hl, hi⟩

theorem slices_IndexFunc_Place_is {F : Nat} {ps : List GPlace} {m : GPlace → Option Bool} {h : GPlace → Bool} (hF : 134217728 ≤ F) (hl : ps.length ≤ 16777216) (hm : ∀ x, x ∈ ps → m x = some (h x)) :
    slices_IndexFunc_Place F ps m = some (firstAt (ps.findIdx? h)) := by
  unfold slices_IndexFunc_Place
  rw [find_loop (ps := ps) (h := h) (v := fun k => (k : Int)) (L := slices_IndexFunc_Place_L1 F ps m) ?_ ?_ (by omega)]
  · cases ps.findIdx? h <;> rfl
  · intro n k x hk hx
    simp only [slices_IndexFunc_Place_L1, bdT (show (k : Int) < (ps.length : Int) by omega), idx_nat, hx, Option.bind_some, hm x (List.mem_of_getElem? hx), wrN (show k ≤ 67108864 by omega)]
  · intro n
    simp only [slices_IndexFunc_Place_L1, bdF (show ¬ (ps.length : Int) < (ps.length : Int) by omega)]
theorem slices_ContainsFunc_Place_is {F : Nat} {ps : List GPlace} {m : GPlace → Option Bool} {h : GPlace → Bool} (hF : 134217728 ≤ F) (hl : ps.length ≤ 16777216) (hm : ∀ x, x ∈ ps → m x = some (h x)) :
    slices_ContainsFunc_Place F ps m = some (ps.any h) := by
  unfold slices_ContainsFunc_Place
  rw [bind_of (slices_IndexFunc_Place_is hF hl hm), find_any]

theorem slices_IndexFunc_sint64_is {F : Nat} {ps : List (List Int)} {m : (List Int) → Option Bool} {h : (List Int) → Bool} (hF : 134217728 ≤ F) (hl : ps.length ≤ 16777216) (hm : ∀ x, x ∈ ps → m x = some (h x)) :
    slices_IndexFunc_sint64 F ps m = some (firstAt (ps.findIdx? h)) := by
  unfold slices_IndexFunc_sint64
  rw [find_loop (ps := ps) (h := h) (v := fun k => (k : Int)) (L := slices_IndexFunc_sint64_L1 F ps m) ?_ ?_ (by omega)]
  · cases ps.findIdx? h <;> rfl
  · intro n k x hk hx
    simp only [slices_IndexFunc_sint64_L1, bdT (show (k : Int) < (ps.length : Int) by omega), idx_nat, hx, Option.bind_some, hm x (List.mem_of_getElem? hx), wrN (show k ≤ 67108864 by omega)]
  · intro n
    simp only [slices_IndexFunc_sint64_L1, bdF (show ¬ (ps.length : Int) < (ps.length : Int) by omega)]
theorem slices_ContainsFunc_sint64_is {F : Nat} {ps : List (List Int)} {m : (List Int) → Option Bool} {h : (List Int) → Bool} (hF : 134217728 ≤ F) (hl : ps.length ≤ 16777216) (hm : ∀ x, x ∈ ps → m x = some (h x)) :
    slices_ContainsFunc_sint64 F ps m = some (ps.any h) := by
  unfold slices_ContainsFunc_sint64
  rw [bind_of (slices_IndexFunc_sint64_is hF hl hm), find_any]

theorem toInt64S_same {F : Nat} {ps : List Int} (hF : 134217728 ≤ F) (h : ps.length ≤ 1048576) : laws_toInt64S F ps = some ps := by
  rw [toInt64S_is hF h, show ps.map toP_Int64 = ps from by unfold toP_Int64; simp]

/-- how many numbers stand in the first i rows -/
def offR (rows : List (List Int)) (i : Nat) : Nat := ((rows.take i).map List.length).sum

theorem offR_zero (rows : List (List Int)) : offR rows 0 = 0 := rfl

theorem offR_succ {rows : List (List Int)} {i : Nat} {row : List Int} (h : rows[i]? = some row) : offR rows (i + 1) = offR rows i + row.length := by
  unfold offR
  rw [List.take_add_one, h]; simp

theorem offR_mono (rows : List (List Int)) (i : Nat) : offR rows i ≤ offR rows (i + 1) := by
  unfold offR
  rw [List.take_add_one, List.map_append, List.sum_append]; omega

theorem offR_le {rows : List (List Int)} {i j : Nat} (h : i ≤ j) : offR rows i ≤ offR rows j := by
  induction j with
  | zero => obtain rfl : i = 0 := by omega
            exact Nat.le_refl _
  | succ j ih =>
    by_cases e : i = j + 1
    · subst e; exact Nat.le_refl _
    · exact Nat.le_trans (ih (by omega)) (offR_mono rows j)


theorem rows_le {rows : List (List Int)} {N : Nat} (hr : offR rows rows.length ≤ N) : ∀ row, row ∈ rows → row.length ≤ N := by
  intro row hm
  obtain ⟨i, hi, rfl⟩ := List.getElem_of_mem hm
  have h1 := offR_succ (List.getElem?_eq_getElem hi)
  have h2 := offR_le (rows := rows) (show i + 1 ≤ rows.length by omega)
  omega

theorem szInt64SS_is {F : Nat} {ps : List (List Int)} {left : Int} (h0 : 0 ≤ left) (h1 : left ≤ 1048576) (hF : 9223372036854775808 ≤ F) (h : ps.length ≤ 9223372036854775807) (hr : ∀ row, row ∈ ps → row.length ≤ 9223372036854775807) :
    ∃ r, laws_szInt64SS F ps left = some r ∧ (r < 0 ∨ (0 ≤ r ∧ r + ps.length + offR ps ps.length = left)) := by
  unfold laws_szInt64SS
  rw [wr (by omega) (by omega)]
  by_cases hc : left - (ps.length : Int) < 0
  · exact ⟨-1, by rw [bdT hc], .inl (by decide)⟩
  rw [bdF hc]
  have H := for0 (L := fun n (s : Int) i => laws_szInt64SS_L1 F ps n s i) (len := ps.length) (fun j s => 0 ≤ s ∧ s + ps.length + offR ps j = left)
    (R := fun r => r = some (.inl (-1)) ∨ ∃ s, r = some (.inr s) ∧ 0 ≤ s ∧ s + ps.length + offR ps ps.length = left) (s := left - (ps.length : Int)) (n := F) ?_ ?_ ⟨by omega, by rw [offR_zero]; omega⟩ (by omega)
  · rcases H with he | ⟨s, he, h3, h4⟩
    · exact ⟨-1, by rw [he]; rfl, .inl (by decide)⟩
    · exact ⟨s, by rw [he]; rfl, .inr ⟨h3, h4⟩⟩
  · intro n j s hj ⟨hs, ht⟩
    have hq : ps[j]? = some ps[j] := List.getElem?_eq_getElem hj
    obtain ⟨r, hr1, hr2⟩ := szInt64S_is (F := F) hs (by omega) (hr _ (List.getElem_mem hj))
    by_cases hn : r < 0
    · refine .inr (.inl ?_)
      simp only [laws_szInt64SS_L1, bdT (show (j : Int) < (ps.length : Int) by omega), idx_nat, hq, Option.bind_some, hr1, bdT hn]
    · refine .inl ⟨r, ?_, by omega, by rw [offR_succ hq]; omega⟩
      simp only [laws_szInt64SS_L1, bdT (show (j : Int) < (ps.length : Int) by omega), idx_nat, hq, Option.bind_some, hr1, bdF hn]
      rw [wr (by omega) (by omega)]; rfl
  · intro n s ⟨hs, ht⟩
    refine .inr ⟨s, ?_, hs, ht⟩
    simp only [laws_szInt64SS_L1, bdF (show ¬ (ps.length : Int) < (ps.length : Int) by omega)]


theorem toInt64SS_is {F : Nat} {ps : List (List Int)} (hF : 134217728 ≤ F) (h : ps.length ≤ 1048576) (hr : offR ps ps.length ≤ 1048576) : laws_toInt64SS F ps = some ps := by
  have each : ∀ (i : Nat) (row : List Int), ps[i]? = some row → row.length ≤ 1048576 := fun i row hi => by
    have hlt := (List.getElem?_eq_some_iff.1 hi).1
    have h1 := offR_succ hi
    have h2 := offR_le (rows := ps) (show i + 1 ≤ ps.length by omega)
    omega
  unfold laws_toInt64SS
  rw [mk_nat _ (by omega)]
  simp only [Option.bind_some]
  rw [fill_loop (ps := ps) (f := fun x => x) (L := laws_toInt64SS_L1 F ps) ?_ ?_ (by simp) (by omega)]
  · simp
  · intro n xs k x hk hx hl
    have hk' : k < xs.length := by omega
    have hq : xs[k]? = some xs[k] := List.getElem?_eq_getElem hk'
    have ht := toInt64S_is (F := F) hF (each k x hx)
    rw [show x.map toP_Int64 = x from by unfold toP_Int64; simp] at ht
    simp only [laws_toInt64SS_L1, bdT (show (k : Int) < (ps.length : Int) by omega), idx_nat, hx, hq, ht, Option.bind_some, upd_nat, hk', wrN (show k ≤ 67108864 by omega)]
  · intro n xs
    simp only [laws_toInt64SS_L1, bdF (show ¬ (ps.length : Int) < (ps.length : Int) by omega)]


theorem eqInt64SS_same {F : Nat} {xs : List (List Int)} (hF : 134217728 ≤ F) (h : xs.length ≤ 16777216) (hr : ∀ row, row ∈ xs → row.length ≤ 16777216) : laws_eqInt64SS F xs xs = some true := by
  unfold laws_eqInt64SS
  rw [bF (neF rfl), same_loop (L := laws_eqInt64SS_L1 F xs xs) (len := xs.length) ?_ ?_ (by omega)]; rfl
  · intro n k hk
    have hq : xs[k]? = some xs[k] := List.getElem?_eq_getElem hk
    simp only [laws_eqInt64SS_L1, bdT (show (k : Int) < (xs.length : Int) by omega), idx_nat, hq, Option.bind_some, eqInt64S_same hF (hr _ (List.getElem_mem hk)), Bool.not_true, cond_false, wrN (show k ≤ 67108864 by omega)]
  · intro n
    simp only [laws_eqInt64SS_L1, bdF (show ¬ (xs.length : Int) < (xs.length : Int) by omega)]


/-- ms holds the marks from k on, in the shape of rows -/
def MarkedR (rows : List (List Int)) (k : Int) (ms : List (List Int)) (upto : Nat) : Prop :=
  ms.length = rows.length ∧ ∀ (i : Nat), i < upto → ∃ m row, ms[i]? = some m ∧ rows[i]? = some row ∧ m.length = row.length ∧ ∀ j, j < m.length → m[j]? = some (mrk_Int64 (k + offR rows i) j)

theorem markInt64SS_is {F : Nat} {ps : List (List Int)} {k : Int} (hF : 134217728 ≤ F) (h : ps.length ≤ 16777216) (hr : offR ps ps.length ≤ 16777216) (h0 : 0 ≤ k) (h1 : k ≤ 900000000000) :
    ∃ ms, laws_markInt64SS F ps k = some (k + offR ps ps.length, ms) ∧ MarkedR ps k ms ps.length := by
  have H := for0 (L := fun n (s : List (List Int) × Int) i => laws_markInt64SS_L1 F n s.1 s.2 i) (len := ps.length)
    (fun j s => s.2 = k + offR ps j ∧ MarkedR ps k s.1 j ∧ ∀ i, j ≤ i → s.1[i]? = ps[i]?)
    (R := fun r => ∃ ms, r = some (ms, k + (offR ps ps.length : Int)) ∧ MarkedR ps k ms ps.length) (s := (ps, k)) (n := F) ?_ ?_ ⟨by simp [offR_zero], ⟨rfl, by intro i hi; omega⟩, fun _ _ => rfl⟩ (by omega)
  · obtain ⟨ms, he, hm⟩ := H
    exact ⟨ms, by unfold laws_markInt64SS; rw [bind_of he], hm⟩
  · rintro n j ⟨xs, s⟩ hj ⟨hs, ⟨hl, hi⟩, hrest⟩
    simp only at hs hl hi hrest
    subst hs
    have hp : ps[j]? = some ps[j] := List.getElem?_eq_getElem hj
    have hq : xs[j]? = some ps[j] := (hrest j (Nat.le_refl _)).trans hp
    have hk' : j < xs.length := by omega
    have hle := offR_le (rows := ps) (show j + 1 ≤ ps.length by omega)
    have hsu := offR_succ hp
    obtain ⟨m, hm1, hm2, hm3⟩ := markInt64S_is (F := F) (ps := ps[j]) (k := k + offR ps j) hF (by omega) (by omega) (by omega)
    refine .inl ⟨(xs.set j m, k + (offR ps (j + 1) : Int)), ?_, rfl, ⟨by rw [List.length_set]; exact hl, ?_⟩, ?_⟩
    · simp only [laws_markInt64SS_L1, bdT (show (j : Int) < (xs.length : Int) by omega), idx_nat, hq, Option.bind_some, hm1, upd_nat, hk', wrN (show j ≤ 67108864 by omega)]
      rw [show k + (offR ps j : Int) + 1 * (ps[j].length : Int) = k + (offR ps (j + 1) : Int) by omega]
    · intro i hij
      by_cases e : i = j
      · subst e; exact ⟨m, ps[i], set_here hk', hp, hm2, by rw [hm2]; exact hm3⟩
      · simp only [set_keep e]; exact hi i (by omega)
    · intro i hij
      simp only [set_keep (show i ≠ j by omega)]; exact hrest i (by omega)
  · rintro n ⟨xs, s⟩ ⟨hs, hm, _⟩
    simp only at hs hm
    refine ⟨xs, ?_, hm⟩
    have := hm.1
    simp only [laws_markInt64SS_L1, bdF (show ¬ (ps.length : Int) < (xs.length : Int) by omega), hs]

theorem heldInt64SS_is {F : Nat} {ps ms : List (List Int)} {k : Int} (hF : 134217728 ≤ F) (h : ps.length ≤ 16777216) (hr : offR ps ps.length ≤ 16777216) (h0 : 0 ≤ k) (h1 : k ≤ 900000000000) (hm : MarkedR ps k ms ps.length) : laws_heldInt64SS F ms k = some (k + (offR ps ps.length : Int)) := by
  obtain ⟨hml, hmi⟩ := hm
  have H := for0 (L := laws_heldInt64SS_L1 F ms) (len := ps.length) (fun j s => s = k + (offR ps j : Int)) (R := fun r => r = some (.inr (k + (offR ps ps.length : Int)))) (s := k) (n := F) ?_ ?_ (by simp [offR_zero]) (by omega)
  · unfold laws_heldInt64SS; rw [H]; rfl
  · rintro n j s hj rfl
    obtain ⟨m, row, hm1, hm2, hm3, hm4⟩ := hmi j hj
    have hsu := offR_succ hm2
    have hle := offR_le (rows := ps) (show j + 1 ≤ ps.length by omega)
    have hh := heldInt64S_is (F := F) (k := k + (offR ps j : Int)) (ms := m) hF (by omega) (by omega) (by omega) hm4
    refine .inl ⟨_, ?_, rfl⟩
    have e : k + (offR ps j : Int) + 1 * (m.length : Int) = k + (offR ps (j + 1) : Int) := by omega
    simp only [laws_heldInt64SS_L1, bdT (show (j : Int) < (ms.length : Int) by omega), idx_nat, hm1, Option.bind_some, hh, e, bdF (show ¬ k + (offR ps (j + 1) : Int) < 0 by omega), wrN (show j ≤ 67108864 by omega)]
  · rintro n s rfl
    simp only [laws_heldInt64SS_L1, bdF (show ¬ (ps.length : Int) < (ms.length : Int) by omega)]

/-! ### Slices of matrices -/
def wtM (m : List (List Int)) : Nat := m.length + offR m m.length

def offW (ms : List (List (List Int))) (i : Nat) : Nat := ((ms.take i).map wtM).sum

def offD (ms : List (List (List Int))) (i : Nat) : Nat := ((ms.take i).map fun m => offR m m.length).sum

theorem offW_zero (ms : List (List (List Int))) : offW ms 0 = 0 := rfl

theorem offW_succ {ms : List (List (List Int))} {i : Nat} {m : List (List Int)} (h : ms[i]? = some m) : offW ms (i + 1) = offW ms i + wtM m := by
  unfold offW
  rw [List.take_add_one, h]; simp

theorem offD_succ {ms : List (List (List Int))} {i : Nat} {m : List (List Int)} (h : ms[i]? = some m) : offD ms (i + 1) = offD ms i + offR m m.length := by
  unfold offD
  rw [List.take_add_one, h]; simp

theorem offW_mono (ms : List (List (List Int))) (i : Nat) : offW ms i ≤ offW ms (i + 1) := by
  unfold offW
  rw [List.take_add_one, List.map_append, List.sum_append]; omega

theorem offW_le {ms : List (List (List Int))} {i j : Nat} (h : i ≤ j) : offW ms i ≤ offW ms j := by
  induction j with
  | zero => obtain rfl : i = 0 := by omega
            exact Nat.le_refl _
  | succ j ih =>
    by_cases e : i = j + 1
    · subst e; exact Nat.le_refl _
    · exact Nat.le_trans (ih (by omega)) (offW_mono ms j)

theorem offD_le (ms : List (List (List Int))) : ∀ i, offD ms i ≤ offW ms i
  | 0 => Nat.le_refl _
  | i + 1 => by
    have := offD_le ms i
    cases h : ms[i]? with
    | none =>
      have e1 : offW ms (i + 1) = offW ms i := by unfold offW; rw [List.take_add_one, h]; simp
      have e2 : offD ms (i + 1) = offD ms i := by unfold offD; rw [List.take_add_one, h]; simp
      omega
    | some m =>
      rw [offW_succ h, offD_succ h]
      unfold wtM; omega

theorem offW_at {ms : List (List (List Int))} {i : Nat} {m : List (List Int)} (h : ms[i]? = some m) : m.length + offR m m.length ≤ offW ms ms.length := by
  have h1 := offW_succ h
  have h2 := offW_le (ms := ms) (show i + 1 ≤ ms.length from (List.getElem?_eq_some_iff.1 h).1)
  unfold wtM at h1
  omega

theorem offW_mem {ms : List (List (List Int))} {m : List (List Int)} (h : m ∈ ms) : m.length + offR m m.length ≤ offW ms ms.length := by
  obtain ⟨i, hi, rfl⟩ := List.getElem_of_mem h
  exact offW_at (List.getElem?_eq_getElem hi)

def inB (n lo hi : Int) : Bool := decide (lo ≤ n) && decide (n ≤ hi)

theorem inB_true {n lo hi : Int} : inB n lo hi = true ↔ lo ≤ n ∧ n ≤ hi := by unfold inB; simp

theorem inB_false {n lo hi : Int} (h : ¬ (lo ≤ n ∧ n ≤ hi)) : inB n lo hi = false := by
  cases e : inB n lo hi with
  | false => rfl
  | true => exact absurd (inB_true.1 e) h

theorem specIn_is {F : Nat} {n lo hi : Int} : spec_l01In F n lo hi = some (inB n lo hi) := by
  simp only [spec_l01In, cond_and, Option.bind_some]; rfl

theorem within_is {F : Nat} {n lo hi : Int} : impl_within F n lo hi = some (inB n lo hi) := by
  simp only [impl_within, cond_and, Option.bind_some]; rfl


theorem implAllWithin_is {F : Nat} {xs : List Int} {lo hi : Int} (hF : 134217728 ≤ F) (hl : xs.length ≤ 1048576) : impl_allWithin F xs lo hi = some (xs.all fun x => inB x lo hi) := by
  unfold impl_allWithin
  rw [all_loop (ps := xs) (g := fun x => inB x lo hi) (r := false) (L := impl_allWithin_L1 F xs lo hi) ?_ ?_ (by omega)]
  · cases (xs.all fun x => inB x lo hi) <;> rfl
  · intro n k x hk hx
    simp only [impl_allWithin_L1, bdT (show (k : Int) < (xs.length : Int) by omega), idx_nat, hx, Option.bind_some, within_is, condn, wrN (show k ≤ 67108864 by omega)]
  · intro n
    simp only [impl_allWithin_L1, bdF (show ¬ (xs.length : Int) < (xs.length : Int) by omega)]

/-! ### Values and vectors -/
def valB (a : Int) : Bool := (a == (-1000000000000000)) || inB a (-1000000) 1000000

/-! ### Sums of the algebra -/
def tms (a b : Int) : Int := bif (a == (-1000000000000000)) || (b == (-1000000000000000)) then (-1000000000000000) else IntKind.i64.wrap (a + b)

/-- the sum of the products -/
def dotv (c x : List Int) (n : Nat) : Int := (List.range n).foldl (fun acc i => max acc (tms (c.getD i 0) (x.getD i 0))) (-1000000000000000)

/-! ### Lists of finite numbers -/
theorem fin_val (x : Int) : (valB x && !(x == (-1000000000000000))) = inB x (-1000000) 1000000 := by
  unfold valB
  cases h : (x == (-1000000000000000)) with
  | false => simp
  | true =>
    rw [beq_iff_eq] at h
    subst h; rfl

def applyv (a : List (List Int)) (x : List Int) : List Int := a.map fun row => dotv row x row.length

def vecB (x : List Int) : Bool := inB x.length 1 10 && x.all valB

def firstL (a : List (List Int)) : Int := ((a.getD 0 []).length : Int)

def matB (a : List (List Int)) : Bool := inB a.length 1 10 && a.all (fun row => vecB row && ((row.length : Int) == firstL a))

theorem first_is {a : List (List Int)} (h : 0 < a.length) : idx a 0 = some (a.getD 0 []) := by
  rw [show (0 : Int) = ((0 : Nat) : Int) from rfl, idx_nat, List.getD_eq_getElem?_getD, List.getElem?_eq_getElem h]; rfl

def squareB (a : List (List Int)) : Bool := matB a && ((a.length : Int) == firstL a)

/-! ### Matrices by their entries -/
def tabM (m n : Nat) (f : Nat → Nat → Int) : List (List Int) := (List.range m).map fun i => (List.range n).map fun j => f i j

theorem tabM_len (m n : Nat) (f : Nat → Nat → Int) : (tabM m n f).length = m := by unfold tabM; simp

theorem tabM_row {m n i : Nat} {f : Nat → Nat → Int} (h : i < m) : (tabM m n f)[i]? = some ((List.range n).map fun j => f i j) := by
  unfold tabM; rw [List.getElem?_map, List.getElem?_range h]; rfl

theorem tabM_rows {m n : Nat} {f : Nat → Nat → Int} : ∀ r, r ∈ tabM m n f → r.length = n := by
  intro r hr
  unfold tabM at hr
  rw [List.mem_map] at hr
  obtain ⟨i, _, rfl⟩ := hr
  simp

theorem tabM_of {m n : Nat} {f : Nat → Nat → Int} {t : List (List Int)} (hl : t.length = m) (h : ∀ i, i < m → t[i]? = some ((List.range n).map fun j => f i j)) : t = tabM m n f := by
  apply List.ext_getElem?; intro q
  by_cases hq : q < m
  · rw [h q hq, tabM_row hq]
  · rw [List.getElem?_eq_none (by omega), List.getElem?_eq_none (by rw [tabM_len]; omega)]

theorem row_of {n : Nat} {f : Nat → Int} {r : List Int} (hl : r.length = n) (h : ∀ j, j < n → r[j]? = some (f j)) : r = (List.range n).map f := by
  apply List.ext_getElem?; intro q
  by_cases hq : q < n
  · rw [h q hq, List.getElem?_map, List.getElem?_range hq]; rfl
  · rw [List.getElem?_eq_none (by omega), List.getElem?_eq_none (by simp; omega)]

theorem specBotM_is {F m n : Nat} (hF : 134217728 ≤ F) (hm : m ≤ 1048576) (hn : n ≤ 1048576) : spec_l02Bottom F (m : Int) (n : Int) = some (tabM m n fun _ _ => (-1000000000000000)) := by
  unfold spec_l02Bottom
  rw [tab_loop (len := m) (f := fun _ => (List.range n).map fun _ => (-1000000000000000)) (L := spec_l02Bottom_L4 F (m : Int) (n : Int)) ?_ ?_ (by omega)]
  · rfl
  · intro k xs j hj hx
    have inner : spec_l02Bottom_L5 F (n : Int) F [] 0 = some ((List.range n).map fun _ => (-1000000000000000)) := by
      refine tab_loop (len := n) (f := fun _ => (-1000000000000000)) (L := spec_l02Bottom_L5 F (n : Int)) ?_ ?_ (by omega)
      · intro k xs j hj hx
        simp only [spec_l02Bottom_L5, bdT (show (j : Int) < (n : Int) by omega), app_le (show xs.length + [(-1000000000000000 : Int)].length ≤ 67108864 by simp only [List.length_singleton]; omega), Option.bind_some, wrN (show j ≤ 67108864 by omega)]
      · intro k xs _
        simp only [spec_l02Bottom_L5, bdF (show ¬ (n : Int) < (n : Int) by omega)]
    simp only [spec_l02Bottom_L4, bdT (show (j : Int) < (m : Int) by omega), inner, app_le (show xs.length + [(List.range n).map fun _ => (-1000000000000000 : Int)].length ≤ 67108864 by simp only [List.length_singleton]; omega), Option.bind_some, wrN (show j ≤ 67108864 by omega)]
  · intro k xs _
    simp only [spec_l02Bottom_L4, bdF (show ¬ (m : Int) < (m : Int) by omega)]

def unitM (n : Nat) : List (List Int) := tabM n n fun i j => if i = j then 0 else (-1000000000000000)

/-! ### Products -/
def dotM (a b : List (List Int)) (i j : Nat) (k : Nat) : Int := (List.range k).foldl (fun acc q => max acc (tms ((a.getD i []).getD q 0) ((b.getD q []).getD j 0))) (-1000000000000000)

theorem dotM_succ (a b : List (List Int)) (i j k : Nat) : dotM a b i j (k + 1) = max (dotM a b i j k) (tms ((a.getD i []).getD k 0) ((b.getD k []).getD j 0)) := by
  unfold dotM; rw [List.range_succ, List.foldl_append]; rfl

def mulM (a b : List (List Int)) (n : Nat) : List (List Int) := tabM a.length n fun i j => dotM a b i j b.length

theorem rowG {t : List (List Int)} {k : Nat} (h : k < t.length) : t[k]? = some (t.getD k []) := by
  rw [List.getD_eq_getElem?_getD, List.getElem?_eq_getElem h]; rfl

theorem mulM_len (a b : List (List Int)) (n : Nat) : (mulM a b n).length = a.length := tabM_len _ _ _

theorem mulM_rows {a b : List (List Int)} {n : Nat} : ∀ r, r ∈ mulM a b n → r.length = n := tabM_rows

def valsM (a : List (List Int)) : Bool := a.all fun r => r.all valB

/-! ### Modes -/
def firstN (ms : List (List (List Int))) : Int := ((ms.getD 0 []).length : Int)

def modesB (ms : List (List (List Int))) : Bool := inB ms.length 1 4 && ms.all fun m => squareB m && ((m.length : Int) == firstN ms)

theorem firstM_is {ms : List (List (List Int))} (h : 0 < ms.length) : idx ms 0 = some (ms.getD 0 []) := by
  rw [show (0 : Int) = ((0 : Nat) : Int) from rfl, idx_nat, List.getD_eq_getElem?_getD, List.getElem?_eq_getElem h]; rfl

/-- all matrices are squares of one size -/
theorem modesB_true {ms : List (List (List Int))} (h : modesB ms = true) : ∃ n : Nat, (ms.getD 0 []).length = n ∧ 1 ≤ n ∧ n ≤ 10 ∧ 1 ≤ ms.length ∧ ms.length ≤ 4 ∧ ∀ m, m ∈ ms → m.length = n ∧ ∀ row, row ∈ m → row.length = n := by
  unfold modesB at h
  rw [Bool.and_eq_true, inB_true, List.all_eq_true] at h
  have hm : ms.getD 0 [] ∈ ms := by
    rw [List.getD_eq_getElem?_getD, List.getElem?_eq_getElem (show 0 < ms.length by omega)]; exact List.getElem_mem _
  have sq : ∀ m, squareB m = true → 1 ≤ m.length ∧ m.length ≤ 10 ∧ ∀ row, row ∈ m → row.length = m.length := by
    intro m hs
    unfold squareB matB at hs
    simp only [Bool.and_eq_true, inB_true, beq_iff_eq, List.all_eq_true] at hs
    refine ⟨by omega, by omega, fun row hrow => ?_⟩
    have := (hs.1.2 row hrow).2
    omega
  have h0 := h.2 _ hm
  rw [Bool.and_eq_true] at h0
  obtain ⟨a1, a2, _⟩ := sq _ h0.1
  refine ⟨_, rfl, a1, a2, by omega, by omega, fun m hmm => ?_⟩
  have h2 := h.2 m hmm
  rw [Bool.and_eq_true, beq_iff_eq] at h2
  unfold firstN at h2
  obtain ⟨_, _, b3⟩ := sq _ h2.1
  exact ⟨by omega, fun row hrow => by rw [b3 row hrow]; omega⟩

/-! ### Words -/
theorem specWithin_is {F : Nat} {xs : List Int} {most lo hi : Int} (hF : 134217728 ≤ F) (hl : xs.length ≤ 1048576) : spec_l01Within F xs most lo hi = some ((xs.all fun x => inB x lo hi) && decide ((xs.length : Int) ≤ most)) := by
  unfold spec_l01Within
  rw [all_loop (ps := xs) (g := fun x => inB x lo hi) (r := false) (L := spec_l01Within_L1 F xs lo hi) ?_ ?_ (by omega)]
  · cases xs.all (fun x => inB x lo hi) <;> rfl
  · intro n k x hk hx
    simp only [spec_l01Within_L1, bdT (show (k : Int) < (xs.length : Int) by omega), idx_nat, hx, Option.bind_some, specIn_is, condn, wrN (show k ≤ 67108864 by omega)]
  · intro n
    simp only [spec_l01Within_L1, bdF (show ¬ (xs.length : Int) < (xs.length : Int) by omega)]

def wordB (ms : List (List (List Int))) (w : List Int) : Bool := (w.all fun x => inB x 0 (IntKind.i64.wrap ((ms.length : Int) - 1))) && decide ((w.length : Int) ≤ 6)

theorem wordB_at {ms : List (List (List Int))} {w : List Int} (h : wordB ms w = true) (hm : 1 ≤ ms.length) (hm4 : ms.length ≤ 4) : w.length ≤ 6 ∧ ∀ k (hk : k < w.length), ∃ j : Nat, w[k] = (j : Int) ∧ j < ms.length := by
  unfold wordB at h
  simp only [Bool.and_eq_true, List.all_eq_true, inB_true, decide_eq_true_eq] at h
  refine ⟨by omega, fun k hk => ?_⟩
  have := h.1 _ (List.getElem_mem hk)
  rw [wr (by omega) (by omega)] at this
  exact ⟨(w[k]).toNat, by omega, by omega⟩

/-! ### Shifted vectors, sums of matrices -/
def shiftv (x : List Int) (g : Int) : List Int := x.map fun v => tms v g

/-! ### Sums of matrices -/
def addv (a b : List Int) : List Int := (List.range a.length).map fun i => max (a.getD i 0) (b.getD i 0)

theorem addv_len (a b : List Int) : (addv a b).length = a.length := by unfold addv; simp

def addm (a b : List (List Int)) : List (List Int) := (List.range a.length).map fun i => addv (a.getD i []) (b.getD i [])

theorem addv_of {r a b : List Int} (hl : r.length = a.length) (h : ∀ q, q < a.length → r[q]? = some (max (a.getD q 0) (b.getD q 0))) : r = addv a b := by
  apply List.ext_getElem?; intro q
  by_cases hq : q < a.length
  · rw [h q hq]; unfold addv; rw [List.getElem?_map, List.getElem?_range hq]; rfl
  · rw [List.getElem?_eq_none (by omega), List.getElem?_eq_none (by rw [addv_len]; omega)]

/-! ### Sums of matrices, by the reference -/
theorem specOwn_is {F : Nat} {x : List Int} (hx : x.length ≤ 1048576) : spec_l01Own F x = some x := by
  unfold spec_l01Own
  rw [app_le (by simp only [List.length_nil]; omega)]; rfl

theorem specOwnM_is {F : Nat} {a : List (List Int)} (hF : 134217728 ≤ F) (ha : a.length ≤ 1048576) (hr : ∀ row, row ∈ a → row.length ≤ 1048576) : spec_l02Own F a = some a := by
  unfold spec_l02Own
  rw [grow_loop (ps := a) (g := fun r => [r]) (L := spec_l02Own_L1 F a) (by simp) ?_ ?_ (by omega)]
  · rw [Option.bind_some, flatMap_one, List.map_id']
  · intro n xs k v hk hv hl
    simp only [spec_l02Own_L1, bdT (show (k : Int) < (a.length : Int) by omega), idx_nat, hv, Option.bind_some, specOwn_is (hr v (List.mem_of_getElem? hv)), app_le (show xs.length + [v].length ≤ 67108864 by simp only [List.length_singleton]; omega), wrN (show k ≤ 67108864 by omega)]
  · intro n xs
    simp only [spec_l02Own_L1, bdF (show ¬ (a.length : Int) < (a.length : Int) by omega)]

theorem addm_len (a b : List (List Int)) : (addm a b).length = a.length := by unfold addm; simp

theorem addm_rows {a b : List (List Int)} {n : Nat} (ha : ∀ r, r ∈ a → r.length = n) : ∀ r, r ∈ addm a b → r.length = n := by
  intro r hr
  unfold addm at hr
  rw [List.mem_map] at hr
  obtain ⟨i, hi, rfl⟩ := hr
  rw [addv_len]
  have hi' : i < a.length := by simpa using hi
  have e : a[i]? = some (a.getD i []) := by rw [List.getD_eq_getElem?_getD, List.getElem?_eq_getElem hi']; rfl
  exact ha _ (List.mem_of_getElem? e)

/-! ### Tables by their entries -/
theorem tabM_get {m n i j : Nat} {f : Nat → Nat → Int} (hi : i < m) (hj : j < n) : ((tabM m n f).getD i []).getD j 0 = f i j := by
  rw [List.getD_eq_getElem?_getD, List.getD_eq_getElem?_getD, tabM_row hi, Option.getD_some, List.getElem?_map, List.getElem?_range hj]; rfl

theorem tabM_congr {m n : Nat} {f g : Nat → Nat → Int} (h : ∀ i j, i < m → j < n → f i j = g i j) : tabM m n f = tabM m n g := by
  unfold tabM
  apply List.map_congr_left
  intro i hi
  apply List.map_congr_left
  intro j hj
  exact h i j (by simpa using hi) (by simpa using hj)

theorem tabM_at {n i : Nat} {f : Nat → Int} (h : i < n) : ((List.range n).map f)[i]? = some (f i) := by
  rw [List.getElem?_map, List.getElem?_range h]; rfl

theorem tabM_set {m n i j : Nat} {f : Nat → Nat → Int} {v : Int} (hi : i < m) (hj : j < n) : (tabM m n f).set i (((List.range n).map fun j => f i j).set j v) = tabM m n fun a b => if a = i ∧ b = j then v else f a b := by
  refine tabM_of (by rw [List.length_set, tabM_len]) (fun a ha => ?_)
  by_cases e : a = i
  · subst e
    rw [set_here (by rw [tabM_len]; exact ha)]
    refine congrArg some (row_of (by simp) (fun b hb => ?_))
    by_cases e2 : b = j
    · subst e2
      rw [set_here (by simpa using hb), if_pos ⟨rfl, rfl⟩]
    · rw [set_keep e2, tabM_at hb, if_neg (by omega)]
  · rw [set_keep e, tabM_row ha]
    refine congrArg some ?_
    apply List.map_congr_left
    intro b _
    rw [if_neg (by omega)]

theorem tabM_self {m n : Nat} {a : List (List Int)} (hl : a.length = m) (hr : ∀ r, r ∈ a → r.length = n) : a = tabM m n fun i j => (a.getD i []).getD j 0 := by
  refine tabM_of hl (fun i hi => ?_)
  have e : a[i]? = some (a.getD i []) := by rw [List.getD_eq_getElem?_getD, List.getElem?_eq_getElem (by omega)]; rfl
  rw [e]
  exact congrArg some (row_of (hr _ (List.mem_of_getElem? e)) (fun j hj => getD_of (by rw [hr _ (List.mem_of_getElem? e)]; exact hj)))

theorem tabM_inj {m n : Nat} {f g : Nat → Nat → Int} (h : tabM m n f = tabM m n g) {i j : Nat} (hi : i < m) (hj : j < n) : f i j = g i j := by
  rw [← tabM_get (f := f) hi hj, h, tabM_get hi hj]

/-! ### Tables of arcs -/
def arcT {α : Type} (t f : α → Nat) (w : α → Int) : List α → Nat → Nat → Int
  | l => fun i j => l.foldl (fun acc x => if t x = i ∧ f x = j then max acc (w x) else acc) (-1000000000000000)

theorem arcT_snoc {α : Type} (t f : α → Nat) (w : α → Int) (l : List α) (x : α) (i j : Nat) : arcT t f w (l ++ [x]) i j = if i = t x ∧ j = f x then max (arcT t f w l (t x) (f x)) (w x) else arcT t f w l i j := by
  unfold arcT
  rw [List.foldl_append]
  simp only [List.foldl_cons, List.foldl_nil]
  by_cases h : t x = i ∧ f x = j
  · obtain ⟨rfl, rfl⟩ := h
    rw [if_pos ⟨rfl, rfl⟩]
  · rw [if_neg h, if_neg (by omega)]

theorem arcT_le {α : Type} {t f : α → Nat} {w : α → Int} : ∀ (l : List α) (a0 : Int) (i j : Nat), a0 ≤ l.foldl (fun acc x => if t x = i ∧ f x = j then max acc (w x) else acc) a0
  | [], a0, _, _ => Int.le_refl _
  | x :: l, a0, i, j => by
    rw [List.foldl_cons]
    by_cases h : t x = i ∧ f x = j
    · rw [if_pos h]; exact Int.le_trans (by omega) (arcT_le l _ i j)
    · rw [if_neg h]; exact arcT_le l a0 i j

theorem arcT_ge' {α : Type} {t f : α → Nat} {w : α → Int} : ∀ (l : List α) (a0 : Int) (x : α), x ∈ l → w x ≤ l.foldl (fun acc y => if t y = t x ∧ f y = f x then max acc (w y) else acc) a0
  | [], _, x, h => by cases h
  | y :: l, a0, x, h => by
    rw [List.foldl_cons]
    rcases List.mem_cons.1 h with rfl | h
    · rw [if_pos ⟨rfl, rfl⟩]; exact Int.le_trans (by omega) (arcT_le l _ _ _)
    · exact arcT_ge' l _ x h

theorem arcT_ge {α : Type} {t f : α → Nat} {w : α → Int} {l : List α} {x : α} (h : x ∈ l) : w x ≤ arcT t f w l (t x) (f x) := arcT_ge' l _ x h

theorem arcT_cases' {α : Type} {t f : α → Nat} {w : α → Int} (i j : Nat) : ∀ (l : List α) (a0 : Int), l.foldl (fun acc x => if t x = i ∧ f x = j then max acc (w x) else acc) a0 = a0 ∨ ∃ x, x ∈ l ∧ t x = i ∧ f x = j ∧ l.foldl (fun acc x => if t x = i ∧ f x = j then max acc (w x) else acc) a0 = w x
  | [], a0 => .inl rfl
  | y :: l, a0 => by
    rw [List.foldl_cons]
    by_cases h : t y = i ∧ f y = j
    · rw [if_pos h]
      rcases arcT_cases' i j l (max a0 (w y)) with h1 | ⟨x, h1, h2, h3, h4⟩
      · by_cases h5 : w y ≤ a0
        · left; rw [h1]; omega
        · right; exact ⟨y, by simp, h.1, h.2, by rw [h1]; omega⟩
      · right; exact ⟨x, by simp [h1], h2, h3, h4⟩
    · rw [if_neg h]
      rcases arcT_cases' i j l a0 with h1 | ⟨x, h1, h2, h3, h4⟩
      · exact .inl h1
      · right; exact ⟨x, by simp [h1], h2, h3, h4⟩

theorem arcT_cases {α : Type} {t f : α → Nat} {w : α → Int} (l : List α) (i j : Nat) : arcT t f w l i j = -1000000000000000 ∨ ∃ x, x ∈ l ∧ t x = i ∧ f x = j ∧ arcT t f w l i j = w x := arcT_cases' i j l _

theorem arcT_ok {α : Type} {t f : α → Nat} {w : α → Int} {l : List α} (h : ∀ x, x ∈ l → -1000000 ≤ w x ∧ w x ≤ 1000000) (n : Nat) : TabOk (arcT t f w l) n := fun i j _ _ => by
  rcases arcT_cases (t := t) (f := f) (w := w) l i j with e | ⟨x, hx, _, _, e⟩
  · exact .inl e
  · rw [e]; exact .inr (h x hx)

/-- a loop that lays arcs into a table -/
theorem arc_loop {α : Type} {t f : α → Nat} {w : α → Int} {ps : List α} {n : Nat} {L : Nat → List (List Int) → Int → Option (List (List Int))}
    (hL : ∀ m k x h, k < ps.length → ps[k]? = some x → L (m + 1) (tabM n n h) (k : Int) = L m (tabM n n fun i j => if i = t x ∧ j = f x then max (h (t x) (f x)) (w x) else h i j) ((k + 1 : Nat) : Int))
    (hE : ∀ m h, L (m + 1) (tabM n n h) (ps.length : Int) = some (tabM n n h)) {F : Nat} (hn : ps.length < F) : L F (tabM n n fun _ _ => (-1000000000000000)) 0 = some (tabM n n (arcT t f w ps)) := by
  refine for0 (L := L) (len := ps.length) (fun k ms => ms = tabM n n (arcT t f w (ps.take k))) (R := fun o => o = some (tabM n n (arcT t f w ps))) ?_ ?_ rfl hn
  · rintro m k ms hk rfl
    have hx : ps[k]? = some ps[k] := List.getElem?_eq_getElem hk
    refine .inl ⟨_, hL m k ps[k] _ hk hx, tabM_congr fun i j _ _ => ?_⟩
    rw [List.take_add_one, hx]
    exact (arcT_snoc t f w (ps.take k) ps[k] i j).symm
  · rintro m ms rfl
    rw [hE m, List.take_length]

/-! ### The star, both ways -/
theorem tms_ta {M K a b : Int} (ha : Okw M a) (hb : Okw K b) (hM : M ≤ 10000000000) (hK : K ≤ 10000000000) : tms a b = ta a b := by
  unfold tms ta
  unfold Okw at ha hb
  by_cases h1 : a = -1000000000000000
  · subst h1; rw [if_pos (.inl rfl)]; rfl
  · by_cases h2 : b = -1000000000000000
    · subst h2; rw [if_pos (.inr rfl), beq_self_eq_true, Bool.or_true]; rfl
    · rw [if_neg (by omega), beq_false_of_ne h1, beq_false_of_ne h2]
      exact wr (by omega) (by omega)

theorem addm_tab {n : Nat} {f g : Nat → Nat → Int} : addm (tabM n n f) (tabM n n g) = tabM n n fun i j => max (f i j) (g i j) := by
  refine tabM_of (by rw [addm_len, tabM_len]) (fun i hi => ?_)
  unfold addm
  rw [List.getElem?_map, tabM_len, List.getElem?_range hi]
  refine congrArg some (row_of ?_ (fun j hj => ?_))
  · rw [addv_len, List.getD_eq_getElem?_getD, tabM_row hi]; simp
  · unfold addv
    have hl : ((tabM n n f).getD i []).length = n := by rw [List.getD_eq_getElem?_getD, tabM_row hi]; simp
    show ((List.range ((tabM n n f).getD i []).length).map fun q => max (((tabM n n f).getD i []).getD q 0) (((tabM n n g).getD i []).getD q 0))[j]? = _
    rw [hl, tabM_at hj, tabM_get hi hj, tabM_get hi hj]

theorem unitM_tab (n : Nat) : unitM n = tabM n n un := rfl

theorem rows_tab {n : Nat} {f : Nat → Nat → Int} (hn : n ≤ 10) : ∀ r, r ∈ tabM n n f → r.length ≤ 1048576 := fun r hr => by rw [tabM_rows r hr]; omega

theorem getD_tab {n i : Nat} {f : Nat → Nat → Int} (hi : i < n) : ((tabM n n f).getD i []).length = n := by
  rw [List.getD_eq_getElem?_getD, tabM_row hi]; simp


theorem mulM_tab {n : Nat} {f g : Nat → Nat → Int} {M K : Int} (hf : ∀ i j, i < n → j < n → Okw M (f i j)) (hg : ∀ i j, i < n → j < n → Okw K (g i j)) (hM : M ≤ 10000000000) (hK : K ≤ 10000000000) : mulM (tabM n n f) (tabM n n g) n = tabM n n fun i j => mx n fun q => ta (f i q) (g q j) := by
  unfold mulM
  rw [tabM_len, tabM_len]
  refine tabM_congr fun i j hi hj => ?_
  have : ∀ k, k ≤ n → dotM (tabM n n f) (tabM n n g) i j k = mx k fun q => ta (f i q) (g q j) := by
    intro k
    induction k with
    | zero => intro _; rfl
    | succ k ih =>
      intro hk
      rw [dotM_succ, mx_succ, ih (by omega), tabM_get hi (show k < n by omega), tabM_get (show k < n by omega) hj, tms_ta (hf i k hi (by omega)) (hg k j (by omega) hj) hM hK]
  exact this n (Nat.le_refl _)

theorem implCloneM_is {F : Nat} {a : List (List Int)} (hF : 134217728 ≤ F) (ha : a.length ≤ 1048576) (hr : ∀ row, row ∈ a → row.length ≤ 1048576) : impl_cloneMatrix F a = some a := by
  unfold impl_cloneMatrix
  rw [mk_nat _ (by omega)]
  simp only [Option.bind_some]
  rw [fill_loop (ps := a) (f := fun r => r) (L := impl_cloneMatrix_L1 F a) ?_ ?_ (by simp) (by omega), List.map_id']; rfl
  · intro n xs k x hk hx hl
    have hk' : k < xs.length := by omega
    have hq : xs[k]? = some xs[k] := List.getElem?_eq_getElem hk'
    have hcl : slices_Clone_int64 F x = some x := by
      unfold slices_Clone_int64
      rw [app_le (by have := hr x (List.mem_of_getElem? hx); simp only [List.length_nil]; omega)]; rfl
    simp only [impl_cloneMatrix_L1, bdT (show (k : Int) < (a.length : Int) by omega), idx_nat, hx, hq, Option.bind_some, hcl, upd_nat _ hk', wrN (show k ≤ 67108864 by omega)]
  · intro n xs
    simp only [impl_cloneMatrix_L1, bdF (show ¬ (a.length : Int) < (a.length : Int) by omega)]

/-! ### Runs of a system -/
def sr : Option (List Int × List Int) → Sum (List Int × List Int × Bool) (List Int × List Int)
  | none => .inl ([], [], false)
  | some p => .inr p

def ir : Option (List Int × List Int) → Sum (List Int × List Int × Int) (List Int × List Int)
  | none => .inl ([], [], 3)
  | some p => .inr p

def so : Option (List Int) → Sum (List Int × Bool) (List Int)
  | none => .inl ([], false)
  | some l => .inr l

def io : Option (List Int) → Sum (List Int × Int) (List Int)
  | none => .inl ([], 3)
  | some l => .inr l

def placeB (e : Int) (p : GPlace) : Bool := inB p.From 0 e && (inB p.To 0 e && (inB p.Delay 0 1000 && inB p.Tokens 0 5))

def graphB (g : GEventGraph) : Bool := g.Places.all (placeB (IntKind.i64.wrap (g.Events - 1))) && (inB g.Events 1 10 && decide ((g.Places.length : Int) ≤ 30))


theorem specPlace_is {F : Nat} {p : GPlace} {n : Int} : spec_l11Place F p n = some (placeB (IntKind.i64.wrap (n - 1)) p) := by
  simp only [spec_l11Place, specIn_is, Option.bind_some, cond_and]; rfl

theorem implPlace_is {F : Nat} {g : GEventGraph} {p : GPlace} : impl_isPlace F g p = some (placeB (IntKind.i64.wrap (g.Events - 1)) p) := by
  simp only [impl_isPlace, impl_isEvent, within_is, Option.bind_some, cond_and]; rfl


theorem specGraph_is {F : Nat} {g : GEventGraph} (hF : 134217728 ≤ F) (hl : g.Places.length ≤ 1048576) : spec_IsEventGraph F g = some (graphB g) := by
  unfold spec_IsEventGraph
  rw [all_loop (ps := g.Places) (g := placeB (IntKind.i64.wrap (g.Events - 1))) (r := false) (L := spec_IsEventGraph_L1 F g) ?_ ?_ (by omega)]
  · simp only [specIn_is, Option.bind_some, cond_and, graphB]
    cases g.Places.all (placeB (IntKind.i64.wrap (g.Events - 1))) <;> rfl
  · intro n k x hk hx
    simp only [spec_IsEventGraph_L1, bdT (show (k : Int) < (g.Places.length : Int) by omega), idx_nat, hx, Option.bind_some, specPlace_is, condn, wrN (show k ≤ 67108864 by omega)]
  · intro n
    simp only [spec_IsEventGraph_L1, bdF (show ¬ (g.Places.length : Int) < (g.Places.length : Int) by omega)]


theorem implGraph_is {F : Nat} {g : GEventGraph} (hF : 134217728 ≤ F) (hl : g.Places.length ≤ 1048576) : impl_IsEventGraph F g = some (graphB g) := by
  simp only [impl_IsEventGraph, within_is, Option.bind_some, slices_ContainsFunc_Place_is (h := fun p => !placeB (IntKind.i64.wrap (g.Events - 1)) p) hF (show g.Places.length ≤ 16777216 by omega) (fun x _ => show impl_IsEventGraph_c1 F x g = _ by simp only [impl_IsEventGraph_c1, implPlace_is, Option.bind_some]), cond_and, graphB]
  rw [any_not, Bool.not_not]
  cases g.Places.all (placeB (IntKind.i64.wrap (g.Events - 1))) <;> cases inB g.Events 1 10 <;> cases decide ((g.Places.length : Int) ≤ 30) <;> rfl


theorem graphB_true {g : GEventGraph} (h : graphB g = true) : 1 ≤ g.Events ∧ g.Events ≤ 10 ∧ g.Places.length ≤ 30 ∧ IntKind.i64.wrap (g.Events - 1) = g.Events - 1 ∧ ∀ p, p ∈ g.Places → 0 ≤ p.From ∧ p.From < g.Events ∧ 0 ≤ p.To ∧ p.To < g.Events := by
  unfold graphB at h
  simp only [Bool.and_eq_true, inB_true, decide_eq_true_eq, List.all_eq_true] at h
  obtain ⟨hp, ⟨h1, h2⟩, h3⟩ := h
  have hw : IntKind.i64.wrap (g.Events - 1) = g.Events - 1 := wr (by omega) (by omega)
  refine ⟨h1, h2, by omega, hw, fun p hm => ?_⟩
  have := hp p hm
  rw [hw] at this
  simp only [placeB, Bool.and_eq_true, inB_true] at this
  omega

theorem graphB_range {g : GEventGraph} (h : graphB g = true) : ∀ p, p ∈ g.Places → 0 ≤ p.From ∧ p.From < g.Events ∧ 0 ≤ p.To ∧ p.To < g.Events ∧ 0 ≤ p.Delay ∧ p.Delay ≤ 1000 ∧ 0 ≤ p.Tokens ∧ p.Tokens ≤ 5 := by
  have hw := (graphB_true h).2.2.2.1
  unfold graphB at h
  simp only [Bool.and_eq_true, inB_true, decide_eq_true_eq, List.all_eq_true] at h
  intro p hm
  have := h.1 p hm
  rw [hw] at this
  simp only [placeB, Bool.and_eq_true, inB_true] at this
  omega

/-! ### Weights of a graph's places at a period -/
def plT (p : GPlace) : Nat := p.To.toNat

def plF (p : GPlace) : Nat := p.From.toNat

/-- a place's weight at a period -/
def plW (r : Int) (p : GPlace) : Int := p.Delay - r * p.Tokens

theorem plW_bd {g : GEventGraph} (h : graphB g = true) {r : Int} (h0 : 0 ≤ r) (h1 : r ≤ 100000) {p : GPlace} (hp : p ∈ g.Places) : -1000000 ≤ plW r p ∧ plW r p ≤ 1000000 ∧ IntKind.i64.wrap (IntKind.i64.wrap (1 * p.Delay) - IntKind.i64.wrap (r * p.Tokens)) = plW r p := by
  have h5 := graphB_range h
  have := h5 p hp
  have h6 : 0 ≤ r * p.Tokens := Int.mul_nonneg h0 (by omega)
  have h7 : r * p.Tokens ≤ 100000 * 5 := Int.mul_le_mul h1 (by omega) (by omega) (by omega)
  unfold plW
  refine ⟨by omega, by omega, ?_⟩
  rw [wr (show -9223372036854775808 ≤ 1 * p.Delay by omega) (by omega), wr (show -9223372036854775808 ≤ r * p.Tokens by omega) (by omega), wr (by omega) (by omega)]
  omega

/-- the table of the weights -/
def wT (g : GEventGraph) (r : Int) : Nat → Nat → Int := arcT plT plF (plW r) g.Places

theorem wT_ok {g : GEventGraph} (h : graphB g = true) {r : Int} (h0 : 0 ≤ r) (h1 : r ≤ 100000) (n : Nat) : TabOk (wT g r) n := arcT_ok (fun _x hx => ⟨(plW_bd h h0 h1 hx).1, (plW_bd h h0 h1 hx).2.1⟩) n

theorem pl_at {g : GEventGraph} (h : graphB g = true) {p : GPlace} (hp : p ∈ g.Places) : p.To = (plT p : Int) ∧ p.From = (plF p : Int) ∧ plT p < g.Events.toNat ∧ plF p < g.Events.toNat := by
  have h5 := graphB_range h
  have := h5 p hp
  unfold plT plF
  omega

/-! ### Tables on vectors -/
theorem applyv_tab {n : Nat} {T : Nat → Nat → Int} {x : List Int} {M K : Int} (hT : ∀ i j, i < n → j < n → Okw M (T i j)) (hx : ∀ q, q < n → Okw K (x.getD q 0)) (hM : M ≤ 10000000000) (hK : K ≤ 10000000000) : applyv (tabM n n T) x = (List.range n).map fun i => mx n fun q => ta (T i q) (x.getD q 0) := by
  unfold applyv tabM
  rw [List.map_map]
  apply List.map_congr_left
  intro i hi
  have hi' : i < n := by simpa using hi
  show dotv ((List.range n).map fun j => T i j) x ((List.range n).map fun j => T i j).length = _
  rw [List.length_map, List.length_range]
  have : ∀ k, k ≤ n → (List.range k).foldl (fun acc q => max acc (tms (((List.range n).map fun j => T i j).getD q 0) (x.getD q 0))) (-1000000000000000) = mx k fun q => ta (T i q) (x.getD q 0) := by
    intro k
    induction k with
    | zero => intro _; rfl
    | succ k ih =>
      intro hk
      rw [List.range_succ, List.foldl_append, ih (by omega), mx_succ]
      show max _ (tms (((List.range n).map fun j => T i j).getD k 0) (x.getD k 0)) = _
      rw [List.getD_eq_getElem?_getD, tabM_at (show k < n by omega), Option.getD_some, tms_ta (hT i k hi' (by omega)) (hx k (by omega)) hM hK]
  exact this n (Nat.le_refl _)

/-! ### The delay matrix of a token count -/
/-- the table of the delays of the places with so many tokens -/
def dM (g : GEventGraph) (m : Int) : Nat → Nat → Int := arcT plT plF (fun p => p.Delay) (g.Places.filter fun p => p.Tokens == m)

theorem dM_ok {g : GEventGraph} (h : graphB g = true) (m : Int) (n : Nat) : TabOk (dM g m) n := arcT_ok (fun x hx => by
  have := graphB_range h x (List.mem_filter.1 hx).1
  omega) n

def startsB (g : GEventGraph) (xs : List Int) : Bool := ((xs.length : Int) == g.Events) && xs.all fun x => inB x 0 1000000

theorem specStarts_is {F : Nat} {g : GEventGraph} {xs : List Int} (hF : 134217728 ≤ F) (hl : xs.length ≤ 1048576) (hg : graphB g = true) : (bif (xs.length : Int) == g.Events then spec_l01Within F xs 10 0 1000000 else some false) = some (startsB g xs) := by
  have h10 := (graphB_true hg).2.1
  unfold startsB
  cases he : ((xs.length : Int) == g.Events) with
  | false => rfl
  | true =>
    rw [beq_iff_eq] at he
    rw [specWithin_is hF hl, decide_eq_true (show (xs.length : Int) ≤ 10 by omega)]
    simp

theorem getI {xs : List Int} {i : Int} (h0 : 0 ≤ i) (h1 : i < (xs.length : Int)) : idx xs i = some (xs.getD i.toNat 0) := by
  rw [idx_int h0 h1, List.getD_eq_getElem?_getD, List.getElem?_eq_getElem (by omega)]; rfl

/-! ### Lists of nodes -/
def nl (o : List Nat) : List Int := o.map fun (x : Nat) => (x : Int)

theorem nl_len (o : List Nat) : (nl o).length = o.length := by unfold nl; simp

theorem nl_app (o : List Nat) (x : Nat) : nl o ++ [(x : Int)] = nl (o ++ [x]) := by unfold nl; simp

theorem nl_at (o : List Nat) (i : Nat) : (nl o)[i]? = (o[i]?).map fun (x : Nat) => (x : Int) := by unfold nl; simp

theorem nl_has (o : List Nat) (x : Nat) : ((nl o).any fun y => y == (x : Int)) = o.contains x := by
  apply Bool.eq_iff_iff.2
  simp only [nl, List.any_map, List.any_eq_true, Function.comp_apply, beq_iff_eq, List.contains_iff_mem]
  constructor
  · rintro ⟨y, hy, e⟩
    have : y = x := by omega
    exact this ▸ hy
  · intro h; exact ⟨x, h, rfl⟩

theorem specHas_is {F : Nat} {xs : List Int} {x : Int} (hF : 134217728 ≤ F) (hl : xs.length ≤ 1048576) : spec_l01Has F xs x = some (xs.any fun y => y == x) := by
  unfold spec_l01Has
  rw [all_loop (ps := xs) (g := fun y => !(y == x)) (r := true) (L := spec_l01Has_L1 F xs x) ?_ ?_ (by omega)]
  · have := any_not (g := fun y => !(y == x)) xs
    simp only [Bool.not_not] at this
    rw [this]
    cases xs.all (fun y => !(y == x)) <;> rfl
  · intro n k y hk hy
    simp only [spec_l01Has_L1, bdT (show (k : Int) < (xs.length : Int) by omega), idx_nat, hy, Option.bind_some, condn, wrN (show k ≤ 67108864 by omega)]
  · intro n
    simp only [spec_l01Has_L1, bdF (show ¬ (xs.length : Int) < (xs.length : Int) by omega)]

theorem implHas_is {F : Nat} {xs : List Int} {x : Int} (hF : 134217728 ≤ F) (hl : xs.length ≤ 1048576) : slices_Contains_int64 F xs x = some (xs.any fun y => y == x) := by
  unfold slices_Contains_int64 slices_Index_int64
  rw [find_loop (ps := xs) (h := fun y => x == y) (v := fun k => (k : Int)) (L := slices_Index_int64_L1 F xs x) ?_ ?_ (by omega)]
  · have e : (xs.any fun y => y == x) = decide ((0 : Int) ≤ firstAt (xs.findIdx? fun y => x == y)) := by
      rw [find_any]
      congr 1; funext y
      by_cases h : x = y
      · subst h; rfl
      · rw [beq_false_of_ne h, beq_false_of_ne (Ne.symm h)]
    rw [e]
    cases xs.findIdx? fun y => x == y <;> rfl
  · intro n k y hk hy
    simp only [slices_Index_int64_L1, bdT (show (k : Int) < (xs.length : Int) by omega), idx_nat, hy, Option.bind_some, wrN (show k ≤ 67108864 by omega)]
  · intro n
    simp only [slices_Index_int64_L1, bdF (show ¬ (xs.length : Int) < (xs.length : Int) by omega)]

/-! ### Liveness -/
def mat0 (E : Nat → Nat → Bool) (n : Nat) : List (List Int) := (List.range n).map fun v => (List.range n).map fun u => bif E u v then 0 else (-1000000000000000)

theorem mat0_row {E : Nat → Nat → Bool} {n v : Nat} (hv : v < n) : (mat0 E n)[v]? = some ((List.range n).map fun u => bif E u v then 0 else (-1000000000000000)) := by
  unfold mat0; rw [List.getElem?_map, List.getElem?_range hv]; rfl

theorem map_range_set {α : Type} (f : Nat → α) (n i : Nat) (y : α) : ((List.range n).map f).set i y = (List.range n).map fun j => if j = i then y else f j := by
  apply List.ext_getElem?; intro q
  by_cases hq : q < n
  · by_cases e : q = i
    · subst e
      rw [set_here (by simpa using hq), List.getElem?_map, List.getElem?_range hq]; simp
    · rw [set_keep e, List.getElem?_map, List.getElem?_map, List.getElem?_range hq]; simp [e]
  · rw [List.getElem?_eq_none (by simp; omega), List.getElem?_eq_none (by simp; omega)]

theorem mat0_set {E : Nat → Nat → Bool} {n u v : Nat} : (mat0 E n).set v (((List.range n).map fun u' => bif E u' v then (0 : Int) else (-1000000000000000)).set u 0) = mat0 (fun u' v' => E u' v' || (v' == v && u' == u)) n := by
  unfold mat0
  rw [map_range_set, map_range_set]
  apply List.map_congr_left; intro v' _
  by_cases hv : v' = v
  · subst hv
    rw [if_pos rfl]
    apply List.map_congr_left; intro u' _
    by_cases hu : u' = u
    · subst hu; simp
    · rw [if_neg hu]; simp only [beq_false_of_ne hu, Bool.and_false, Bool.or_false]
  · rw [if_neg hv]
    apply List.map_congr_left; intro u' _
    simp only [beq_false_of_ne hv, Bool.false_and, Bool.or_false]

/-- the free places' relation -/
def eP (ps : List GPlace) (u v : Nat) : Bool := ps.any fun p => p.Tokens == 0 && (p.To == (v : Int) && p.From == (u : Int))

theorem specBottom_is {F m n : Nat} (hF : 134217728 ≤ F) (hm : m ≤ 1048576) (hn : n ≤ 1048576) : spec_l02Bottom F (m : Int) (n : Int) = some ((List.range m).map fun _ => (List.range n).map fun _ => (-1000000000000000)) := by
  unfold spec_l02Bottom
  rw [tab_loop (len := m) (f := fun _ => (List.range n).map fun _ => (-1000000000000000)) (L := spec_l02Bottom_L4 F (m : Int) (n : Int)) ?_ ?_ (by omega)]
  · rfl
  · intro k xs j hj hx
    have inner : spec_l02Bottom_L5 F (n : Int) F [] 0 = some ((List.range n).map fun _ => (-1000000000000000)) := by
      refine tab_loop (len := n) (f := fun _ => (-1000000000000000)) (L := spec_l02Bottom_L5 F (n : Int)) ?_ ?_ (by omega)
      · intro k xs j hj hx
        simp only [spec_l02Bottom_L5, bdT (show (j : Int) < (n : Int) by omega), app_le (show xs.length + [(-1000000000000000 : Int)].length ≤ 67108864 by simp only [List.length_singleton]; omega), Option.bind_some, wrN (show j ≤ 67108864 by omega)]
      · intro k xs _
        simp only [spec_l02Bottom_L5, bdF (show ¬ (n : Int) < (n : Int) by omega)]
    simp only [spec_l02Bottom_L4, bdT (show (j : Int) < (m : Int) by omega), inner, app_le (show xs.length + [(List.range n).map fun _ => (-1000000000000000 : Int)].length ≤ 67108864 by simp only [List.length_singleton]; omega), Option.bind_some, wrN (show j ≤ 67108864 by omega)]
  · intro k xs _
    simp only [spec_l02Bottom_L4, bdF (show ¬ (m : Int) < (m : Int) by omega)]

structure GOk (g : GEventGraph) (n : Nat) : Prop where
  ev : g.Events = (n : Int)
  n1 : 1 ≤ n
  n10 : n ≤ 10
  len : g.Places.length ≤ 30
  at' : ∀ p, p ∈ g.Places → ∃ u v : Nat, p.From = (u : Int) ∧ p.To = (v : Int) ∧ u < n ∧ v < n

theorem GOk.of {g : GEventGraph} (h : graphB g = true) : GOk g g.Events.toNat := by
  obtain ⟨h1, h2, h3, _, h4⟩ := graphB_true h
  exact ⟨by omega, by omega, by omega, h3, fun p hp => ⟨p.From.toNat, p.To.toNat, by have := h4 p hp; omega, by have := h4 p hp; omega, by have := h4 p hp; omega, by have := h4 p hp; omega⟩⟩

theorem GOk.edge {g : GEventGraph} {n : Nat} (h : GOk g n) : ∀ u v, eP g.Places u v = true → u < n ∧ v < n := by
  intro u v he
  unfold eP at he
  rw [List.any_eq_true] at he
  obtain ⟨p, hp, hq⟩ := he
  simp only [Bool.and_eq_true, beq_iff_eq] at hq
  obtain ⟨u', v', h1, h2, h3, h4⟩ := h.at' p hp
  omega

theorem specFree_is {F n : Nat} {g : GEventGraph} (hF : 134217728 ≤ F) (h : GOk g n) : spec_l12Free F g = some (mat0 (eP g.Places) n) := by
  unfold spec_l12Free
  have h10 := h.n10
  rw [h.ev, bind_of (specBottom_is hF (by omega) (by omega))]
  have hlen := h.len
  have H := for0 (L := spec_l12Free_L1 F g) (len := g.Places.length) (fun k ms => ms = mat0 (eP (g.Places.take k)) n) (R := fun o => o = some (mat0 (eP g.Places) n)) (s := (List.range n).map fun _ => (List.range n).map fun _ => (-1000000000000000)) (n := F) ?_ ?_ ?_ (by omega)
  · rw [H]; rfl
  · rintro f k ms hk rfl
    have hp : g.Places[k]? = some g.Places[k] := List.getElem?_eq_getElem hk
    obtain ⟨u, v, h1, h2, h3, h4⟩ := h.at' g.Places[k] (List.getElem_mem hk)
    have hstep : ∀ u' v', eP (g.Places.take (k + 1)) u' v' = (eP (g.Places.take k) u' v' || (g.Places[k].Tokens == 0 && (v' == v && u' == u))) := by
      intro u' v'
      unfold eP
      rw [List.take_add_one, hp, List.any_append]
      have e1 : ((v : Int) == (v' : Int)) = (v' == v) := Bool.eq_iff_iff.2 (by simp only [beq_iff_eq]; omega)
      have e2 : ((u : Int) == (u' : Int)) = (u' == u) := Bool.eq_iff_iff.2 (by simp only [beq_iff_eq]; omega)
      simp [h1, h2, e1, e2]
    by_cases ht : g.Places[k].Tokens = 0
    · refine .inl ⟨mat0 (eP (g.Places.take (k + 1))) n, ?_, rfl⟩
      have hrow := mat0_row (E := eP (g.Places.take k)) h4
      have hcell : ((List.range n).map fun u' => bif eP (g.Places.take k) u' v then (0 : Int) else (-1000000000000000))[u]? = some (bif eP (g.Places.take k) u v then (0 : Int) else (-1000000000000000)) := by rw [List.getElem?_map, List.getElem?_range h3]; rfl
      have e : mat0 (eP (g.Places.take (k + 1))) n = mat0 (fun u' v' => eP (g.Places.take k) u' v' || (v' == v && u' == u)) n := by
        congr 1; funext u' v'; rw [hstep, ht]; simp
      rw [e, ← mat0_set]
      simp only [spec_l12Free_L1, bdT (show (k : Int) < (g.Places.length : Int) by omega), idx_nat, hp, Option.bind_some, bT (show (g.Places[k].Tokens == 0) = true by rw [ht]; rfl), h1, h2, hrow, hcell, upd_nat _ (show u < ((List.range n).map fun u' => bif eP (g.Places.take k) u' v then (0 : Int) else (-1000000000000000)).length by simpa using h3), upd_nat _ (show v < (mat0 (eP (g.Places.take k)) n).length by unfold mat0; simpa using h4), wrN (show k ≤ 67108864 by omega)]
    · refine .inl ⟨mat0 (eP (g.Places.take (k + 1))) n, ?_, rfl⟩
      have e : mat0 (eP (g.Places.take (k + 1))) n = mat0 (eP (g.Places.take k)) n := by
        congr 1; funext u' v'; rw [hstep, beq_false_of_ne ht]; simp
      rw [e]
      simp only [spec_l12Free_L1, bdT (show (k : Int) < (g.Places.length : Int) by omega), idx_nat, hp, Option.bind_some, bF (beq_false_of_ne ht), wrN (show k ≤ 67108864 by omega)]
  · rintro f ms rfl
    rw [List.take_length]
    simp only [spec_l12Free_L1, bdF (show ¬ (g.Places.length : Int) < (g.Places.length : Int) by omega)]
  · unfold mat0 eP; simp


/-- a written cycle that goes on from a path -/
def Ext (E : Nat → Nat → Bool) (n f : Nat) (p : List Nat) (l : Nat) (q : List Nat) : Prop := (∀ x, x ∈ q → f < x ∧ x < n) ∧ (p ++ q).Nodup ∧ Chain E l q f

theorem grow_is {F n : Nat} {E : Nat → Nat → Bool} (hF : 134217728 ≤ F) (hn : n ≤ 1000) : ∀ (k : Nat) (p : List Nat) (f l : Nat), p[0]? = some f → p[p.length - 1]? = some l → p.Nodup → (∀ x, x ∈ p → x < n) → n + 1 ≤ k + p.length →
    ∃ r, spec_l03Grow_rec F k (mat0 E n) (nl p) 0 (-1) = some r ∧ (r ≠ [] ↔ ∃ q, Ext E n f p l q) := by
  intro k
  induction k with
  | zero =>
    intro p f l _ _ hd hl hk
    have := nodup_le n p hd hl
    omega
  | succ k ih =>
    intro p f l hf hl hd hlt hk
    have hp0 : 0 < p.length := (List.getElem?_eq_some_iff.1 hf).1
    have hpn := nodup_le n p hd hlt
    have hfn : f < n := hlt f (List.mem_of_getElem? hf)
    have hln : l < n := hlt l (List.mem_of_getElem? hl)
    have i1 : idx (nl p) 0 = some (f : Int) := by
      rw [show (0 : Int) = ((0 : Nat) : Int) from rfl, idx_nat, nl_at, hf]; rfl
    have i2 : idx (nl p) (IntKind.i64.wrap (((nl p).length : Int) - 1)) = some (l : Int) := by
      rw [nl_len, wr (by omega) (by omega), show (p.length : Int) - 1 = ((p.length - 1 : Nat) : Int) by omega, idx_nat, nl_at, hl]; rfl
    have cell : ∀ v, v < n → idx (mat0 E n) (v : Int) = some ((List.range n).map fun u => bif E u v then 0 else (-1000000000000000)) := fun v hv => by rw [idx_nat, mat0_row hv]
    have cel2 : ∀ v, idx ((List.range n).map fun u => bif E u v then (0 : Int) else (-1000000000000000)) (l : Int) = some (bif E l v then 0 else (-1000000000000000)) := fun v => by
      rw [idx_nat, List.getElem?_map, List.getElem?_range hln]; rfl
    unfold spec_l03Grow_rec
    simp only [i1, i2, cell f hfn, cel2, Option.bind_some]
    cases hE : E l f with
    | true =>
      refine ⟨nl p, rfl, ⟨fun _ => ⟨[], (fun x hx => (by cases hx)), by simpa using hd, hE⟩, fun _ e => ?_⟩⟩
      have := congrArg List.length e
      rw [nl_len] at this; simp at this; subst this; simp at hp0
    | false =>
      have H := for_ind (L := fun m (_ : Unit) i => spec_l03Grow_L1 F (mat0 E n) (nl p) 0 (-1) (l : Int) (spec_l03Grow_rec F k) m i) n
        (fun j _ => f < j ∧ ∀ v q, f < v → v < j → E l v = true → v ∉ p → ¬ Ext E n f (p ++ [v]) v q)
        (fun o => (∃ r, r ≠ [] ∧ o = some (.inl r) ∧ ∃ q, Ext E n f p l q) ∨ (o = some (.inr ()) ∧ ¬ ∃ q, Ext E n f p l q)) ?_ ?_ (n - (f + 1)) (f + 1) () F (by omega) ⟨by omega, fun v q h1 h2 => by omega⟩ (by omega)
      · have hw : IntKind.i64.wrap ((f : Int) + 1) = ((f + 1 : Nat) : Int) := wrN (by omega)
        have hc : ((-1000000000000000 : Int) != (-1000000000000000)) = false := rfl
        simp only [cond_false, hc, Option.bind_some, hw]
        rcases H with ⟨r, h1, h2, h3⟩ | ⟨h2, h3⟩
        · exact ⟨r, by simp only [h2, Option.bind_some], ⟨fun _ => h3, fun _ => h1⟩⟩
        · exact ⟨[], by simp only [h2, Option.bind_some], ⟨fun h => absurd rfl h, fun h => absurd h h3⟩⟩
      · rintro m j _ hj ⟨hfj, hI⟩
        have hown : spec_l01Own F (nl p) = some (nl p) := by
          unfold spec_l01Own
          rw [app_le (by rw [nl_len]; simp only [List.length_nil]; omega)]; rfl
        have happ : app (nl p) [(j : Int)] = some (nl (p ++ [j])) := by
          rw [app_le (by rw [nl_len]; simp only [List.length_singleton]; omega), nl_app]
        have hwj : IntKind.i64.wrap ((j : Int) + 1) = ((j + 1 : Nat) : Int) := wrN (by omega)
        have hml : ((mat0 E n).length : Int) = (n : Int) := by unfold mat0; simp
        cases hEj : E l j with
        | false =>
          refine .inl ⟨(), ?_, by omega, fun v q h1 h2 h3 h4 => ?_⟩
          · have hc : ((-1000000000000000 : Int) == (-1000000000000000)) = true := rfl
            simp only [spec_l03Grow_L1, hml, bdT (show (j : Int) < (n : Int) by omega), cell j hj, cel2, hEj, Option.bind_some, cond_false, hc, cond_true, hwj]
          · by_cases e : v = j
            · subst e; rw [hEj] at h3; cases h3
            · exact hI v q h1 (by omega) h3 h4
        | true =>
          have hc : ((0 : Int) == (-1000000000000000)) = false := rfl
          cases hpj : p.contains j with
          | true =>
            refine .inl ⟨(), ?_, by omega, fun v q h1 h2 h3 h4 => ?_⟩
            · simp only [spec_l03Grow_L1, hml, bdT (show (j : Int) < (n : Int) by omega), cell j hj, cel2, hEj, Option.bind_some, cond_true, hc, cond_false, specHas_is (F := F) (xs := nl p) (x := (j : Int)) hF (by rw [nl_len]; omega), nl_has, hpj, hwj]
            · by_cases e : v = j
              · subst e; exact absurd (by simpa using hpj) h4
              · exact hI v q h1 (by omega) h3 h4
          | false =>
            have hjp : j ∉ p := by simpa using hpj
            obtain ⟨r, hr, hriff⟩ := ih (p ++ [j]) f j (by rw [List.getElem?_append_left hp0]; exact hf) (by simp) (by
                rw [List.nodup_append]
                refine ⟨hd, by simp, fun a ha b hb e => ?_⟩
                simp only [List.mem_singleton] at hb
                exact hjp (by rw [← hb, ← e]; exact ha)) (fun x hx => by
                rcases List.mem_append.1 hx with hx | hx
                · exact hlt x hx
                · simp only [List.mem_singleton] at hx; omega) (by rw [List.length_append, List.length_singleton]; omega)
            have hw0 : IntKind.i64.wrap ((0 : Int) + 0) = 0 := rfl
            have S : spec_l03Grow_L1 F (mat0 E n) (nl p) 0 (-1) (l : Int) (spec_l03Grow_rec F k) (m + 1) (j : Int) = bif decide (0 < (r.length : Int)) then some (.inl r) else spec_l03Grow_L1 F (mat0 E n) (nl p) 0 (-1) (l : Int) (spec_l03Grow_rec F k) m ((j + 1 : Nat) : Int) := by
              simp only [spec_l03Grow_L1, hml, bdT (show (j : Int) < (n : Int) by omega), cell j hj, cel2, hEj, Option.bind_some, cond_true, hc, cond_false, specHas_is (F := F) (xs := nl p) (x := (j : Int)) hF (by rw [nl_len]; omega), nl_has, hpj, hown, happ, hw0, hr, hwj]
              cases decide (0 < (r.length : Int)) <;> rfl
            by_cases hre : r = []
            · refine .inl ⟨(), ?_, by omega, fun v q h1 h2 h3 h4 => ?_⟩
              · simp only [S, hre, List.length_nil, bdF (show ¬ (0 : Int) < ((0 : Nat) : Int) by omega)]
              · by_cases e : v = j
                · subst e
                  intro hx
                  exact (hriff.2 ⟨q, hx⟩) hre
                · exact hI v q h1 (by omega) h3 h4
            · refine .inr (.inl ⟨r, hre, ?_, ?_⟩)
              · have : 0 < r.length := List.length_pos_iff.2 hre
                simp only [S, bdT (show (0 : Int) < (r.length : Int) by omega)]
              · obtain ⟨q, h1, h2, h3⟩ := hriff.1 hre
                refine ⟨j :: q, fun x hx => ?_, by simpa using h2, hEj, h3⟩
                rcases List.mem_cons.1 hx with rfl | hx
                · exact ⟨hfj, hj⟩
                · exact h1 x hx
      · rintro m _ ⟨_, hI⟩
        refine .inr ⟨?_, ?_⟩
        · have hml : ((mat0 E n).length : Int) = (n : Int) := by unfold mat0; simp
          simp only [spec_l03Grow_L1, hml, bdF (show ¬ (n : Int) < (n : Int) by omega)]
        · rintro ⟨q, h1, h2, h3⟩
          cases q with
          | nil => rw [show Chain E l [] f = (E l f = true) from rfl, hE] at h3; cases h3
          | cons v q =>
            have hv := h1 v (by simp)
            refine hI v q hv.1 hv.2 h3.1 (fun hm => ?_) ⟨fun x hx => h1 x (by simp [hx]), by simpa using h2, h3.2⟩
            rw [List.nodup_append] at h2
            exact h2.2.2 v hm v (by simp) rfl

theorem specOver_is {F n : Nat} {E : Nat → Nat → Bool} (hF : 134217728 ≤ F) (hn : n ≤ 1000) : ∃ r, spec_l03Over F (mat0 E n) (-1) = some r ∧ (r ≠ [] ↔ ∃ v q, v < n ∧ Cyc E n v q) := by
  unfold spec_l03Over
  have hml : ((mat0 E n).length : Int) = (n : Int) := by unfold mat0; simp
  have H := for0 (L := fun m (_ : Unit) i => spec_l03Over_L1 F (mat0 E n) (-1) m i) (len := n) (fun j _ => ∀ v q, v < j → ¬ Cyc E n v q)
    (R := fun o => (∃ r, r ≠ [] ∧ o = some (.inl r) ∧ ∃ v q, v < n ∧ Cyc E n v q) ∨ (o = some (.inr ()) ∧ ¬ ∃ v q, v < n ∧ Cyc E n v q)) (s := ()) (n := F) ?_ ?_ (fun v q h => by omega) (by omega)
  · rcases H with ⟨r, h1, h2, h3⟩ | ⟨h2, h3⟩
    · exact ⟨r, by simp only [h2, Option.bind_some], ⟨fun _ => h3, fun _ => h1⟩⟩
    · exact ⟨[], by simp only [h2, Option.bind_some], ⟨fun h => absurd rfl h, fun h => absurd h h3⟩⟩
  · intro m j _ hj hI
    obtain ⟨r, hr, hriff⟩ := grow_is (F := F) (E := E) hF hn F [j] j j rfl rfl (by simp) (fun x hx => by simp only [List.mem_singleton] at hx; omega) (by simp only [List.length_singleton]; omega)
    have hgr : spec_l03Grow F (mat0 E n) [(j : Int)] 0 (-1) = some r := hr
    have hext : ∀ q, Ext E n j [j] j q ↔ Cyc E n j q := fun q => Iff.rfl
    by_cases hre : r = []
    · refine .inl ⟨(), ?_, fun v q hv hc => ?_⟩
      · simp only [spec_l03Over_L1, hml, bdT (show (j : Int) < (n : Int) by omega), hgr, Option.bind_some, hre, List.length_nil, bdF (show ¬ (0 : Int) < ((0 : Nat) : Int) by omega), wrN (show j ≤ 67108864 by omega)]
      · by_cases e : v = j
        · subst e
          exact (hriff.2 ⟨q, (hext q).2 hc⟩) hre
        · exact hI v q (by omega) hc
    · refine .inr (.inl ⟨r, hre, ?_, ?_⟩)
      · have : 0 < r.length := List.length_pos_iff.2 hre
        simp only [spec_l03Over_L1, hml, bdT (show (j : Int) < (n : Int) by omega), hgr, Option.bind_some, bdT (show (0 : Int) < (r.length : Int) by omega)]
      · obtain ⟨q, hq⟩ := hriff.1 hre
        exact ⟨j, q, hj, (hext q).1 hq⟩
  · intro m _ hI
    refine .inr ⟨?_, ?_⟩
    · simp only [spec_l03Over_L1, hml, bdF (show ¬ (n : Int) < (n : Int) by omega)]
    · rintro ⟨v, q, hv, hc⟩
      exact hI v q hv hc

/-- is the firing order complete -/
def liveB (g : GEventGraph) (n : Nat) : Bool := (fire (eP g.Places) n n []).isSome

theorem specDead_is {F n : Nat} {g : GEventGraph} (hF : 134217728 ≤ F) (h : GOk g n) : ∃ r, spec_l12Dead F g = some r ∧ decide (0 < (r.length : Int)) = !liveB g n := by
  have h10 := h.n10
  obtain ⟨r, h1, h2⟩ := specOver_is (F := F) (E := eP g.Places) (n := n) hF (by omega)
  refine ⟨r, by unfold spec_l12Dead; rw [bind_of (specFree_is hF h), h1]; rfl, ?_⟩
  unfold liveB
  cases hf : fire (eP g.Places) n n [] with
  | some o =>
    have : r = [] := Classical.byContradiction fun hr => by
      obtain ⟨v, q, _, hc⟩ := h2.1 hr
      exact fire_free h.edge hf hc
    subst this; rfl
  | none =>
    have hr : r ≠ [] := h2.2 (fire_stuck h.edge n [] (OrderOk.nil _ _) (by simp) hf)
    have : 0 < r.length := List.length_pos_iff.2 hr
    simp; exact this


theorem ready_is {g : GEventGraph} {n : Nat} (h : GOk g n) {o : List Nat} {e : Nat} : (!(g.Places.any fun p => p.To == (e : Int) && (p.Tokens == 0 && !((nl o).any fun y => y == p.From)))) = (List.range n).all fun u => !eP g.Places u e || o.contains u := by
  apply Bool.eq_iff_iff.2
  rw [Bool.not_eq_true', List.any_eq_false, List.all_eq_true]
  constructor
  · intro H u hu
    cases he : eP g.Places u e with
    | false => rfl
    | true =>
      unfold eP at he
      rw [List.any_eq_true] at he
      obtain ⟨p, hp, hq⟩ := he
      simp only [Bool.and_eq_true, beq_iff_eq] at hq
      have := H p hp
      rw [hq.1, hq.2.1, hq.2.2, nl_has] at this
      simpa using this
  · intro H p hp hc
    simp only [Bool.and_eq_true, beq_iff_eq, Bool.not_eq_true'] at hc
    obtain ⟨u, v, h1, h2, h3, h4⟩ := h.at' p hp
    have := H u (by simpa using h3)
    rw [h1, nl_has] at hc
    rw [Bool.or_eq_true] at this
    rcases this with h5 | h5
    · have : eP g.Places u e = true := by
        unfold eP
        rw [List.any_eq_true]
        exact ⟨p, hp, by simp only [Bool.and_eq_true, beq_iff_eq]; exact ⟨hc.2.1, hc.1, h1⟩⟩
      rw [this] at h5; cases h5
    · rw [h5] at hc; simp at hc

def nextI : Option Nat → Int
  | some e => (e : Int)
  | none => -1

theorem orderRound {F n : Nat} {g : GEventGraph} (hF : 134217728 ≤ F) (h : GOk g n) {o : List Nat} (ho : o.length ≤ n) :
    impl_firingOrder_L5 F g (nl o) F (-1) 0 = some (nextI (nextOf (eP g.Places) n o)) := by
  have h10 := h.n10
  have hl := h.len
  refine for0 (L := impl_firingOrder_L5 F g (nl o)) (len := n) (fun k s => (s = -1 ∧ ∀ e, e < k → readyB (eP g.Places) n o e = false) ∨ ∃ e : Nat, s = (e : Int) ∧ nextOf (eP g.Places) n o = some e) (R := fun r => r = some (nextI (nextOf (eP g.Places) n o))) ?_ ?_ (.inl ⟨rfl, fun e he => by omega⟩) (by omega)
  · rintro m k s hk (⟨rfl, hI⟩ | ⟨e, rfl, he⟩)
    · have hc : slices_ContainsFunc_Place F g.Places (fun x0 => impl_firingOrder_c1 F x0 (k : Int) (nl o)) = some (g.Places.any fun p => p.To == (k : Int) && (p.Tokens == 0 && !((nl o).any fun y => y == p.From))) := by
        refine slices_ContainsFunc_Place_is hF (by omega) (fun p _ => ?_)
        simp only [impl_firingOrder_c1, implHas_is (F := F) (xs := nl o) (x := p.From) hF (by rw [nl_len]; omega), Option.bind_some]
        cases (p.To == (k : Int)) <;> cases (p.Tokens == 0) <;> rfl
      have S : impl_firingOrder_L5 F g (nl o) (m + 1) (-1) (k : Int) = bif readyB (eP g.Places) n o k then impl_firingOrder_L5 F g (nl o) m (k : Int) ((k + 1 : Nat) : Int) else impl_firingOrder_L5 F g (nl o) m (-1) ((k + 1 : Nat) : Int) := by
        have hlt : decide ((k : Int) < g.Events) = true := by rw [h.ev]; exact decide_eq_true (by omega)
        simp only [impl_firingOrder_L5, hlt, cond_true, Option.bind_some, implHas_is (F := F) (xs := nl o) (x := (k : Int)) hF (by rw [nl_len]; omega), nl_has, hc, ready_is h, wrN (show k ≤ 67108864 by omega), show decide ((-1 : Int) < 0) = true from rfl]
        unfold readyB
        cases o.contains k <;> cases ((List.range n).all fun u => !eP g.Places u k || o.contains u) <;> rfl
      cases hr : readyB (eP g.Places) n o k with
      | true =>
        refine .inl ⟨(k : Int), by rw [S, hr]; rfl, .inr ⟨k, rfl, ?_⟩⟩
        unfold nextOf
        rw [List.find?_eq_some_iff_getElem]
        refine ⟨hr, k, by simpa using hk, by simp, fun j hj => ?_⟩
        simp [hI j hj]
      | false =>
        refine .inl ⟨-1, by rw [S, hr]; rfl, .inl ⟨rfl, fun e he => ?_⟩⟩
        by_cases e2 : e = k
        · subst e2; exact hr
        · exact hI e (by omega)
    · refine .inr ?_
      rw [he]
      have : decide ((e : Int) < 0) = false := decide_eq_false (by omega)
      simp only [impl_firingOrder_L5, this]
      cases decide ((k : Int) < g.Events) <;> rfl
  · rintro m s (⟨rfl, hI⟩ | ⟨e, rfl, he⟩)
    · have hno : nextOf (eP g.Places) n o = none := by
        unfold nextOf
        rw [List.find?_eq_none]
        intro x hx
        rw [hI x (by simpa using hx)]; decide
      rw [hno]
      have hlt : decide ((n : Int) < g.Events) = false := by rw [h.ev]; exact decide_eq_false (by omega)
      simp only [impl_firingOrder_L5, hlt, cond_false, Option.bind_some, nextI]
    · rw [he]
      have hlt : decide ((n : Int) < g.Events) = false := by rw [h.ev]; exact decide_eq_false (by omega)
      simp only [impl_firingOrder_L5, hlt, cond_false, Option.bind_some, nextI]

theorem orderLoop {F n : Nat} {g : GEventGraph} (hF : 134217728 ≤ F) (h : GOk g n) : ∀ (k : Nat) (o : List Nat) (m : Nat), o.length + k = n → k < m →
    impl_firingOrder_L4 F g m (nl o) = some (match fire (eP g.Places) n k o with | some o' => .inr (nl o') | none => .inl ([], false)) := by
  have h10 := h.n10
  intro k
  induction k with
  | zero =>
    intro o m ho hm
    obtain ⟨m, rfl⟩ : ∃ m', m = m' + 1 := ⟨m - 1, by omega⟩
    have : decide (((nl o).length : Int) < g.Events) = false := by rw [h.ev, nl_len]; exact decide_eq_false (by omega)
    simp only [impl_firingOrder_L4, this, cond_false, fire]
  | succ k ih =>
    intro o m ho hm
    obtain ⟨m, rfl⟩ : ∃ m', m = m' + 1 := ⟨m - 1, by omega⟩
    have : decide (((nl o).length : Int) < g.Events) = true := by rw [h.ev, nl_len]; exact decide_eq_true (by omega)
    simp only [impl_firingOrder_L4, this, cond_true, orderRound hF h (show o.length ≤ n by omega), Option.bind_some, fire]
    cases hx : nextOf (eP g.Places) n o with
    | none => rfl
    | some e =>
      have he : decide ((e : Int) < 0) = false := decide_eq_false (by omega)
      have happ : app (nl o) [(e : Int)] = some (nl (o ++ [e])) := by
        rw [app_le (by rw [nl_len]; simp only [List.length_singleton]; omega), nl_app]
      simp only [nextI, happ, Option.bind_some]
      exact ih (o ++ [e]) m (by rw [List.length_append, List.length_singleton]; omega) (by omega)

theorem implOrder_is {F n : Nat} {g : GEventGraph} (hF : 134217728 ≤ F) (h : GOk g n) : impl_firingOrder F g = some (match fire (eP g.Places) n n [] with | some o => (nl o, true) | none => ([], false)) := by
  have h10 := h.n10
  unfold impl_firingOrder
  have := orderLoop hF h n [] F (by simp) (by omega)
  rw [show nl [] = [] from rfl] at this
  rw [this]
  cases fire (eP g.Places) n n [] <;> rfl

theorem implLive_is {F n : Nat} {g : GEventGraph} (hF : 134217728 ≤ F) (h : GOk g n) : impl_isLive F g = some (liveB g n) := by
  unfold impl_isLive liveB
  rw [bind_of (implOrder_is hF h)]
  cases fire (eP g.Places) n n [] <;> rfl

/-! ### Squares as tables -/
def entryOf (a : List (List Int)) (i j : Nat) : Int := (a.getD i []).getD j 0

theorem square_tab {a : List (List Int)} (h : squareB a = true) : 1 ≤ a.length ∧ a.length ≤ 10 ∧ a = tabM a.length a.length (entryOf a) ∧ TabOk (entryOf a) a.length := by
  unfold squareB at h
  rw [Bool.and_eq_true, beq_iff_eq] at h
  obtain ⟨hm, h2⟩ := h
  unfold matB at hm
  rw [Bool.and_eq_true, inB_true, List.all_eq_true] at hm
  obtain ⟨h3, h4⟩ := hm
  have hr : ∀ r, r ∈ a → r.length = a.length := fun r hr => by
    have := h4 r hr
    rw [Bool.and_eq_true, beq_iff_eq] at this
    omega
  refine ⟨by omega, by omega, tabM_self rfl hr, fun i j hi hj => ?_⟩
  have e : a[i]? = some (a.getD i []) := by rw [List.getD_eq_getElem?_getD, List.getElem?_eq_getElem hi]; rfl
  have hrow := List.mem_of_getElem? e
  have h5 := h4 _ hrow
  rw [Bool.and_eq_true] at h5
  have h6 := h5.1
  unfold vecB at h6
  rw [Bool.and_eq_true, List.all_eq_true] at h6
  have hjl : j < (a.getD i []).length := by rw [hr _ hrow]; exact hj
  have h7 := h6.2 _ (List.mem_of_getElem? (getD_of hjl))
  unfold valB at h7
  rw [Bool.or_eq_true, beq_iff_eq, inB_true] at h7
  exact h7

/-! ### Searches for cycles -/
theorem nl_first {p : List Nat} (h : p ≠ []) : idx (nl p) 0 = some (headN p : Int) := by
  cases p with
  | nil => exact absurd rfl h
  | cons x p => rw [show (0 : Int) = ((0 : Nat) : Int) from rfl, idx_nat, nl_at]; rfl

theorem nl_last {p : List Nat} (h : p ≠ []) (hl : p.length ≤ 1000) : idx (nl p) (IntKind.i64.wrap (((nl p).length : Int) - 1)) = some (lastN p : Int) := by
  have h0 := List.length_pos_iff.2 h
  rw [nl_len, wr (by omega) (by omega), show ((p.length : Int) - 1) = ((p.length - 1 : Nat) : Int) by omega, idx_nat, nl_at]
  unfold lastN
  rw [List.getLastD_eq_getLast?, List.getLast?_eq_getElem?]
  cases hp : p[p.length - 1]? with
  | none => rw [List.getElem?_eq_none_iff] at hp; omega
  | some x => rfl

theorem first_lt {n : Nat} {p : List Nat} (h : p ≠ []) (hp : ∀ x, x ∈ p → x < n) : headN p < n := by
  cases p with
  | nil => exact absurd rfl h
  | cons x p => exact hp x (by simp)

theorem last_mem {p : List Nat} (h : p ≠ []) : lastN p ∈ p := by
  unfold lastN
  rw [List.getLastD_eq_getLast?, List.getLast?_eq_some_getLast h]
  exact List.getLast_mem h

/-- a path of a search -/
structure PathOk (f : Nat → Nat → Int) (n : Nat) (p : List Nat) : Prop where
  ne : p ≠ []
  nodup : p.Nodup
  lt : ∀ x, x ∈ p → x < n
  w0 : -1000000 * (p.length : Int) ≤ pathw f p
  w1 : pathw f p ≤ 1000000 * (p.length : Int)

theorem PathOk.one (f : Nat → Nat → Int) {n v : Nat} (h : v < n) : PathOk f n [v] := ⟨by simp, by simp, fun x hx => by simp at hx; omega, by show _ ≤ (0 : Int); simp, by show (0 : Int) ≤ _; simp⟩

theorem PathOk.next {f : Nat → Nat → Int} {n v : Nat} {p : List Nat} (hf : TabOk f n) (h : PathOk f n p) (hv : v < n) (hc : candW f p v = true) : PathOk f n (p ++ [v]) ∧ pathw f (p ++ [v]) = pathw f p + f v (lastN p) ∧ f v (lastN p) ≠ -1000000000000000 := by
  unfold candW at hc
  rw [Bool.and_eq_true, Bool.and_eq_true] at hc
  have hnv : v ∉ p := by simpa using hc.2
  have ha := arcB_true.1 hc.1.2
  have hb := hf v (lastN p) hv (h.lt _ (last_mem h.ne))
  have e := pathw_snoc f v h.ne
  have h0 := h.w0
  have h1 := h.w1
  unfold Okw at hb
  refine ⟨⟨by simp, ?_, fun x hx => ?_, ?_, ?_⟩, e, ha⟩
  · rw [List.nodup_append]
    refine ⟨h.nodup, by simp, fun x hx y hy => ?_⟩
    simp only [List.mem_singleton] at hy
    subst hy
    exact fun e => hnv (e ▸ hx)
  · rcases List.mem_append.1 hx with hx | hx
    · exact h.lt x hx
    · simp only [List.mem_singleton] at hx; subst hx; exact hv
  · rw [e, List.length_append, List.length_singleton]; omega
  · rw [e, List.length_append, List.length_singleton]; omega

theorem specGrow_is {F n : Nat} {f : Nat → Nat → Int} {over : Int} (hF : 134217728 ≤ F) (hn : n ≤ 10) (hf : TabOk f n) : ∀ (k : Nat) (p : List Nat), PathOk f n p → n + 2 ≤ p.length + k →
    spec_l03Grow_rec F k (tabM n n f) (nl p) (pathw f p) over = some ((gdfs (accG f fun w => decide (over < w)) (candW f) n k p).elim [] nl) := by
  intro k
  induction k with
  | zero => intro p hp hk; have := nodup_le n p hp.nodup hp.lt; omega
  | succ k ih =>
    intro p hp hk
    have hpl := nodup_le n p hp.nodup hp.lt
    have hfl := first_lt hp.ne hp.lt
    have hll := hp.lt _ (last_mem hp.ne)
    have hcl := hf (headN p) (lastN p) hfl hll
    have h0 := hp.w0
    have h1 := hp.w1
    have hacc : (bif (f (headN p) (lastN p) != (-1000000000000000)) then some (decide (over < IntKind.i64.wrap (pathw f p + f (headN p) (lastN p)))) else some false) = some (accG f (fun w => decide (over < w)) p) := by
      unfold accG arcB
      by_cases e : f (headN p) (lastN p) = -1000000000000000
      · rw [bF (neF e), dF (by simpa using e), Bool.false_and]
      · unfold Okw at hcl
        rw [bT (neT e), dT e, Bool.true_and, wr (by omega) (by omega)]
    unfold spec_l03Grow_rec gdfs
    simp only [nl_first hp.ne, nl_last hp.ne (by omega), Option.bind_some, idx_nat, tabM_row hfl, tabM_at hll, hacc]
    cases ha : accG f (fun w => decide (over < w)) p with
    | true => rfl
    | false =>
      simp only [cond_false, Bool.false_eq_true, if_false]
      have hw1 : IntKind.i64.wrap ((headN p : Int) + 1) = ((headN p + 1 : Nat) : Int) := wrN (by omega)
      rw [hw1]
      have H := for_ind (L := fun m (_ : Unit) i => spec_l03Grow_L1 F (tabM n n f) (nl p) (pathw f p) over (lastN p : Int) (spec_l03Grow_rec F k) m i) n
        (fun j _ => headN p < j ∧ ∀ v, v < j → (if candW f p v = true then gdfs (accG f fun w => decide (over < w)) (candW f) n k (p ++ [v]) else none) = none)
        (fun o => (∃ r, r ≠ [] ∧ o = some (.inl (nl r)) ∧ ((List.range n).findSome? fun v => if candW f p v = true then gdfs (accG f fun w => decide (over < w)) (candW f) n k (p ++ [v]) else none) = some r) ∨ (o = some (.inr ()) ∧ ((List.range n).findSome? fun v => if candW f p v = true then gdfs (accG f fun w => decide (over < w)) (candW f) n k (p ++ [v]) else none) = none)) ?_ ?_ (n - (headN p + 1)) (headN p + 1) () F (by omega) ⟨by omega, fun v hv => ?_⟩ (by omega)
      · rcases H with ⟨r, h2, h3, h4⟩ | ⟨h3, h4⟩
        · simp only [h3, h4, Option.bind_some, Option.elim_some]
        · simp only [h3, h4, Option.bind_some, Option.elim_none]
      · rintro m j _ hj ⟨hfj, hI⟩
        have hcj := hf j (lastN p) hj hll
        have hown : spec_l01Own F (nl p) = some (nl p) := by
          unfold spec_l01Own
          rw [app_le (by rw [nl_len]; simp only [List.length_nil]; omega)]; rfl
        have happ : app (nl p) [(j : Int)] = some (nl (p ++ [j])) := by
          rw [app_le (by rw [nl_len]; simp only [List.length_singleton]; omega), nl_app]
        have hwj : IntKind.i64.wrap ((j : Int) + 1) = ((j + 1 : Nat) : Int) := wrN (by omega)
        cases hc : candW f p j with
        | false =>
          refine .inl ⟨(), ?_, by omega, fun v hv => ?_⟩
          · by_cases e : f j (lastN p) = -1000000000000000
            · simp only [spec_l03Grow_L1, tabM_len, bdT (show (j : Int) < (n : Int) by omega), idx_nat, tabM_row hj, tabM_at hll, Option.bind_some, e, beq_self_eq_true, cond_true, hwj]
            · have hpj : p.contains j = true := by
                unfold candW arcB at hc
                rw [dT hfj, dT e, Bool.true_and, Bool.true_and, Bool.not_eq_false'] at hc
                exact hc
              simp only [spec_l03Grow_L1, tabM_len, bdT (show (j : Int) < (n : Int) by omega), idx_nat, tabM_row hj, tabM_at hll, Option.bind_some, beq_false_of_ne e, cond_false, specHas_is (F := F) (xs := nl p) (x := (j : Int)) hF (by rw [nl_len]; omega), nl_has, hpj, cond_true, hwj]
          · by_cases e : v = j
            · subst e; rw [hc]; rfl
            · exact hI v (by omega)
        | true =>
          obtain ⟨hp', hpw, hne⟩ := hp.next hf hj hc
          have hpj : p.contains j = false := by
            unfold candW at hc
            rw [Bool.and_eq_true, Bool.not_eq_true'] at hc
            exact hc.2
          have hw2 : IntKind.i64.wrap (pathw f p + f j (lastN p)) = pathw f (p ++ [j]) := by
            unfold Okw at hcj
            rw [hpw, wr (by omega) (by omega)]
          have hr := ih (p ++ [j]) hp' (by rw [List.length_append, List.length_singleton]; omega)
          have S : spec_l03Grow_L1 F (tabM n n f) (nl p) (pathw f p) over (lastN p : Int) (spec_l03Grow_rec F k) (m + 1) (j : Int) = bif decide (0 < (((gdfs (accG f fun w => decide (over < w)) (candW f) n k (p ++ [j])).elim [] nl).length : Int)) then some (.inl ((gdfs (accG f fun w => decide (over < w)) (candW f) n k (p ++ [j])).elim [] nl)) else spec_l03Grow_L1 F (tabM n n f) (nl p) (pathw f p) over (lastN p : Int) (spec_l03Grow_rec F k) m ((j + 1 : Nat) : Int) := by
            simp only [spec_l03Grow_L1, tabM_len, bdT (show (j : Int) < (n : Int) by omega), idx_nat, tabM_row hj, tabM_at hll, Option.bind_some, beq_false_of_ne hne, cond_false, specHas_is (F := F) (xs := nl p) (x := (j : Int)) hF (by rw [nl_len]; omega), nl_has, hpj, hown, happ, hw2, hr, hwj]
            cases decide (0 < (((gdfs (accG f fun w => decide (over < w)) (candW f) n k (p ++ [j])).elim [] nl).length : Int)) <;> rfl
          cases hg : gdfs (accG f fun w => decide (over < w)) (candW f) n k (p ++ [j]) with
          | none =>
            refine .inl ⟨(), ?_, by omega, fun v hv => ?_⟩
            · rw [S, hg]; rfl
            · by_cases e : v = j
              · subst e; rw [if_pos hc]; exact hg
              · exact hI v (by omega)
          | some r =>
            obtain ⟨_, q, hrq, _⟩ := gdfs_some hg
            have hne' : r ≠ [] := by rw [hrq]; simp
            have hlen := List.length_pos_iff.2 hne'
            refine .inr (.inl ⟨r, hne', ?_, fs_some hI (by rw [if_pos hc]; exact hg) hj⟩)
            rw [S, hg]
            show (bif decide (0 < ((nl r).length : Int)) then _ else _) = _
            rw [nl_len, bdT (by omega)]; rfl
      · rintro m _ ⟨_, hI⟩
        refine .inr ⟨?_, fs_none hI⟩
        simp only [spec_l03Grow_L1, tabM_len, bdF (show ¬ (n : Int) < (n : Int) by omega)]
      · have : candW f p v = false := by
          unfold candW
          rw [dF (by omega), Bool.false_and, Bool.false_and]
        rw [this]; rfl

theorem specOverT_is {F n : Nat} {f : Nat → Nat → Int} {over : Int} (hF : 134217728 ≤ F) (hn : n ≤ 10) (hf : TabOk f n) : spec_l03Over F (tabM n n f) over = some ((firstCyc f n (fun w => decide (over < w)) F).elim [] nl) := by
  unfold spec_l03Over
  have H := for0 (L := fun m (_ : Unit) i => spec_l03Over_L1 F (tabM n n f) over m i) (len := n) (fun j _ => ∀ v, v < j → gdfs (accG f fun w => decide (over < w)) (candW f) n F [v] = none)
    (R := fun o => (∃ r, o = some (.inl (nl r)) ∧ firstCyc f n (fun w => decide (over < w)) F = some r) ∨ (o = some (.inr ()) ∧ firstCyc f n (fun w => decide (over < w)) F = none)) (s := ()) (n := F) ?_ ?_ (fun v h => by omega) (by omega)
  · rcases H with ⟨r, h1, h2⟩ | ⟨h1, h2⟩
    · simp only [h1, h2, Option.bind_some, Option.elim_some]
    · simp only [h1, h2, Option.bind_some, Option.elim_none]
  · intro m j _ hj hI
    have hr : spec_l03Grow F (tabM n n f) [(j : Int)] 0 over = some ((gdfs (accG f fun w => decide (over < w)) (candW f) n F [j]).elim [] nl) := specGrow_is (F := F) hF hn hf F [j] (PathOk.one f hj) (by simp only [List.length_singleton]; omega)
    have S : spec_l03Over_L1 F (tabM n n f) over (m + 1) (j : Int) = bif decide (0 < (((gdfs (accG f fun w => decide (over < w)) (candW f) n F [j]).elim [] nl).length : Int)) then some (.inl ((gdfs (accG f fun w => decide (over < w)) (candW f) n F [j]).elim [] nl)) else spec_l03Over_L1 F (tabM n n f) over m ((j + 1 : Nat) : Int) := by
      simp only [spec_l03Over_L1, tabM_len, bdT (show (j : Int) < (n : Int) by omega), hr, Option.bind_some, wrN (show j ≤ 67108864 by omega)]
    cases hg : gdfs (accG f fun w => decide (over < w)) (candW f) n F [j] with
    | none =>
      refine .inl ⟨(), ?_, fun v hv => ?_⟩
      · rw [S, hg]; rfl
      · by_cases e : v = j
        · subst e; exact hg
        · exact hI v (by omega)
    | some r =>
      obtain ⟨_, q, hrq, _⟩ := gdfs_some hg
      have hlen := List.length_pos_iff.2 (show r ≠ [] by rw [hrq]; simp)
      refine .inr (.inl ⟨r, ?_, fs_some hI hg hj⟩)
      rw [S, hg]
      show (bif decide (0 < ((nl r).length : Int)) then _ else _) = _
      rw [nl_len, bdT (by omega)]; rfl
  · intro m _ hI
    refine .inr ⟨?_, fs_none hI⟩
    simp only [spec_l03Over_L1, tabM_len, bdF (show ¬ (n : Int) < (n : Int) by omega)]

/-- which nodes behind the first are used -/
def UsedOk (n : Nat) (p : List Nat) (u : List Bool) : Prop := u.length = n ∧ ∀ v, v < n → headN p < v → u[v]? = some (p.contains v)

theorem gdfs_ne {acc : List Nat → Bool} {cand : List Nat → Nat → Bool} {N k v : Nat} {r : List Nat} (h : gdfs acc cand N k [v] = some r) : r ≠ [] := by
  obtain ⟨_, q, e, _⟩ := gdfs_some h
  rw [e]; simp

theorem nl_ne {p : List Nat} (h : p ≠ []) : nl p ≠ [] := by
  cases p with
  | nil => exact absurd rfl h
  | cons x p => exact List.cons_ne_nil _ _

/-! ### Positive cycles, by the program -/
theorem squareB_tab {n : Nat} {f : Nat → Nat → Int} (h1 : 1 ≤ n) (hn : n ≤ 10) (hf : TabOk f n) : squareB (tabM n n f) = true := by
  have h0 : firstL (tabM n n f) = (n : Int) := by
    unfold firstL
    rw [List.getD_eq_getElem?_getD, tabM_row (show 0 < n by omega)]; simp
  unfold squareB matB
  rw [h0, tabM_len, Bool.and_eq_true, Bool.and_eq_true, inB_true, List.all_eq_true, beq_iff_eq]
  refine ⟨⟨by omega, fun r hr => ?_⟩, rfl⟩
  have hl := tabM_rows r hr
  unfold vecB
  rw [Bool.and_eq_true, Bool.and_eq_true, inB_true, beq_iff_eq, List.all_eq_true, hl]
  refine ⟨⟨by omega, fun x hx => ?_⟩, rfl⟩
  obtain ⟨i, hi, rfl⟩ := List.getElem_of_mem hr
  rw [tabM_len] at hi
  have e : (tabM n n f)[i] = (List.range n).map fun j => f i j := by
    have := tabM_row (m := n) (n := n) (f := f) hi
    rw [List.getElem?_eq_getElem (by rw [tabM_len]; exact hi)] at this
    exact Option.some.inj this
  rw [e, List.mem_map] at hx
  obtain ⟨j, hj, rfl⟩ := hx
  have := hf i j hi (by simpa using hj)
  unfold valB
  rw [Bool.or_eq_true, beq_iff_eq, inB_true]
  exact this

/-! ### The program's search for a better circuit -/
def tb (n : Nat) (x : Nat → Int) : List Int := (List.range n).map x

theorem tb_len (n : Nat) (x : Nat → Int) : (tb n x).length = n := by unfold tb; simp

theorem tb_at {n i : Nat} {x : Nat → Int} (h : i < n) : (tb n x)[i]? = some (x i) := by unfold tb; rw [List.getElem?_map, List.getElem?_range h]; rfl

theorem tb_set (n i : Nat) (x : Nat → Int) (y : Int) : (tb n x).set i y = tb n fun j => if j = i then y else x j := by unfold tb; rw [map_range_set]

theorem tb_zero (n : Nat) : List.replicate n (0 : Int) = tb n fun _ => 0 := by
  unfold tb
  apply List.ext_getElem? ; intro i
  rw [List.getElem?_replicate, List.getElem?_map]
  by_cases h : i < n
  · rw [if_pos h, List.getElem?_range h]; rfl
  · rw [if_neg h, List.getElem?_eq_none (by simpa using h)]; rfl

theorem wT_arcs {g : GEventGraph} (h : graphB g = true) {r : Int} (h0 : 0 ≤ r) (h1 : r ≤ 100000) : Arcs (wT g r) g.Events.toNat plT plF (plW r) g.Places :=
  ⟨fun _p hp => ⟨(pl_at h hp).2.2.1, (pl_at h hp).2.2.2⟩, fun _p hp => ⟨(plW_bd h h0 h1 hp).1, (plW_bd h h0 h1 hp).2.1⟩, fun _p hp => arcT_ge hp, fun i j => arcT_cases g.Places i j⟩

/-- the places last taken -/
def ViaOk (n m : Nat) (vs : List Nat) : Prop := vs.length = n ∧ ∀ v, v ∈ vs → v < m

theorem via_set {n m : Nat} {vs : List Nat} (h : ViaOk n m vs) {k : Nat} (hk : k < m) (i : Nat) : ViaOk n m (vs.set i k) := ⟨by rw [List.length_set]; exact h.1, fun v hv => by
  rcases List.mem_or_eq_of_mem_set hv with h1 | h1
  · exact h.2 v h1
  · omega⟩

theorem nl_set (vs : List Nat) (i k : Nat) : (nl vs).set i (k : Int) = nl (vs.set i k) := by
  unfold nl; rw [List.map_set]

theorem its_small {g : GEventGraph} {r : Int} (h : graphB g = true) (h0 : 0 ≤ r) (h1 : r ≤ 100000) {x : Nat → Int} {M : Int} (hx : ∀ i, i < g.Events.toNat → -M ≤ x i ∧ x i ≤ M) : ∀ (k i : Nat), i < g.Events.toNat → -(M + 30000000 * (k : Int)) ≤ its plT plF (plW r) x g.Places k i ∧ its plT plF (plW r) x g.Places k i ≤ M + 30000000 * (k : Int) := by
  intro k
  have hA := wT_arcs h h0 h1
  obtain ⟨_, _, e3, _, _⟩ := graphB_true h
  induction k with
  | zero => intro i hi; have := hx i hi; show -(M + 30000000 * ((0 : Nat) : Int)) ≤ x i ∧ x i ≤ _; omega
  | succ k ih =>
    intro i hi
    have := rnd_bd (t := plT) (f := plF) (w := plW r) (n := g.Events.toNat) (ps := g.Places) (fun p hp => ⟨hA.lt p hp, hA.bd p hp⟩) ih i hi
    show -(M + 30000000 * ((k + 1 : Nat) : Int)) ≤ rnd plT plF (plW r) (its plT plF (plW r) x g.Places k) g.Places i ∧ rnd plT plF (plW r) (its plT plF (plW r) x g.Places k) g.Places i ≤ _
    omega

/-- one step back -/
def backN (g : GEventGraph) (vs : List Nat) (v : Nat) : Nat := plF ((g.Places[(vs[v]?).getD 0]?).getD ⟨0, 0, 0, 0⟩)

theorem back_at {g : GEventGraph} (h : graphB g = true) {vs : List Nat} (hv : ViaOk g.Events.toNat g.Places.length vs) {v : Nat} (hn : v < g.Events.toNat) : ∃ u p, vs[v]? = some u ∧ g.Places[u]? = some p ∧ p.From = (backN g vs v : Int) ∧ backN g vs v < g.Events.toNat := by
  have hl : v < vs.length := by rw [hv.1]; exact hn
  have hu := hv.2 _ (List.getElem_mem hl)
  have e1 := List.getElem?_eq_getElem hl
  have e2 := List.getElem?_eq_getElem hu
  obtain ⟨_, a2, _, a4⟩ := pl_at h (List.getElem_mem hu)
  refine ⟨_, _, e1, e2, ?_, ?_⟩
  · unfold backN; rw [e1, Option.getD_some, e2, Option.getD_some]; exact a2
  · unfold backN; rw [e1, Option.getD_some, e2, Option.getD_some]; exact a4

def itn (φ : Nat → Nat) : Nat → Nat → Nat
  | 0, v => v
  | k + 1, v => itn φ k (φ v)

theorem itn_succ (φ : Nat → Nat) : ∀ (k v : Nat), itn φ (k + 1) v = φ (itn φ k v)
  | 0, _ => rfl
  | k + 1, v => itn_succ φ k (φ v)

theorem itn_add (φ : Nat → Nat) (i : Nat) : ∀ (j v : Nat), itn φ (i + j) v = itn φ i (itn φ j v)
  | 0, _ => rfl
  | j + 1, v => itn_add φ i j (φ v)

theorem itn_lt {φ : Nat → Nat} {n : Nat} (h : ∀ v, v < n → φ v < n) : ∀ (k : Nat) {v : Nat}, v < n → itn φ k v < n
  | 0, _, hv => hv
  | k + 1, _, hv => itn_lt h k (h _ hv)

theorem itn_back {φ : Nat → Nat} {n : Nat} (h : ∀ v, v < n → φ v < n) {v : Nat} (hv : v < n) : ∃ d, d < n ∧ itn φ (d + 1) (itn φ n v) = itn φ n v := by
  obtain ⟨p, q, h1, h2, h3⟩ := pigeon_n (n := n) (c := fun t => itn φ t v) (fun t _ => itn_lt h t hv)
  have h3 : itn φ p v = itn φ q v := h3
  refine ⟨q - p - 1, by omega, ?_⟩
  rw [show q - p - 1 + 1 = q - p by omega, ← itn_add, show q - p + n = (n - p) + q by omega, itn_add, ← h3, ← itn_add, show n - p + p = n by omega]

/-! ### Circuits of places -/
def pcs (g : GEventGraph) (i : Nat) : GPlace := (g.Places[i]?).getD ⟨0, 0, 0, 0⟩

theorem pcs_at {g : GEventGraph} {i : Nat} (h : i < g.Places.length) : g.Places[i]? = some (pcs g i) := by
  unfold pcs; rw [List.getElem?_eq_getElem h]; rfl

theorem pcs_mem {g : GEventGraph} {i : Nat} (h : i < g.Places.length) : pcs g i ∈ g.Places := List.mem_of_getElem? (pcs_at h)

def cF (g : GEventGraph) (i : Nat) : Nat := plF (pcs g i)

def cT (g : GEventGraph) (i : Nat) : Nat := plT (pcs g i)

def sumD (g : GEventGraph) (p : List Nat) : Int := (p.map fun i => (pcs g i).Delay).sum

def sumM (g : GEventGraph) (p : List Nat) : Int := (p.map fun i => (pcs g i).Tokens).sum

theorem sumD_app (g : GEventGraph) (p q : List Nat) : sumD g (p ++ q) = sumD g p + sumD g q := by unfold sumD; rw [List.map_append, List.sum_append]

theorem sumM_app (g : GEventGraph) (p q : List Nat) : sumM g (p ++ q) = sumM g p + sumM g q := by unfold sumM; rw [List.map_append, List.sum_append]

theorem sumD_one (g : GEventGraph) (v : Nat) : sumD g [v] = (pcs g v).Delay := by unfold sumD; simp

theorem sumM_one (g : GEventGraph) (v : Nat) : sumM g [v] = (pcs g v).Tokens := by unfold sumM; simp

theorem sums_bd {g : GEventGraph} (h : graphB g = true) : ∀ (p : List Nat), (∀ x, x ∈ p → x < g.Places.length) → 0 ≤ sumD g p ∧ sumD g p ≤ 1000 * (p.length : Int) ∧ 0 ≤ sumM g p ∧ sumM g p ≤ 5 * (p.length : Int)
  | [], _ => by unfold sumD sumM; simp
  | x :: p, hp => by
    have h1 := sums_bd h p (fun y hy => hp y (by simp [hy]))
    have h2 := graphB_range h _ (pcs_mem (hp x (by simp)))
    have e1 : sumD g (x :: p) = (pcs g x).Delay + sumD g p := by unfold sumD; simp
    have e2 : sumM g (x :: p) = (pcs g x).Tokens + sumM g p := by unfold sumM; simp
    rw [e1, e2, List.length_cons]
    omega

theorem c_at {g : GEventGraph} (h : graphB g = true) {i : Nat} (hi : i < g.Places.length) : (pcs g i).To = (cT g i : Int) ∧ (pcs g i).From = (cF g i : Int) ∧ cT g i < g.Events.toNat ∧ cF g i < g.Events.toNat := pl_at h (pcs_mem hi)

theorem eqN (a b : Nat) : ((a : Int) == (b : Int)) = decide (a = b) := by
  by_cases e : a = b
  · subst e; simp
  · rw [beq_false_of_ne (by omega), dF e]

theorem neN (a b : Nat) : ((a : Int) != (b : Int)) = !decide (a = b) := by rw [bne, eqN]

theorem ltN (a b : Nat) : decide ((a : Int) < (b : Int)) = decide (a < b) := by
  by_cases e : a < b
  · rw [dT e, dT (by omega)]
  · rw [dF e, dF (by omega)]

def closedC (g : GEventGraph) (p : List Nat) : Bool := decide (cT g (lastN p) = cF g (headN p))

def visC (g : GEventGraph) (p : List Nat) (e : Nat) : Bool := p.any fun i => decide (cF g i = e) || decide (cT g i = e)

def accC (g : GEventGraph) (good : Int → Int → Bool) (p : List Nat) : Bool := closedC g p && good (sumD g p) (sumM g p)

def candC (g : GEventGraph) (p : List Nat) (v : Nat) : Bool := !closedC g p && (decide (cF g v = cT g (lastN p)) && (decide (cF g (headN p) ≤ cT g v) && (decide (cT g v = cF g (headN p)) || !visC g p (cT g v))))

theorem candC_true {g : GEventGraph} {p : List Nat} {v : Nat} : candC g p v = true ↔ closedC g p = false ∧ cF g v = cT g (lastN p) ∧ cF g (headN p) ≤ cT g v ∧ (cT g v = cF g (headN p) ∨ visC g p (cT g v) = false) := by
  unfold candC
  simp only [Bool.and_eq_true, Bool.not_eq_true', decide_eq_true_eq, Bool.or_eq_true]

structure CircOk (g : GEventGraph) (p : List Nat) : Prop where
  ne : p ≠ []
  lt : ∀ x, x ∈ p → x < g.Places.length
  nodup : (p.map (cT g)).Nodup
  op : closedC g p = false → cF g (headN p) ∉ p.map (cT g)

theorem CircOk.short {g : GEventGraph} (h : graphB g = true) {p : List Nat} (hp : CircOk g p) : p.length ≤ g.Events.toNat := by
  have := nodup_le g.Events.toNat _ hp.nodup (fun x hx => by
    obtain ⟨i, hi, rfl⟩ := List.mem_map.1 hx
    exact (c_at h (hp.lt i hi)).2.2.1)
  rwa [List.length_map] at this

theorem CircOk.one {g : GEventGraph} {i : Nat} (hi : i < g.Places.length) : CircOk g [i] :=
  ⟨by simp, fun x hx => by simp only [List.mem_singleton] at hx; subst hx; exact hi, by simp, fun hc hm => by
    have e : lastN [i] = i := rfl
    have e2 : headN [i] = i := rfl
    unfold closedC at hc
    rw [e, e2] at hc
    rw [e2] at hm
    simp only [List.map_cons, List.map_nil, List.mem_singleton] at hm
    rw [hm] at hc; simp at hc⟩

theorem CircOk.next {g : GEventGraph} {p : List Nat} {v : Nat} (hp : CircOk g p) (hv : v < g.Places.length) (hc : candC g p v = true) : CircOk g (p ++ [v]) := by
  obtain ⟨h1, h2, h3, h4⟩ := candC_true.1 hc
  have hop := hp.op h1
  have hnm : cT g v ∉ p.map (cT g) := by
    rcases h4 with h4 | h4
    · rw [h4]; exact hop
    · intro hm
      obtain ⟨i, hi, e⟩ := List.mem_map.1 hm
      unfold visC at h4
      rw [List.any_eq_false] at h4
      exact h4 i hi (by rw [decide_eq_true e, Bool.or_true])
  refine ⟨by simp, fun x hx => ?_, ?_, fun hcl hm => ?_⟩
  · rcases List.mem_append.1 hx with hx | hx
    · exact hp.lt x hx
    · simp only [List.mem_singleton] at hx; subst hx; exact hv
  · rw [List.map_append, List.nodup_append]
    refine ⟨hp.nodup, by simp, fun x hx y hy => ?_⟩
    simp only [List.map_cons, List.map_nil, List.mem_singleton] at hy
    subst hy
    exact fun e => hnm (e ▸ hx)
  · unfold closedC at hcl
    rw [lastN_snoc, headN_snoc hp.ne] at hcl
    rw [headN_snoc hp.ne, List.map_append] at hm
    rcases List.mem_append.1 hm with hm | hm
    · exact hop hm
    · simp only [List.map_cons, List.map_nil, List.mem_singleton] at hm
      rw [hm] at hcl; simp at hcl

def firstC (g : GEventGraph) (good : Int → Int → Bool) (K : Nat) : Option (List Nat) := (List.range g.Places.length).findSome? fun i => if cF g i ≤ cT g i then gdfs (accC g good) (candC g) g.Places.length K [i] else none

theorem steps_ok {g : GEventGraph} : ∀ {q p : List Nat}, CircOk g p → Steps (candC g) p q → (∀ x, x ∈ q → x < g.Places.length) → CircOk g (p ++ q)
  | [], p, hp, _, _ => by rw [List.append_nil]; exact hp
  | v :: q, p, hp, hs, hq => by
    rw [show p ++ v :: q = (p ++ [v]) ++ q by simp]
    exact steps_ok (hp.next (hq v (by simp)) hs.1) hs.2 (fun x hx => hq x (by simp [hx]))

theorem firstC_some {g : GEventGraph} {good : Int → Int → Bool} {K : Nat} {r : List Nat} (h : firstC g good K = some r) : CircOk g r ∧ closedC g r = true ∧ good (sumD g r) (sumM g r) = true ∧ ∃ i q, r = [i] ++ q ∧ i < g.Places.length ∧ Steps (candC g) [i] q ∧ ∀ x, x ∈ q → x < g.Places.length := by
  obtain ⟨i, hi, h1⟩ := List.exists_of_findSome?_eq_some h
  have hil : i < g.Places.length := by simpa using hi
  by_cases hc : cF g i ≤ cT g i
  · rw [if_pos hc] at h1
    obtain ⟨h2, q, rfl, h3, h4⟩ := gdfs_some h1
    unfold accC at h2
    rw [Bool.and_eq_true] at h2
    exact ⟨steps_ok (CircOk.one hil) h3 h4, h2.1, h2.2, i, q, rfl, hil, h3, h4⟩
  · rw [if_neg hc] at h1; cases h1

theorem steps_pot {g : GEventGraph} {r : Int} {x : Nat → Int} (hx : ∀ p, p ∈ g.Places → x (plF p) + plW r p ≤ x (plT p)) : ∀ {q p : List Nat}, p ≠ [] → x (cF g (headN p)) + (sumD g p - r * sumM g p) ≤ x (cT g (lastN p)) → Steps (candC g) p q → (∀ y, y ∈ q → y < g.Places.length) → x (cF g (headN p)) + (sumD g (p ++ q) - r * sumM g (p ++ q)) ≤ x (cT g (lastN (p ++ q)))
  | [], p, _, h0, _, _ => by rw [List.append_nil]; exact h0
  | v :: q, p, hne, h0, hs, hq => by
    have e : p ++ v :: q = (p ++ [v]) ++ q := by simp
    obtain ⟨_, c2, _, _⟩ := candC_true.1 hs.1
    have h1 := hx _ (pcs_mem (hq v (by simp)))
    have h2 : x (cF g v) + plW r (pcs g v) ≤ x (cT g v) := h1
    have := steps_pot hx (q := q) (p := p ++ [v]) (by simp) (by
      rw [headN_snoc hne, lastN_snoc, sumD_app, sumM_app, sumD_one, sumM_one, Int.mul_add]
      unfold plW at h2
      rw [c2] at h2
      omega) hs.2 (fun y hy => hq y (by simp [hy]))
    rw [headN_snoc hne] at this
    rw [e]; exact this

theorem circ_bound {g : GEventGraph} {r : Int} (h : graphB g = true) (h0 : 0 ≤ r) (h1 : r ≤ 100000) (hn : ¬ PosCyc (wT g r) g.Events.toNat) {good : Int → Int → Bool} {K : Nat} {c : List Nat} (hc : firstC g good K = some c) : sumD g c - r * sumM g c ≤ 0 := by
  obtain ⟨e1, e2, e3, _, _⟩ := graphB_true h
  have hA := wT_arcs h h0 h1
  have hrest := its_rest hA (by omega) ((fwok_iff hA.ok (by omega)).2 hn) (fun _ => 0)
  obtain ⟨_, hx⟩ := chd_false hrest
  obtain ⟨hok, hcl, _, i, q, rfl, hi, hs, hq⟩ := firstC_some hc
  have h2 := hx _ (pcs_mem hi)
  have := steps_pot (g := g) (r := r) hx (q := q) (p := [i]) (by simp) (by
    rw [sumD_one, sumM_one]; exact h2) hs hq
  have hcl' : cT g (lastN ([i] ++ q)) = cF g (headN ([i] ++ q)) := of_decide_eq_true hcl
  have eh : headN ([i] ++ q) = headN [i] := rfl
  rw [hcl', eh] at this
  omega

theorem wT_place {g : GEventGraph} {r : Int} (h : graphB g = true) (h0 : 0 ≤ r) (h1 : r ≤ 100000) {u v : Nat} (ha : wT g r v u ≠ -1000000000000000) : ∃ i, i < g.Places.length ∧ cT g i = v ∧ cF g i = u ∧ (pcs g i).Delay - r * (pcs g i).Tokens = wT g r v u := by
  rcases (wT_arcs h h0 h1).cs v u with e | ⟨p, hp, h2, h3, h4⟩
  · exact absurd e ha
  · obtain ⟨i, hi, rfl⟩ := List.getElem_of_mem hp
    have e : pcs g i = g.Places[i] := by unfold pcs; rw [List.getElem?_eq_getElem hi]; rfl
    exact ⟨i, hi, by unfold cT; rw [e]; exact h2, by unfold cF; rw [e]; exact h3, by rw [e, h4]; rfl⟩

theorem chain_steps {g : GEventGraph} {r : Int} (h : graphB g = true) (h0 : 0 ≤ r) (h1 : r ≤ 100000) {f : Nat} : ∀ (q p : List Nat) (l : Nat) (V : List Nat), p ≠ [] → cT g (lastN p) = l → l ≠ f → cF g (headN p) = f → l ∈ V → (∀ e, e ∉ V → visC g p e = false) → (∀ x, x ∈ q → f < x ∧ x ∉ V) → q.Nodup → Chain (arcB (wT g r)) l q f →
    ∃ ps, Steps (candC g) p ps ∧ closedC g (p ++ ps) = true ∧ (∀ x, x ∈ ps → x < g.Places.length) ∧ sumD g (p ++ ps) - r * sumM g (p ++ ps) = sumD g p - r * sumM g p + cw (wT g r) l q f ∧ ps.length ≤ q.length + 1 := by
  intro q
  induction q with
  | nil =>
    intro p l V hne hl hlf hf _ _ _ _ hc
    obtain ⟨i, hi, i1, i2, i3⟩ := wT_place h h0 h1 (arcB_true.1 hc)
    have hcl : closedC g p = false := by unfold closedC; rw [hl, hf]; exact decide_eq_false hlf
    refine ⟨[i], ⟨candC_true.2 ⟨hcl, by rw [i2, hl], by rw [i1, hf]; exact Nat.le_refl _, .inl (by rw [i1, hf])⟩, trivial⟩, ?_, fun x hx => ?_, ?_, by simp⟩
    · unfold closedC; rw [lastN_snoc, headN_snoc hne, i1, hf]; simp
    · simp only [List.mem_singleton] at hx; subst hx; exact hi
    · rw [sumD_app, sumM_app, sumD_one, sumM_one, Int.mul_add]
      show _ = _ + wT g r f l
      rw [← i3]; omega
  | cons v q ih =>
    intro p l V hne hl hlf hf hlV hvis hq hnd hc
    obtain ⟨i, hi, i1, i2, i3⟩ := wT_place h h0 h1 (arcB_true.1 hc.1)
    have hcl : closedC g p = false := by unfold closedC; rw [hl, hf]; exact decide_eq_false hlf
    obtain ⟨hv1, hv2⟩ := hq v (by simp)
    have hcand : candC g p i = true := candC_true.2 ⟨hcl, by rw [i2, hl], by rw [i1, hf]; omega, .inr (by rw [i1]; exact hvis v hv2)⟩
    rw [List.nodup_cons] at hnd
    obtain ⟨ps, s1, s2, s3, s4, s5⟩ := ih (p ++ [i]) v (v :: V) (by simp) (by rw [lastN_snoc, i1]) (by omega) (by rw [headN_snoc hne, hf]) (by simp) (fun e he => by
        rw [List.mem_cons, not_or] at he
        unfold visC
        rw [List.any_append]
        have := hvis e he.2
        unfold visC at this
        rw [this]
        simp only [List.any_cons, List.any_nil, i1, i2, Bool.or_false, Bool.false_or, Bool.or_eq_false_iff, decide_eq_false_iff_not]
        exact ⟨fun e2 => he.2 (e2 ▸ hlV), fun e2 => he.1 e2.symm⟩) (fun x hx => ⟨(hq x (by simp [hx])).1, fun hm => by
        rcases List.mem_cons.1 hm with rfl | hm
        · exact hnd.1 hx
        · exact (hq x (by simp [hx])).2 hm⟩) hnd.2 hc.2
    refine ⟨i :: ps, ⟨hcand, s1⟩, ?_, fun x hx => ?_, ?_, by simp only [List.length_cons]; omega⟩
    · rw [show p ++ i :: ps = (p ++ [i]) ++ ps by simp]; exact s2
    · rcases List.mem_cons.1 hx with rfl | hx
      · exact hi
      · exact s3 x hx
    · rw [show p ++ i :: ps = (p ++ [i]) ++ ps by simp, s4, sumD_app, sumM_app, sumD_one, sumM_one, Int.mul_add]
      show _ = _ + (wT g r v l + cw (wT g r) v q f)
      rw [← i3]; omega

theorem firstC_none {g : GEventGraph} {r : Int} {K : Nat} (h : graphB g = true) (h0 : 0 ≤ r) (h1 : r ≤ 100000) (hK : 100 ≤ K) (hp : PosCyc (wT g r) g.Events.toNat) : firstC g (fun d m => decide (0 < d - r * m)) K ≠ none := by
  intro hn
  obtain ⟨e1, e2, e3, _, _⟩ := graphB_true h
  obtain ⟨v, q, hv, ⟨q1, q2, q3⟩, hw⟩ := hp
  have hql := nodup_le g.Events.toNat q (List.nodup_cons.1 q2).2 (fun x hx => (q1 x hx).2)
  cases q with
  | nil =>
    obtain ⟨i, hi, i1, i2, i3⟩ := wT_place h h0 h1 (arcB_true.1 q3)
    have h2 := List.findSome?_eq_none_iff.1 hn i (by simpa using hi)
    rw [if_pos (by omega)] at h2
    have h3 := gdfs_none (q := []) h2 (by simp; omega) trivial (fun x hx => (by cases hx))
    rw [List.append_nil] at h3
    have hw' : 0 < wT g r v v := hw
    have hc : closedC g [i] = true := decide_eq_true (show cT g i = cF g i by rw [i1, i2])
    unfold accC at h3
    rw [hc, Bool.true_and] at h3
    have h3 : decide (0 < sumD g [i] - r * sumM g [i]) = false := h3
    rw [sumD_one, sumM_one, i3, dT hw'] at h3
    cases h3
  | cons u q =>
    obtain ⟨i, hi, i1, i2, i3⟩ := wT_place h h0 h1 (arcB_true.1 q3.1)
    have hu := q1 u (by simp)
    have h2 := List.findSome?_eq_none_iff.1 hn i (by simpa using hi)
    rw [if_pos (by omega)] at h2
    have q2' := List.nodup_cons.1 (List.nodup_cons.1 q2).2
    obtain ⟨ps, s1, s2, s3, s4, s5⟩ := chain_steps (g := g) (r := r) h h0 h1 (f := v) q [i] u [u, v] (by simp) i1 (by omega) i2 (by simp) (fun e he => by
        unfold visC
        simp only [List.mem_cons, List.not_mem_nil, or_false, not_or] at he
        simp only [List.any_cons, List.any_nil, i1, i2, Bool.or_false, Bool.or_eq_false_iff, decide_eq_false_iff_not]
        omega) (fun x hx => ⟨(q1 x (by simp [hx])).1, fun hm => by
        simp only [List.mem_cons, List.not_mem_nil, or_false] at hm
        rcases hm with rfl | rfl
        · exact q2'.1 hx
        · have := (q1 x (by simp [hx])).1; omega⟩) q2'.2 q3.2
    have h3 := gdfs_none (q := ps) h2 (by simp only [List.length_cons] at hql; omega) s1 s3
    unfold accC at h3
    have hw' : 0 < wT g r u v + cw (wT g r) u q v := hw
    rw [s2, Bool.true_and] at h3
    have h3 : decide (0 < sumD g ([i] ++ ps) - r * sumM g ([i] ++ ps)) = false := h3
    rw [s4, sumD_one, sumM_one, i3, dT hw'] at h3
    cases h3

/-! ### The program's search for a circuit -/
def SeenOk (g : GEventGraph) (p : List Nat) (u : List Bool) : Prop := u.length = g.Events.toNat ∧ ∀ e, e < g.Events.toNat → u[e]? = some (visC g p e)

theorem visC_snoc (g : GEventGraph) (p : List Nat) (v e : Nat) : visC g (p ++ [v]) e = (visC g p e || (decide (cF g v = e) || decide (cT g v = e))) := by
  unfold visC; rw [List.any_append]; simp

theorem visC_last {g : GEventGraph} {p : List Nat} (h : p ≠ []) : visC g p (cT g (lastN p)) = true := by
  unfold visC
  rw [List.any_eq_true]
  exact ⟨lastN p, last_mem h, by simp⟩

theorem nl_cut {p : List Nat} {j : Nat} (hl : p.length ≤ 1000) : cutTo (nl (p ++ [j])) (IntKind.i64.wrap (((nl (p ++ [j])).length : Int) - 1)) = some (nl p) := by
  rw [nl_len, List.length_append, List.length_singleton, wr (by omega) (by omega)]
  unfold cutTo
  rw [nl_len, List.length_append, List.length_singleton, if_pos ⟨by omega, by omega⟩, show (((p.length + 1 : Nat) : Int) - 1).toNat = p.length by omega]
  unfold nl
  rw [List.map_append, List.take_left' (by simp)]

/-! ### The reference's order -/
theorem specReady_is {F n e : Nat} {g : GEventGraph} {o : List Nat} (hF : 134217728 ≤ F) (h : GOk g n) (ho : o.length ≤ n) (he : e < n) : spec_l12Order_L21 F g (mat0 (eP g.Places) n) (nl o) (e : Int) F (!o.contains e) 0 = some (readyB (eP g.Places) n o e) := by
  have h10 := h.n10
  have H := for0 (L := fun m (s : Bool) i => spec_l12Order_L21 F g (mat0 (eP g.Places) n) (nl o) (e : Int) m s i) (len := n) (fun k s => s = (!o.contains e && (List.range k).all fun u => !eP g.Places u e || o.contains u)) (R := fun r => r = some (readyB (eP g.Places) n o e)) (s := !o.contains e) (n := F) ?_ ?_ (by simp) (by omega)
  · exact H
  · rintro m k s hk rfl
    refine .inl ⟨_, ?_, rfl⟩
    have hlt : decide ((k : Int) < g.Events) = true := by rw [h.ev]; exact decide_eq_true (by omega)
    have hcell : idx ((List.range n).map fun u => bif eP g.Places u e then (0 : Int) else (-1000000000000000)) (k : Int) = some (bif eP g.Places k e then 0 else (-1000000000000000)) := by rw [idx_nat, List.getElem?_map, List.getElem?_range hk]; rfl
    simp only [spec_l12Order_L21, hlt, cond_true, idx_nat, mat0_row he, Option.bind_some]
    rw [← idx_nat, hcell]
    simp only [Option.bind_some, specHas_is (F := F) (xs := nl o) (x := (k : Int)) hF (by rw [nl_len]; omega), nl_has, wrN (show k ≤ 67108864 by omega), List.range_succ, List.all_append, List.all_cons, List.all_nil, Bool.and_true]
    cases o.contains e <;> cases ((List.range k).all fun u => !eP g.Places u e || o.contains u) <;> cases eP g.Places k e <;> cases o.contains k <;> rfl
  · rintro m s rfl
    have hlt : decide ((n : Int) < g.Events) = false := by rw [h.ev]; exact decide_eq_false (by omega)
    simp only [spec_l12Order_L21, hlt, cond_false]; rfl

theorem specRound_is {F n : Nat} {g : GEventGraph} {o : List Nat} (hF : 134217728 ≤ F) (h : GOk g n) (ho : o.length ≤ n) : spec_l12Order_L20 F g (mat0 (eP g.Places) n) (nl o) F 0 = some (nl (match nextOf (eP g.Places) n o with | some e => o ++ [e] | none => o)) := by
  have h10 := h.n10
  have H := for0 (L := fun m (_ : Unit) i => spec_l12Order_L20 F g (mat0 (eP g.Places) n) (nl o) m i) (len := n) (fun k _ => ∀ e, e < k → readyB (eP g.Places) n o e = false) (R := fun r => r = some (nl (match nextOf (eP g.Places) n o with | some e => o ++ [e] | none => o))) (s := ()) (n := F) ?_ ?_ (fun e he => by omega) (by omega)
  · exact H
  · intro m k _ hk hI
    have hlt : decide ((k : Int) < g.Events) = true := by rw [h.ev]; exact decide_eq_true (by omega)
    have S : spec_l12Order_L20 F g (mat0 (eP g.Places) n) (nl o) (m + 1) (k : Int) = bif readyB (eP g.Places) n o k then (app (nl o) [(k : Int)]).bind fun xs => some xs else spec_l12Order_L20 F g (mat0 (eP g.Places) n) (nl o) m ((k + 1 : Nat) : Int) := by
      simp only [spec_l12Order_L20, hlt, cond_true, specHas_is (F := F) (xs := nl o) (x := (k : Int)) hF (by rw [nl_len]; omega), nl_has, Option.bind_some, specReady_is hF h ho hk, wrN (show k ≤ 67108864 by omega)]
    cases hr : readyB (eP g.Places) n o k with
    | false =>
      refine .inl ⟨(), by simp only [S, hr, cond_false], fun e he => ?_⟩
      by_cases e2 : e = k
      · subst e2; exact hr
      · exact hI e (by omega)
    | true =>
      refine .inr ?_
      have hn : nextOf (eP g.Places) n o = some k := by
        unfold nextOf
        rw [List.find?_eq_some_iff_getElem]
        exact ⟨hr, k, by simpa using hk, by simp, fun j hj => by simp [hI j hj]⟩
      have happ : app (nl o) [(k : Int)] = some (nl (o ++ [k])) := by
        rw [app_le (by rw [nl_len]; simp only [List.length_singleton]; omega), nl_app]
      simp only [S, hr, cond_true, happ, Option.bind_some, hn]
  · intro m _ hI
    have hno : nextOf (eP g.Places) n o = none := by
      unfold nextOf
      rw [List.find?_eq_none]
      intro x hx
      rw [hI x (by simpa using hx)]; decide
    have hlt : decide ((n : Int) < g.Events) = false := by rw [h.ev]; exact decide_eq_false (by omega)
    simp only [spec_l12Order_L20, hlt, cond_false, hno]

theorem specOrderLoop {F n : Nat} {g : GEventGraph} (hF : 134217728 ≤ F) (h : GOk g n) : ∀ (k : Nat) (o o' : List Nat) (m : Nat), o.length + k = n → k < m → fire (eP g.Places) n k o = some o' → spec_l12Order_L16 F g (mat0 (eP g.Places) n) m (nl o) = some (nl o') := by
  have h10 := h.n10
  intro k
  induction k with
  | zero =>
    intro o o' m ho hm hf
    obtain ⟨m, rfl⟩ : ∃ m', m = m' + 1 := ⟨m - 1, by omega⟩
    unfold fire at hf
    cases hf
    have : decide (((nl o).length : Int) < g.Events) = false := by rw [h.ev, nl_len]; exact decide_eq_false (by omega)
    simp only [spec_l12Order_L16, this, cond_false]
  | succ k ih =>
    intro o o' m ho hm hf
    obtain ⟨m, rfl⟩ : ∃ m', m = m' + 1 := ⟨m - 1, by omega⟩
    have : decide (((nl o).length : Int) < g.Events) = true := by rw [h.ev, nl_len]; exact decide_eq_true (by omega)
    unfold fire at hf
    cases hx : nextOf (eP g.Places) n o with
    | none => rw [hx] at hf; cases hf
    | some e =>
      rw [hx] at hf
      simp only [spec_l12Order_L16, this, cond_true, specRound_is hF h (show o.length ≤ n by omega), Option.bind_some, hx]
      exact ih (o ++ [e]) o' m (by rw [List.length_append, List.length_singleton]; omega) (by omega) hf

theorem specOrder_is {F n : Nat} {g : GEventGraph} (hF : 134217728 ≤ F) (h : GOk g n) {o : List Nat} (ho : fire (eP g.Places) n n [] = some o) : spec_l12Order F g = some (nl o) := by
  have h10 := h.n10
  unfold spec_l12Order
  have := specOrderLoop hF h n [] o F (by simp) (by omega) ho
  rw [show nl [] = [] from rfl] at this
  rw [bind_of (specFree_is hF h), this]; rfl

/-! ### Tables row by row -/
def plD (g : GEventGraph) (i : Nat) : GPlace := g.Places.getD i ⟨0, 0, 0, 0⟩

theorem plD_of {g : GEventGraph} {k : Nat} (h : k < g.Places.length) : g.Places[k]? = some (plD g k) := by
  unfold plD; rw [List.getD_eq_getElem?_getD, List.getElem?_eq_getElem h]; rfl

theorem foldl_len {α : Type} {f : List Int → α → List Int} (hf : ∀ xs a, (f xs a).length = xs.length) : ∀ (l : List α) (xs : List Int), (l.foldl f xs).length = xs.length
  | [], _ => rfl
  | a :: l, xs => by rw [List.foldl_cons, foldl_len hf l, hf]

/-- the parts of a table that is under way -/
structure DOk (g : GEventGraph) (n : Nat) (pre : List (List Int)) (xs : List Int) : Prop where
  rws : ∀ r, r ∈ pre → r.length = n
  row : xs.length = n
  le : pre.length ≤ 50

theorem DOk.at' {g : GEventGraph} {n : Nat} {pre : List (List Int)} {xs : List Int} (h : DOk g n pre xs) {m : Nat} (hm : m ≤ pre.length) : (pre ++ [xs])[m]? = some ((pre ++ [xs]).getD m []) ∧ ((pre ++ [xs]).getD m []).length = n := by
  have hl : m < (pre ++ [xs]).length := by simp; omega
  have e : (pre ++ [xs])[m]? = some ((pre ++ [xs]).getD m []) := by rw [List.getD_eq_getElem?_getD, List.getElem?_eq_getElem hl]; rfl
  refine ⟨e, ?_⟩
  rcases List.mem_append.1 (List.mem_of_getElem? e) with h1 | h1
  · exact h.rws _ h1
  · simp only [List.mem_singleton] at h1; rw [h1]; exact h.row

theorem getN {xs : List Int} {i : Int} {u n : Nat} (h : i = (u : Int)) (hu : u < n) (hx : xs.length = n) : idx xs i = some (xs.getD i.toNat 0) := by
  subst h; rw [idx_nat, Int.toNat_natCast, getD_of (by omega)]

theorem upd_last {pre : List (List Int)} {xs ys : List Int} : upd (pre ++ [xs]) (pre.length : Int) ys = some (pre ++ [ys]) := by
  rw [upd_nat _ (by simp)]; simp

structure PlOk (g : GEventGraph) (n : Nat) (i : Nat) : Prop where
  from' : ∃ u : Nat, (plD g i).From = (u : Int) ∧ u < n
  to' : ∃ v : Nat, (plD g i).To = (v : Int) ∧ v < n
  tok : ∃ w : Nat, (plD g i).Tokens = (w : Int) ∧ w ≤ 5

theorem graphB_tok {g : GEventGraph} (h : graphB g = true) : ∀ p, p ∈ g.Places → 0 ≤ p.Tokens ∧ p.Tokens ≤ 5 ∧ 0 ≤ p.Delay ∧ p.Delay ≤ 1000 := by
  intro p hp
  unfold graphB at h
  simp only [Bool.and_eq_true, List.all_eq_true] at h
  have := h.1 p hp
  simp only [placeB, Bool.and_eq_true, inB_true] at this
  omega

theorem PlOk.of {g : GEventGraph} (h : graphB g = true) {i : Nat} (hi : i < g.Places.length) : PlOk g g.Events.toNat i := by
  have hm : plD g i ∈ g.Places := List.mem_of_getElem? (plD_of hi)
  obtain ⟨u, v, h1, h2, h3, h4⟩ := (GOk.of h).at' _ hm
  have := graphB_tok h _ hm
  exact ⟨⟨u, h1, h3⟩, ⟨v, h2, h4⟩, ⟨(plD g i).Tokens.toNat, by omega, by omega⟩⟩


theorem foldl_range {S : Type} {f : S → Nat → S} {o : List Nat} {s : S} {k : Nat} (hk : k < o.length) : (o.take (k + 1)).foldl f s = f ((o.take k).foldl f s) (o.getD k 0) := by
  have : o[k]? = some (o.getD k 0) := by rw [List.getD_eq_getElem?_getD, List.getElem?_eq_getElem hk]; rfl
  rw [List.take_add_one, this, List.foldl_append]; rfl

def zeros (g : GEventGraph) : List Int := List.replicate g.Events.toNat 0

theorem init_len {g : GEventGraph} {ds : List Int} (hd : ds.length = g.Events.toNat) (k : Nat) : (if k = 0 then ds else zeros g).length = g.Events.toNat := by
  by_cases h : k = 0
  · rw [if_pos h]; exact hd
  · rw [if_neg h]; unfold zeros; simp

/-! ### The table of the firing times -/
def tstep (g : GEventGraph) (pre : List (List Int)) (e : Nat) (xs : List Int) (i : Nat) : List Int :=
  bif (plD g i).To == (e : Int) && decide ((plD g i).Tokens ≤ (pre.length : Int)) then xs.set e (max (xs.getD e 0) (IntKind.i64.wrap (((pre ++ [xs]).getD (pre.length - (plD g i).Tokens.toNat) []).getD (plD g i).From.toNat 0 + (plD g i).Delay))) else xs

def tevent (g : GEventGraph) (pre : List (List Int)) (xs : List Int) (e : Nat) : List Int := (List.range g.Places.length).foldl (tstep g pre e) xs

theorem tstep_len (g : GEventGraph) (pre : List (List Int)) (e : Nat) (xs : List Int) (i : Nat) : (tstep g pre e xs i).length = xs.length := by
  unfold tstep
  cases ((plD g i).To == (e : Int) && decide ((plD g i).Tokens ≤ (pre.length : Int))) <;> simp

theorem tevent_len (g : GEventGraph) (pre : List (List Int)) (xs : List Int) (e : Nat) : (tevent g pre xs e).length = xs.length := foldl_len (tstep_len g pre e) _ _

theorem last_at {pre : List (List Int)} {xs : List Int} : (pre ++ [xs])[pre.length]? = some xs := by simp

def tround (g : GEventGraph) (o : List Nat) (pre : List (List Int)) (xs : List Int) : List Int := o.foldl (tevent g pre) xs

theorem tround_len (g : GEventGraph) (o : List Nat) (pre : List (List Int)) (xs : List Int) : (tround g o pre xs).length = xs.length := foldl_len (tevent_len g pre) _ _

def ttab (g : GEventGraph) (o : List Nat) (xs : List Int) : Nat → List (List Int)
  | 0 => []
  | k + 1 => ttab g o xs k ++ [tround g o (ttab g o xs k) xs]

theorem ttab_len (g : GEventGraph) (o : List Nat) (xs : List Int) : ∀ k, (ttab g o xs k).length = k
  | 0 => rfl
  | k + 1 => by unfold ttab; rw [List.length_append, ttab_len g o xs k]; rfl

theorem ttab_rows {g : GEventGraph} {o : List Nat} {xs : List Int} (hd : xs.length = g.Events.toNat) : ∀ k r, r ∈ ttab g o xs k → r.length = g.Events.toNat
  | 0, r, h => by cases h
  | k + 1, r, h => by
    unfold ttab at h
    rcases List.mem_append.1 h with h | h
    · exact ttab_rows hd k r h
    · simp only [List.mem_singleton] at h
      rw [h, tround_len]; exact hd

def rowB (g : GEventGraph) (xs : List Int) : Bool := ((xs.length : Int) == g.Events) && xs.all fun x => inB x 0 1000000

def dueB (g : GEventGraph) (due : List (List Int)) : Bool := due.all (rowB g) && decide ((due.length : Int) ≤ 50)

theorem implDue_is {F : Nat} {g : GEventGraph} {due : List (List Int)} (hF : 134217728 ≤ F) (hl : due.length ≤ 1048576) (hr : ∀ row, row ∈ due → row.length ≤ 1048576) : impl_isTimeTable F g due = some (dueB g due) := by
  have hc : slices_ContainsFunc_sint64 F due (fun x0 => impl_isTimeTable_c1 F x0 g) = some (due.any fun r => !rowB g r) := by
    refine slices_ContainsFunc_sint64_is hF (by omega) (fun r hm => ?_)
    simp only [impl_isTimeTable_c1, implAllWithin_is hF (hr r hm), Option.bind_some, bne, rowB]
    cases ((r.length : Int) == g.Events) <;> cases (r.all fun x => inB x 0 1000000) <;> rfl
  unfold impl_isTimeTable dueB
  rw [hc, any_not]
  simp only [Option.bind_some]
  cases decide ((due.length : Int) ≤ 50) <;> cases due.all (rowB g) <;> rfl

theorem specDue_is {F : Nat} {g : GEventGraph} {due : List (List Int)} (hF : 134217728 ≤ F) (hg : graphB g = true) (hl : due.length ≤ 1048576) (hr : ∀ row, row ∈ due → row.length ≤ 1048576) : spec_l22Due F g due = some (dueB g due) := by
  have h10 := (graphB_true hg).2.1
  unfold spec_l22Due
  rw [all_loop (ps := due) (g := rowB g) (r := false) (L := spec_l22Due_L1 F g due) ?_ ?_ (by omega)]
  · unfold dueB; cases due.all (rowB g) <;> rfl
  · intro n k row hk hrow
    simp only [spec_l22Due_L1, bdT (show (k : Int) < (due.length : Int) by omega), idx_nat, hrow, Option.bind_some, specWithin_is hF (hr row (List.mem_of_getElem? hrow)), wrN (show k ≤ 67108864 by omega), bne, rowB]
    cases he : ((row.length : Int) == g.Events) with
    | false => rfl
    | true =>
      rw [beq_iff_eq] at he
      rw [decide_eq_true (show (row.length : Int) ≤ 10 by omega)]
      cases (row.all fun x => inB x 0 1000000) <;> rfl
  · intro n
    simp only [spec_l22Due_L1, bdF (show ¬ (due.length : Int) < (due.length : Int) by omega)]

theorem specDueTot {F : Nat} {g : GEventGraph} {due : List (List Int)} (hF : 134217728 ≤ F) (hl : due.length ≤ 1048576) (hr : ∀ row, row ∈ due → row.length ≤ 1048576) : ∃ b, spec_l22Due F g due = some b := by
  unfold spec_l22Due
  rw [all_loop (ps := due) (g := fun r => ((r.length : Int) == g.Events) && ((r.all fun x => inB x 0 1000000) && decide ((r.length : Int) ≤ 10))) (r := false) (L := spec_l22Due_L1 F g due) ?_ ?_ (by omega)]
  · cases (due.all fun r => ((r.length : Int) == g.Events) && ((r.all fun x => inB x 0 1000000) && decide ((r.length : Int) ≤ 10))) <;> exact ⟨_, rfl⟩
  · intro n k row hk hrow
    simp only [spec_l22Due_L1, bdT (show (k : Int) < (due.length : Int) by omega), idx_nat, hrow, Option.bind_some, specWithin_is hF (hr row (List.mem_of_getElem? hrow)), wrN (show k ≤ 67108864 by omega), bne]
    cases ((row.length : Int) == g.Events) <;> cases (row.all fun x => inB x 0 1000000) <;> cases decide ((row.length : Int) ≤ 10) <;> rfl
  · intro n
    simp only [spec_l22Due_L1, bdF (show ¬ (due.length : Int) < (due.length : Int) by omega)]

def dueCode (g : GEventGraph) (due : List (List Int)) : Int := bif !graphB g then 1 else bif !dueB g due then 2 else bif !liveB g g.Events.toNat then 5 else 0

theorem specDueCode_is {F : Nat} {g : GEventGraph} {due : List (List Int)} (hF : 134217728 ≤ F) (hP : g.Places.length ≤ 1048576) (hl : due.length ≤ 1048576) (hr : ∀ row, row ∈ due → row.length ≤ 1048576) : ((spec_l22Due F g due).bind fun r => spec_l13Code F g r) = some (dueCode g due) := by
  unfold spec_l13Code spec_l12Live dueCode
  rw [specGraph_is hF hP]
  cases hg : graphB g with
  | false =>
    obtain ⟨b, hb⟩ := specDueTot (g := g) hF hl hr
    rw [hb]; rfl
  | true =>
    obtain ⟨r, hr1, hr2⟩ := specDead_is hF (GOk.of hg)
    simp only [specDue_is hF hg hl hr, Option.bind_some, Bool.not_true, cond_false, hr1, hr2]
    cases dueB g due <;> cases liveB g g.Events.toNat <;> rfl

theorem implDueCode_is {F : Nat} {g : GEventGraph} {due : List (List Int)} (hF : 134217728 ≤ F) (hP : g.Places.length ≤ 1048576) (hl : due.length ≤ 1048576) (hr : ∀ row, row ∈ due → row.length ≤ 1048576) : impl_checkDue F g due = some (dueCode g due) := by
  unfold impl_checkDue dueCode
  rw [bind_of (implGraph_is hF hP)]
  cases hg : graphB g with
  | false => rfl
  | true =>
    simp only [Bool.not_true, cond_false, implDue_is hF hl hr, Option.bind_some, implLive_is hF (GOk.of hg)]
    cases dueB g due <;> cases liveB g g.Events.toNat <;> rfl

theorem dueCode_zero {g : GEventGraph} {due : List (List Int)} (h : dueCode g due = 0) : graphB g = true ∧ dueB g due = true ∧ ∃ o, fire (eP g.Places) g.Events.toNat g.Events.toNat [] = some o := by
  unfold dueCode at h
  have : graphB g = true ∧ dueB g due = true ∧ liveB g g.Events.toNat = true := by
    revert h
    cases graphB g <;> cases dueB g due <;> cases liveB g g.Events.toNat <;> simp
  refine ⟨this.1, this.2.1, ?_⟩
  have h3 := this.2.2
  unfold liveB at h3
  exact Option.isSome_iff_exists.1 h3

theorem dueB_true {g : GEventGraph} {due : List (List Int)} (hg : graphB g = true) (h : dueB g due = true) : due.length ≤ 50 ∧ ∀ r, r ∈ due → r.length = g.Events.toNat ∧ ∀ x, x ∈ r → 0 ≤ x ∧ x ≤ 1000000 := by
  have h1 := (graphB_true hg).1
  unfold dueB rowB at h
  simp only [Bool.and_eq_true, List.all_eq_true, beq_iff_eq, decide_eq_true_eq, inB_true] at h
  refine ⟨by omega, fun r hr => ?_⟩
  have := h.1 r hr
  exact ⟨by omega, this.2⟩

/-! ### The table of the latest times -/
def lstep (g : GEventGraph) (n k e : Nat) (ms : List (List Int)) (i : Nat) : List (List Int) :=
  bif (plD g i).From == (e : Int) && decide ((k : Int) + (plD g i).Tokens < (n : Int)) then ms.set k ((ms.getD k []).set e (min ((ms.getD k []).getD e 0) (IntKind.i64.wrap ((ms.getD (k + (plD g i).Tokens.toNat) []).getD (plD g i).To.toNat 0 - (plD g i).Delay)))) else ms

def levent (g : GEventGraph) (n k : Nat) (ms : List (List Int)) (e : Nat) : List (List Int) := (List.range g.Places.length).foldl (lstep g n k e) ms

def lround (g : GEventGraph) (n : Nat) (o : List Nat) (ms : List (List Int)) (k : Nat) : List (List Int) := o.reverse.foldl (levent g n k) ms

def ltab (g : GEventGraph) (n : Nat) (o : List Nat) (ms : List (List Int)) : List (List Int) := (List.range n).reverse.foldl (lround g n o) ms

structure LOk (g : GEventGraph) (n : Nat) (ms : List (List Int)) : Prop where
  len : ms.length = n
  rws : ∀ r, r ∈ ms → r.length = g.Events.toNat

theorem LOk.at' {g : GEventGraph} {n : Nat} {ms : List (List Int)} (h : LOk g n ms) {m : Nat} (hm : m < n) : ms[m]? = some (ms.getD m []) ∧ (ms.getD m []).length = g.Events.toNat := by
  have hl : m < ms.length := by rw [h.len]; exact hm
  have e : ms[m]? = some (ms.getD m []) := by rw [List.getD_eq_getElem?_getD, List.getElem?_eq_getElem hl]; rfl
  exact ⟨e, h.rws _ (List.mem_of_getElem? e)⟩

theorem LOk.step {g : GEventGraph} {n k e : Nat} {ms : List (List Int)} (h : LOk g n ms) (hk : k < n) (i : Nat) : LOk g n (lstep g n k e ms i) := by
  unfold lstep
  cases ((plD g i).From == (e : Int) && decide ((k : Int) + (plD g i).Tokens < (n : Int))) with
  | false => exact h
  | true =>
    refine ⟨by rw [cond_true, List.length_set]; exact h.len, fun r hr => ?_⟩
    rw [cond_true] at hr
    rcases List.mem_or_eq_of_mem_set hr with h1 | h1
    · exact h.rws r h1
    · rw [h1, List.length_set]; exact (h.at' hk).2

theorem LOk.fold {α : Type} {g : GEventGraph} {n : Nat} {f : List (List Int) → α → List (List Int)} (hf : ∀ ms a, LOk g n ms → LOk g n (f ms a)) : ∀ (l : List α) {ms : List (List Int)}, LOk g n ms → LOk g n (l.foldl f ms)
  | [], _, h => h
  | a :: l, _, h => by rw [List.foldl_cons]; exact LOk.fold hf l (hf _ a h)

theorem LOk.event {g : GEventGraph} {n k : Nat} {ms : List (List Int)} (h : LOk g n ms) (hk : k < n) (e : Nat) : LOk g n (levent g n k ms e) := LOk.fold (fun _ i h => h.step hk i) _ h

theorem LOk.round {g : GEventGraph} {n k : Nat} {o : List Nat} {ms : List (List Int)} (h : LOk g n ms) (hk : k < n) : LOk g n (lround g n o ms k) := LOk.fold (fun _ e h => h.event hk e) _ h

theorem LOk.down {g : GEventGraph} {n : Nat} {o : List Nat} : ∀ (m : Nat) {ms : List (List Int)}, m ≤ n → LOk g n ms → LOk g n ((List.range m).reverse.foldl (lround g n o) ms)
  | 0, _, _, h => h
  | m + 1, _, hm, h => by
    rw [List.range_succ, List.reverse_append]
    exact LOk.down m (by omega) (h.round (by omega))

theorem LOk.tab {g : GEventGraph} {n : Nat} {o : List Nat} {ms : List (List Int)} (h : LOk g n ms) : LOk g n (ltab g n o ms) := h.down n (Nat.le_refl _)

theorem revE_snd (xs : List Int) : (revE xs).map (·.2) = xs.reverse := by
  unfold revE
  rw [List.map_map, List.map_reverse]
  congr 1
  apply List.ext_getElem? ; intro i
  rw [List.getElem?_map]
  by_cases h : i < xs.length
  · rw [List.getElem?_range h, List.getElem?_eq_getElem h]
    show some (xs.getD i 0) = some xs[i]
    rw [List.getD_eq_getElem?_getD, List.getElem?_eq_getElem h]; rfl
  · rw [List.getElem?_eq_none (by simpa using h), List.getElem?_eq_none (by omega)]; rfl

theorem implLInner {F n k e : Nat} {g : GEventGraph} {due ms : List (List Int)} {x : Int × Int} (hF : 134217728 ≤ F) (hg : graphB g = true) (h : LOk g n ms) (hd : due.length = n) (hn : n ≤ 50) (hk : k < n) (he : e < g.Events.toNat) (hx : x.2 = (e : Int)) :
    impl_latestTimes_L17 F g due (k : Int) x F ms 0 = some (levent g n k ms e) := by
  have hlen := (GOk.of hg).len
  refine for0 (L := impl_latestTimes_L17 F g due (k : Int) x) (len := g.Places.length) (fun j s => s = (List.range j).foldl (lstep g n k e) ms) (R := fun o => o = some (levent g n k ms e)) ?_ ?_ rfl (by omega)
  · rintro m j s hj rfl
    have hO : LOk g n ((List.range j).foldl (lstep g n k e) ms) := LOk.fold (fun _ i h => h.step hk i) _ h
    have hstep : (List.range (j + 1)).foldl (lstep g n k e) ms = lstep g n k e ((List.range j).foldl (lstep g n k e) ms) j := by rw [List.range_succ, List.foldl_append]; rfl
    refine .inl ⟨_, ?_, hstep.symm⟩
    generalize (List.range j).foldl (lstep g n k e) ms = ys at hO
    obtain ⟨⟨u, hu, hun⟩, ⟨v, hv, hvn⟩, ⟨w, hw, hw5⟩⟩ := PlOk.of hg hj
    have hwr : IntKind.i64.wrap ((k : Int) + (plD g j).Tokens) = ((k + w : Nat) : Int) := by rw [hw, wr (by omega) (by omega)]; omega
    obtain ⟨ha, hb⟩ := hO.at' hk
    have hrow := getN (xs := ys.getD k []) hx he hb
    simp only [impl_latestTimes_L17, bdT (show (j : Int) < (g.Places.length : Int) by omega), idx_nat, plD_of hj, Option.bind_some, hwr, hx, hd, wrN (show j ≤ 67108864 by omega)]
    unfold lstep
    rw [hw]
    by_cases hfr : (plD g j).From = (e : Int)
    · rw [hfr, beq_self_eq_true]
      by_cases htk : k + w < n
      · obtain ⟨ha2, hb2⟩ := hO.at' htk
        have hto := getN (xs := ys.getD (k + w) []) hv hvn hb2
        have hel : e < (ys.getD k []).length := by rw [hb]; exact he
        have hkl : k < ys.length := by rw [hO.len]; exact hk
        rw [dT (show ((k + w : Nat) : Int) < (n : Int) by omega), dT (show (k : Int) + (w : Int) < (n : Int) by omega)]
        rw [hx] at hrow
        rw [idx_nat] at hrow
        simp only [cond_true, Option.bind_some, ha, hrow, ha2, hto, upd_nat _ hel, upd_nat _ hkl, Bool.and_self, Int.toNat_natCast]
      · rw [dF (show ¬ ((k + w : Nat) : Int) < (n : Int) by omega), dF (show ¬ (k : Int) + (w : Int) < (n : Int) by omega), Bool.and_false]
        rfl
    · rw [beq_false_of_ne hfr, Bool.false_and]
      rfl
  · rintro m s rfl
    simp only [impl_latestTimes_L17, bdF (show ¬ (g.Places.length : Int) < (g.Places.length : Int) by omega)]; rfl

theorem implLEvents {F n k : Nat} {g : GEventGraph} {due : List (List Int)} (hF : 134217728 ≤ F) (hg : graphB g = true) (hd : due.length = n) (hn : n ≤ 50) (hk : k < n) : ∀ (ys : List (Int × Int)) (es : List Nat) {ms : List (List Int)}, ys.map (·.2) = nl es → (∀ e, e ∈ es → e < g.Events.toNat) → LOk g n ms →
    impl_latestTimes_R16 F g due (k : Int) ys ms = some (es.foldl (levent g n k) ms)
  | [], es, ms, h, _, _ => by
    cases es with
    | nil => rfl
    | cons e es => cases h
  | x :: ys, es, ms, h, he, hO => by
    cases es with
    | nil => cases h
    | cons e es =>
      have h1 : x.2 = (e : Int) := (List.cons.inj h).1
      have h2 : ys.map (·.2) = nl es := (List.cons.inj h).2
      unfold impl_latestTimes_R16
      rw [implLInner hF hg hO hd hn hk (he e (by simp)) h1, Option.bind_some, implLEvents hF hg hd hn hk ys es h2 (fun e' h' => he e' (by simp [h'])) (hO.event hk e)]
      rfl

theorem implLRounds {F n : Nat} {g : GEventGraph} {due : List (List Int)} {o : List Nat} {b : Bool} (hF : 134217728 ≤ F) (hg : graphB g = true) (hd : due.length = n) (hn : n ≤ 50) (ho : ∀ e, e ∈ o → e < g.Events.toNat) : ∀ (m fuel : Nat) {ms : List (List Int)}, m ≤ n → m < fuel → LOk g n ms →
    impl_latestTimes_L13 F g due (nl o, b) fuel ms ((m : Int) - 1) = some ((List.range m).reverse.foldl (lround g n o) ms) := by
  intro m
  induction m with
  | zero =>
    intro fuel ms _ hf _
    obtain ⟨fuel, rfl⟩ : ∃ q, fuel = q + 1 := ⟨fuel - 1, by omega⟩
    simp only [impl_latestTimes_L13, bdF (show ¬ 0 ≤ ((0 : Nat) : Int) - 1 by omega)]; rfl
  | succ m ih =>
    intro fuel ms hm hf hO
    obtain ⟨fuel, rfl⟩ : ∃ q, fuel = q + 1 := ⟨fuel - 1, by omega⟩
    have e1 : ((m + 1 : Nat) : Int) - 1 = (m : Int) := by omega
    have hR : impl_latestTimes_R16 F g due (m : Int) (revE (nl o)) ms = some (lround g n o ms m) := implLEvents (k := m) hF hg hd hn (by omega) (revE (nl o)) o.reverse (ms := ms) (by rw [revE_snd]; unfold nl; rw [List.map_reverse]) (fun e he => ho e (by simpa using he)) hO
    rw [e1]
    simp only [impl_latestTimes_L13, bdT (show 0 ≤ (m : Int) by omega), hR, Option.bind_some]
    rw [wr (show -9223372036854775808 ≤ (m : Int) - 1 by omega) (by omega), ih fuel (by omega) (by omega) (hO.round (o := o) (show m < n by omega)), List.range_succ, List.reverse_append]
    rfl

theorem implLatest_is {F : Nat} {g : GEventGraph} {due : List (List Int)} {o : List Nat} (hF : 134217728 ≤ F) (hg : graphB g = true) (hO : LOk g due.length due) (hn : due.length ≤ 50) (ho : fire (eP g.Places) g.Events.toNat g.Events.toNat [] = some o) (hol : ∀ e, e ∈ o → e < g.Events.toNat) :
    impl_latestTimes F g due = some (ltab g due.length o due) := by
  obtain ⟨e1, e2, _⟩ := graphB_true hg
  unfold impl_latestTimes
  rw [implOrder_is hF (GOk.of hg), ho, Option.bind_some, implCloneM_is hF (by omega) (fun r hr => by rw [hO.rws r hr]; omega), Option.bind_some, wr (show -9223372036854775808 ≤ (due.length : Int) - 1 by omega) (by omega), implLRounds hF hg rfl hn hol due.length F (Nat.le_refl _) (by omega) hO]
  rfl

theorem specLInner {F n k e j : Nat} {g : GEventGraph} {due ms : List (List Int)} {o : List Nat} (hF : 134217728 ≤ F) (hg : graphB g = true) (h : LOk g n ms) (hd : due.length = n) (hn : n ≤ 50) (hk : k < n) (he : e < g.Events.toNat) (hx : o[j]? = some e) :
    spec_l22Latest_L21 F g due (nl o) ((k + 1 : Nat) : Int) (j : Int) F ms 0 = some (levent g n k ms e) := by
  have hlen := (GOk.of hg).len
  refine for0 (L := spec_l22Latest_L21 F g due (nl o) ((k + 1 : Nat) : Int) (j : Int)) (len := g.Places.length) (fun j s => s = (List.range j).foldl (lstep g n k e) ms) (R := fun o => o = some (levent g n k ms e)) ?_ ?_ rfl (by omega)
  · rintro m i s hi rfl
    have hO : LOk g n ((List.range i).foldl (lstep g n k e) ms) := LOk.fold (fun _ i h => h.step hk i) _ h
    have hstep : (List.range (i + 1)).foldl (lstep g n k e) ms = lstep g n k e ((List.range i).foldl (lstep g n k e) ms) i := by rw [List.range_succ, List.foldl_append]; rfl
    refine .inl ⟨_, ?_, hstep.symm⟩
    generalize (List.range i).foldl (lstep g n k e) ms = ys at hO
    obtain ⟨⟨u, hu, hun⟩, ⟨v, hv, hvn⟩, ⟨w, hw, hw5⟩⟩ := PlOk.of hg hi
    have hwr : IntKind.i64.wrap (((k + 1 : Nat) : Int) + (plD g i).Tokens) = ((k + 1 + w : Nat) : Int) := by rw [hw, wr (by omega) (by omega)]; omega
    have hwk : IntKind.i64.wrap (((k + 1 : Nat) : Int) - 1) = (k : Int) := by rw [wr (by omega) (by omega)]; omega
    have hwk2 : IntKind.i64.wrap (((k + 1 + w : Nat) : Int) - 1) = ((k + w : Nat) : Int) := by rw [wr (by omega) (by omega)]; omega
    obtain ⟨ha, hb⟩ := hO.at' hk
    simp only [spec_l22Latest_L21, bdT (show (i : Int) < (g.Places.length : Int) by omega), idx_nat, plD_of hi, Option.bind_some, nl_at, hx, Option.map_some, hwr, hd, wrN (show i ≤ 67108864 by omega)]
    unfold lstep
    rw [hw]
    by_cases hfr : (plD g i).From = (e : Int)
    · have hrow := getN (xs := ys.getD k []) hfr he hb
      rw [show (plD g i).From.toNat = e by rw [hfr]; rfl] at hrow
      have hupd : ∀ y, upd (ys.getD k []) (plD g i).From y = some ((ys.getD k []).set e y) := fun y => by rw [hfr, upd_nat _ (by omega)]
      rw [show ((plD g i).From == (e : Int)) = true by rw [hfr, beq_self_eq_true]]
      by_cases htk : k + w < n
      · obtain ⟨ha2, hb2⟩ := hO.at' htk
        have hto := getN (xs := ys.getD (k + w) []) hv hvn hb2
        have hkl : k < ys.length := by rw [hO.len]; exact hk
        rw [dT (show ((k + 1 + w : Nat) : Int) ≤ (n : Int) by omega), dT (show (k : Int) + (w : Int) < (n : Int) by omega)]
        simp only [cond_true, Option.bind_some, hwk, hwk2, idx_nat, ha, hrow, ha2, hto, hupd, upd_nat _ hkl, Bool.and_self, Int.toNat_natCast]
      · rw [dF (show ¬ ((k + 1 + w : Nat) : Int) ≤ (n : Int) by omega), dF (show ¬ (k : Int) + (w : Int) < (n : Int) by omega), Bool.and_false]
        rfl
    · rw [beq_false_of_ne hfr, Bool.false_and]
      rfl
  · rintro m s rfl
    simp only [spec_l22Latest_L21, bdF (show ¬ (g.Places.length : Int) < (g.Places.length : Int) by omega)]; rfl

theorem specLEvents {F n k : Nat} {g : GEventGraph} {due : List (List Int)} {o : List Nat} (hF : 134217728 ≤ F) (hg : graphB g = true) (hd : due.length = n) (hn : n ≤ 50) (hk : k < n) (ho : ∀ e, e ∈ o → e < g.Events.toNat) (hol : o.length ≤ 1000) : ∀ (m fuel : Nat) {ms : List (List Int)}, m ≤ o.length → m < fuel → LOk g n ms →
    spec_l22Latest_L20 F g due (nl o) ((k + 1 : Nat) : Int) fuel ms ((m : Int) - 1) = some ((o.take m).reverse.foldl (levent g n k) ms) := by
  intro m
  induction m with
  | zero =>
    intro fuel ms _ hf _
    obtain ⟨fuel, rfl⟩ : ∃ q, fuel = q + 1 := ⟨fuel - 1, by omega⟩
    simp only [spec_l22Latest_L20, bdF (show ¬ 0 ≤ ((0 : Nat) : Int) - 1 by omega)]; rfl
  | succ m ih =>
    intro fuel ms hm hf hO
    obtain ⟨fuel, rfl⟩ : ∃ q, fuel = q + 1 := ⟨fuel - 1, by omega⟩
    have e1 : ((m + 1 : Nat) : Int) - 1 = (m : Int) := by omega
    have hx : o[m]? = some o[m] := List.getElem?_eq_getElem (by omega)
    have he := ho _ (List.getElem_mem (show m < o.length by omega))
    rw [e1]
    simp only [spec_l22Latest_L20, bdT (show 0 ≤ (m : Int) by omega), specLInner hF hg hO hd hn hk he hx, Option.bind_some]
    rw [wr (show -9223372036854775808 ≤ (m : Int) - 1 by omega) (by omega), ih fuel (by omega) (by omega) (hO.event hk _), List.take_add_one, hx, Option.toList_some, List.reverse_append]
    rfl

theorem specLRounds {F n : Nat} {g : GEventGraph} {due : List (List Int)} {o : List Nat} (hF : 134217728 ≤ F) (hg : graphB g = true) (hd : due.length = n) (hn : n ≤ 50) (ho : ∀ e, e ∈ o → e < g.Events.toNat) (hol : o.length ≤ 1000) : ∀ (m fuel : Nat) {ms : List (List Int)}, m ≤ n → m < fuel → LOk g n ms →
    spec_l22Latest_L16 F g due (nl o) fuel ms (m : Int) = some ((List.range m).reverse.foldl (lround g n o) ms) := by
  intro m
  induction m with
  | zero =>
    intro fuel ms _ hf _
    obtain ⟨fuel, rfl⟩ : ∃ q, fuel = q + 1 := ⟨fuel - 1, by omega⟩
    simp only [spec_l22Latest_L16, bdF (show ¬ 1 ≤ ((0 : Nat) : Int) by omega)]; rfl
  | succ m ih =>
    intro fuel ms hm hf hO
    obtain ⟨fuel, rfl⟩ : ∃ q, fuel = q + 1 := ⟨fuel - 1, by omega⟩
    have hR := specLEvents (k := m) hF hg hd hn (by omega) ho hol o.length F (ms := ms) (Nat.le_refl _) (by omega) hO
    rw [List.take_length] at hR
    have hR : spec_l22Latest_L20 F g due (nl o) ((m + 1 : Nat) : Int) F ms ((o.length : Int) - 1) = some (lround g n o ms m) := hR
    simp only [spec_l22Latest_L16, bdT (show 1 ≤ ((m + 1 : Nat) : Int) by omega), nl_len]
    rw [wr (show -9223372036854775808 ≤ (o.length : Int) - 1 by omega) (by omega), hR, Option.bind_some, wr (show -9223372036854775808 ≤ ((m + 1 : Nat) : Int) - 1 by omega) (by omega), show ((m + 1 : Nat) : Int) - 1 = (m : Int) by omega, ih fuel (by omega) (by omega) (hO.round (o := o) (show m < n by omega)), List.range_succ, List.reverse_append]
    rfl

theorem specLatest_is {F : Nat} {g : GEventGraph} {due : List (List Int)} {o : List Nat} (hF : 134217728 ≤ F) (hg : graphB g = true) (hO : LOk g due.length due) (hn : due.length ≤ 50) (ho : fire (eP g.Places) g.Events.toNat g.Events.toNat [] = some o) (hol : ∀ e, e ∈ o → e < g.Events.toNat) (hl : o.length ≤ 1000) :
    spec_l22Latest F g due = some (ltab g due.length o due) := by
  obtain ⟨e1, e2, _⟩ := graphB_true hg
  unfold spec_l22Latest
  rw [specOrder_is hF (GOk.of hg) ho, Option.bind_some, specOwnM_is hF (by omega) (fun r hr => by rw [hO.rws r hr]; omega), Option.bind_some, specLRounds hF hg rfl hn hol hl due.length F (Nat.le_refl _) (by omega) hO]
  rfl

/-! ### Floats -/
def fstep (T : List (List Int)) (k : Nat) (ms : List (List Int)) (j : Nat) : List (List Int) := ms.set k ((ms.getD k []).set j (IntKind.i64.wrap ((ms.getD k []).getD j 0 - (T.getD k []).getD j 0)))

def frow (T : List (List Int)) (e : Nat) (ms : List (List Int)) (k : Nat) : List (List Int) := (List.range e).foldl (fstep T k) ms

def ftab (T : List (List Int)) (e n : Nat) (ms : List (List Int)) : List (List Int) := (List.range n).foldl (frow T e) ms

theorem LOk.fstep {g : GEventGraph} {n k : Nat} {T ms : List (List Int)} (h : LOk g n ms) (hk : k < n) (j : Nat) : LOk g n (fstep T k ms j) := by
  refine ⟨by unfold Go.Proofs.Ytpmebacdmilecaa.fstep; rw [List.length_set]; exact h.len, fun r hr => ?_⟩
  unfold Go.Proofs.Ytpmebacdmilecaa.fstep at hr
  rcases List.mem_or_eq_of_mem_set hr with h1 | h1
  · exact h.rws r h1
  · rw [h1, List.length_set]; exact (h.at' hk).2

theorem LOk.frow {g : GEventGraph} {n k e : Nat} {T ms : List (List Int)} (h : LOk g n ms) (hk : k < n) : LOk g n (frow T e ms k) := LOk.fold (fun _ j h => h.fstep hk j) _ h

theorem LOk.foldk {g : GEventGraph} {n e : Nat} {T : List (List Int)} : ∀ (m : Nat) {ms : List (List Int)}, m ≤ n → LOk g n ms → LOk g n ((List.range m).foldl (Go.Proofs.Ytpmebacdmilecaa.frow T e) ms)
  | 0, _, _, h => h
  | m + 1, _, hm, h => by
    rw [List.range_succ, List.foldl_append]
    exact (LOk.foldk m (by omega) h).frow (by omega)

theorem LOk.ftab {g : GEventGraph} {n e : Nat} {T ms : List (List Int)} (h : LOk g n ms) : LOk g n (ftab T e n ms) := h.foldk n (Nat.le_refl _)

theorem rowOf {T : List (List Int)} {k : Nat} (h : k < T.length) : T[k]? = some (T.getD k []) := by
  rw [List.getD_eq_getElem?_getD, List.getElem?_eq_getElem h]; rfl

/-! ### Firings picked out of a table -/
/-- the firings of one round, of all rounds -/
def pickRow (p : Nat → Nat → Bool) (k n : Nat) : List (List Int) := (List.range n).flatMap fun e => bif p k e then [[((k + 1 : Nat) : Int), (e : Int)]] else []

def pickAll (p : Nat → Nat → Bool) (n : Nat) (m : Nat) : List (List Int) := (List.range m).flatMap fun k => pickRow p k n

theorem pickRow_len (p : Nat → Nat → Bool) (k : Nat) : ∀ n, (pickRow p k n).length ≤ n
  | 0 => by simp [pickRow]
  | n + 1 => by
    have := pickRow_len p k n
    have e : pickRow p k (n + 1) = pickRow p k n ++ bif p k n then [[((k + 1 : Nat) : Int), (n : Int)]] else [] := by
      unfold pickRow; rw [List.range_succ, List.flatMap_append]; simp
    rw [e]
    cases p k n <;> simp <;> omega

theorem pickAll_len (p : Nat → Nat → Bool) (n : Nat) : ∀ m, (pickAll p n m).length ≤ m * n
  | 0 => by simp [pickAll]
  | m + 1 => by
    have := pickAll_len p n m
    have h2 := pickRow_len p m n
    have e : pickAll p n (m + 1) = pickAll p n m ++ pickRow p m n := by
      unfold pickAll; rw [List.range_succ, List.flatMap_append]; simp
    rw [e, List.length_append, Nat.succ_mul]; omega

theorem pickAll_rows (p : Nat → Nat → Bool) (n m : Nat) : ∀ r, r ∈ pickAll p n m → r.length = 2 := by
  intro r hr
  unfold pickAll pickRow at hr
  rw [List.mem_flatMap] at hr
  obtain ⟨k, _, hr⟩ := hr
  rw [List.mem_flatMap] at hr
  obtain ⟨e, _, hr⟩ := hr
  cases h : p k e with
  | false => rw [h] at hr; cases hr
  | true => rw [h] at hr; simp only [cond_true, List.mem_singleton] at hr; rw [hr]; rfl

/-- a loop over a round that appends -/
theorem row_loop {p : Nat → Nat → Bool} {k n : Nat} {acc : List (List Int)} {L : Nat → List (List Int) → Int → Option (List (List Int))} (ha : acc.length ≤ 1000) (hn : n ≤ 10)
    (hL : ∀ m ms e, e < n → ms.length ≤ 2000 → L (m + 1) ms (e : Int) = L m (ms ++ bif p k e then [[((k + 1 : Nat) : Int), (e : Int)]] else []) ((e + 1 : Nat) : Int))
    (hE : ∀ m ms, L (m + 1) ms (n : Int) = some ms) {F : Nat} (hF : 134217728 ≤ F) : L F acc 0 = some (acc ++ pickRow p k n) := by
  refine for0 (L := L) (len := n) (fun j s => s = acc ++ pickRow p k j) (R := fun q => q = some (acc ++ pickRow p k n)) ?_ ?_ (by unfold pickRow; simp) (by omega)
  · rintro m j s hj rfl
    have hl := pickRow_len p k j
    refine .inl ⟨_, hL m _ j hj (by rw [List.length_append]; omega), ?_⟩
    have e : pickRow p k (j + 1) = pickRow p k j ++ bif p k j then [[((k + 1 : Nat) : Int), (j : Int)]] else [] := by
      unfold pickRow; rw [List.range_succ, List.flatMap_append]; simp
    rw [e, List.append_assoc]
  · rintro m s rfl
    exact hE m _

theorem all_rounds {p : Nat → Nat → Bool} {n len : Nat} {L : Nat → List (List Int) → Int → Option (List (List Int))} (hn : n ≤ 10) (hlen : len ≤ 50)
    (hL : ∀ m k ms, k < len → ms.length ≤ 1000 → L (m + 1) ms (k : Int) = L m (ms ++ pickRow p k n) ((k + 1 : Nat) : Int))
    (hE : ∀ m ms, L (m + 1) ms (len : Int) = some ms) {F : Nat} (hF : 134217728 ≤ F) : L F [] 0 = some (pickAll p n len) := by
  refine for0 (L := L) (len := len) (fun j s => s = pickAll p n j) (R := fun q => q = some (pickAll p n len)) ?_ ?_ (by unfold pickAll; simp) (by omega)
  · rintro m j s hj rfl
    have hl := pickAll_len p n j
    have h2 := Nat.mul_le_mul (show j ≤ 50 by omega) hn
    refine .inl ⟨_, hL m j _ hj (by omega), ?_⟩
    unfold pickAll; rw [List.range_succ, List.flatMap_append]; simp
  · rintro m s rfl
    exact hE m _

theorem off_rows {rows : List (List Int)} {n : Nat} (h : ∀ r, r ∈ rows → r.length = n) : ∀ k, k ≤ rows.length → offR rows k = k * n := by
  intro k
  induction k with
  | zero => intro _; rw [offR_zero]; omega
  | succ k ih =>
    intro hk
    have hr : rows[k]? = some rows[k] := List.getElem?_eq_getElem (by omega)
    rw [offR_succ hr, ih (by omega), h _ (List.mem_of_getElem? hr), Nat.succ_mul]

theorem rowD {T : List (List Int)} {k : Nat} (h : k < T.length) : T[k]? = some (T.getD k []) := by
  rw [List.getD_eq_getElem?_getD, List.getElem?_eq_getElem h]; rfl

def lateP (T due : List (List Int)) (k e : Nat) : Bool := decide ((due.getD k []).getD e 0 < (T.getD k []).getD e 0)

/-! ### Delays lie in their range -/
theorem wr_range (n : Int) : -9223372036854775808 ≤ IntKind.i64.wrap n ∧ IntKind.i64.wrap n ≤ 9223372036854775807 := by
  simp [IntKind.wrap, IntKind.bits, IntKind.signed]; omega

def allIn (xs : List Int) : Prop := ∀ i, 0 ≤ xs.getD i 0 ∧ xs.getD i 0 ≤ 1000000

theorem allIn_mem {xs : List Int} (h : allIn xs) : ∀ x, x ∈ xs → 0 ≤ x ∧ x ≤ 1000000 := by
  intro x hx
  obtain ⟨i, hi, rfl⟩ := List.getElem_of_mem hx
  have := h i
  rw [List.getD_eq_getElem?_getD, List.getElem?_eq_getElem hi] at this
  exact this

theorem allIn_of {xs : List Int} (h : ∀ x, x ∈ xs → 0 ≤ x ∧ x ≤ 1000000) : allIn xs := by
  intro i
  by_cases hi : i < xs.length
  · rw [List.getD_eq_getElem?_getD, List.getElem?_eq_getElem hi]; exact h _ (List.getElem_mem hi)
  · rw [List.getD_eq_getElem?_getD, List.getElem?_eq_none (by omega)]; simp

theorem set_getD {xs : List Int} {e i : Nat} {y : Int} : (xs.set e y).getD i 0 = if i = e ∧ i < xs.length then y else xs.getD i 0 := by
  rw [List.getD_eq_getElem?_getD, List.getD_eq_getElem?_getD]
  by_cases h : i = e
  · subst h
    by_cases hl : i < xs.length
    · rw [set_here hl, if_pos ⟨rfl, hl⟩]; rfl
    · rw [if_neg (fun hc => hl hc.2), List.getElem?_eq_none (by simp; omega), List.getElem?_eq_none (by omega)]
  · rw [set_keep h, if_neg (fun hc => h hc.1)]

theorem foldl_in {α : Type} {f : List Int → α → List Int} (l : List α) (hf : ∀ xs a, a ∈ l → allIn xs → allIn (f xs a)) : ∀ xs, allIn xs → allIn (l.foldl f xs) := by
  induction l with
  | nil => intro xs h; exact h
  | cons a l ih => intro xs h; exact ih (fun xs b hb => hf xs b (by simp [hb])) _ (hf xs a (by simp) h)

theorem rowsD {T : List (List Int)} {k : Nat} (h : k < T.length) : T[k]? = some (T.getD k []) := by
  rw [List.getD_eq_getElem?_getD, List.getElem?_eq_getElem h]; rfl

theorem liveB_some {g : GEventGraph} (h : liveB g g.Events.toNat = true) : ∃ o, fire (eP g.Places) g.Events.toNat g.Events.toNat [] = some o := by
  unfold liveB at h
  exact Option.isSome_iff_exists.1 h

theorem startsB_len {g : GEventGraph} {xs : List Int} (h : startsB g xs = true) : xs.length = g.Events.toNat ∧ allIn xs := by
  unfold startsB at h
  simp only [Bool.and_eq_true, beq_iff_eq, List.all_eq_true, inB_true] at h
  exact ⟨by omega, allIn_of h.2⟩

/-! ### When delays are settled -/
def zB (xs : List Int) : Bool := xs.all fun x => inB x 0 0

theorem sum_pos {xs : List Int} (h : ∀ x, x ∈ xs → 0 ≤ x ∧ x ≤ 1000000) : 0 ≤ xs.sum ∧ xs.sum ≤ 1000000 * (xs.length : Int) ∧ decide (0 < xs.sum) = !zB xs := by
  induction xs with
  | nil => exact ⟨by simp, by simp, rfl⟩
  | cons x xs ih =>
    obtain ⟨h1, h2, h3⟩ := ih (fun y hy => h y (by simp [hy]))
    have hx := h x (by simp)
    rw [List.sum_cons]
    refine ⟨by omega, by simp only [List.length_cons]; omega, ?_⟩
    have e : zB (x :: xs) = (inB x 0 0 && zB xs) := rfl
    rw [e]
    by_cases h0 : x = 0
    · subst h0
      rw [show inB 0 0 0 = true from rfl, Bool.true_and, ← h3]; simp
    · rw [inB_false (show ¬ ((0 : Int) ≤ x ∧ x ≤ 0) by omega), Bool.false_and]
      exact decide_eq_true (by omega)

/-- behind the last row that is not zero -/
def lsz (T : List (List Int)) : Nat → Nat
  | 0 => 0
  | k + 1 => if zB (T.getD k []) = true then lsz T k else k + 1

theorem lsz_le (T : List (List Int)) : ∀ k, lsz T k ≤ k
  | 0 => Nat.le_refl _
  | k + 1 => by
    unfold lsz
    split
    · have := lsz_le T k; omega
    · exact Nat.le_refl _

/-! ### The greatest delays -/
def wmax (xs q : List Int) : List Int := (List.range xs.length).map fun i => max (xs.getD i 0) (q.getD i 0)

theorem wmax_len (xs q : List Int) : (wmax xs q).length = xs.length := by unfold wmax; simp

theorem wmax_of {r a b : List Int} (hl : r.length = a.length) (h : ∀ q, q < a.length → r[q]? = some (max (a.getD q 0) (b.getD q 0))) : r = wmax a b := by
  apply List.ext_getElem?; intro q
  by_cases hq : q < a.length
  · rw [h q hq]; unfold wmax; rw [List.getElem?_map, List.getElem?_range hq]; rfl
  · rw [List.getElem?_eq_none (by omega), List.getElem?_eq_none (by rw [wmax_len]; omega)]

theorem wfold_len (T : List (List Int)) (xs : List Int) : (T.foldl wmax xs).length = xs.length := foldl_len wmax_len T xs

theorem foldl_takeR {S : Type} {f : S → List Int → S} {T : List (List Int)} {s : S} {k : Nat} (hk : k < T.length) : (T.take (k + 1)).foldl f s = f ((T.take k).foldl f s) (T.getD k []) := by
  have : T[k]? = some (T.getD k []) := by rw [List.getD_eq_getElem?_getD, List.getElem?_eq_getElem hk]; rfl
  rw [List.take_add_one, this, List.foldl_append]; rfl

end Go.Proofs.Ytpmebacdmilecaa
