/- Plain lemmas about the small functions of the laws. -/
import Derived.Test.YthbcakdjdbfepaaLateFiringsModels
import Derived.Test.YthbcakdjdbfepaaCyc
namespace Go.Proofs.Ythbcakdjdbfepaa

def toP_Int64 (p : Int) : Int := p
theorem szInt64S_is {F : Nat} {ps : List Int} {left : Int} (h0 : 0 ≤ left) (h1 : left ≤ 1048576) (h : ps.length ≤ 9223372036854775807) : ∃ r, laws_szInt64S F ps left = some r ∧ (r < 0 ∨ (0 ≤ r ∧ r + ps.length = left)) := by
  unfold laws_szInt64S
  rw [wr (by omega) (by omega)]
  by_cases hc : left - (ps.length : Int) < 0
  · exact ⟨-1, by rw [bdT hc], .inl (by decide)⟩
  · exact ⟨left - ps.length, by rw [bdF hc], .inr ⟨by omega, by omega⟩⟩
theorem toInt64S_is {F : Nat} {ps : List Int} (hF : 134217728 ≤ F) (h : ps.length ≤ 1048576) : laws_toInt64S F ps = some (ps.map toP_Int64) := by
  unfold laws_toInt64S
  rw [mk_nat _ (by omega)]
  simp only [Option.bind_some]
  rw [fill_loop (ps := ps) (f := toP_Int64) (L := laws_toInt64S_L1 F ps) ?_ ?_ (by simp) (by omega)]; rfl
  · intro n xs k x hk hx hl
    have hk' : k < xs.length := by omega
    have hq : xs[k]? = some xs[k] := List.getElem?_eq_getElem hk'
    simp only [laws_toInt64S_L1, bdT (show (k : Int) < (ps.length : Int) by omega), idx_nat, hx, hq, Option.bind_some, upd_nat, hk', wrN (show k ≤ 67108864 by omega), toP_Int64]
  · intro n xs
    simp only [laws_toInt64S_L1, bdF (show ¬ (ps.length : Int) < (ps.length : Int) by omega)]
theorem eqInt64S_same {F : Nat} {xs : List Int} (hF : 134217728 ≤ F) (h : xs.length ≤ 16777216) : laws_eqInt64S F xs xs = some true := by
  unfold laws_eqInt64S
  rw [bF (neF rfl), same_loop (L := laws_eqInt64S_L1 F xs xs) (len := xs.length) ?_ ?_ (by omega)]; rfl
  · intro n k hk
    have hq : xs[k]? = some xs[k] := List.getElem?_eq_getElem hk
    simp only [laws_eqInt64S_L1, bdT (show (k : Int) < (xs.length : Int) by omega), idx_nat, hq, Option.bind_some, bne_self_eq_false, cond_false, wrN (show k ≤ 67108864 by omega)]
  · intro n
    simp only [laws_eqInt64S_L1, bdF (show ¬ (xs.length : Int) < (xs.length : Int) by omega)]
def mrk_Int64 (k : Int) (i : Nat) : Int := k + 1 * (i : Int)
theorem markInt64S_is {F : Nat} {ps : List Int} {k : Int} (hF : 134217728 ≤ F) (h : ps.length ≤ 16777216) (h0 : 0 ≤ k) (h1 : k ≤ 1000000000000) :
    ∃ ms, laws_markInt64S F ps k = some (k + 1 * (ps.length : Int), ms) ∧ ms.length = ps.length ∧ ∀ i, i < ps.length → ms[i]? = some (mrk_Int64 k i) := by
  have H := for0 (L := fun n (s : List Int × Int) i => laws_markInt64S_L1 F n s.1 s.2 i) (len := ps.length) (fun j s => s.1.length = ps.length ∧ s.2 = k + 1 * (j : Int) ∧ ∀ i, i < j → s.1[i]? = some (mrk_Int64 k i))
    (R := fun r => ∃ ms, r = some (ms, k + 1 * (ps.length : Int)) ∧ ms.length = ps.length ∧ ∀ i, i < ps.length → ms[i]? = some (mrk_Int64 k i)) (s := (ps, k)) (n := F) ?_ ?_ ⟨rfl, by simp, by intro i hi; omega⟩ (by omega)
  · obtain ⟨ms, he, hl, hi⟩ := H
    refine ⟨ms, ?_, hl, hi⟩
    unfold laws_markInt64S
    rw [bind_of he]
  · rintro n j ⟨xs, s⟩ hj ⟨hl, hs, hi⟩
    simp only at hl hs hi
    subst hs
    have hk' : j < xs.length := by omega
    have hq : xs[j]? = some xs[j] := List.getElem?_eq_getElem hk'
    have w1 : IntKind.i64.wrap (k + 1 * (j : Int) + 1) = k + 1 * (j : Int) + 1 := wr (by omega) (by omega)
    refine .inl ⟨(xs.set j (mrk_Int64 k j), k + 1 * (j : Int) + 1), ?_, by rw [List.length_set]; exact hl, by simp only; omega, ?_⟩
    · simp only [laws_markInt64S_L1, bdT (show (j : Int) < (xs.length : Int) by omega), idx_nat, hq, Option.bind_some, upd_nat, hk', wrN (show j ≤ 67108864 by omega), w1, mrk_Int64]
    · intro i hij
      by_cases e : i = j
      · subst e; exact set_here hk'
      · simp only; rw [set_keep e]; exact hi i (by omega)
  · rintro n ⟨xs, s⟩ ⟨hl, hs, hi⟩
    simp only at hl hs hi
    refine ⟨xs, ?_, hl, hi⟩
    simp only [laws_markInt64S_L1, bdF (show ¬ (ps.length : Int) < (xs.length : Int) by omega), hs]
theorem heldInt64S_is {F : Nat} {ms : List Int} {k : Int} (hF : 134217728 ≤ F) (h : ms.length ≤ 16777216) (h0 : 0 ≤ k) (h1 : k ≤ 1000000000000) (hm : ∀ i, i < ms.length → ms[i]? = some (mrk_Int64 k i)) :
    laws_heldInt64S F ms k = some (k + 1 * (ms.length : Int)) := by
  unfold laws_heldInt64S
  rw [show laws_heldInt64S_L1 F ms F k 0 = some (.inr (k + 1 * (ms.length : Int))) from ?_]; rfl
  refine for0 (L := fun n (s : Int) i => laws_heldInt64S_L1 F ms n s i) (len := ms.length) (fun j s => s = k + 1 * (j : Int)) (R := fun r => r = some (.inr (k + 1 * (ms.length : Int)))) ?_ ?_ (by simp) (by omega)
  · rintro n j s hj rfl
    have w1 : IntKind.i64.wrap (k + 1 * (j : Int) + 1) = k + 1 * (j : Int) + 1 := wr (by omega) (by omega)
    refine .inl ⟨k + 1 * (j : Int) + 1, ?_, by omega⟩
    simp only [laws_heldInt64S_L1, bdT (show (j : Int) < (ms.length : Int) by omega), idx_nat, hm j hj, Option.bind_some, wrN (show j ≤ 67108864 by omega), w1, mrk_Int64, bne_self_eq_false, cond_false]
  · rintro n s rfl
    simp only [laws_heldInt64S_L1, bdF (show ¬ (ms.length : Int) < (ms.length : Int) by omega)]

def toP_Place (p : LPlace) : GPlace := ⟨p.From, p.To, p.Delay, p.Tokens⟩
theorem szPlaceS_is {F : Nat} {ps : List LPlace} {left : Int} (h0 : 0 ≤ left) (h1 : left ≤ 1048576) (h : ps.length ≤ 9223372036854775807) : ∃ r, laws_szPlaceS F ps left = some r ∧ (r < 0 ∨ (0 ≤ r ∧ r + ps.length = left)) := by
  unfold laws_szPlaceS
  rw [wr (by omega) (by omega)]
  by_cases hc : left - (ps.length : Int) < 0
  · exact ⟨-1, by rw [bdT hc], .inl (by decide)⟩
  · exact ⟨left - ps.length, by rw [bdF hc], .inr ⟨by omega, by omega⟩⟩
theorem toPlaceS_is {F : Nat} {ps : List LPlace} (hF : 134217728 ≤ F) (h : ps.length ≤ 1048576) : laws_toPlaceS F ps = some (ps.map toP_Place) := by
  unfold laws_toPlaceS
  rw [mk_nat _ (by omega)]
  simp only [Option.bind_some]
  rw [fill_loop (ps := ps) (f := toP_Place) (L := laws_toPlaceS_L1 F ps) ?_ ?_ (by simp) (by omega)]; rfl
  · intro n xs k x hk hx hl
    have hk' : k < xs.length := by omega
    have hq : xs[k]? = some xs[k] := List.getElem?_eq_getElem hk'
    simp only [laws_toPlaceS_L1, bdT (show (k : Int) < (ps.length : Int) by omega), idx_nat, hx, hq, laws_toPlace, Option.bind_some, upd_nat, hk', wrN (show k ≤ 67108864 by omega), toP_Place]
  · intro n xs
    simp only [laws_toPlaceS_L1, bdF (show ¬ (ps.length : Int) < (ps.length : Int) by omega)]
theorem eqPlace_same {F : Nat} (x : GPlace) : laws_eqPlace F x x = some true := by
  simp only [laws_eqPlace, bne_self_eq_false, cond_false]
theorem eqPlaceS_same {F : Nat} {xs : List GPlace} (hF : 134217728 ≤ F) (h : xs.length ≤ 16777216) : laws_eqPlaceS F xs xs = some true := by
  unfold laws_eqPlaceS
  rw [bF (neF rfl), same_loop (L := laws_eqPlaceS_L1 F xs xs) (len := xs.length) ?_ ?_ (by omega)]; rfl
  · intro n k hk
    have hq : xs[k]? = some xs[k] := List.getElem?_eq_getElem hk
    simp only [laws_eqPlaceS_L1, bdT (show (k : Int) < (xs.length : Int) by omega), idx_nat, hq, Option.bind_some, eqPlace_same, Bool.not_true, cond_false, wrN (show k ≤ 67108864 by omega)]
  · intro n
    simp only [laws_eqPlaceS_L1, bdF (show ¬ (xs.length : Int) < (xs.length : Int) by omega)]
def mrk_Place (k : Int) (i : Nat) : GPlace := ⟨k + 4 * (i : Int), k + 4 * (i : Int) + 1, k + 4 * (i : Int) + 1 + 1, k + 4 * (i : Int) + 1 + 1 + 1⟩
theorem markPlaceS_is {F : Nat} {ps : List GPlace} {k : Int} (hF : 134217728 ≤ F) (h : ps.length ≤ 16777216) (h0 : 0 ≤ k) (h1 : k ≤ 1000000000000) :
    ∃ ms, laws_markPlaceS F ps k = some (k + 4 * (ps.length : Int), ms) ∧ ms.length = ps.length ∧ ∀ i, i < ps.length → ms[i]? = some (mrk_Place k i) := by
  have H := for0 (L := fun n (s : List GPlace × Int) i => laws_markPlaceS_L1 F n s.1 s.2 i) (len := ps.length) (fun j s => s.1.length = ps.length ∧ s.2 = k + 4 * (j : Int) ∧ ∀ i, i < j → s.1[i]? = some (mrk_Place k i))
    (R := fun r => ∃ ms, r = some (ms, k + 4 * (ps.length : Int)) ∧ ms.length = ps.length ∧ ∀ i, i < ps.length → ms[i]? = some (mrk_Place k i)) (s := (ps, k)) (n := F) ?_ ?_ ⟨rfl, by simp, by intro i hi; omega⟩ (by omega)
  · obtain ⟨ms, he, hl, hi⟩ := H
    refine ⟨ms, ?_, hl, hi⟩
    unfold laws_markPlaceS
    rw [bind_of he]
  · rintro n j ⟨xs, s⟩ hj ⟨hl, hs, hi⟩
    simp only at hl hs hi
    subst hs
    have hk' : j < xs.length := by omega
    have hq : xs[j]? = some xs[j] := List.getElem?_eq_getElem hk'
    have w1 : IntKind.i64.wrap (k + 4 * (j : Int) + 1) = k + 4 * (j : Int) + 1 := wr (by omega) (by omega)
    have w2 : IntKind.i64.wrap (k + 4 * (j : Int) + 1 + 1) = k + 4 * (j : Int) + 1 + 1 := wr (by omega) (by omega)
    have w3 : IntKind.i64.wrap (k + 4 * (j : Int) + 1 + 1 + 1) = k + 4 * (j : Int) + 1 + 1 + 1 := wr (by omega) (by omega)
    have w4 : IntKind.i64.wrap (k + 4 * (j : Int) + 1 + 1 + 1 + 1) = k + 4 * (j : Int) + 1 + 1 + 1 + 1 := wr (by omega) (by omega)
    refine .inl ⟨(xs.set j (mrk_Place k j), k + 4 * (j : Int) + 1 + 1 + 1 + 1), ?_, by rw [List.length_set]; exact hl, by simp only; omega, ?_⟩
    · simp only [laws_markPlaceS_L1, bdT (show (j : Int) < (xs.length : Int) by omega), idx_nat, hq, Option.bind_some, upd_nat, hk', set_here, List.length_set, List.set_set, wrN (show j ≤ 67108864 by omega), w1, w2, w3, w4, mrk_Place]
    · intro i hij
      by_cases e : i = j
      · subst e; exact set_here hk'
      · simp only; rw [set_keep e]; exact hi i (by omega)
  · rintro n ⟨xs, s⟩ ⟨hl, hs, hi⟩
    simp only at hl hs hi
    refine ⟨xs, ?_, hl, hi⟩
    simp only [laws_markPlaceS_L1, bdF (show ¬ (ps.length : Int) < (xs.length : Int) by omega), hs]

theorem szEventGraph_is {F : Nat} {g : LEventGraph} {left : Int} (h0 : 0 ≤ left) (h1 : left ≤ 1048576) (h : g.Places.length ≤ 9223372036854775807) : ∃ r, laws_szEventGraph F g left = some r ∧ (r < 0 ∨ (0 ≤ r ∧ r + g.Places.length = left)) := by
  obtain ⟨r, hr, h2⟩ := szPlaceS_is (F := F) h0 h1 h
  unfold laws_szEventGraph
  rw [bind_of hr]
  by_cases hc : r < 0
  · exact ⟨-1, by rw [bdT hc], .inl (by decide)⟩
  · exact ⟨r, by rw [bdF hc], h2⟩
def toP_EventGraph (g : LEventGraph) : GEventGraph := ⟨g.Events, g.Places.map toP_Place⟩
theorem toEventGraph_is {F : Nat} {g : LEventGraph} (hF : 134217728 ≤ F) (h : g.Places.length ≤ 1048576) : laws_toEventGraph F g = some (toP_EventGraph g) := by
  unfold laws_toEventGraph
  rw [bind_of (toPlaceS_is hF h)]; rfl
theorem eqEventGraph_same {F : Nat} (x : GEventGraph) (hF : 134217728 ≤ F) (h : x.Places.length ≤ 16777216) : laws_eqEventGraph F x x = some true := by
  simp only [laws_eqEventGraph, eqPlaceS_same hF h, bne_self_eq_false, cond_false, Option.bind_some, Bool.not_true]
theorem markEventGraph_is {F : Nat} {g : GEventGraph} {k : Int} (hF : 134217728 ≤ F) (h : g.Places.length ≤ 16777216) (h0 : 0 ≤ k) (h1 : k ≤ 1000000000000) :
    ∃ ms, laws_markEventGraph F g k = some (k + 4 * (g.Places.length : Int), ms) ∧ ms.length = g.Places.length ∧ ∀ i, i < g.Places.length → ms[i]? = some (mrk_Place k i) := by
  obtain ⟨ms, he, hl, hi⟩ := markPlaceS_is hF h h0 h1
  exact ⟨ms, by unfold laws_markEventGraph; rw [bind_of he], hl, hi⟩

theorem slices_IndexFunc_Place_is {F : Nat} {ps : List GPlace} {m : GPlace → Option Bool} {h : GPlace → Bool} (hF : 134217728 ≤ F) (hl : ps.length ≤ 16777216) (hm : ∀ x, x ∈ ps → m x = some (h x)) :
    slices_IndexFunc_Place F ps m = some (firstAt (ps.findIdx? h)) := by
  unfold slices_IndexFunc_Place
  rw [find_loop (ps := ps) (h := h) (v := fun k => (k : Int)) (L := slices_IndexFunc_Place_L1 F ps m) ?_ ?_ (by omega)]
  · cases ps.findIdx? h <;> rfl
  · intro n k x hk hx
    simp only [slices_IndexFunc_Place_L1, bdT (show (k : Int) < (ps.length : Int) by omega), idx_nat, hx, Option.bind_some, hm x (List.mem_of_getElem? hx), wrN (show k ≤ 67108864 by omega)]
  · intro n
    simp only [slices_IndexFunc_Place_L1, bdF (show ¬ (ps.length : Int) < (ps.length : Int) by omega)]
theorem slices_ContainsFunc_Place_is {F : Nat} {ps : List GPlace} {m : GPlace → Option Bool} {h : GPlace → Bool} (hF : 134217728 ≤ F) (hl : ps.length ≤ 16777216) (hm : ∀ x, x ∈ ps → m x = some (h x)) :
    slices_ContainsFunc_Place F ps m = some (ps.any h) := by
  unfold slices_ContainsFunc_Place
  rw [bind_of (slices_IndexFunc_Place_is hF hl hm), find_any]

theorem slices_IndexFunc_sint64_is {F : Nat} {ps : List (List Int)} {m : (List Int) → Option Bool} {h : (List Int) → Bool} (hF : 134217728 ≤ F) (hl : ps.length ≤ 16777216) (hm : ∀ x, x ∈ ps → m x = some (h x)) :
    slices_IndexFunc_sint64 F ps m = some (firstAt (ps.findIdx? h)) := by
  unfold slices_IndexFunc_sint64
  rw [find_loop (ps := ps) (h := h) (v := fun k => (k : Int)) (L := slices_IndexFunc_sint64_L1 F ps m) ?_ ?_ (by omega)]
  · cases ps.findIdx? h <;> rfl
  · intro n k x hk hx
    simp only [slices_IndexFunc_sint64_L1, bdT (show (k : Int) < (ps.length : Int) by omega), idx_nat, hx, Option.bind_some, hm x (List.mem_of_getElem? hx), wrN (show k ≤ 67108864 by omega)]
  · intro n
    simp only [slices_IndexFunc_sint64_L1, bdF (show ¬ (ps.length : Int) < (ps.length : Int) by omega)]
theorem slices_ContainsFunc_sint64_is {F : Nat} {ps : List (List Int)} {m : (List Int) → Option Bool} {h : (List Int) → Bool} (hF : 134217728 ≤ F) (hl : ps.length ≤ 16777216) (hm : ∀ x, x ∈ ps → m x = some (h x)) :
    slices_ContainsFunc_sint64 F ps m = some (ps.any h) := by
  unfold slices_ContainsFunc_sint64
  rw [bind_of (slices_IndexFunc_sint64_is hF hl hm), find_any]

theorem toInt64S_same {F : Nat} {ps : List Int} (hF : 134217728 ≤ F) (h : ps.length ≤ 1048576) : laws_toInt64S F ps = some ps := by
  rw [toInt64S_is hF h, show ps.map toP_Int64 = ps from by unfold toP_Int64; simp]

/-- how many numbers stand in the first i rows -/
def offR (rows : List (List Int)) (i : Nat) : Nat := ((rows.take i).map List.length).sum
theorem offR_zero (rows : List (List Int)) : offR rows 0 = 0 := rfl
theorem offR_succ {rows : List (List Int)} {i : Nat} {row : List Int} (h : rows[i]? = some row) : offR rows (i + 1) = offR rows i + row.length := by
  unfold offR
  rw [List.take_add_one, h]; simp
theorem offR_mono (rows : List (List Int)) (i : Nat) : offR rows i ≤ offR rows (i + 1) := by
  unfold offR
  rw [List.take_add_one, List.map_append, List.sum_append]; omega
theorem offR_le {rows : List (List Int)} {i j : Nat} (h : i ≤ j) : offR rows i ≤ offR rows j := by
  induction j with
  | zero => obtain rfl : i = 0 := by omega
            exact Nat.le_refl _
  | succ j ih =>
    by_cases e : i = j + 1
    · subst e; exact Nat.le_refl _
    · exact Nat.le_trans (ih (by omega)) (offR_mono rows j)

theorem rows_le {rows : List (List Int)} {N : Nat} (hr : offR rows rows.length ≤ N) : ∀ row, row ∈ rows → row.length ≤ N := by
  intro row hm
  obtain ⟨i, hi, rfl⟩ := List.getElem_of_mem hm
  have h1 := offR_succ (List.getElem?_eq_getElem hi)
  have h2 := offR_le (rows := rows) (show i + 1 ≤ rows.length by omega)
  omega

theorem szInt64SS_is {F : Nat} {ps : List (List Int)} {left : Int} (h0 : 0 ≤ left) (h1 : left ≤ 1048576) (hF : 9223372036854775808 ≤ F) (h : ps.length ≤ 9223372036854775807) (hr : ∀ row, row ∈ ps → row.length ≤ 9223372036854775807) :
    ∃ r, laws_szInt64SS F ps left = some r ∧ (r < 0 ∨ (0 ≤ r ∧ r + ps.length + offR ps ps.length = left)) := by
  unfold laws_szInt64SS
  rw [wr (by omega) (by omega)]
  by_cases hc : left - (ps.length : Int) < 0
  · exact ⟨-1, by rw [bdT hc], .inl (by decide)⟩
  rw [bdF hc]
  have H := for0 (L := fun n (s : Int) i => laws_szInt64SS_L1 F ps n s i) (len := ps.length) (fun j s => 0 ≤ s ∧ s + ps.length + offR ps j = left)
    (R := fun r => r = some (.inl (-1)) ∨ ∃ s, r = some (.inr s) ∧ 0 ≤ s ∧ s + ps.length + offR ps ps.length = left) (s := left - (ps.length : Int)) (n := F) ?_ ?_ ⟨by omega, by rw [offR_zero]; omega⟩ (by omega)
  · rcases H with he | ⟨s, he, h3, h4⟩
    · exact ⟨-1, by rw [he]; rfl, .inl (by decide)⟩
    · exact ⟨s, by rw [he]; rfl, .inr ⟨h3, h4⟩⟩
  · intro n j s hj ⟨hs, ht⟩
    have hq : ps[j]? = some ps[j] := List.getElem?_eq_getElem hj
    obtain ⟨r, hr1, hr2⟩ := szInt64S_is (F := F) hs (by omega) (hr _ (List.getElem_mem hj))
    by_cases hn : r < 0
    · refine .inr (.inl ?_)
      simp only [laws_szInt64SS_L1, bdT (show (j : Int) < (ps.length : Int) by omega), idx_nat, hq, Option.bind_some, hr1, bdT hn]
    · refine .inl ⟨r, ?_, by omega, by rw [offR_succ hq]; omega⟩
      simp only [laws_szInt64SS_L1, bdT (show (j : Int) < (ps.length : Int) by omega), idx_nat, hq, Option.bind_some, hr1, bdF hn]
      rw [wr (by omega) (by omega)]; rfl
  · intro n s ⟨hs, ht⟩
    refine .inr ⟨s, ?_, hs, ht⟩
    simp only [laws_szInt64SS_L1, bdF (show ¬ (ps.length : Int) < (ps.length : Int) by omega)]


theorem toInt64SS_is {F : Nat} {ps : List (List Int)} (hF : 134217728 ≤ F) (h : ps.length ≤ 1048576) (hr : offR ps ps.length ≤ 1048576) : laws_toInt64SS F ps = some ps := by
  have each : ∀ (i : Nat) (row : List Int), ps[i]? = some row → row.length ≤ 1048576 := fun i row hi => by
    have hlt := (List.getElem?_eq_some_iff.1 hi).1
    have h1 := offR_succ hi
    have h2 := offR_le (rows := ps) (show i + 1 ≤ ps.length by omega)
    omega
  unfold laws_toInt64SS
  rw [mk_nat _ (by omega)]
  simp only [Option.bind_some]
  rw [fill_loop (ps := ps) (f := fun x => x) (L := laws_toInt64SS_L1 F ps) ?_ ?_ (by simp) (by omega)]
  · simp
  · intro n xs k x hk hx hl
    have hk' : k < xs.length := by omega
    have hq : xs[k]? = some xs[k] := List.getElem?_eq_getElem hk'
    have ht := toInt64S_is (F := F) hF (each k x hx)
    rw [show x.map toP_Int64 = x from by unfold toP_Int64; simp] at ht
    simp only [laws_toInt64SS_L1, bdT (show (k : Int) < (ps.length : Int) by omega), idx_nat, hx, hq, ht, Option.bind_some, upd_nat, hk', wrN (show k ≤ 67108864 by omega)]
  · intro n xs
    simp only [laws_toInt64SS_L1, bdF (show ¬ (ps.length : Int) < (ps.length : Int) by omega)]


theorem eqInt64SS_same {F : Nat} {xs : List (List Int)} (hF : 134217728 ≤ F) (h : xs.length ≤ 16777216) (hr : ∀ row, row ∈ xs → row.length ≤ 16777216) : laws_eqInt64SS F xs xs = some true := by
  unfold laws_eqInt64SS
  rw [bF (neF rfl), same_loop (L := laws_eqInt64SS_L1 F xs xs) (len := xs.length) ?_ ?_ (by omega)]; rfl
  · intro n k hk
    have hq : xs[k]? = some xs[k] := List.getElem?_eq_getElem hk
    simp only [laws_eqInt64SS_L1, bdT (show (k : Int) < (xs.length : Int) by omega), idx_nat, hq, Option.bind_some, eqInt64S_same hF (hr _ (List.getElem_mem hk)), Bool.not_true, cond_false, wrN (show k ≤ 67108864 by omega)]
  · intro n
    simp only [laws_eqInt64SS_L1, bdF (show ¬ (xs.length : Int) < (xs.length : Int) by omega)]


/-- ms holds the marks from k on, in the shape of rows -/
def MarkedR (rows : List (List Int)) (k : Int) (ms : List (List Int)) (upto : Nat) : Prop :=
  ms.length = rows.length ∧ ∀ (i : Nat), i < upto → ∃ m row, ms[i]? = some m ∧ rows[i]? = some row ∧ m.length = row.length ∧ ∀ j, j < m.length → m[j]? = some (mrk_Int64 (k + offR rows i) j)
theorem markInt64SS_is {F : Nat} {ps : List (List Int)} {k : Int} (hF : 134217728 ≤ F) (h : ps.length ≤ 16777216) (hr : offR ps ps.length ≤ 16777216) (h0 : 0 ≤ k) (h1 : k ≤ 900000000000) :
    ∃ ms, laws_markInt64SS F ps k = some (k + offR ps ps.length, ms) ∧ MarkedR ps k ms ps.length := by
  have H := for0 (L := fun n (s : List (List Int) × Int) i => laws_markInt64SS_L1 F n s.1 s.2 i) (len := ps.length)
    (fun j s => s.2 = k + offR ps j ∧ MarkedR ps k s.1 j ∧ ∀ i, j ≤ i → s.1[i]? = ps[i]?)
    (R := fun r => ∃ ms, r = some (ms, k + (offR ps ps.length : Int)) ∧ MarkedR ps k ms ps.length) (s := (ps, k)) (n := F) ?_ ?_ ⟨by simp [offR_zero], ⟨rfl, by intro i hi; omega⟩, fun _ _ => rfl⟩ (by omega)
  · obtain ⟨ms, he, hm⟩ := H
    exact ⟨ms, by unfold laws_markInt64SS; rw [bind_of he], hm⟩
  · rintro n j ⟨xs, s⟩ hj ⟨hs, ⟨hl, hi⟩, hrest⟩
    simp only at hs hl hi hrest
    subst hs
    have hp : ps[j]? = some ps[j] := List.getElem?_eq_getElem hj
    have hq : xs[j]? = some ps[j] := (hrest j (Nat.le_refl _)).trans hp
    have hk' : j < xs.length := by omega
    have hle := offR_le (rows := ps) (show j + 1 ≤ ps.length by omega)
    have hsu := offR_succ hp
    obtain ⟨m, hm1, hm2, hm3⟩ := markInt64S_is (F := F) (ps := ps[j]) (k := k + offR ps j) hF (by omega) (by omega) (by omega)
    refine .inl ⟨(xs.set j m, k + (offR ps (j + 1) : Int)), ?_, rfl, ⟨by rw [List.length_set]; exact hl, ?_⟩, ?_⟩
    · simp only [laws_markInt64SS_L1, bdT (show (j : Int) < (xs.length : Int) by omega), idx_nat, hq, Option.bind_some, hm1, upd_nat, hk', wrN (show j ≤ 67108864 by omega)]
      rw [show k + (offR ps j : Int) + 1 * (ps[j].length : Int) = k + (offR ps (j + 1) : Int) by omega]
    · intro i hij
      by_cases e : i = j
      · subst e; exact ⟨m, ps[i], set_here hk', hp, hm2, by rw [hm2]; exact hm3⟩
      · simp only [set_keep e]; exact hi i (by omega)
    · intro i hij
      simp only [set_keep (show i ≠ j by omega)]; exact hrest i (by omega)
  · rintro n ⟨xs, s⟩ ⟨hs, hm, _⟩
    simp only at hs hm
    refine ⟨xs, ?_, hm⟩
    have := hm.1
    simp only [laws_markInt64SS_L1, bdF (show ¬ (ps.length : Int) < (xs.length : Int) by omega), hs]

theorem heldInt64SS_is {F : Nat} {ps ms : List (List Int)} {k : Int} (hF : 134217728 ≤ F) (h : ps.length ≤ 16777216) (hr : offR ps ps.length ≤ 16777216) (h0 : 0 ≤ k) (h1 : k ≤ 900000000000) (hm : MarkedR ps k ms ps.length) : laws_heldInt64SS F ms k = some (k + (offR ps ps.length : Int)) := by
  obtain ⟨hml, hmi⟩ := hm
  have H := for0 (L := laws_heldInt64SS_L1 F ms) (len := ps.length) (fun j s => s = k + (offR ps j : Int)) (R := fun r => r = some (.inr (k + (offR ps ps.length : Int)))) (s := k) (n := F) ?_ ?_ (by simp [offR_zero]) (by omega)
  · unfold laws_heldInt64SS; rw [H]; rfl
  · rintro n j s hj rfl
    obtain ⟨m, row, hm1, hm2, hm3, hm4⟩ := hmi j hj
    have hsu := offR_succ hm2
    have hle := offR_le (rows := ps) (show j + 1 ≤ ps.length by omega)
    have hh := heldInt64S_is (F := F) (k := k + (offR ps j : Int)) (ms := m) hF (by omega) (by omega) (by omega) hm4
    refine .inl ⟨_, ?_, rfl⟩
    have e : k + (offR ps j : Int) + 1 * (m.length : Int) = k + (offR ps (j + 1) : Int) := by omega
    simp only [laws_heldInt64SS_L1, bdT (show (j : Int) < (ms.length : Int) by omega), idx_nat, hm1, Option.bind_some, hh, e, bdF (show ¬ k + (offR ps (j + 1) : Int) < 0 by omega), wrN (show j ≤ 67108864 by omega)]
  · rintro n s rfl
    simp only [laws_heldInt64SS_L1, bdF (show ¬ (ps.length : Int) < (ms.length : Int) by omega)]

def inB (n lo hi : Int) : Bool := decide (lo ≤ n) && decide (n ≤ hi)
theorem inB_true {n lo hi : Int} : inB n lo hi = true ↔ lo ≤ n ∧ n ≤ hi := by unfold inB; simp
theorem inB_false {n lo hi : Int} (h : ¬ (lo ≤ n ∧ n ≤ hi)) : inB n lo hi = false := by
  cases e : inB n lo hi with
  | false => rfl
  | true => exact absurd (inB_true.1 e) h
theorem specIn_is {F : Nat} {n lo hi : Int} : spec_l01In F n lo hi = some (inB n lo hi) := by
  simp only [spec_l01In, cond_and, Option.bind_some]; rfl
theorem within_is {F : Nat} {n lo hi : Int} : impl_within F n lo hi = some (inB n lo hi) := by
  simp only [impl_within, cond_and, Option.bind_some]; rfl


theorem implAllWithin_is {F : Nat} {xs : List Int} {lo hi : Int} (hF : 134217728 ≤ F) (hl : xs.length ≤ 1048576) : impl_allWithin F xs lo hi = some (xs.all fun x => inB x lo hi) := by
  unfold impl_allWithin
  rw [all_loop (ps := xs) (g := fun x => inB x lo hi) (r := false) (L := impl_allWithin_L1 F xs lo hi) ?_ ?_ (by omega)]
  · cases (xs.all fun x => inB x lo hi) <;> rfl
  · intro n k x hk hx
    simp only [impl_allWithin_L1, bdT (show (k : Int) < (xs.length : Int) by omega), idx_nat, hx, Option.bind_some, within_is, condn, wrN (show k ≤ 67108864 by omega)]
  · intro n
    simp only [impl_allWithin_L1, bdF (show ¬ (xs.length : Int) < (xs.length : Int) by omega)]

def placeB (e : Int) (p : GPlace) : Bool := inB p.From 0 e && (inB p.To 0 e && (inB p.Delay 0 1000 && inB p.Tokens 0 5))
def graphB (g : GEventGraph) : Bool := g.Places.all (placeB (IntKind.i64.wrap (g.Events - 1))) && (inB g.Events 1 10 && decide ((g.Places.length : Int) ≤ 30))

theorem specPlace_is {F : Nat} {p : GPlace} {n : Int} : spec_l11Place F p n = some (placeB (IntKind.i64.wrap (n - 1)) p) := by
  simp only [spec_l11Place, specIn_is, Option.bind_some, cond_and]; rfl
theorem implPlace_is {F : Nat} {g : GEventGraph} {p : GPlace} : impl_isPlace F g p = some (placeB (IntKind.i64.wrap (g.Events - 1)) p) := by
  simp only [impl_isPlace, impl_isEvent, within_is, Option.bind_some, cond_and]; rfl

theorem specGraph_is {F : Nat} {g : GEventGraph} (hF : 134217728 ≤ F) (hl : g.Places.length ≤ 1048576) : spec_IsEventGraph F g = some (graphB g) := by
  unfold spec_IsEventGraph
  rw [all_loop (ps := g.Places) (g := placeB (IntKind.i64.wrap (g.Events - 1))) (r := false) (L := spec_IsEventGraph_L1 F g) ?_ ?_ (by omega)]
  · simp only [specIn_is, Option.bind_some, cond_and, graphB]
    cases g.Places.all (placeB (IntKind.i64.wrap (g.Events - 1))) <;> rfl
  · intro n k x hk hx
    simp only [spec_IsEventGraph_L1, bdT (show (k : Int) < (g.Places.length : Int) by omega), idx_nat, hx, Option.bind_some, specPlace_is, condn, wrN (show k ≤ 67108864 by omega)]
  · intro n
    simp only [spec_IsEventGraph_L1, bdF (show ¬ (g.Places.length : Int) < (g.Places.length : Int) by omega)]

theorem implGraph_is {F : Nat} {g : GEventGraph} (hF : 134217728 ≤ F) (hl : g.Places.length ≤ 1048576) : impl_IsEventGraph F g = some (graphB g) := by
  simp only [impl_IsEventGraph, within_is, Option.bind_some, slices_ContainsFunc_Place_is (h := fun p => !placeB (IntKind.i64.wrap (g.Events - 1)) p) hF (show g.Places.length ≤ 16777216 by omega) (fun x _ => show impl_IsEventGraph_c1 F x g = _ by simp only [impl_IsEventGraph_c1, implPlace_is, Option.bind_some]), cond_and, graphB]
  rw [any_not, Bool.not_not]
  cases g.Places.all (placeB (IntKind.i64.wrap (g.Events - 1))) <;> cases inB g.Events 1 10 <;> cases decide ((g.Places.length : Int) ≤ 30) <;> rfl

theorem graphB_true {g : GEventGraph} (h : graphB g = true) : 1 ≤ g.Events ∧ g.Events ≤ 10 ∧ g.Places.length ≤ 30 ∧ IntKind.i64.wrap (g.Events - 1) = g.Events - 1 ∧ ∀ p, p ∈ g.Places → 0 ≤ p.From ∧ p.From < g.Events ∧ 0 ≤ p.To ∧ p.To < g.Events := by
  unfold graphB at h
  simp only [Bool.and_eq_true, inB_true, decide_eq_true_eq, List.all_eq_true] at h
  obtain ⟨hp, ⟨h1, h2⟩, h3⟩ := h
  have hw : IntKind.i64.wrap (g.Events - 1) = g.Events - 1 := wr (by omega) (by omega)
  refine ⟨h1, h2, by omega, hw, fun p hm => ?_⟩
  have := hp p hm
  rw [hw] at this
  simp only [placeB, Bool.and_eq_true, inB_true] at this
  omega


/-! ### Liveness -/
def nl (o : List Nat) : List Int := o.map fun (x : Nat) => (x : Int)
theorem nl_len (o : List Nat) : (nl o).length = o.length := by unfold nl; simp
theorem nl_app (o : List Nat) (x : Nat) : nl o ++ [(x : Int)] = nl (o ++ [x]) := by unfold nl; simp
theorem nl_at (o : List Nat) (i : Nat) : (nl o)[i]? = (o[i]?).map fun (x : Nat) => (x : Int) := by unfold nl; simp
theorem nl_has (o : List Nat) (x : Nat) : ((nl o).any fun y => y == (x : Int)) = o.contains x := by
  apply Bool.eq_iff_iff.2
  simp only [nl, List.any_map, List.any_eq_true, Function.comp_apply, beq_iff_eq, List.contains_iff_mem]
  constructor
  · rintro ⟨y, hy, e⟩
    have : y = x := by omega
    exact this ▸ hy
  · intro h; exact ⟨x, h, rfl⟩
theorem specHas_is {F : Nat} {xs : List Int} {x : Int} (hF : 134217728 ≤ F) (hl : xs.length ≤ 1048576) : spec_l01Has F xs x = some (xs.any fun y => y == x) := by
  unfold spec_l01Has
  rw [all_loop (ps := xs) (g := fun y => !(y == x)) (r := true) (L := spec_l01Has_L1 F xs x) ?_ ?_ (by omega)]
  · have := any_not (g := fun y => !(y == x)) xs
    simp only [Bool.not_not] at this
    rw [this]
    cases xs.all (fun y => !(y == x)) <;> rfl
  · intro n k y hk hy
    simp only [spec_l01Has_L1, bdT (show (k : Int) < (xs.length : Int) by omega), idx_nat, hy, Option.bind_some, condn, wrN (show k ≤ 67108864 by omega)]
  · intro n
    simp only [spec_l01Has_L1, bdF (show ¬ (xs.length : Int) < (xs.length : Int) by omega)]
theorem implHas_is {F : Nat} {xs : List Int} {x : Int} (hF : 134217728 ≤ F) (hl : xs.length ≤ 1048576) : slices_Contains_int64 F xs x = some (xs.any fun y => y == x) := by
  unfold slices_Contains_int64 slices_Index_int64
  rw [find_loop (ps := xs) (h := fun y => x == y) (v := fun k => (k : Int)) (L := slices_Index_int64_L1 F xs x) ?_ ?_ (by omega)]
  · have e : (xs.any fun y => y == x) = decide ((0 : Int) ≤ firstAt (xs.findIdx? fun y => x == y)) := by
      rw [find_any]
      congr 1; funext y
      by_cases h : x = y
      · subst h; rfl
      · rw [beq_false_of_ne h, beq_false_of_ne (Ne.symm h)]
    rw [e]
    cases xs.findIdx? fun y => x == y <;> rfl
  · intro n k y hk hy
    simp only [slices_Index_int64_L1, bdT (show (k : Int) < (xs.length : Int) by omega), idx_nat, hy, Option.bind_some, wrN (show k ≤ 67108864 by omega)]
  · intro n
    simp only [slices_Index_int64_L1, bdF (show ¬ (xs.length : Int) < (xs.length : Int) by omega)]

/-- the matrix of a relation -/
def mat0 (E : Nat → Nat → Bool) (n : Nat) : List (List Int) := (List.range n).map fun v => (List.range n).map fun u => bif E u v then 0 else (-1000000000000000)
theorem mat0_row {E : Nat → Nat → Bool} {n v : Nat} (hv : v < n) : (mat0 E n)[v]? = some ((List.range n).map fun u => bif E u v then 0 else (-1000000000000000)) := by
  unfold mat0; rw [List.getElem?_map, List.getElem?_range hv]; rfl
theorem map_range_set {α : Type} (f : Nat → α) (n i : Nat) (y : α) : ((List.range n).map f).set i y = (List.range n).map fun j => if j = i then y else f j := by
  apply List.ext_getElem?; intro q
  by_cases hq : q < n
  · by_cases e : q = i
    · subst e
      rw [set_here (by simpa using hq), List.getElem?_map, List.getElem?_range hq]; simp
    · rw [set_keep e, List.getElem?_map, List.getElem?_map, List.getElem?_range hq]; simp [e]
  · rw [List.getElem?_eq_none (by simp; omega), List.getElem?_eq_none (by simp; omega)]
theorem mat0_set {E : Nat → Nat → Bool} {n u v : Nat} : (mat0 E n).set v (((List.range n).map fun u' => bif E u' v then (0 : Int) else (-1000000000000000)).set u 0) = mat0 (fun u' v' => E u' v' || (v' == v && u' == u)) n := by
  unfold mat0
  rw [map_range_set, map_range_set]
  apply List.map_congr_left; intro v' _
  by_cases hv : v' = v
  · subst hv
    rw [if_pos rfl]
    apply List.map_congr_left; intro u' _
    by_cases hu : u' = u
    · subst hu; simp
    · rw [if_neg hu]; simp only [beq_false_of_ne hu, Bool.and_false, Bool.or_false]
  · rw [if_neg hv]
    apply List.map_congr_left; intro u' _
    simp only [beq_false_of_ne hv, Bool.false_and, Bool.or_false]
/-- the free places' relation -/
def eP (ps : List GPlace) (u v : Nat) : Bool := ps.any fun p => p.Tokens == 0 && (p.To == (v : Int) && p.From == (u : Int))
theorem specBottom_is {F m n : Nat} (hF : 134217728 ≤ F) (hm : m ≤ 1048576) (hn : n ≤ 1048576) : spec_l02Bottom F (m : Int) (n : Int) = some ((List.range m).map fun _ => (List.range n).map fun _ => (-1000000000000000)) := by
  unfold spec_l02Bottom
  rw [tab_loop (len := m) (f := fun _ => (List.range n).map fun _ => (-1000000000000000)) (L := spec_l02Bottom_L4 F (m : Int) (n : Int)) ?_ ?_ (by omega)]
  · rfl
  · intro k xs j hj hx
    have inner : spec_l02Bottom_L5 F (n : Int) F [] 0 = some ((List.range n).map fun _ => (-1000000000000000)) := by
      refine tab_loop (len := n) (f := fun _ => (-1000000000000000)) (L := spec_l02Bottom_L5 F (n : Int)) ?_ ?_ (by omega)
      · intro k xs j hj hx
        simp only [spec_l02Bottom_L5, bdT (show (j : Int) < (n : Int) by omega), app_le (show xs.length + [(-1000000000000000 : Int)].length ≤ 67108864 by simp only [List.length_singleton]; omega), Option.bind_some, wrN (show j ≤ 67108864 by omega)]
      · intro k xs _
        simp only [spec_l02Bottom_L5, bdF (show ¬ (n : Int) < (n : Int) by omega)]
    simp only [spec_l02Bottom_L4, bdT (show (j : Int) < (m : Int) by omega), inner, app_le (show xs.length + [(List.range n).map fun _ => (-1000000000000000 : Int)].length ≤ 67108864 by simp only [List.length_singleton]; omega), Option.bind_some, wrN (show j ≤ 67108864 by omega)]
  · intro k xs _
    simp only [spec_l02Bottom_L4, bdF (show ¬ (m : Int) < (m : Int) by omega)]
structure GOk (g : GEventGraph) (n : Nat) : Prop where
  ev : g.Events = (n : Int)
  n1 : 1 ≤ n
  n10 : n ≤ 10
  len : g.Places.length ≤ 30
  at' : ∀ p, p ∈ g.Places → ∃ u v : Nat, p.From = (u : Int) ∧ p.To = (v : Int) ∧ u < n ∧ v < n
theorem GOk.of {g : GEventGraph} (h : graphB g = true) : GOk g g.Events.toNat := by
  obtain ⟨h1, h2, h3, _, h4⟩ := graphB_true h
  exact ⟨by omega, by omega, by omega, h3, fun p hp => ⟨p.From.toNat, p.To.toNat, by have := h4 p hp; omega, by have := h4 p hp; omega, by have := h4 p hp; omega, by have := h4 p hp; omega⟩⟩
theorem GOk.edge {g : GEventGraph} {n : Nat} (h : GOk g n) : ∀ u v, eP g.Places u v = true → u < n ∧ v < n := by
  intro u v he
  unfold eP at he
  rw [List.any_eq_true] at he
  obtain ⟨p, hp, hq⟩ := he
  simp only [Bool.and_eq_true, beq_iff_eq] at hq
  obtain ⟨u', v', h1, h2, h3, h4⟩ := h.at' p hp
  omega
theorem specFree_is {F n : Nat} {g : GEventGraph} (hF : 134217728 ≤ F) (h : GOk g n) : spec_l12Free F g = some (mat0 (eP g.Places) n) := by
  unfold spec_l12Free
  have h10 := h.n10
  rw [h.ev, bind_of (specBottom_is hF (by omega) (by omega))]
  have hlen := h.len
  have H := for0 (L := spec_l12Free_L1 F g) (len := g.Places.length) (fun k ms => ms = mat0 (eP (g.Places.take k)) n) (R := fun o => o = some (mat0 (eP g.Places) n)) (s := (List.range n).map fun _ => (List.range n).map fun _ => (-1000000000000000)) (n := F) ?_ ?_ ?_ (by omega)
  · rw [H]; rfl
  · rintro f k ms hk rfl
    have hp : g.Places[k]? = some g.Places[k] := List.getElem?_eq_getElem hk
    obtain ⟨u, v, h1, h2, h3, h4⟩ := h.at' g.Places[k] (List.getElem_mem hk)
    have hstep : ∀ u' v', eP (g.Places.take (k + 1)) u' v' = (eP (g.Places.take k) u' v' || (g.Places[k].Tokens == 0 && (v' == v && u' == u))) := by
      intro u' v'
      unfold eP
      rw [List.take_add_one, hp, List.any_append]
      have e1 : ((v : Int) == (v' : Int)) = (v' == v) := Bool.eq_iff_iff.2 (by simp only [beq_iff_eq]; omega)
      have e2 : ((u : Int) == (u' : Int)) = (u' == u) := Bool.eq_iff_iff.2 (by simp only [beq_iff_eq]; omega)
      simp [h1, h2, e1, e2]
    by_cases ht : g.Places[k].Tokens = 0
    · refine .inl ⟨mat0 (eP (g.Places.take (k + 1))) n, ?_, rfl⟩
      have hrow := mat0_row (E := eP (g.Places.take k)) h4
      have hcell : ((List.range n).map fun u' => bif eP (g.Places.take k) u' v then (0 : Int) else (-1000000000000000))[u]? = some (bif eP (g.Places.take k) u v then (0 : Int) else (-1000000000000000)) := by rw [List.getElem?_map, List.getElem?_range h3]; rfl
      have e : mat0 (eP (g.Places.take (k + 1))) n = mat0 (fun u' v' => eP (g.Places.take k) u' v' || (v' == v && u' == u)) n := by
        congr 1; funext u' v'; rw [hstep, ht]; simp
      rw [e, ← mat0_set]
      simp only [spec_l12Free_L1, bdT (show (k : Int) < (g.Places.length : Int) by omega), idx_nat, hp, Option.bind_some, bT (show (g.Places[k].Tokens == 0) = true by rw [ht]; rfl), h1, h2, hrow, hcell, upd_nat _ (show u < ((List.range n).map fun u' => bif eP (g.Places.take k) u' v then (0 : Int) else (-1000000000000000)).length by simpa using h3), upd_nat _ (show v < (mat0 (eP (g.Places.take k)) n).length by unfold mat0; simpa using h4), wrN (show k ≤ 67108864 by omega)]
    · refine .inl ⟨mat0 (eP (g.Places.take (k + 1))) n, ?_, rfl⟩
      have e : mat0 (eP (g.Places.take (k + 1))) n = mat0 (eP (g.Places.take k)) n := by
        congr 1; funext u' v'; rw [hstep, beq_false_of_ne ht]; simp
      rw [e]
      simp only [spec_l12Free_L1, bdT (show (k : Int) < (g.Places.length : Int) by omega), idx_nat, hp, Option.bind_some, bF (beq_false_of_ne ht), wrN (show k ≤ 67108864 by omega)]
  · rintro f ms rfl
    rw [List.take_length]
    simp only [spec_l12Free_L1, bdF (show ¬ (g.Places.length : Int) < (g.Places.length : Int) by omega)]
  · unfold mat0 eP; simp

/-- a written cycle that goes on from a path -/
def Ext (E : Nat → Nat → Bool) (n f : Nat) (p : List Nat) (l : Nat) (q : List Nat) : Prop := (∀ x, x ∈ q → f < x ∧ x < n) ∧ (p ++ q).Nodup ∧ Chain E l q f
theorem grow_is {F n : Nat} {E : Nat → Nat → Bool} (hF : 134217728 ≤ F) (hn : n ≤ 1000) : ∀ (k : Nat) (p : List Nat) (f l : Nat), p[0]? = some f → p[p.length - 1]? = some l → p.Nodup → (∀ x, x ∈ p → x < n) → n + 1 ≤ k + p.length →
    ∃ r, spec_l03Grow_rec F k (mat0 E n) (nl p) 0 (-1) = some r ∧ (r ≠ [] ↔ ∃ q, Ext E n f p l q) := by
  intro k
  induction k with
  | zero =>
    intro p f l _ _ hd hl hk
    have := nodup_le n p hd hl
    omega
  | succ k ih =>
    intro p f l hf hl hd hlt hk
    have hp0 : 0 < p.length := (List.getElem?_eq_some_iff.1 hf).1
    have hpn := nodup_le n p hd hlt
    have hfn : f < n := hlt f (List.mem_of_getElem? hf)
    have hln : l < n := hlt l (List.mem_of_getElem? hl)
    have i1 : idx (nl p) 0 = some (f : Int) := by
      rw [show (0 : Int) = ((0 : Nat) : Int) from rfl, idx_nat, nl_at, hf]; rfl
    have i2 : idx (nl p) (IntKind.i64.wrap (((nl p).length : Int) - 1)) = some (l : Int) := by
      rw [nl_len, wr (by omega) (by omega), show (p.length : Int) - 1 = ((p.length - 1 : Nat) : Int) by omega, idx_nat, nl_at, hl]; rfl
    have cell : ∀ v, v < n → idx (mat0 E n) (v : Int) = some ((List.range n).map fun u => bif E u v then 0 else (-1000000000000000)) := fun v hv => by rw [idx_nat, mat0_row hv]
    have cel2 : ∀ v, idx ((List.range n).map fun u => bif E u v then (0 : Int) else (-1000000000000000)) (l : Int) = some (bif E l v then 0 else (-1000000000000000)) := fun v => by
      rw [idx_nat, List.getElem?_map, List.getElem?_range hln]; rfl
    unfold spec_l03Grow_rec
    simp only [i1, i2, cell f hfn, cel2, Option.bind_some]
    cases hE : E l f with
    | true =>
      refine ⟨nl p, rfl, ⟨fun _ => ⟨[], (fun x hx => nomatch hx), by simpa using hd, hE⟩, fun _ e => ?_⟩⟩
      have := congrArg List.length e
      rw [nl_len] at this; simp at this; subst this; simp at hp0
    | false =>
      have H := for_ind (L := fun m (_ : Unit) i => spec_l03Grow_L1 F (mat0 E n) (nl p) 0 (-1) (l : Int) (spec_l03Grow_rec F k) m i) n
        (fun j _ => f < j ∧ ∀ v q, f < v → v < j → E l v = true → v ∉ p → ¬ Ext E n f (p ++ [v]) v q)
        (fun o => (∃ r, r ≠ [] ∧ o = some (.inl r) ∧ ∃ q, Ext E n f p l q) ∨ (o = some (.inr ()) ∧ ¬ ∃ q, Ext E n f p l q)) ?_ ?_ (n - (f + 1)) (f + 1) () F (by omega) ⟨by omega, fun v q h1 h2 => by omega⟩ (by omega)
      · have hw : IntKind.i64.wrap ((f : Int) + 1) = ((f + 1 : Nat) : Int) := wrN (by omega)
        have hc : ((-1000000000000000 : Int) != (-1000000000000000)) = false := rfl
        simp only [cond_false, hc, Option.bind_some, hw]
        rcases H with ⟨r, h1, h2, h3⟩ | ⟨h2, h3⟩
        · exact ⟨r, by simp only [h2, Option.bind_some], ⟨fun _ => h3, fun _ => h1⟩⟩
        · exact ⟨[], by simp only [h2, Option.bind_some], ⟨fun h => absurd rfl h, fun h => absurd h h3⟩⟩
      · rintro m j _ hj ⟨hfj, hI⟩
        have hown : spec_l01Own F (nl p) = some (nl p) := by
          unfold spec_l01Own
          rw [app_le (by rw [nl_len]; simp only [List.length_nil]; omega)]; rfl
        have happ : app (nl p) [(j : Int)] = some (nl (p ++ [j])) := by
          rw [app_le (by rw [nl_len]; simp only [List.length_singleton]; omega), nl_app]
        have hwj : IntKind.i64.wrap ((j : Int) + 1) = ((j + 1 : Nat) : Int) := wrN (by omega)
        have hml : ((mat0 E n).length : Int) = (n : Int) := by unfold mat0; simp
        cases hEj : E l j with
        | false =>
          refine .inl ⟨(), ?_, by omega, fun v q h1 h2 h3 h4 => ?_⟩
          · have hc : ((-1000000000000000 : Int) == (-1000000000000000)) = true := rfl
            simp only [spec_l03Grow_L1, hml, bdT (show (j : Int) < (n : Int) by omega), cell j hj, cel2, hEj, Option.bind_some, cond_false, hc, cond_true, hwj]
          · by_cases e : v = j
            · subst e; rw [hEj] at h3; cases h3
            · exact hI v q h1 (by omega) h3 h4
        | true =>
          have hc : ((0 : Int) == (-1000000000000000)) = false := rfl
          cases hpj : p.contains j with
          | true =>
            refine .inl ⟨(), ?_, by omega, fun v q h1 h2 h3 h4 => ?_⟩
            · simp only [spec_l03Grow_L1, hml, bdT (show (j : Int) < (n : Int) by omega), cell j hj, cel2, hEj, Option.bind_some, cond_true, hc, cond_false, specHas_is (F := F) (xs := nl p) (x := (j : Int)) hF (by rw [nl_len]; omega), nl_has, hpj, hwj]
            · by_cases e : v = j
              · subst e; exact absurd (by simpa using hpj) h4
              · exact hI v q h1 (by omega) h3 h4
          | false =>
            have hjp : j ∉ p := by simpa using hpj
            obtain ⟨r, hr, hriff⟩ := ih (p ++ [j]) f j (by rw [List.getElem?_append_left hp0]; exact hf) (by simp) (by
                rw [List.nodup_append]
                refine ⟨hd, by simp, fun a ha b hb e => ?_⟩
                simp only [List.mem_singleton] at hb
                exact hjp (by rw [← hb, ← e]; exact ha)) (fun x hx => by
                rcases List.mem_append.1 hx with hx | hx
                · exact hlt x hx
                · simp only [List.mem_singleton] at hx; omega) (by rw [List.length_append, List.length_singleton]; omega)
            have hw0 : IntKind.i64.wrap ((0 : Int) + 0) = 0 := rfl
            have S : spec_l03Grow_L1 F (mat0 E n) (nl p) 0 (-1) (l : Int) (spec_l03Grow_rec F k) (m + 1) (j : Int) = bif decide (0 < (r.length : Int)) then some (.inl r) else spec_l03Grow_L1 F (mat0 E n) (nl p) 0 (-1) (l : Int) (spec_l03Grow_rec F k) m ((j + 1 : Nat) : Int) := by
              simp only [spec_l03Grow_L1, hml, bdT (show (j : Int) < (n : Int) by omega), cell j hj, cel2, hEj, Option.bind_some, cond_true, hc, cond_false, specHas_is (F := F) (xs := nl p) (x := (j : Int)) hF (by rw [nl_len]; omega), nl_has, hpj, hown, happ, hw0, hr, hwj]
              cases decide (0 < (r.length : Int)) <;> rfl
            by_cases hre : r = []
            · refine .inl ⟨(), ?_, by omega, fun v q h1 h2 h3 h4 => ?_⟩
              · simp only [S, hre, List.length_nil, bdF (show ¬ (0 : Int) < ((0 : Nat) : Int) by omega)]
              · by_cases e : v = j
                · subst e
                  intro hx
                  exact (hriff.2 ⟨q, hx⟩) hre
                · exact hI v q h1 (by omega) h3 h4
            · refine .inr (.inl ⟨r, hre, ?_, ?_⟩)
              · have : 0 < r.length := List.length_pos_iff.2 hre
                simp only [S, bdT (show (0 : Int) < (r.length : Int) by omega)]
              · obtain ⟨q, h1, h2, h3⟩ := hriff.1 hre
                refine ⟨j :: q, fun x hx => ?_, by simpa using h2, hEj, h3⟩
                rcases List.mem_cons.1 hx with rfl | hx
                · exact ⟨hfj, hj⟩
                · exact h1 x hx
      · rintro m _ ⟨_, hI⟩
        refine .inr ⟨?_, ?_⟩
        · have hml : ((mat0 E n).length : Int) = (n : Int) := by unfold mat0; simp
          simp only [spec_l03Grow_L1, hml, bdF (show ¬ (n : Int) < (n : Int) by omega)]
        · rintro ⟨q, h1, h2, h3⟩
          cases q with
          | nil => rw [show Chain E l [] f = (E l f = true) from rfl, hE] at h3; cases h3
          | cons v q =>
            have hv := h1 v (by simp)
            refine hI v q hv.1 hv.2 h3.1 (fun hm => ?_) ⟨fun x hx => h1 x (by simp [hx]), by simpa using h2, h3.2⟩
            rw [List.nodup_append] at h2
            exact h2.2.2 v hm v (by simp) rfl
theorem specOver_is {F n : Nat} {E : Nat → Nat → Bool} (hF : 134217728 ≤ F) (hn : n ≤ 1000) : ∃ r, spec_l03Over F (mat0 E n) (-1) = some r ∧ (r ≠ [] ↔ ∃ v q, v < n ∧ Cyc E n v q) := by
  unfold spec_l03Over
  have hml : ((mat0 E n).length : Int) = (n : Int) := by unfold mat0; simp
  have H := for0 (L := fun m (_ : Unit) i => spec_l03Over_L1 F (mat0 E n) (-1) m i) (len := n) (fun j _ => ∀ v q, v < j → ¬ Cyc E n v q)
    (R := fun o => (∃ r, r ≠ [] ∧ o = some (.inl r) ∧ ∃ v q, v < n ∧ Cyc E n v q) ∨ (o = some (.inr ()) ∧ ¬ ∃ v q, v < n ∧ Cyc E n v q)) (s := ()) (n := F) ?_ ?_ (fun v q h => by omega) (by omega)
  · rcases H with ⟨r, h1, h2, h3⟩ | ⟨h2, h3⟩
    · exact ⟨r, by simp only [h2, Option.bind_some], ⟨fun _ => h3, fun _ => h1⟩⟩
    · exact ⟨[], by simp only [h2, Option.bind_some], ⟨fun h => absurd rfl h, fun h => absurd h h3⟩⟩
  · intro m j _ hj hI
    obtain ⟨r, hr, hriff⟩ := grow_is (F := F) (E := E) hF hn F [j] j j rfl rfl (by simp) (fun x hx => by simp only [List.mem_singleton] at hx; omega) (by simp only [List.length_singleton]; omega)
    have hgr : spec_l03Grow F (mat0 E n) [(j : Int)] 0 (-1) = some r := hr
    have hext : ∀ q, Ext E n j [j] j q ↔ Cyc E n j q := fun q => Iff.rfl
    by_cases hre : r = []
    · refine .inl ⟨(), ?_, fun v q hv hc => ?_⟩
      · simp only [spec_l03Over_L1, hml, bdT (show (j : Int) < (n : Int) by omega), hgr, Option.bind_some, hre, List.length_nil, bdF (show ¬ (0 : Int) < ((0 : Nat) : Int) by omega), wrN (show j ≤ 67108864 by omega)]
      · by_cases e : v = j
        · subst e
          exact (hriff.2 ⟨q, (hext q).2 hc⟩) hre
        · exact hI v q (by omega) hc
    · refine .inr (.inl ⟨r, hre, ?_, ?_⟩)
      · have : 0 < r.length := List.length_pos_iff.2 hre
        simp only [spec_l03Over_L1, hml, bdT (show (j : Int) < (n : Int) by omega), hgr, Option.bind_some, bdT (show (0 : Int) < (r.length : Int) by omega)]
      · obtain ⟨q, hq⟩ := hriff.1 hre
        exact ⟨j, q, hj, (hext q).1 hq⟩
  · intro m _ hI
    refine .inr ⟨?_, ?_⟩
    · simp only [spec_l03Over_L1, hml, bdF (show ¬ (n : Int) < (n : Int) by omega)]
    · rintro ⟨v, q, hv, hc⟩
      exact hI v q hv hc
/-- is the firing order complete -/
def liveB (g : GEventGraph) (n : Nat) : Bool := (fire (eP g.Places) n n []).isSome
theorem specDead_is {F n : Nat} {g : GEventGraph} (hF : 134217728 ≤ F) (h : GOk g n) : ∃ r, spec_l12Dead F g = some r ∧ decide (0 < (r.length : Int)) = !liveB g n := by
  have h10 := h.n10
  obtain ⟨r, h1, h2⟩ := specOver_is (F := F) (E := eP g.Places) (n := n) hF (by omega)
  refine ⟨r, by unfold spec_l12Dead; rw [bind_of (specFree_is hF h), h1]; rfl, ?_⟩
  unfold liveB
  cases hf : fire (eP g.Places) n n [] with
  | some o =>
    have : r = [] := Classical.byContradiction fun hr => by
      obtain ⟨v, q, _, hc⟩ := h2.1 hr
      exact fire_free h.edge hf hc
    subst this; rfl
  | none =>
    have hr : r ≠ [] := h2.2 (fire_stuck h.edge n [] (OrderOk.nil _ _) (by simp) hf)
    have : 0 < r.length := List.length_pos_iff.2 hr
    simp; exact this

theorem ready_is {g : GEventGraph} {n : Nat} (h : GOk g n) {o : List Nat} {e : Nat} : (!(g.Places.any fun p => p.To == (e : Int) && (p.Tokens == 0 && !((nl o).any fun y => y == p.From)))) = (List.range n).all fun u => !eP g.Places u e || o.contains u := by
  apply Bool.eq_iff_iff.2
  rw [Bool.not_eq_true', List.any_eq_false, List.all_eq_true]
  constructor
  · intro H u hu
    cases he : eP g.Places u e with
    | false => rfl
    | true =>
      unfold eP at he
      rw [List.any_eq_true] at he
      obtain ⟨p, hp, hq⟩ := he
      simp only [Bool.and_eq_true, beq_iff_eq] at hq
      have := H p hp
      rw [hq.1, hq.2.1, hq.2.2, nl_has] at this
      simpa using this
  · intro H p hp hc
    simp only [Bool.and_eq_true, beq_iff_eq, Bool.not_eq_true'] at hc
    obtain ⟨u, v, h1, h2, h3, h4⟩ := h.at' p hp
    have := H u (by simpa using h3)
    rw [h1, nl_has] at hc
    rw [Bool.or_eq_true] at this
    rcases this with h5 | h5
    · have : eP g.Places u e = true := by
        unfold eP
        rw [List.any_eq_true]
        exact ⟨p, hp, by simp only [Bool.and_eq_true, beq_iff_eq]; exact ⟨hc.2.1, hc.1, h1⟩⟩
      rw [this] at h5; cases h5
    · rw [h5] at hc; simp at hc
def nextI : Option Nat → Int
  | some e => (e : Int)
  | none => -1
theorem orderRound {F n : Nat} {g : GEventGraph} (hF : 134217728 ≤ F) (h : GOk g n) {o : List Nat} (ho : o.length ≤ n) :
    impl_firingOrder_L5 F g (nl o) F (-1) 0 = some (nextI (nextOf (eP g.Places) n o)) := by
  have h10 := h.n10
  have hl := h.len
  refine for0 (L := impl_firingOrder_L5 F g (nl o)) (len := n) (fun k s => (s = -1 ∧ ∀ e, e < k → readyB (eP g.Places) n o e = false) ∨ ∃ e : Nat, s = (e : Int) ∧ nextOf (eP g.Places) n o = some e) (R := fun r => r = some (nextI (nextOf (eP g.Places) n o))) ?_ ?_ (.inl ⟨rfl, fun e he => by omega⟩) (by omega)
  · rintro m k s hk (⟨rfl, hI⟩ | ⟨e, rfl, he⟩)
    · have hc : slices_ContainsFunc_Place F g.Places (fun x0 => impl_firingOrder_c1 F x0 (k : Int) (nl o)) = some (g.Places.any fun p => p.To == (k : Int) && (p.Tokens == 0 && !((nl o).any fun y => y == p.From))) := by
        refine slices_ContainsFunc_Place_is hF (by omega) (fun p _ => ?_)
        simp only [impl_firingOrder_c1, implHas_is (F := F) (xs := nl o) (x := p.From) hF (by rw [nl_len]; omega), Option.bind_some]
        cases (p.To == (k : Int)) <;> cases (p.Tokens == 0) <;> rfl
      have S : impl_firingOrder_L5 F g (nl o) (m + 1) (-1) (k : Int) = bif readyB (eP g.Places) n o k then impl_firingOrder_L5 F g (nl o) m (k : Int) ((k + 1 : Nat) : Int) else impl_firingOrder_L5 F g (nl o) m (-1) ((k + 1 : Nat) : Int) := by
        have hlt : decide ((k : Int) < g.Events) = true := by rw [h.ev]; exact decide_eq_true (by omega)
        simp only [impl_firingOrder_L5, hlt, cond_true, Option.bind_some, implHas_is (F := F) (xs := nl o) (x := (k : Int)) hF (by rw [nl_len]; omega), nl_has, hc, ready_is h, wrN (show k ≤ 67108864 by omega), show decide ((-1 : Int) < 0) = true from rfl]
        unfold readyB
        cases o.contains k <;> cases ((List.range n).all fun u => !eP g.Places u k || o.contains u) <;> rfl
      cases hr : readyB (eP g.Places) n o k with
      | true =>
        refine .inl ⟨(k : Int), by rw [S, hr]; rfl, .inr ⟨k, rfl, ?_⟩⟩
        unfold nextOf
        rw [List.find?_eq_some_iff_getElem]
        refine ⟨hr, k, by simpa using hk, by simp, fun j hj => ?_⟩
        simp [hI j hj]
      | false =>
        refine .inl ⟨-1, by rw [S, hr]; rfl, .inl ⟨rfl, fun e he => ?_⟩⟩
        by_cases e2 : e = k
        · subst e2; exact hr
        · exact hI e (by omega)
    · refine .inr ?_
      rw [he]
      have : decide ((e : Int) < 0) = false := decide_eq_false (by omega)
      simp only [impl_firingOrder_L5, this]
      cases decide ((k : Int) < g.Events) <;> rfl
  · rintro m s (⟨rfl, hI⟩ | ⟨e, rfl, he⟩)
    · have hno : nextOf (eP g.Places) n o = none := by
        unfold nextOf
        rw [List.find?_eq_none]
        intro x hx
        rw [hI x (by simpa using hx)]; decide
      rw [hno]
      have hlt : decide ((n : Int) < g.Events) = false := by rw [h.ev]; exact decide_eq_false (by omega)
      simp only [impl_firingOrder_L5, hlt, cond_false, Option.bind_some, nextI]
    · rw [he]
      have hlt : decide ((n : Int) < g.Events) = false := by rw [h.ev]; exact decide_eq_false (by omega)
      simp only [impl_firingOrder_L5, hlt, cond_false, Option.bind_some, nextI]
theorem orderLoop {F n : Nat} {g : GEventGraph} (hF : 134217728 ≤ F) (h : GOk g n) : ∀ (k : Nat) (o : List Nat) (m : Nat), o.length + k = n → k < m →
    impl_firingOrder_L4 F g m (nl o) = some (match fire (eP g.Places) n k o with | some o' => .inr (nl o') | none => .inl ([], false)) := by
  have h10 := h.n10
  intro k
  induction k with
  | zero =>
    intro o m ho hm
    obtain ⟨m, rfl⟩ : ∃ m', m = m' + 1 := ⟨m - 1, by omega⟩
    have : decide (((nl o).length : Int) < g.Events) = false := by rw [h.ev, nl_len]; exact decide_eq_false (by omega)
    simp only [impl_firingOrder_L4, this, cond_false, fire]
  | succ k ih =>
    intro o m ho hm
    obtain ⟨m, rfl⟩ : ∃ m', m = m' + 1 := ⟨m - 1, by omega⟩
    have : decide (((nl o).length : Int) < g.Events) = true := by rw [h.ev, nl_len]; exact decide_eq_true (by omega)
    simp only [impl_firingOrder_L4, this, cond_true, orderRound hF h (show o.length ≤ n by omega), Option.bind_some, fire]
    cases hx : nextOf (eP g.Places) n o with
    | none => rfl
    | some e =>
      have he : decide ((e : Int) < 0) = false := decide_eq_false (by omega)
      have happ : app (nl o) [(e : Int)] = some (nl (o ++ [e])) := by
        rw [app_le (by rw [nl_len]; simp only [List.length_singleton]; omega), nl_app]
      simp only [nextI, happ, Option.bind_some]
      exact ih (o ++ [e]) m (by rw [List.length_append, List.length_singleton]; omega) (by omega)
theorem implOrder_is {F n : Nat} {g : GEventGraph} (hF : 134217728 ≤ F) (h : GOk g n) : impl_firingOrder F g = some (match fire (eP g.Places) n n [] with | some o => (nl o, true) | none => ([], false)) := by
  have h10 := h.n10
  unfold impl_firingOrder
  have := orderLoop hF h n [] F (by simp) (by omega)
  rw [show nl [] = [] from rfl] at this
  rw [this]
  cases fire (eP g.Places) n n [] <;> rfl
theorem implLive_is {F n : Nat} {g : GEventGraph} (hF : 134217728 ≤ F) (h : GOk g n) : impl_isLive F g = some (liveB g n) := by
  unfold impl_isLive liveB
  rw [bind_of (implOrder_is hF h)]
  cases fire (eP g.Places) n n [] <;> rfl

/-! ### The reference's order -/
theorem specReady_is {F n e : Nat} {g : GEventGraph} {o : List Nat} (hF : 134217728 ≤ F) (h : GOk g n) (ho : o.length ≤ n) (he : e < n) : spec_l12Order_L21 F g (mat0 (eP g.Places) n) (nl o) (e : Int) F (!o.contains e) 0 = some (readyB (eP g.Places) n o e) := by
  have h10 := h.n10
  have H := for0 (L := fun m (s : Bool) i => spec_l12Order_L21 F g (mat0 (eP g.Places) n) (nl o) (e : Int) m s i) (len := n) (fun k s => s = (!o.contains e && (List.range k).all fun u => !eP g.Places u e || o.contains u)) (R := fun r => r = some (readyB (eP g.Places) n o e)) (s := !o.contains e) (n := F) ?_ ?_ (by simp) (by omega)
  · exact H
  · rintro m k s hk rfl
    refine .inl ⟨_, ?_, rfl⟩
    have hlt : decide ((k : Int) < g.Events) = true := by rw [h.ev]; exact decide_eq_true (by omega)
    have hcell : idx ((List.range n).map fun u => bif eP g.Places u e then (0 : Int) else (-1000000000000000)) (k : Int) = some (bif eP g.Places k e then 0 else (-1000000000000000)) := by rw [idx_nat, List.getElem?_map, List.getElem?_range hk]; rfl
    simp only [spec_l12Order_L21, hlt, cond_true, idx_nat, mat0_row he, Option.bind_some]
    rw [← idx_nat, hcell]
    simp only [Option.bind_some, specHas_is (F := F) (xs := nl o) (x := (k : Int)) hF (by rw [nl_len]; omega), nl_has, wrN (show k ≤ 67108864 by omega), List.range_succ, List.all_append, List.all_cons, List.all_nil, Bool.and_true]
    cases o.contains e <;> cases ((List.range k).all fun u => !eP g.Places u e || o.contains u) <;> cases eP g.Places k e <;> cases o.contains k <;> rfl
  · rintro m s rfl
    have hlt : decide ((n : Int) < g.Events) = false := by rw [h.ev]; exact decide_eq_false (by omega)
    simp only [spec_l12Order_L21, hlt, cond_false]; rfl
theorem specRound_is {F n : Nat} {g : GEventGraph} {o : List Nat} (hF : 134217728 ≤ F) (h : GOk g n) (ho : o.length ≤ n) : spec_l12Order_L20 F g (mat0 (eP g.Places) n) (nl o) F 0 = some (nl (match nextOf (eP g.Places) n o with | some e => o ++ [e] | none => o)) := by
  have h10 := h.n10
  have H := for0 (L := fun m (_ : Unit) i => spec_l12Order_L20 F g (mat0 (eP g.Places) n) (nl o) m i) (len := n) (fun k _ => ∀ e, e < k → readyB (eP g.Places) n o e = false) (R := fun r => r = some (nl (match nextOf (eP g.Places) n o with | some e => o ++ [e] | none => o))) (s := ()) (n := F) ?_ ?_ (fun e he => by omega) (by omega)
  · exact H
  · intro m k _ hk hI
    have hlt : decide ((k : Int) < g.Events) = true := by rw [h.ev]; exact decide_eq_true (by omega)
    have S : spec_l12Order_L20 F g (mat0 (eP g.Places) n) (nl o) (m + 1) (k : Int) = bif readyB (eP g.Places) n o k then (app (nl o) [(k : Int)]).bind fun xs => some xs else spec_l12Order_L20 F g (mat0 (eP g.Places) n) (nl o) m ((k + 1 : Nat) : Int) := by
      simp only [spec_l12Order_L20, hlt, cond_true, specHas_is (F := F) (xs := nl o) (x := (k : Int)) hF (by rw [nl_len]; omega), nl_has, Option.bind_some, specReady_is hF h ho hk, wrN (show k ≤ 67108864 by omega)]
    cases hr : readyB (eP g.Places) n o k with
    | false =>
      refine .inl ⟨(), by simp only [S, hr, cond_false], fun e he => ?_⟩
      by_cases e2 : e = k
      · subst e2; exact hr
      · exact hI e (by omega)
    | true =>
      refine .inr ?_
      have hn : nextOf (eP g.Places) n o = some k := by
        unfold nextOf
        rw [List.find?_eq_some_iff_getElem]
        exact ⟨hr, k, by simpa using hk, by simp, fun j hj => by simp [hI j hj]⟩
      have happ : app (nl o) [(k : Int)] = some (nl (o ++ [k])) := by
        rw [app_le (by rw [nl_len]; simp only [List.length_singleton]; omega), nl_app]
      simp only [S, hr, cond_true, happ, Option.bind_some, hn]
  · intro m _ hI
    have hno : nextOf (eP g.Places) n o = none := by
      unfold nextOf
      rw [List.find?_eq_none]
      intro x hx
      rw [hI x (by simpa using hx)]; decide
    have hlt : decide ((n : Int) < g.Events) = false := by rw [h.ev]; exact decide_eq_false (by omega)
    simp only [spec_l12Order_L20, hlt, cond_false, hno]
theorem specOrderLoop {F n : Nat} {g : GEventGraph} (hF : 134217728 ≤ F) (h : GOk g n) : ∀ (k : Nat) (o o' : List Nat) (m : Nat), o.length + k = n → k < m → fire (eP g.Places) n k o = some o' → spec_l12Order_L16 F g (mat0 (eP g.Places) n) m (nl o) = some (nl o') := by
  have h10 := h.n10
  intro k
  induction k with
  | zero =>
    intro o o' m ho hm hf
    obtain ⟨m, rfl⟩ : ∃ m', m = m' + 1 := ⟨m - 1, by omega⟩
    unfold fire at hf
    cases hf
    have : decide (((nl o).length : Int) < g.Events) = false := by rw [h.ev, nl_len]; exact decide_eq_false (by omega)
    simp only [spec_l12Order_L16, this, cond_false]
  | succ k ih =>
    intro o o' m ho hm hf
    obtain ⟨m, rfl⟩ : ∃ m', m = m' + 1 := ⟨m - 1, by omega⟩
    have : decide (((nl o).length : Int) < g.Events) = true := by rw [h.ev, nl_len]; exact decide_eq_true (by omega)
    unfold fire at hf
    cases hx : nextOf (eP g.Places) n o with
    | none => rw [hx] at hf; cases hf
    | some e =>
      rw [hx] at hf
      simp only [spec_l12Order_L16, this, cond_true, specRound_is hF h (show o.length ≤ n by omega), Option.bind_some, hx]
      exact ih (o ++ [e]) o' m (by rw [List.length_append, List.length_singleton]; omega) (by omega) hf
theorem specOrder_is {F n : Nat} {g : GEventGraph} (hF : 134217728 ≤ F) (h : GOk g n) {o : List Nat} (ho : fire (eP g.Places) n n [] = some o) : spec_l12Order F g = some (nl o) := by
  have h10 := h.n10
  unfold spec_l12Order
  have := specOrderLoop hF h n [] o F (by simp) (by omega) ho
  rw [show nl [] = [] from rfl] at this
  rw [bind_of (specFree_is hF h), this]; rfl

/-! ### Tables row by row -/
def plD (g : GEventGraph) (i : Nat) : GPlace := g.Places.getD i ⟨0, 0, 0, 0⟩
theorem plD_of {g : GEventGraph} {k : Nat} (h : k < g.Places.length) : g.Places[k]? = some (plD g k) := by
  unfold plD; rw [List.getD_eq_getElem?_getD, List.getElem?_eq_getElem h]; rfl
theorem foldl_len {α : Type} {f : List Int → α → List Int} (hf : ∀ xs a, (f xs a).length = xs.length) : ∀ (l : List α) (xs : List Int), (l.foldl f xs).length = xs.length
  | [], _ => rfl
  | a :: l, xs => by rw [List.foldl_cons, foldl_len hf l, hf]
/-- the parts of a table that is under way -/
structure DOk (g : GEventGraph) (n : Nat) (pre : List (List Int)) (xs : List Int) : Prop where
  rws : ∀ r, r ∈ pre → r.length = n
  row : xs.length = n
  le : pre.length ≤ 50
theorem DOk.at' {g : GEventGraph} {n : Nat} {pre : List (List Int)} {xs : List Int} (h : DOk g n pre xs) {m : Nat} (hm : m ≤ pre.length) : (pre ++ [xs])[m]? = some ((pre ++ [xs]).getD m []) ∧ ((pre ++ [xs]).getD m []).length = n := by
  have hl : m < (pre ++ [xs]).length := by simp; omega
  have e : (pre ++ [xs])[m]? = some ((pre ++ [xs]).getD m []) := by rw [List.getD_eq_getElem?_getD, List.getElem?_eq_getElem hl]; rfl
  refine ⟨e, ?_⟩
  rcases List.mem_append.1 (List.mem_of_getElem? e) with h1 | h1
  · exact h.rws _ h1
  · simp only [List.mem_singleton] at h1; rw [h1]; exact h.row
theorem getN {xs : List Int} {i : Int} {u n : Nat} (h : i = (u : Int)) (hu : u < n) (hx : xs.length = n) : idx xs i = some (xs.getD i.toNat 0) := by
  subst h; rw [idx_nat, Int.toNat_natCast, getD_of (by omega)]
theorem upd_last {pre : List (List Int)} {xs ys : List Int} : upd (pre ++ [xs]) (pre.length : Int) ys = some (pre ++ [ys]) := by
  rw [upd_nat _ (by simp)]; simp
structure PlOk (g : GEventGraph) (n : Nat) (i : Nat) : Prop where
  from' : ∃ u : Nat, (plD g i).From = (u : Int) ∧ u < n
  to' : ∃ v : Nat, (plD g i).To = (v : Int) ∧ v < n
  tok : ∃ w : Nat, (plD g i).Tokens = (w : Int) ∧ w ≤ 5
theorem graphB_tok {g : GEventGraph} (h : graphB g = true) : ∀ p, p ∈ g.Places → 0 ≤ p.Tokens ∧ p.Tokens ≤ 5 ∧ 0 ≤ p.Delay ∧ p.Delay ≤ 1000 := by
  intro p hp
  unfold graphB at h
  simp only [Bool.and_eq_true, List.all_eq_true] at h
  have := h.1 p hp
  simp only [placeB, Bool.and_eq_true, inB_true] at this
  omega
theorem PlOk.of {g : GEventGraph} (h : graphB g = true) {i : Nat} (hi : i < g.Places.length) : PlOk g g.Events.toNat i := by
  have hm : plD g i ∈ g.Places := List.mem_of_getElem? (plD_of hi)
  obtain ⟨u, v, h1, h2, h3, h4⟩ := (GOk.of h).at' _ hm
  have := graphB_tok h _ hm
  exact ⟨⟨u, h1, h3⟩, ⟨v, h2, h4⟩, ⟨(plD g i).Tokens.toNat, by omega, by omega⟩⟩

theorem foldl_range {S : Type} {f : S → Nat → S} {o : List Nat} {s : S} {k : Nat} (hk : k < o.length) : (o.take (k + 1)).foldl f s = f ((o.take k).foldl f s) (o.getD k 0) := by
  have : o[k]? = some (o.getD k 0) := by rw [List.getD_eq_getElem?_getD, List.getElem?_eq_getElem hk]; rfl
  rw [List.take_add_one, this, List.foldl_append]; rfl
def zeros (g : GEventGraph) : List Int := List.replicate g.Events.toNat 0

/-! ### The table of the firing times -/
def tstep (g : GEventGraph) (pre : List (List Int)) (e : Nat) (xs : List Int) (i : Nat) : List Int :=
  bif (plD g i).To == (e : Int) && decide ((plD g i).Tokens ≤ (pre.length : Int)) then xs.set e (max (xs.getD e 0) (IntKind.i64.wrap (((pre ++ [xs]).getD (pre.length - (plD g i).Tokens.toNat) []).getD (plD g i).From.toNat 0 + (plD g i).Delay))) else xs
def tevent (g : GEventGraph) (pre : List (List Int)) (xs : List Int) (e : Nat) : List Int := (List.range g.Places.length).foldl (tstep g pre e) xs
theorem tstep_len (g : GEventGraph) (pre : List (List Int)) (e : Nat) (xs : List Int) (i : Nat) : (tstep g pre e xs i).length = xs.length := by
  unfold tstep
  cases ((plD g i).To == (e : Int) && decide ((plD g i).Tokens ≤ (pre.length : Int))) <;> simp
theorem tevent_len (g : GEventGraph) (pre : List (List Int)) (xs : List Int) (e : Nat) : (tevent g pre xs e).length = xs.length := foldl_len (tstep_len g pre e) _ _
theorem specTInner {F : Nat} {g : GEventGraph} {pre ms0 : List (List Int)} {xs : List Int} {r3 : List Int} {e j : Nat} (hF : 134217728 ≤ F) (hg : graphB g = true) (h : DOk g g.Events.toNat pre xs) (hms : ms0.length = pre.length) (hr : r3[j]? = some (e : Int)) :
    spec_l13Times_L21 F g r3 ms0 ((pre.length : Int) + 1) (j : Int) F (pre ++ [xs]) 0 xs = some (pre ++ [tevent g pre xs e], tevent g pre xs e) := by
  have hG := GOk.of hg
  have hlen := hG.len
  have hle := h.le
  have H := for0 (L := fun m (s : List (List Int) × List Int) i => spec_l13Times_L21 F g r3 ms0 ((pre.length : Int) + 1) (j : Int) m s.1 i s.2) (len := g.Places.length)
    (fun k s => s = (pre ++ [(List.range k).foldl (tstep g pre e) xs], (List.range k).foldl (tstep g pre e) xs)) (R := fun o => o = some (pre ++ [tevent g pre xs e], tevent g pre xs e)) (s := (pre ++ [xs], xs)) (n := F) ?_ ?_ rfl (by omega)
  · exact H
  · rintro m k s hk rfl
    have hys : ((List.range k).foldl (tstep g pre e) xs).length = g.Events.toNat := by rw [foldl_len (tstep_len g pre e)]; exact h.row
    generalize hyd : (List.range k).foldl (tstep g pre e) xs = ys at hys
    have hD : DOk g g.Events.toNat pre ys := ⟨h.rws, hys, h.le⟩
    obtain ⟨⟨u, hu, hun⟩, ⟨v, hv, hvn⟩, ⟨w, hw, hw5⟩⟩ := PlOk.of hg hk
    have hstep : (List.range (k + 1)).foldl (tstep g pre e) xs = tstep g pre e ys k := by rw [List.range_succ, List.foldl_append, hyd]; rfl
    refine .inl ⟨(pre ++ [tstep g pre e ys k], tstep g pre e ys k), ?_, by rw [hstep]⟩
    have hwr : IntKind.i64.wrap ((pre.length : Int) + 1 - (plD g k).Tokens) = (pre.length : Int) + 1 - w := by rw [hw]; exact wr (by omega) (by omega)
    simp only [spec_l13Times_L21, bdT (show (k : Int) < (g.Places.length : Int) by omega), idx_nat, plD_of hk, hr, Option.bind_some, hwr, wrN (show k ≤ 67108864 by omega)]
    by_cases hto : (plD g k).To = (e : Int)
    · rw [bT (show ((plD g k).To == (e : Int)) = true by rw [hto, beq_self_eq_true])]
      by_cases htk : w ≤ pre.length
      · rw [decide_eq_true (show (1 : Int) ≤ (pre.length : Int) + 1 - (w : Int) by omega)]
        have hve : v = e := by omega
        subst hve
        have hw2 : IntKind.i64.wrap ((pre.length : Int) + 1 - (w : Int) - 1) = ((pre.length - w : Nat) : Int) := by rw [wr (by omega) (by omega)]; omega
        obtain ⟨ha, hb⟩ := hD.at' (m := pre.length - w) (by omega)
        have hx := getN (xs := ys) hv hvn hys
        have hrow := getN (xs := (pre ++ [ys]).getD (pre.length - w) []) hu hun hb
        have htn : (plD g k).To.toNat = v := by rw [hv]; rfl
        have hupd : ∀ y, upd ys (plD g k).To y = some (ys.set v y) := fun y => by rw [hv, upd_nat _ (by omega)]
        have hms' : (ms0.length : Int) = (pre.length : Int) := by omega
        simp only [Option.bind_some, cond_true, hx, hw2, idx_nat, ha, hrow, hupd, hms', upd_last, htn]
        unfold tstep
        rw [hv, beq_self_eq_true, hw, decide_eq_true (show (w : Int) ≤ (pre.length : Int) by omega)]
        simp only [Bool.and_self, cond_true, Int.toNat_natCast]
      · rw [decide_eq_false (show ¬ (1 : Int) ≤ (pre.length : Int) + 1 - (w : Int) by omega)]
        simp only [Option.bind_some, cond_false]
        unfold tstep
        rw [hw, decide_eq_false (show ¬ (w : Int) ≤ (pre.length : Int) by omega), Bool.and_false]; rfl
    · rw [bF (beq_false_of_ne hto)]
      simp only [Option.bind_some, cond_false]
      unfold tstep
      rw [beq_false_of_ne hto, Bool.false_and]; rfl
  · rintro m s rfl
    simp only [spec_l13Times_L21, bdF (show ¬ (g.Places.length : Int) < (g.Places.length : Int) by omega)]; rfl
theorem last_at {pre : List (List Int)} {xs : List Int} : (pre ++ [xs])[pre.length]? = some xs := by simp
theorem implTInner {F : Nat} {g : GEventGraph} {pre : List (List Int)} {xs : List Int} {e : Nat} (hF : 134217728 ≤ F) (hg : graphB g = true) (h : DOk g g.Events.toNat pre xs) (he : e < g.Events.toNat) :
    impl_firingTimes_L21 F g (pre.length : Int) (e : Int) F (pre ++ [xs]) 0 = some (pre ++ [tevent g pre xs e]) := by
  have hG := GOk.of hg
  have hlen := hG.len
  have hle := h.le
  have H := for0 (L := fun m (s : List (List Int)) i => impl_firingTimes_L21 F g (pre.length : Int) (e : Int) m s i) (len := g.Places.length)
    (fun k s => s = pre ++ [(List.range k).foldl (tstep g pre e) xs]) (R := fun o => o = some (pre ++ [tevent g pre xs e])) (s := pre ++ [xs]) (n := F) ?_ ?_ rfl (by omega)
  · exact H
  · rintro m k s hk rfl
    have hys : ((List.range k).foldl (tstep g pre e) xs).length = g.Events.toNat := by rw [foldl_len (tstep_len g pre e)]; exact h.row
    generalize hyd : (List.range k).foldl (tstep g pre e) xs = ys at hys
    have hD : DOk g g.Events.toNat pre ys := ⟨h.rws, hys, h.le⟩
    obtain ⟨⟨u, hu, hun⟩, ⟨v, hv, hvn⟩, ⟨w, hw, hw5⟩⟩ := PlOk.of hg hk
    have hstep : (List.range (k + 1)).foldl (tstep g pre e) xs = tstep g pre e ys k := by rw [List.range_succ, List.foldl_append, hyd]; rfl
    refine .inl ⟨pre ++ [tstep g pre e ys k], ?_, by rw [hstep]⟩
    simp only [impl_firingTimes_L21, bdT (show (k : Int) < (g.Places.length : Int) by omega), idx_nat, plD_of hk, Option.bind_some, wrN (show k ≤ 67108864 by omega)]
    by_cases hto : (plD g k).To = (e : Int)
    · by_cases htk : w ≤ pre.length
      · have hd : decide ((plD g k).Tokens ≤ (pre.length : Int)) = true := by rw [hw]; exact decide_eq_true (by omega)
        have hw2 : IntKind.i64.wrap ((pre.length : Int) - (plD g k).Tokens) = ((pre.length - w : Nat) : Int) := by rw [hw, wr (by omega) (by omega)]; omega
        obtain ⟨ha, hb⟩ := hD.at' (m := pre.length - w) (by omega)
        have hrow := getN (xs := (pre ++ [ys]).getD (pre.length - w) []) hu hun hb
        have hx : ys[e]? = some (ys.getD e 0) := getD_of (by omega)
        rw [hto, beq_self_eq_true]
        simp only [cond_true, Option.bind_some, hd, hx, hw2, idx_nat, last_at, ha, hrow, upd_nat _ (show e < ys.length by omega), upd_last]
        unfold tstep
        rw [hto, beq_self_eq_true, hd, hw]
        simp only [Bool.and_self, cond_true, Int.toNat_natCast]
      · have hd : decide ((plD g k).Tokens ≤ (pre.length : Int)) = false := by rw [hw]; exact decide_eq_false (by omega)
        rw [hto, beq_self_eq_true]
        simp only [cond_true, Option.bind_some, hd, cond_false]
        unfold tstep
        rw [hd, Bool.and_false]; rfl
    · rw [beq_false_of_ne hto]
      simp only [cond_false, Option.bind_some]
      unfold tstep
      rw [beq_false_of_ne hto, Bool.false_and]; rfl
  · rintro m s rfl
    simp only [impl_firingTimes_L21, bdF (show ¬ (g.Places.length : Int) < (g.Places.length : Int) by omega)]; rfl
def tround (g : GEventGraph) (o : List Nat) (pre : List (List Int)) (xs : List Int) : List Int := o.foldl (tevent g pre) xs
theorem tround_len (g : GEventGraph) (o : List Nat) (pre : List (List Int)) (xs : List Int) : (tround g o pre xs).length = xs.length := foldl_len (tevent_len g pre) _ _
theorem specTEvents {F : Nat} {g : GEventGraph} {o : List Nat} {pre ms0 : List (List Int)} {xs : List Int} (hF : 134217728 ≤ F) (hg : graphB g = true) (h : DOk g g.Events.toNat pre xs) (hms : ms0.length = pre.length) (hol : o.length ≤ 10) :
    spec_l13Times_L20 F g (nl o) ms0 ((pre.length : Int) + 1) F (pre ++ [xs]) 0 xs = some (pre ++ [tround g o pre xs]) := by
  have H := for0 (L := fun m (s : List (List Int) × List Int) i => spec_l13Times_L20 F g (nl o) ms0 ((pre.length : Int) + 1) m s.1 i s.2) (len := o.length)
    (fun k s => s = (pre ++ [(o.take k).foldl (tevent g pre) xs], (o.take k).foldl (tevent g pre) xs)) (R := fun q => q = some (pre ++ [tround g o pre xs])) (s := (pre ++ [xs], xs)) (n := F) ?_ ?_ rfl (by omega)
  · exact H
  · rintro m k s hk rfl
    have hys : ((o.take k).foldl (tevent g pre) xs).length = g.Events.toNat := by rw [foldl_len (tevent_len g pre)]; exact h.row
    have hD : DOk g g.Events.toNat pre ((o.take k).foldl (tevent g pre) xs) := ⟨h.rws, hys, h.le⟩
    have hok : o[k]? = some (o.getD k 0) := by rw [List.getD_eq_getElem?_getD, List.getElem?_eq_getElem hk]; rfl
    have hr : (nl o)[k]? = some ((o.getD k 0 : Nat) : Int) := by rw [nl_at, hok]; rfl
    refine .inl ⟨_, ?_, rfl⟩
    simp only [spec_l13Times_L20, nl_len, bdT (show (k : Int) < (o.length : Int) by omega), specTInner hF hg hD hms hr, Option.bind_some, wrN (show k ≤ 67108864 by omega), foldl_range hk]
  · rintro m s rfl
    simp only [spec_l13Times_L20, nl_len, bdF (show ¬ (o.length : Int) < (o.length : Int) by omega), List.take_length]; rfl
theorem implTEvents {F : Nat} {g : GEventGraph} {o : List Nat} {b : Bool} {pre : List (List Int)} {xs : List Int} (hF : 134217728 ≤ F) (hg : graphB g = true) (h : DOk g g.Events.toNat pre xs) (ho : ∀ x, x ∈ o → x < g.Events.toNat) (hol : o.length ≤ 10) :
    impl_firingTimes_L20 F g (nl o, b) (pre.length : Int) F (pre ++ [xs]) 0 = some (pre ++ [tround g o pre xs]) := by
  have H := for0 (L := fun m (s : List (List Int)) i => impl_firingTimes_L20 F g (nl o, b) (pre.length : Int) m s i) (len := o.length)
    (fun k s => s = pre ++ [(o.take k).foldl (tevent g pre) xs]) (R := fun q => q = some (pre ++ [tround g o pre xs])) (s := pre ++ [xs]) (n := F) ?_ ?_ rfl (by omega)
  · exact H
  · rintro m k s hk rfl
    have hys : ((o.take k).foldl (tevent g pre) xs).length = g.Events.toNat := by rw [foldl_len (tevent_len g pre)]; exact h.row
    have hD : DOk g g.Events.toNat pre ((o.take k).foldl (tevent g pre) xs) := ⟨h.rws, hys, h.le⟩
    have hok : o[k]? = some (o.getD k 0) := by rw [List.getD_eq_getElem?_getD, List.getElem?_eq_getElem hk]; rfl
    have hr : (nl o)[k]? = some ((o.getD k 0 : Nat) : Int) := by rw [nl_at, hok]; rfl
    refine .inl ⟨_, ?_, rfl⟩
    simp only [impl_firingTimes_L20, nl_len, bdT (show (k : Int) < (o.length : Int) by omega), idx_nat, hr, implTInner hF hg hD (ho _ (List.mem_of_getElem? hok)), Option.bind_some, wrN (show k ≤ 67108864 by omega), foldl_range hk]
  · rintro m s rfl
    simp only [impl_firingTimes_L20, nl_len, bdF (show ¬ (o.length : Int) < (o.length : Int) by omega), List.take_length]; rfl
def ttab (g : GEventGraph) (o : List Nat) (xs : List Int) : Nat → List (List Int)
  | 0 => []
  | k + 1 => ttab g o xs k ++ [tround g o (ttab g o xs k) xs]
theorem ttab_len (g : GEventGraph) (o : List Nat) (xs : List Int) : ∀ k, (ttab g o xs k).length = k
  | 0 => rfl
  | k + 1 => by unfold ttab; rw [List.length_append, ttab_len g o xs k]; rfl
theorem ttab_rows {g : GEventGraph} {o : List Nat} {xs : List Int} (hd : xs.length = g.Events.toNat) : ∀ k r, r ∈ ttab g o xs k → r.length = g.Events.toNat
  | 0, r, h => by cases h
  | k + 1, r, h => by
    unfold ttab at h
    rcases List.mem_append.1 h with h | h
    · exact ttab_rows hd k r h
    · simp only [List.mem_singleton] at h
      rw [h, tround_len]; exact hd
theorem specTimes13_is {F n : Nat} {g : GEventGraph} {o : List Nat} {xs : List Int} (hF : 134217728 ≤ F) (hg : graphB g = true) (ho : fire (eP g.Places) g.Events.toNat g.Events.toNat [] = some o) (hd : xs.length = g.Events.toNat) (hn : n ≤ 50) : spec_l13Times F g (n : Int) xs = some (ttab g o xs n) := by
  have hG := GOk.of hg
  have h10 := hG.n10
  obtain ⟨hok, hol⟩ := fire_ok hG.edge _ [] o (OrderOk.nil _ _) ho
  have hol' : o.length ≤ 10 := by simp at hol; omega
  unfold spec_l13Times
  rw [bind_of (specOrder_is hF hG ho)]
  have H := for_ind (L := fun m (s : List (List Int)) i => spec_l13Times_L16 F g (n : Int) xs (nl o) m s (i + 1)) n (fun k s => s = ttab g o xs k) (fun q => q = some (ttab g o xs n)) ?_ ?_ n 0 [] F (by omega) rfl (by omega)
  · rw [show (((0 : Nat) : Int) + 1) = 1 from rfl] at H; rw [H]; rfl
  · rintro m k s hk rfl
    refine .inl ⟨_, ?_, rfl⟩
    have hown : spec_l01Own F xs = some xs := by
      unfold spec_l01Own
      rw [app_le (by simp only [List.length_nil]; omega)]; rfl
    have hlen := ttab_len g o xs k
    have hD : DOk g g.Events.toNat (ttab g o xs k) xs := ⟨ttab_rows hd k, hd, by omega⟩
    have happ : app (ttab g o xs k) [xs] = some (ttab g o xs k ++ [xs]) := app_le (by simp only [List.length_singleton]; omega)
    have hev2 := specTEvents (F := F) (ms0 := ttab g o xs k) hF hg hD rfl hol'
    rw [hlen] at hev2
    simp only [spec_l13Times_L16, bdT (show (k : Int) + 1 ≤ (n : Int) by omega), hown, happ, Option.bind_some, hev2, wr (show -9223372036854775808 ≤ (k : Int) + 1 + 1 by omega) (by omega)]
    rfl
  · rintro m s rfl
    simp only [spec_l13Times_L16, bdF (show ¬ (n : Int) + 1 ≤ (n : Int) by omega)]
theorem implTimes13_is {F n : Nat} {g : GEventGraph} {o : List Nat} {xs : List Int} (hF : 134217728 ≤ F) (hg : graphB g = true) (ho : fire (eP g.Places) g.Events.toNat g.Events.toNat [] = some o) (hd : xs.length = g.Events.toNat) (hn : n ≤ 50) : impl_firingTimes F g (n : Int) xs = some (ttab g o xs n) := by
  have hG := GOk.of hg
  have h10 := hG.n10
  obtain ⟨hok, hol⟩ := fire_ok hG.edge _ [] o (OrderOk.nil _ _) ho
  have hol' : o.length ≤ 10 := by simp at hol; omega
  unfold impl_firingTimes
  rw [bind_of (implOrder_is hF hG), ho]
  simp only
  have H := for0 (L := fun m (s : List (List Int)) i => impl_firingTimes_L16 F g (n : Int) xs (nl o, true) m s i) (len := n) (fun k s => s = ttab g o xs k) (R := fun q => q = some (ttab g o xs n)) (s := []) (n := F) ?_ ?_ rfl (by omega)
  · rw [H]; rfl
  · rintro m k s hk rfl
    refine .inl ⟨_, ?_, rfl⟩
    have hcl : slices_Clone_int64 F xs = some xs := by
      unfold slices_Clone_int64
      rw [app_le (by simp only [List.length_nil]; omega)]; rfl
    have hlen := ttab_len g o xs k
    have hD : DOk g g.Events.toNat (ttab g o xs k) xs := ⟨ttab_rows hd k, hd, by omega⟩
    have happ : app (ttab g o xs k) [xs] = some (ttab g o xs k ++ [xs]) := app_le (by simp only [List.length_singleton]; omega)
    have hev2 := implTEvents (F := F) (b := true) hF hg hD hok.lt hol'
    rw [hlen] at hev2
    simp only [impl_firingTimes_L16, bdT (show (k : Int) < (n : Int) by omega), hcl, happ, Option.bind_some, hev2, wrN (show k ≤ 67108864 by omega)]
    rfl
  · rintro m s rfl
    simp only [impl_firingTimes_L16, bdF (show ¬ (n : Int) < (n : Int) by omega)]

/-! ### Due tables -/
theorem specWithin_is {F : Nat} {xs : List Int} {most lo hi : Int} (hF : 134217728 ≤ F) (hl : xs.length ≤ 1048576) : spec_l01Within F xs most lo hi = some ((xs.all fun x => inB x lo hi) && decide ((xs.length : Int) ≤ most)) := by
  unfold spec_l01Within
  rw [all_loop (ps := xs) (g := fun x => inB x lo hi) (r := false) (L := spec_l01Within_L1 F xs lo hi) ?_ ?_ (by omega)]
  · cases xs.all (fun x => inB x lo hi) <;> rfl
  · intro n k x hk hx
    simp only [spec_l01Within_L1, bdT (show (k : Int) < (xs.length : Int) by omega), idx_nat, hx, Option.bind_some, specIn_is, condn, wrN (show k ≤ 67108864 by omega)]
  · intro n
    simp only [spec_l01Within_L1, bdF (show ¬ (xs.length : Int) < (xs.length : Int) by omega)]
def rowB (g : GEventGraph) (xs : List Int) : Bool := ((xs.length : Int) == g.Events) && xs.all fun x => inB x 0 1000000
def dueB (g : GEventGraph) (due : List (List Int)) : Bool := due.all (rowB g) && decide ((due.length : Int) ≤ 50)
theorem implDue_is {F : Nat} {g : GEventGraph} {due : List (List Int)} (hF : 134217728 ≤ F) (hl : due.length ≤ 1048576) (hr : ∀ row, row ∈ due → row.length ≤ 1048576) : impl_isTimeTable F g due = some (dueB g due) := by
  have hc : slices_ContainsFunc_sint64 F due (fun x0 => impl_isTimeTable_c1 F x0 g) = some (due.any fun r => !rowB g r) := by
    refine slices_ContainsFunc_sint64_is hF (by omega) (fun r hm => ?_)
    simp only [impl_isTimeTable_c1, implAllWithin_is hF (hr r hm), Option.bind_some, bne, rowB]
    cases ((r.length : Int) == g.Events) <;> cases (r.all fun x => inB x 0 1000000) <;> rfl
  unfold impl_isTimeTable dueB
  rw [hc, any_not]
  simp only [Option.bind_some]
  cases decide ((due.length : Int) ≤ 50) <;> cases due.all (rowB g) <;> rfl
theorem specDue_is {F : Nat} {g : GEventGraph} {due : List (List Int)} (hF : 134217728 ≤ F) (hg : graphB g = true) (hl : due.length ≤ 1048576) (hr : ∀ row, row ∈ due → row.length ≤ 1048576) : spec_l22Due F g due = some (dueB g due) := by
  have h10 := (graphB_true hg).2.1
  unfold spec_l22Due
  rw [all_loop (ps := due) (g := rowB g) (r := false) (L := spec_l22Due_L1 F g due) ?_ ?_ (by omega)]
  · unfold dueB; cases due.all (rowB g) <;> rfl
  · intro n k row hk hrow
    simp only [spec_l22Due_L1, bdT (show (k : Int) < (due.length : Int) by omega), idx_nat, hrow, Option.bind_some, specWithin_is hF (hr row (List.mem_of_getElem? hrow)), wrN (show k ≤ 67108864 by omega), bne, rowB]
    cases he : ((row.length : Int) == g.Events) with
    | false => rfl
    | true =>
      rw [beq_iff_eq] at he
      rw [decide_eq_true (show (row.length : Int) ≤ 10 by omega)]
      cases (row.all fun x => inB x 0 1000000) <;> rfl
  · intro n
    simp only [spec_l22Due_L1, bdF (show ¬ (due.length : Int) < (due.length : Int) by omega)]
theorem specDueTot {F : Nat} {g : GEventGraph} {due : List (List Int)} (hF : 134217728 ≤ F) (hl : due.length ≤ 1048576) (hr : ∀ row, row ∈ due → row.length ≤ 1048576) : ∃ b, spec_l22Due F g due = some b := by
  unfold spec_l22Due
  rw [all_loop (ps := due) (g := fun r => ((r.length : Int) == g.Events) && ((r.all fun x => inB x 0 1000000) && decide ((r.length : Int) ≤ 10))) (r := false) (L := spec_l22Due_L1 F g due) ?_ ?_ (by omega)]
  · cases (due.all fun r => ((r.length : Int) == g.Events) && ((r.all fun x => inB x 0 1000000) && decide ((r.length : Int) ≤ 10))) <;> exact ⟨_, rfl⟩
  · intro n k row hk hrow
    simp only [spec_l22Due_L1, bdT (show (k : Int) < (due.length : Int) by omega), idx_nat, hrow, Option.bind_some, specWithin_is hF (hr row (List.mem_of_getElem? hrow)), wrN (show k ≤ 67108864 by omega), bne]
    cases ((row.length : Int) == g.Events) <;> cases (row.all fun x => inB x 0 1000000) <;> cases decide ((row.length : Int) ≤ 10) <;> rfl
  · intro n
    simp only [spec_l22Due_L1, bdF (show ¬ (due.length : Int) < (due.length : Int) by omega)]
def dueCode (g : GEventGraph) (due : List (List Int)) : Int := bif !graphB g then 1 else bif !dueB g due then 2 else bif !liveB g g.Events.toNat then 5 else 0
theorem specDueCode_is {F : Nat} {g : GEventGraph} {due : List (List Int)} (hF : 134217728 ≤ F) (hP : g.Places.length ≤ 1048576) (hl : due.length ≤ 1048576) (hr : ∀ row, row ∈ due → row.length ≤ 1048576) : ((spec_l22Due F g due).bind fun r => spec_l13Code F g r) = some (dueCode g due) := by
  unfold spec_l13Code spec_l12Live dueCode
  rw [specGraph_is hF hP]
  cases hg : graphB g with
  | false =>
    obtain ⟨b, hb⟩ := specDueTot (g := g) hF hl hr
    rw [hb]; rfl
  | true =>
    obtain ⟨r, hr1, hr2⟩ := specDead_is hF (GOk.of hg)
    simp only [specDue_is hF hg hl hr, Option.bind_some, Bool.not_true, cond_false, hr1, hr2]
    cases dueB g due <;> cases liveB g g.Events.toNat <;> rfl
theorem implDueCode_is {F : Nat} {g : GEventGraph} {due : List (List Int)} (hF : 134217728 ≤ F) (hP : g.Places.length ≤ 1048576) (hl : due.length ≤ 1048576) (hr : ∀ row, row ∈ due → row.length ≤ 1048576) : impl_checkDue F g due = some (dueCode g due) := by
  unfold impl_checkDue dueCode
  rw [bind_of (implGraph_is hF hP)]
  cases hg : graphB g with
  | false => rfl
  | true =>
    simp only [Bool.not_true, cond_false, implDue_is hF hl hr, Option.bind_some, implLive_is hF (GOk.of hg)]
    cases dueB g due <;> cases liveB g g.Events.toNat <;> rfl
theorem dueCode_zero {g : GEventGraph} {due : List (List Int)} (h : dueCode g due = 0) : graphB g = true ∧ dueB g due = true ∧ ∃ o, fire (eP g.Places) g.Events.toNat g.Events.toNat [] = some o := by
  unfold dueCode at h
  have : graphB g = true ∧ dueB g due = true ∧ liveB g g.Events.toNat = true := by
    revert h
    cases graphB g <;> cases dueB g due <;> cases liveB g g.Events.toNat <;> simp
  refine ⟨this.1, this.2.1, ?_⟩
  have h3 := this.2.2
  unfold liveB at h3
  exact Option.isSome_iff_exists.1 h3
theorem dueB_true {g : GEventGraph} {due : List (List Int)} (hg : graphB g = true) (h : dueB g due = true) : due.length ≤ 50 ∧ ∀ r, r ∈ due → r.length = g.Events.toNat ∧ ∀ x, x ∈ r → 0 ≤ x ∧ x ≤ 1000000 := by
  have h1 := (graphB_true hg).1
  unfold dueB rowB at h
  simp only [Bool.and_eq_true, List.all_eq_true, beq_iff_eq, decide_eq_true_eq, inB_true] at h
  refine ⟨by omega, fun r hr => ?_⟩
  have := h.1 r hr
  exact ⟨by omega, this.2⟩

end Go.Proofs.Ythbcakdjdbfepaa
