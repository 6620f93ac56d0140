/- Plain lemmas about the small functions of the laws. -/
import Derived.Test.YtmijmamolmoheaaPositiveCycleModels
import Derived.Test.YtmijmamolmoheaaDfs
namespace Go.Proofs.Ytmijmamolmoheaa

def toP_Int64 (p : Int) : Int := p
theorem szInt64S_is {F : Nat} {ps : List Int} {left : Int} (h0 : 0 ≤ left) (h1 : left ≤ 1048576) (h : ps.length ≤ 9223372036854775807) : ∃ r, laws_szInt64S F ps left = some r ∧ (r < 0 ∨ (0 ≤ r ∧ r + ps.length = left)) := by
  unfold laws_szInt64S
  rw [wr (by omega) (by omega)]
  by_cases hc : left - (ps.length : Int) < 0
  · exact ⟨-1, by rw [bdT hc], .inl (by decide)⟩
  · exact ⟨left - ps.length, by rw [bdF hc], .inr ⟨by omega, by omega⟩⟩
theorem toInt64S_is {F : Nat} {ps : List Int} (hF : 134217728 ≤ F) (h : ps.length ≤ 1048576) : laws_toInt64S F ps = some (ps.map toP_Int64) := by
  unfold laws_toInt64S
  rw [mk_nat _ (by omega)]
  simp only [Option.bind_some]
  rw [fill_loop (ps := ps) (f := toP_Int64) (L := laws_toInt64S_L1 F ps) ?_ ?_ (by simp) (by omega)]; rfl
  · intro n xs k x hk hx hl
    have hk' : k < xs.length := by omega
    have hq : xs[k]? = some xs[k] := List.getElem?_eq_getElem hk'
    simp only [laws_toInt64S_L1, bdT (show (k : Int) < (ps.length : Int) by omega), idx_nat, hx, hq, Option.bind_some, upd_nat, hk', wrN (show k ≤ 67108864 by omega), toP_Int64]
  · intro n xs
    simp only [laws_toInt64S_L1, bdF (show ¬ (ps.length : Int) < (ps.length : Int) by omega)]
theorem eqInt64S_same {F : Nat} {xs : List Int} (hF : 134217728 ≤ F) (h : xs.length ≤ 16777216) : laws_eqInt64S F xs xs = some true := by
  unfold laws_eqInt64S
  rw [bF (neF rfl), same_loop (L := laws_eqInt64S_L1 F xs xs) (len := xs.length) ?_ ?_ (by omega)]; rfl
  · intro n k hk
    have hq : xs[k]? = some xs[k] := List.getElem?_eq_getElem hk
    simp only [laws_eqInt64S_L1, bdT (show (k : Int) < (xs.length : Int) by omega), idx_nat, hq, Option.bind_some, bne_self_eq_false, cond_false, wrN (show k ≤ 67108864 by omega)]
  · intro n
    simp only [laws_eqInt64S_L1, bdF (show ¬ (xs.length : Int) < (xs.length : Int) by omega)]
def mrk_Int64 (k : Int) (i : Nat) : Int := k + 1 * (i : Int)
theorem markInt64S_is {F : Nat} {ps : List Int} {k : Int} (hF : 134217728 ≤ F) (h : ps.length ≤ 16777216) (h0 : 0 ≤ k) (h1 : k ≤ 1000000000000) :
    ∃ ms, laws_markInt64S F ps k = some (k + 1 * (ps.length : Int), ms) ∧ ms.length = ps.length ∧ ∀ i, i < ps.length → ms[i]? = some (mrk_Int64 k i) := by
  have H := for0 (L := fun n (s : List Int × Int) i => laws_markInt64S_L1 F n s.1 s.2 i) (len := ps.length) (fun j s => s.1.length = ps.length ∧ s.2 = k + 1 * (j : Int) ∧ ∀ i, i < j → s.1[i]? = some (mrk_Int64 k i))
    (R := fun r => ∃ ms, r = some (ms, k + 1 * (ps.length : Int)) ∧ ms.length = ps.length ∧ ∀ i, i < ps.length → ms[i]? = some (mrk_Int64 k i)) (s := (ps, k)) (n := F) ?_ ?_ ⟨rfl, by simp, by intro i hi; omega⟩ (by omega)
  · obtain ⟨ms, he, hl, hi⟩ := H
    refine ⟨ms, ?_, hl, hi⟩
    unfold laws_markInt64S
    rw [bind_of he]
  · rintro n j ⟨xs, s⟩ hj ⟨hl, hs, hi⟩
    simp only at hl hs hi
    subst hs
    have hk' : j < xs.length := by omega
    have hq : xs[j]? = some xs[j] := List.getElem?_eq_getElem hk'
    have w1 : IntKind.i64.wrap (k + 1 * (j : Int) + 1) = k + 1 * (j : Int) + 1 := wr (by omega) (by omega)
    refine .inl ⟨(xs.set j (mrk_Int64 k j), k + 1 * (j : Int) + 1), ?_, by rw [List.length_set]; exact hl, by simp only; omega, ?_⟩
    · simp only [laws_markInt64S_L1, bdT (show (j : Int) < (xs.length : Int) by omega), idx_nat, hq, Option.bind_some, upd_nat, hk', wrN (show j ≤ 67108864 by omega), w1, mrk_Int64]
    · intro i hij
      by_cases e : i = j
      · subst e; exact set_here hk'
      · simp only; rw [set_keep e]; exact hi i (by omega)
  · rintro n ⟨xs, s⟩ ⟨hl, hs, hi⟩
    simp only at hl hs hi
    refine ⟨xs, ?_, hl, hi⟩
    simp only [laws_markInt64S_L1, bdF (show ¬ (ps.length : Int) < (xs.length : Int) by omega), hs]
theorem heldInt64S_is {F : Nat} {ms : List Int} {k : Int} (hF : 134217728 ≤ F) (h : ms.length ≤ 16777216) (h0 : 0 ≤ k) (h1 : k ≤ 1000000000000) (hm : ∀ i, i < ms.length → ms[i]? = some (mrk_Int64 k i)) :
    laws_heldInt64S F ms k = some (k + 1 * (ms.length : Int)) := by
  unfold laws_heldInt64S
  rw [show laws_heldInt64S_L1 F ms F k 0 = some (.inr (k + 1 * (ms.length : Int))) from ?_]; rfl
  refine for0 (L := fun n (s : Int) i => laws_heldInt64S_L1 F ms n s i) (len := ms.length) (fun j s => s = k + 1 * (j : Int)) (R := fun r => r = some (.inr (k + 1 * (ms.length : Int)))) ?_ ?_ (by simp) (by omega)
  · rintro n j s hj rfl
    have w1 : IntKind.i64.wrap (k + 1 * (j : Int) + 1) = k + 1 * (j : Int) + 1 := wr (by omega) (by omega)
    refine .inl ⟨k + 1 * (j : Int) + 1, ?_, by omega⟩
    simp only [laws_heldInt64S_L1, bdT (show (j : Int) < (ms.length : Int) by omega), idx_nat, hm j hj, Option.bind_some, wrN (show j ≤ 67108864 by omega), w1, mrk_Int64, bne_self_eq_false, cond_false]
  · rintro n s rfl
    simp only [laws_heldInt64S_L1, bdF (show ¬ (ms.length : Int) < (ms.length : Int) by omega)]

theorem slices_IndexFunc_int64_is {F : Nat} {ps : List Int} {m : Int → Option Bool} {h : Int → Bool} (hF : 134217728 ≤ F) (hl : ps.length ≤ 16777216) (hm : ∀ x, x ∈ ps → m x = some (h x)) :
    slices_IndexFunc_int64 F ps m = some (firstAt (ps.findIdx? h)) := by
  unfold slices_IndexFunc_int64
  rw [find_loop (ps := ps) (h := h) (v := fun k => (k : Int)) (L := slices_IndexFunc_int64_L1 F ps m) ?_ ?_ (by omega)]
  · cases ps.findIdx? h <;> rfl
  · intro n k x hk hx
    simp only [slices_IndexFunc_int64_L1, bdT (show (k : Int) < (ps.length : Int) by omega), idx_nat, hx, Option.bind_some, hm x (List.mem_of_getElem? hx), wrN (show k ≤ 67108864 by omega)]
  · intro n
    simp only [slices_IndexFunc_int64_L1, bdF (show ¬ (ps.length : Int) < (ps.length : Int) by omega)]
theorem slices_ContainsFunc_int64_is {F : Nat} {ps : List Int} {m : Int → Option Bool} {h : Int → Bool} (hF : 134217728 ≤ F) (hl : ps.length ≤ 16777216) (hm : ∀ x, x ∈ ps → m x = some (h x)) :
    slices_ContainsFunc_int64 F ps m = some (ps.any h) := by
  unfold slices_ContainsFunc_int64
  rw [bind_of (slices_IndexFunc_int64_is hF hl hm), find_any]

theorem slices_IndexFunc_sint64_is {F : Nat} {ps : List (List Int)} {m : (List Int) → Option Bool} {h : (List Int) → Bool} (hF : 134217728 ≤ F) (hl : ps.length ≤ 16777216) (hm : ∀ x, x ∈ ps → m x = some (h x)) :
    slices_IndexFunc_sint64 F ps m = some (firstAt (ps.findIdx? h)) := by
  unfold slices_IndexFunc_sint64
  rw [find_loop (ps := ps) (h := h) (v := fun k => (k : Int)) (L := slices_IndexFunc_sint64_L1 F ps m) ?_ ?_ (by omega)]
  · cases ps.findIdx? h <;> rfl
  · intro n k x hk hx
    simp only [slices_IndexFunc_sint64_L1, bdT (show (k : Int) < (ps.length : Int) by omega), idx_nat, hx, Option.bind_some, hm x (List.mem_of_getElem? hx), wrN (show k ≤ 67108864 by omega)]
  · intro n
    simp only [slices_IndexFunc_sint64_L1, bdF (show ¬ (ps.length : Int) < (ps.length : Int) by omega)]
theorem slices_ContainsFunc_sint64_is {F : Nat} {ps : List (List Int)} {m : (List Int) → Option Bool} {h : (List Int) → Bool} (hF : 134217728 ≤ F) (hl : ps.length ≤ 16777216) (hm : ∀ x, x ∈ ps → m x = some (h x)) :
    slices_ContainsFunc_sint64 F ps m = some (ps.any h) := by
  unfold slices_ContainsFunc_sint64
  rw [bind_of (slices_IndexFunc_sint64_is hF hl hm), find_any]

theorem toInt64S_same {F : Nat} {ps : List Int} (hF : 134217728 ≤ F) (h : ps.length ≤ 1048576) : laws_toInt64S F ps = some ps := by
  rw [toInt64S_is hF h, show ps.map toP_Int64 = ps from by unfold toP_Int64; simp]

/-- how many numbers stand in the first i rows -/
def offR (rows : List (List Int)) (i : Nat) : Nat := ((rows.take i).map List.length).sum

theorem offR_zero (rows : List (List Int)) : offR rows 0 = 0 := rfl

theorem offR_succ {rows : List (List Int)} {i : Nat} {row : List Int} (h : rows[i]? = some row) : offR rows (i + 1) = offR rows i + row.length := by
  unfold offR
  rw [List.take_add_one, h]; simp

theorem offR_mono (rows : List (List Int)) (i : Nat) : offR rows i ≤ offR rows (i + 1) := by
  unfold offR
  rw [List.take_add_one, List.map_append, List.sum_append]; omega

theorem offR_le {rows : List (List Int)} {i j : Nat} (h : i ≤ j) : offR rows i ≤ offR rows j := by
  induction j with
  | zero => obtain rfl : i = 0 := by omega
            exact Nat.le_refl _
  | succ j ih =>
    by_cases e : i = j + 1
    · subst e; exact Nat.le_refl _
    · exact Nat.le_trans (ih (by omega)) (offR_mono rows j)


theorem rows_le {rows : List (List Int)} {N : Nat} (hr : offR rows rows.length ≤ N) : ∀ row, row ∈ rows → row.length ≤ N := by
  intro row hm
  obtain ⟨i, hi, rfl⟩ := List.getElem_of_mem hm
  have h1 := offR_succ (List.getElem?_eq_getElem hi)
  have h2 := offR_le (rows := rows) (show i + 1 ≤ rows.length by omega)
  omega

theorem szInt64SS_is {F : Nat} {ps : List (List Int)} {left : Int} (h0 : 0 ≤ left) (h1 : left ≤ 1048576) (hF : 9223372036854775808 ≤ F) (h : ps.length ≤ 9223372036854775807) (hr : ∀ row, row ∈ ps → row.length ≤ 9223372036854775807) :
    ∃ r, laws_szInt64SS F ps left = some r ∧ (r < 0 ∨ (0 ≤ r ∧ r + ps.length + offR ps ps.length = left)) := by
  unfold laws_szInt64SS
  rw [wr (by omega) (by omega)]
  by_cases hc : left - (ps.length : Int) < 0
  · exact ⟨-1, by rw [bdT hc], .inl (by decide)⟩
  rw [bdF hc]
  have H := for0 (L := fun n (s : Int) i => laws_szInt64SS_L1 F ps n s i) (len := ps.length) (fun j s => 0 ≤ s ∧ s + ps.length + offR ps j = left)
    (R := fun r => r = some (.inl (-1)) ∨ ∃ s, r = some (.inr s) ∧ 0 ≤ s ∧ s + ps.length + offR ps ps.length = left) (s := left - (ps.length : Int)) (n := F) ?_ ?_ ⟨by omega, by rw [offR_zero]; omega⟩ (by omega)
  · rcases H with he | ⟨s, he, h3, h4⟩
    · exact ⟨-1, by rw [he]; rfl, .inl (by decide)⟩
    · exact ⟨s, by rw [he]; rfl, .inr ⟨h3, h4⟩⟩
  · intro n j s hj ⟨hs, ht⟩
    have hq : ps[j]? = some ps[j] := List.getElem?_eq_getElem hj
    obtain ⟨r, hr1, hr2⟩ := szInt64S_is (F := F) hs (by omega) (hr _ (List.getElem_mem hj))
    by_cases hn : r < 0
    · refine .inr (.inl ?_)
      simp only [laws_szInt64SS_L1, bdT (show (j : Int) < (ps.length : Int) by omega), idx_nat, hq, Option.bind_some, hr1, bdT hn]
    · refine .inl ⟨r, ?_, by omega, by rw [offR_succ hq]; omega⟩
      simp only [laws_szInt64SS_L1, bdT (show (j : Int) < (ps.length : Int) by omega), idx_nat, hq, Option.bind_some, hr1, bdF hn]
      rw [wr (by omega) (by omega)]; rfl
  · intro n s ⟨hs, ht⟩
    refine .inr ⟨s, ?_, hs, ht⟩
    simp only [laws_szInt64SS_L1, bdF (show ¬ (ps.length : Int) < (ps.length : Int) by omega)]


theorem toInt64SS_is {F : Nat} {ps : List (List Int)} (hF : 134217728 ≤ F) (h : ps.length ≤ 1048576) (hr : offR ps ps.length ≤ 1048576) : laws_toInt64SS F ps = some ps := by
  have each : ∀ (i : Nat) (row : List Int), ps[i]? = some row → row.length ≤ 1048576 := fun i row hi => by
    have hlt := (List.getElem?_eq_some_iff.1 hi).1
    have h1 := offR_succ hi
    have h2 := offR_le (rows := ps) (show i + 1 ≤ ps.length by omega)
    omega
  unfold laws_toInt64SS
  rw [mk_nat _ (by omega)]
  simp only [Option.bind_some]
  rw [fill_loop (ps := ps) (f := fun x => x) (L := laws_toInt64SS_L1 F ps) ?_ ?_ (by simp) (by omega)]
  · simp
  · intro n xs k x hk hx hl
    have hk' : k < xs.length := by omega
    have hq : xs[k]? = some xs[k] := List.getElem?_eq_getElem hk'
    have ht := toInt64S_is (F := F) hF (each k x hx)
    rw [show x.map toP_Int64 = x from by unfold toP_Int64; simp] at ht
    simp only [laws_toInt64SS_L1, bdT (show (k : Int) < (ps.length : Int) by omega), idx_nat, hx, hq, ht, Option.bind_some, upd_nat, hk', wrN (show k ≤ 67108864 by omega)]
  · intro n xs
    simp only [laws_toInt64SS_L1, bdF (show ¬ (ps.length : Int) < (ps.length : Int) by omega)]


theorem eqInt64SS_same {F : Nat} {xs : List (List Int)} (hF : 134217728 ≤ F) (h : xs.length ≤ 16777216) (hr : ∀ row, row ∈ xs → row.length ≤ 16777216) : laws_eqInt64SS F xs xs = some true := by
  unfold laws_eqInt64SS
  rw [bF (neF rfl), same_loop (L := laws_eqInt64SS_L1 F xs xs) (len := xs.length) ?_ ?_ (by omega)]; rfl
  · intro n k hk
    have hq : xs[k]? = some xs[k] := List.getElem?_eq_getElem hk
    simp only [laws_eqInt64SS_L1, bdT (show (k : Int) < (xs.length : Int) by omega), idx_nat, hq, Option.bind_some, eqInt64S_same hF (hr _ (List.getElem_mem hk)), Bool.not_true, cond_false, wrN (show k ≤ 67108864 by omega)]
  · intro n
    simp only [laws_eqInt64SS_L1, bdF (show ¬ (xs.length : Int) < (xs.length : Int) by omega)]


/-- ms holds the marks from k on, in the shape of rows -/
def MarkedR (rows : List (List Int)) (k : Int) (ms : List (List Int)) (upto : Nat) : Prop :=
  ms.length = rows.length ∧ ∀ (i : Nat), i < upto → ∃ m row, ms[i]? = some m ∧ rows[i]? = some row ∧ m.length = row.length ∧ ∀ j, j < m.length → m[j]? = some (mrk_Int64 (k + offR rows i) j)

theorem markInt64SS_is {F : Nat} {ps : List (List Int)} {k : Int} (hF : 134217728 ≤ F) (h : ps.length ≤ 16777216) (hr : offR ps ps.length ≤ 16777216) (h0 : 0 ≤ k) (h1 : k ≤ 900000000000) :
    ∃ ms, laws_markInt64SS F ps k = some (k + offR ps ps.length, ms) ∧ MarkedR ps k ms ps.length := by
  have H := for0 (L := fun n (s : List (List Int) × Int) i => laws_markInt64SS_L1 F n s.1 s.2 i) (len := ps.length)
    (fun j s => s.2 = k + offR ps j ∧ MarkedR ps k s.1 j ∧ ∀ i, j ≤ i → s.1[i]? = ps[i]?)
    (R := fun r => ∃ ms, r = some (ms, k + (offR ps ps.length : Int)) ∧ MarkedR ps k ms ps.length) (s := (ps, k)) (n := F) ?_ ?_ ⟨by simp [offR_zero], ⟨rfl, by intro i hi; omega⟩, fun _ _ => rfl⟩ (by omega)
  · obtain ⟨ms, he, hm⟩ := H
    exact ⟨ms, by unfold laws_markInt64SS; rw [bind_of he], hm⟩
  · rintro n j ⟨xs, s⟩ hj ⟨hs, ⟨hl, hi⟩, hrest⟩
    simp only at hs hl hi hrest
    subst hs
    have hp : ps[j]? = some ps[j] := List.getElem?_eq_getElem hj
    have hq : xs[j]? = some ps[j] := (hrest j (Nat.le_refl _)).trans hp
    have hk' : j < xs.length := by omega
    have hle := offR_le (rows := ps) (show j + 1 ≤ ps.length by omega)
    have hsu := offR_succ hp
    obtain ⟨m, hm1, hm2, hm3⟩ := markInt64S_is (F := F) (ps := ps[j]) (k := k + offR ps j) hF (by omega) (by omega) (by omega)
    refine .inl ⟨(xs.set j m, k + (offR ps (j + 1) : Int)), ?_, rfl, ⟨by rw [List.length_set]; exact hl, ?_⟩, ?_⟩
    · simp only [laws_markInt64SS_L1, bdT (show (j : Int) < (xs.length : Int) by omega), idx_nat, hq, Option.bind_some, hm1, upd_nat, hk', wrN (show j ≤ 67108864 by omega)]
      rw [show k + (offR ps j : Int) + 1 * (ps[j].length : Int) = k + (offR ps (j + 1) : Int) by omega]
    · intro i hij
      by_cases e : i = j
      · subst e; exact ⟨m, ps[i], set_here hk', hp, hm2, by rw [hm2]; exact hm3⟩
      · simp only [set_keep e]; exact hi i (by omega)
    · intro i hij
      simp only [set_keep (show i ≠ j by omega)]; exact hrest i (by omega)
  · rintro n ⟨xs, s⟩ ⟨hs, hm, _⟩
    simp only at hs hm
    refine ⟨xs, ?_, hm⟩
    have := hm.1
    simp only [laws_markInt64SS_L1, bdF (show ¬ (ps.length : Int) < (xs.length : Int) by omega), hs]

/-! ### Slices of matrices -/
def wtM (m : List (List Int)) : Nat := m.length + offR m m.length

def offW (ms : List (List (List Int))) (i : Nat) : Nat := ((ms.take i).map wtM).sum

def offD (ms : List (List (List Int))) (i : Nat) : Nat := ((ms.take i).map fun m => offR m m.length).sum

theorem offW_zero (ms : List (List (List Int))) : offW ms 0 = 0 := rfl

theorem offW_succ {ms : List (List (List Int))} {i : Nat} {m : List (List Int)} (h : ms[i]? = some m) : offW ms (i + 1) = offW ms i + wtM m := by
  unfold offW
  rw [List.take_add_one, h]; simp

theorem offD_succ {ms : List (List (List Int))} {i : Nat} {m : List (List Int)} (h : ms[i]? = some m) : offD ms (i + 1) = offD ms i + offR m m.length := by
  unfold offD
  rw [List.take_add_one, h]; simp

theorem offW_mono (ms : List (List (List Int))) (i : Nat) : offW ms i ≤ offW ms (i + 1) := by
  unfold offW
  rw [List.take_add_one, List.map_append, List.sum_append]; omega

theorem offW_le {ms : List (List (List Int))} {i j : Nat} (h : i ≤ j) : offW ms i ≤ offW ms j := by
  induction j with
  | zero => obtain rfl : i = 0 := by omega
            exact Nat.le_refl _
  | succ j ih =>
    by_cases e : i = j + 1
    · subst e; exact Nat.le_refl _
    · exact Nat.le_trans (ih (by omega)) (offW_mono ms j)

theorem offD_le (ms : List (List (List Int))) : ∀ i, offD ms i ≤ offW ms i
  | 0 => Nat.le_refl _
  | i + 1 => by
    have := offD_le ms i
    cases h : ms[i]? with
    | none =>
      have e1 : offW ms (i + 1) = offW ms i := by unfold offW; rw [List.take_add_one, h]; simp
      have e2 : offD ms (i + 1) = offD ms i := by unfold offD; rw [List.take_add_one, h]; simp
      omega
    | some m =>
      rw [offW_succ h, offD_succ h]
      unfold wtM; omega

theorem offW_at {ms : List (List (List Int))} {i : Nat} {m : List (List Int)} (h : ms[i]? = some m) : m.length + offR m m.length ≤ offW ms ms.length := by
  have h1 := offW_succ h
  have h2 := offW_le (ms := ms) (show i + 1 ≤ ms.length from (List.getElem?_eq_some_iff.1 h).1)
  unfold wtM at h1
  omega

theorem offW_mem {ms : List (List (List Int))} {m : List (List Int)} (h : m ∈ ms) : m.length + offR m m.length ≤ offW ms ms.length := by
  obtain ⟨i, hi, rfl⟩ := List.getElem_of_mem h
  exact offW_at (List.getElem?_eq_getElem hi)

def inB (n lo hi : Int) : Bool := decide (lo ≤ n) && decide (n ≤ hi)

theorem inB_true {n lo hi : Int} : inB n lo hi = true ↔ lo ≤ n ∧ n ≤ hi := by unfold inB; simp

theorem inB_false {n lo hi : Int} (h : ¬ (lo ≤ n ∧ n ≤ hi)) : inB n lo hi = false := by
  cases e : inB n lo hi with
  | false => rfl
  | true => exact absurd (inB_true.1 e) h

theorem specIn_is {F : Nat} {n lo hi : Int} : spec_l01In F n lo hi = some (inB n lo hi) := by
  simp only [spec_l01In, cond_and, Option.bind_some]; rfl

theorem within_is {F : Nat} {n lo hi : Int} : impl_within F n lo hi = some (inB n lo hi) := by
  simp only [impl_within, cond_and, Option.bind_some]; rfl


/-! ### Values and vectors -/
def valB (a : Int) : Bool := (a == (-1000000000000000)) || inB a (-1000000) 1000000

theorem specValue_is {F : Nat} {a : Int} : spec_IsValue F a = some (valB a) := by
  simp only [spec_IsValue, spec_l01Finite, specIn_is, cond_or, Option.bind_some]; rfl

theorem implValue_is {F : Nat} {a : Int} : impl_IsValue F a = some (valB a) := by
  simp only [impl_IsValue, impl_isFinite, within_is, cond_or, Option.bind_some]; rfl

theorem specAll_is {F : Nat} {xs : List Int} (hF : 134217728 ≤ F) (hl : xs.length ≤ 1048576) : spec_l01All F xs false = some (xs.all valB) := by
  unfold spec_l01All
  rw [all_loop (ps := xs) (g := valB) (r := false) (L := spec_l01All_L1 F xs false) ?_ ?_ (by omega)]
  · cases xs.all valB <;> rfl
  · intro n k x hk hx
    simp only [spec_l01All_L1, bdT (show (k : Int) < (xs.length : Int) by omega), idx_nat, hx, Option.bind_some, specValue_is, cond_false, condn, wrN (show k ≤ 67108864 by omega)]
    cases valB x <;> rfl
  · intro n
    simp only [spec_l01All_L1, bdF (show ¬ (xs.length : Int) < (xs.length : Int) by omega)]

theorem implAll_is {F : Nat} {xs : List Int} (hF : 134217728 ≤ F) (hl : xs.length ≤ 1048576) : impl_areValues F xs = some (xs.all valB) := by
  unfold impl_areValues
  rw [bind_of (slices_ContainsFunc_int64_is (h := fun x => !valB x) hF (show xs.length ≤ 16777216 by omega) (fun x _ => show impl_areValues_c1 F x = _ by simp only [impl_areValues_c1, implValue_is, Option.bind_some])), any_not, Bool.not_not]

/-! ### Sums of the algebra -/
def tms (a b : Int) : Int := bif (a == (-1000000000000000)) || (b == (-1000000000000000)) then (-1000000000000000) else IntKind.i64.wrap (a + b)

/-- the sum of the products -/
def dotv (c x : List Int) (n : Nat) : Int := (List.range n).foldl (fun acc i => max acc (tms (c.getD i 0) (x.getD i 0))) (-1000000000000000)

theorem implTimes_is {F : Nat} {a b : Int} : impl_times F a b = some (tms a b) := by
  unfold impl_times tms
  cases (a == (-1000000000000000)) <;> cases (b == (-1000000000000000)) <;> rfl

/-! ### Lists of finite numbers -/
theorem fin_val (x : Int) : (valB x && !(x == (-1000000000000000))) = inB x (-1000000) 1000000 := by
  unfold valB
  cases h : (x == (-1000000000000000)) with
  | false => simp
  | true =>
    rw [beq_iff_eq] at h
    subst h; rfl

theorem specAllFin_is {F : Nat} {xs : List Int} (hF : 134217728 ≤ F) (hl : xs.length ≤ 1048576) : spec_l01All F xs true = some (xs.all fun x => inB x (-1000000) 1000000) := by
  unfold spec_l01All
  rw [all_loop (ps := xs) (g := fun x => inB x (-1000000) 1000000) (r := false) (L := spec_l01All_L1 F xs true) ?_ ?_ (by omega)]
  · cases (xs.all fun x => inB x (-1000000) 1000000) <;> rfl
  · intro n k x hk hx
    simp only [spec_l01All_L1, bdT (show (k : Int) < (xs.length : Int) by omega), idx_nat, hx, Option.bind_some, specValue_is, cond_true, condn, wrN (show k ≤ 67108864 by omega)]
    rw [← fin_val x]
    cases valB x <;> cases (x == (-1000000000000000)) <;> rfl
  · intro n
    simp only [spec_l01All_L1, bdF (show ¬ (xs.length : Int) < (xs.length : Int) by omega)]

def applyv (a : List (List Int)) (x : List Int) : List Int := a.map fun row => dotv row x row.length

def vecB (x : List Int) : Bool := inB x.length 1 10 && x.all valB

theorem specVector_is {F : Nat} {x : List Int} (hF : 134217728 ≤ F) (hl : x.length ≤ 1048576) : spec_l02Vector F x = some (vecB x) := by
  simp only [spec_l02Vector, specIn_is, specAll_is hF hl, Option.bind_some, cond_and]; rfl

def firstL (a : List (List Int)) : Int := ((a.getD 0 []).length : Int)

def matB (a : List (List Int)) : Bool := inB a.length 1 10 && a.all (fun row => vecB row && ((row.length : Int) == firstL a))

theorem first_is {a : List (List Int)} (h : 0 < a.length) : idx a 0 = some (a.getD 0 []) := by
  rw [show (0 : Int) = ((0 : Nat) : Int) from rfl, idx_nat, List.getD_eq_getElem?_getD, List.getElem?_eq_getElem h]; rfl

theorem specMatrix_is {F : Nat} {a : List (List Int)} (hF : 134217728 ≤ F) (hr : ∀ row, row ∈ a → row.length ≤ 1048576) : spec_IsMatrix F a = some (matB a) := by
  unfold spec_IsMatrix matB
  simp only [cond_or, Option.bind_some]
  by_cases h : (1 : Int) ≤ a.length ∧ (a.length : Int) ≤ 10
  · have c1 : (decide ((a.length : Int) < 1) || decide (10 < (a.length : Int))) = false := by simp; omega
    rw [bF c1, inB_true.2 h, Bool.true_and]
    rw [all_loop (ps := a) (g := fun row => vecB row && ((row.length : Int) == firstL a)) (r := false) (L := spec_IsMatrix_L1 F a) ?_ ?_ (by omega)]
    · cases a.all (fun row => vecB row && ((row.length : Int) == firstL a)) <;> rfl
    · intro n k row hk hx
      simp only [spec_IsMatrix_L1, bdT (show (k : Int) < (a.length : Int) by omega), idx_nat, hx, first_is (show 0 < a.length by omega), Option.bind_some, specVector_is hF (hr row (List.mem_of_getElem? hx)), wrN (show k ≤ 67108864 by omega), bne, firstL]
      cases vecB row <;> cases ((row.length : Int) == ((a.getD 0 []).length : Int)) <;> rfl
    · intro n
      simp only [spec_IsMatrix_L1, bdF (show ¬ (a.length : Int) < (a.length : Int) by omega)]
  · have c1 : (decide ((a.length : Int) < 1) || decide (10 < (a.length : Int))) = true := by simp; omega
    rw [bT c1, inB_false h]; rfl

theorem implMatrix_is {F : Nat} {a : List (List Int)} (hF : 134217728 ≤ F) (hr : ∀ row, row ∈ a → row.length ≤ 1048576) : impl_IsMatrix F a = some (matB a) := by
  unfold impl_IsMatrix matB
  simp only [within_is, Option.bind_some]
  by_cases h : (1 : Int) ≤ a.length ∧ (a.length : Int) ≤ 10
  · have h0 := first_is (a := a) (by omega)
    have hm : a.getD 0 [] ∈ a := by
      rw [List.getD_eq_getElem?_getD, List.getElem?_eq_getElem (show 0 < a.length by omega)]; exact List.getElem_mem _
    rw [inB_true.2 h]
    simp only [Bool.not_true, cond_false, h0, Option.bind_some, Bool.true_and]
    by_cases h2 : (1 : Int) ≤ firstL a ∧ firstL a ≤ 10
    · rw [show inB ((a.getD 0 []).length : Int) 1 10 = true from inB_true.2 h2]
      simp only [Bool.not_true, cond_false]
      rw [bind_of (slices_ContainsFunc_sint64_is (h := fun row => !((row.length : Int) == firstL a && row.all valB)) hF (show a.length ≤ 16777216 by omega) (fun row hrow => ?_)), any_not, Bool.not_not]
      · refine congrArg some ?_
        apply Bool.eq_iff_iff.2
        rw [List.all_eq_true, List.all_eq_true]
        constructor
        · intro H row hrow
          have := H row hrow
          rw [Bool.and_eq_true, beq_iff_eq] at this
          rw [Bool.and_eq_true, beq_iff_eq]
          refine ⟨?_, this.1⟩
          unfold vecB
          rw [Bool.and_eq_true, this.1]
          exact ⟨inB_true.2 h2, this.2⟩
        · intro H row hrow
          have := H row hrow
          rw [Bool.and_eq_true, beq_iff_eq] at this
          rw [Bool.and_eq_true, beq_iff_eq]
          have h3 := this.1
          unfold vecB at h3
          rw [Bool.and_eq_true] at h3
          exact ⟨this.2, h3.2⟩
      · show impl_IsMatrix_c1 F row a = _
        simp only [impl_IsMatrix_c1, h0, Option.bind_some, implAll_is hF (hr row hrow), bne, firstL]
        cases ((row.length : Int) == ((a.getD 0 []).length : Int)) <;> cases row.all valB <;> rfl
    · rw [show inB ((a.getD 0 []).length : Int) 1 10 = false from inB_false h2]
      simp only [Bool.not_false, cond_true]
      refine congrArg some ?_
      symm
      rw [List.all_eq_false]
      refine ⟨_, hm, ?_⟩
      unfold vecB
      rw [show inB ((a.getD 0 []).length : Int) 1 10 = false from inB_false h2]
      simp
  · rw [inB_false h]; rfl

def squareB (a : List (List Int)) : Bool := matB a && ((a.length : Int) == firstL a)

theorem specSquare_is {F : Nat} {a : List (List Int)} (hF : 134217728 ≤ F) (hr : ∀ row, row ∈ a → row.length ≤ 1048576) : spec_l02Square F a = some (squareB a) := by
  unfold spec_l02Square squareB
  rw [bind_of (specMatrix_is hF hr)]
  cases hm : matB a with
  | false => rfl
  | true =>
    have h : 0 < a.length := by
      unfold matB at hm; rw [Bool.and_eq_true, inB_true] at hm; omega
    simp only [cond_true, first_is h, Option.bind_some, firstL, Bool.true_and]

theorem implSquare_is {F : Nat} {a : List (List Int)} (hF : 134217728 ≤ F) (hr : ∀ row, row ∈ a → row.length ≤ 1048576) : impl_isSquare F a = some (squareB a) := by
  unfold impl_isSquare squareB
  rw [bind_of (implMatrix_is hF hr)]
  cases hm : matB a with
  | false => rfl
  | true =>
    have h : 0 < a.length := by
      unfold matB at hm; rw [Bool.and_eq_true, inB_true] at hm; omega
    simp only [cond_true, first_is h, Option.bind_some, firstL, Bool.true_and]

/-! ### Matrices by their entries -/
def tabM (m n : Nat) (f : Nat → Nat → Int) : List (List Int) := (List.range m).map fun i => (List.range n).map fun j => f i j

theorem tabM_len (m n : Nat) (f : Nat → Nat → Int) : (tabM m n f).length = m := by unfold tabM; simp

theorem tabM_row {m n i : Nat} {f : Nat → Nat → Int} (h : i < m) : (tabM m n f)[i]? = some ((List.range n).map fun j => f i j) := by
  unfold tabM; rw [List.getElem?_map, List.getElem?_range h]; rfl

theorem tabM_rows {m n : Nat} {f : Nat → Nat → Int} : ∀ r, r ∈ tabM m n f → r.length = n := by
  intro r hr
  unfold tabM at hr
  rw [List.mem_map] at hr
  obtain ⟨i, _, rfl⟩ := hr
  simp

theorem tabM_of {m n : Nat} {f : Nat → Nat → Int} {t : List (List Int)} (hl : t.length = m) (h : ∀ i, i < m → t[i]? = some ((List.range n).map fun j => f i j)) : t = tabM m n f := by
  apply List.ext_getElem?; intro q
  by_cases hq : q < m
  · rw [h q hq, tabM_row hq]
  · rw [List.getElem?_eq_none (by omega), List.getElem?_eq_none (by rw [tabM_len]; omega)]

theorem row_of {n : Nat} {f : Nat → Int} {r : List Int} (hl : r.length = n) (h : ∀ j, j < n → r[j]? = some (f j)) : r = (List.range n).map f := by
  apply List.ext_getElem?; intro q
  by_cases hq : q < n
  · rw [h q hq, List.getElem?_map, List.getElem?_range hq]; rfl
  · rw [List.getElem?_eq_none (by omega), List.getElem?_eq_none (by simp; omega)]

theorem byRow {F n i : Nat} {en : Int → Int → Option Int} {f : Nat → Int} {ms : List (List Int)} {q : List Int} (hF : 134217728 ≤ F) (hn : n ≤ 1048576) (hen : ∀ j, j < n → en (i : Int) (j : Int) = some (f j)) (hq : ms[i]? = some q) (hql : q.length = n) :
    impl_matrixBy_L5 F en (i : Int) q F ms 0 = some (ms.set i ((List.range n).map f)) := by
  have him : i < ms.length := (List.getElem?_eq_some_iff.1 hq).1
  refine for0 (L := impl_matrixBy_L5 F en (i : Int) q) (len := q.length) (fun k t => ∃ r, t = ms.set i r ∧ r.length = n ∧ ∀ j, j < k → r[j]? = some (f j)) (R := fun o => o = some (ms.set i ((List.range n).map f))) ?_ ?_ ⟨q, (set_same hq).symm, hql, fun j hj => by omega⟩ (by omega)
  · rintro m k t hk ⟨r, rfl, hrl, h1⟩
    have hkr : k < r.length := by omega
    refine .inl ⟨ms.set i (r.set k (f k)), ?_, r.set k (f k), rfl, by rw [List.length_set]; exact hrl, fun j hj => ?_⟩
    · simp only [impl_matrixBy_L5, bdT (show (k : Int) < (q.length : Int) by omega), idx_nat, set_here him, hen k (by omega), getD_of hkr, Option.bind_some, upd_nat _ hkr, upd_nat _ (show i < (ms.set i r).length by rw [List.length_set]; exact him), List.set_set, wrN (show k ≤ 67108864 by omega)]
    · by_cases e : j = k
      · subst e; exact set_here hkr
      · rw [set_keep e]; exact h1 j (by omega)
  · rintro m t ⟨r, rfl, hrl, h1⟩
    simp only [impl_matrixBy_L5, bdF (show ¬ (q.length : Int) < (q.length : Int) by omega)]
    rw [row_of hrl (fun j hj => h1 j (by omega))]

theorem matrixBy_is {F m n : Nat} {en : Int → Int → Option Int} {f : Nat → Nat → Int} (hF : 134217728 ≤ F) (hm : m ≤ 1048576) (hn : n ≤ 1048576) (hen : ∀ i j, i < m → j < n → en (i : Int) (j : Int) = some (f i j)) : impl_matrixBy F (m : Int) (n : Int) en = some (tabM m n f) := by
  unfold impl_matrixBy
  rw [mk_nat _ (by omega)]
  simp only [Option.bind_some]
  have H := for0 (L := impl_matrixBy_L4 F (n : Int) en (List.replicate m [])) (len := m) (fun k t => t.length = m ∧ ∀ i, i < k → t[i]? = some ((List.range n).map fun j => f i j)) (R := fun o => o = some (tabM m n f)) (s := List.replicate m []) (n := F) ?_ ?_ ⟨by simp, fun i hi => by omega⟩ (by omega)
  · rw [H]; rfl
  · rintro q k t hk ⟨hl, h1⟩
    have hkt : k < t.length := by omega
    have hmk : mk (n : Int) (0 : Int) = some (List.replicate n 0) := mk_nat _ (by omega)
    have ht : t[k]? = some t[k] := List.getElem?_eq_getElem hkt
    have hrow := byRow (F := F) (n := n) (i := k) (en := en) (f := fun j => f k j) (ms := t.set k (List.replicate n 0)) (q := List.replicate n 0) hF hn (fun j hj => hen k j hk hj) (set_here hkt) (by simp)
    refine .inl ⟨t.set k ((List.range n).map fun j => f k j), ?_, by rw [List.length_set]; exact hl, fun i hi => ?_⟩
    · rw [List.set_set] at hrow
      simp only [impl_matrixBy_L4, List.length_replicate, bdT (show (k : Int) < (m : Int) by omega), hmk, idx_nat, ht, Option.bind_some, upd_nat _ hkt, set_here hkt, hrow, wrN (show k ≤ 67108864 by omega)]
    · by_cases e : i = k
      · subst e; exact set_here hkt
      · rw [set_keep e]; exact h1 i (by omega)
  · rintro q t ⟨hl, h1⟩
    simp only [impl_matrixBy_L4, List.length_replicate, bdF (show ¬ (m : Int) < (m : Int) by omega)]
    rw [tabM_of hl h1]

def unitM (n : Nat) : List (List Int) := tabM n n fun i j => if i = j then 0 else (-1000000000000000)

theorem implUnit_is {F n : Nat} (hF : 134217728 ≤ F) (hn : n ≤ 1048576) : impl_unitMatrix F (n : Int) = some (unitM n) := by
  unfold impl_unitMatrix
  rw [matrixBy_is (f := fun i j => if i = j then 0 else (-1000000000000000)) hF hn hn (fun i j _ _ => ?_)]
  · rfl
  · show impl_unitMatrix_c1 F (i : Int) (j : Int) = _
    unfold impl_unitMatrix_c1
    by_cases e : i = j
    · subst e; rw [beq_self_eq_true, if_pos rfl]; rfl
    · rw [beq_false_of_ne (show (i : Int) ≠ (j : Int) by omega), if_neg e]; rfl

/-! ### Products -/
def dotM (a b : List (List Int)) (i j : Nat) (k : Nat) : Int := (List.range k).foldl (fun acc q => max acc (tms ((a.getD i []).getD q 0) ((b.getD q []).getD j 0))) (-1000000000000000)

theorem dotM_succ (a b : List (List Int)) (i j k : Nat) : dotM a b i j (k + 1) = max (dotM a b i j k) (tms ((a.getD i []).getD k 0) ((b.getD k []).getD j 0)) := by
  unfold dotM; rw [List.range_succ, List.foldl_append]; rfl

def mulM (a b : List (List Int)) (n : Nat) : List (List Int) := tabM a.length n fun i j => dotM a b i j b.length

theorem rowG {t : List (List Int)} {k : Nat} (h : k < t.length) : t[k]? = some (t.getD k []) := by
  rw [List.getD_eq_getElem?_getD, List.getElem?_eq_getElem h]; rfl

theorem mulM_len (a b : List (List Int)) (n : Nat) : (mulM a b n).length = a.length := tabM_len _ _ _

theorem mulM_rows {a b : List (List Int)} {n : Nat} : ∀ r, r ∈ mulM a b n → r.length = n := tabM_rows

def valsM (a : List (List Int)) : Bool := a.all fun r => r.all valB

/-! ### Modes -/
def firstN (ms : List (List (List Int))) : Int := ((ms.getD 0 []).length : Int)

def modesB (ms : List (List (List Int))) : Bool := inB ms.length 1 4 && ms.all fun m => squareB m && ((m.length : Int) == firstN ms)

theorem firstM_is {ms : List (List (List Int))} (h : 0 < ms.length) : idx ms 0 = some (ms.getD 0 []) := by
  rw [show (0 : Int) = ((0 : Nat) : Int) from rfl, idx_nat, List.getD_eq_getElem?_getD, List.getElem?_eq_getElem h]; rfl

/-- all matrices are squares of one size -/
theorem modesB_true {ms : List (List (List Int))} (h : modesB ms = true) : ∃ n : Nat, (ms.getD 0 []).length = n ∧ 1 ≤ n ∧ n ≤ 10 ∧ 1 ≤ ms.length ∧ ms.length ≤ 4 ∧ ∀ m, m ∈ ms → m.length = n ∧ ∀ row, row ∈ m → row.length = n := by
  unfold modesB at h
  rw [Bool.and_eq_true, inB_true, List.all_eq_true] at h
  have hm : ms.getD 0 [] ∈ ms := by
    rw [List.getD_eq_getElem?_getD, List.getElem?_eq_getElem (show 0 < ms.length by omega)]; exact List.getElem_mem _
  have sq : ∀ m, squareB m = true → 1 ≤ m.length ∧ m.length ≤ 10 ∧ ∀ row, row ∈ m → row.length = m.length := by
    intro m hs
    unfold squareB matB at hs
    simp only [Bool.and_eq_true, inB_true, beq_iff_eq, List.all_eq_true] at hs
    refine ⟨by omega, by omega, fun row hrow => ?_⟩
    have := (hs.1.2 row hrow).2
    omega
  have h0 := h.2 _ hm
  rw [Bool.and_eq_true] at h0
  obtain ⟨a1, a2, _⟩ := sq _ h0.1
  refine ⟨_, rfl, a1, a2, by omega, by omega, fun m hmm => ?_⟩
  have h2 := h.2 m hmm
  rw [Bool.and_eq_true, beq_iff_eq] at h2
  unfold firstN at h2
  obtain ⟨_, _, b3⟩ := sq _ h2.1
  exact ⟨by omega, fun row hrow => by rw [b3 row hrow]; omega⟩

def wordB (ms : List (List (List Int))) (w : List Int) : Bool := (w.all fun x => inB x 0 (IntKind.i64.wrap ((ms.length : Int) - 1))) && decide ((w.length : Int) ≤ 6)

theorem wordB_at {ms : List (List (List Int))} {w : List Int} (h : wordB ms w = true) (hm : 1 ≤ ms.length) (hm4 : ms.length ≤ 4) : w.length ≤ 6 ∧ ∀ k (hk : k < w.length), ∃ j : Nat, w[k] = (j : Int) ∧ j < ms.length := by
  unfold wordB at h
  simp only [Bool.and_eq_true, List.all_eq_true, inB_true, decide_eq_true_eq] at h
  refine ⟨by omega, fun k hk => ?_⟩
  have := h.1 _ (List.getElem_mem hk)
  rw [wr (by omega) (by omega)] at this
  exact ⟨(w[k]).toNat, by omega, by omega⟩

/-! ### Shifted vectors, sums of matrices -/
def shiftv (x : List Int) (g : Int) : List Int := x.map fun v => tms v g

/-! ### Sums of matrices -/
def addv (a b : List Int) : List Int := (List.range a.length).map fun i => max (a.getD i 0) (b.getD i 0)

theorem addv_len (a b : List Int) : (addv a b).length = a.length := by unfold addv; simp

def addm (a b : List (List Int)) : List (List Int) := (List.range a.length).map fun i => addv (a.getD i []) (b.getD i [])

theorem addv_of {r a b : List Int} (hl : r.length = a.length) (h : ∀ q, q < a.length → r[q]? = some (max (a.getD q 0) (b.getD q 0))) : r = addv a b := by
  apply List.ext_getElem?; intro q
  by_cases hq : q < a.length
  · rw [h q hq]; unfold addv; rw [List.getElem?_map, List.getElem?_range hq]; rfl
  · rw [List.getElem?_eq_none (by omega), List.getElem?_eq_none (by rw [addv_len]; omega)]

/-! ### Sums of matrices, by the reference -/
theorem specOwn_is {F : Nat} {x : List Int} (hx : x.length ≤ 1048576) : spec_l01Own F x = some x := by
  unfold spec_l01Own
  rw [app_le (by simp only [List.length_nil]; omega)]; rfl

theorem addm_len (a b : List (List Int)) : (addm a b).length = a.length := by unfold addm; simp

theorem addm_rows {a b : List (List Int)} {n : Nat} (ha : ∀ r, r ∈ a → r.length = n) : ∀ r, r ∈ addm a b → r.length = n := by
  intro r hr
  unfold addm at hr
  rw [List.mem_map] at hr
  obtain ⟨i, hi, rfl⟩ := hr
  rw [addv_len]
  have hi' : i < a.length := by simpa using hi
  have e : a[i]? = some (a.getD i []) := by rw [List.getD_eq_getElem?_getD, List.getElem?_eq_getElem hi']; rfl
  exact ha _ (List.mem_of_getElem? e)

theorem implAdd_is {F n : Nat} {a b : List (List Int)} (hF : 134217728 ≤ F) (ha0 : 0 < a.length) (hal : a.length ≤ 1048576) (hn : n ≤ 1048576) (hab : b.length = a.length) (ha : ∀ r, r ∈ a → r.length = n) (hb : ∀ r, r ∈ b → r.length = n) : impl_addMatrices F a b = some (addm a b) := by
  have G : ∀ {t : List (List Int)} {k : Nat}, k < t.length → t[k]? = some (t.getD k []) := fun h => by rw [List.getD_eq_getElem?_getD, List.getElem?_eq_getElem h]; rfl
  have h0 : idx a 0 = some (a.getD 0 []) := (idx_nat a 0).trans (G ha0)
  have hl0 : (a.getD 0 []).length = n := ha _ (List.mem_of_getElem? (G ha0))
  unfold impl_addMatrices
  rw [bind_of h0, hl0, matrixBy_is (f := fun i j => max ((a.getD i []).getD j 0) ((b.getD i []).getD j 0)) hF hal hn (fun i j hi hj => ?_)]
  · simp only [Option.bind_some]
    refine congrArg some ?_
    unfold tabM addm
    apply List.map_congr_left
    intro i hi
    have hi' : i < a.length := by simpa using hi
    unfold addv
    rw [ha _ (List.mem_of_getElem? (G hi'))]
  · show impl_addMatrices_c1 F (i : Int) (j : Int) a b = _
    have har := G hi
    have hbr := G (t := b) (k := i) (by omega)
    have l1 := ha _ (List.mem_of_getElem? har)
    have l2 := hb _ (List.mem_of_getElem? hbr)
    simp only [impl_addMatrices_c1, idx_nat, har, hbr, getD_of (show j < (a.getD i []).length by omega), getD_of (show j < (b.getD i []).length by omega), Option.bind_some]

/-! ### Tables by their entries -/
theorem tabM_get {m n i j : Nat} {f : Nat → Nat → Int} (hi : i < m) (hj : j < n) : ((tabM m n f).getD i []).getD j 0 = f i j := by
  rw [List.getD_eq_getElem?_getD, List.getD_eq_getElem?_getD, tabM_row hi, Option.getD_some, List.getElem?_map, List.getElem?_range hj]; rfl

theorem tabM_congr {m n : Nat} {f g : Nat → Nat → Int} (h : ∀ i j, i < m → j < n → f i j = g i j) : tabM m n f = tabM m n g := by
  unfold tabM
  apply List.map_congr_left
  intro i hi
  apply List.map_congr_left
  intro j hj
  exact h i j (by simpa using hi) (by simpa using hj)

theorem tabM_at {n i : Nat} {f : Nat → Int} (h : i < n) : ((List.range n).map f)[i]? = some (f i) := by
  rw [List.getElem?_map, List.getElem?_range h]; rfl

theorem tabM_set {m n i j : Nat} {f : Nat → Nat → Int} {v : Int} (hi : i < m) (hj : j < n) : (tabM m n f).set i (((List.range n).map fun j => f i j).set j v) = tabM m n fun a b => if a = i ∧ b = j then v else f a b := by
  refine tabM_of (by rw [List.length_set, tabM_len]) (fun a ha => ?_)
  by_cases e : a = i
  · subst e
    rw [set_here (by rw [tabM_len]; exact ha)]
    refine congrArg some (row_of (by simp) (fun b hb => ?_))
    by_cases e2 : b = j
    · subst e2
      rw [set_here (by simpa using hb), if_pos ⟨rfl, rfl⟩]
    · rw [set_keep e2, tabM_at hb, if_neg (by omega)]
  · rw [set_keep e, tabM_row ha]
    refine congrArg some ?_
    apply List.map_congr_left
    intro b _
    rw [if_neg (by omega)]

theorem tabM_self {m n : Nat} {a : List (List Int)} (hl : a.length = m) (hr : ∀ r, r ∈ a → r.length = n) : a = tabM m n fun i j => (a.getD i []).getD j 0 := by
  refine tabM_of hl (fun i hi => ?_)
  have e : a[i]? = some (a.getD i []) := by rw [List.getD_eq_getElem?_getD, List.getElem?_eq_getElem (by omega)]; rfl
  rw [e]
  exact congrArg some (row_of (hr _ (List.mem_of_getElem? e)) (fun j hj => getD_of (by rw [hr _ (List.mem_of_getElem? e)]; exact hj)))

theorem tabM_inj {m n : Nat} {f g : Nat → Nat → Int} (h : tabM m n f = tabM m n g) {i j : Nat} (hi : i < m) (hj : j < n) : f i j = g i j := by
  rw [← tabM_get (f := f) hi hj, h, tabM_get hi hj]

/-! ### Tables of arcs -/
def arcT {α : Type} (t f : α → Nat) (w : α → Int) : List α → Nat → Nat → Int
  | l => fun i j => l.foldl (fun acc x => if t x = i ∧ f x = j then max acc (w x) else acc) (-1000000000000000)

theorem arcT_snoc {α : Type} (t f : α → Nat) (w : α → Int) (l : List α) (x : α) (i j : Nat) : arcT t f w (l ++ [x]) i j = if i = t x ∧ j = f x then max (arcT t f w l (t x) (f x)) (w x) else arcT t f w l i j := by
  unfold arcT
  rw [List.foldl_append]
  simp only [List.foldl_cons, List.foldl_nil]
  by_cases h : t x = i ∧ f x = j
  · obtain ⟨rfl, rfl⟩ := h
    rw [if_pos ⟨rfl, rfl⟩]
  · rw [if_neg h, if_neg (by omega)]

theorem arcT_le {α : Type} {t f : α → Nat} {w : α → Int} : ∀ (l : List α) (a0 : Int) (i j : Nat), a0 ≤ l.foldl (fun acc x => if t x = i ∧ f x = j then max acc (w x) else acc) a0
  | [], a0, _, _ => Int.le_refl _
  | x :: l, a0, i, j => by
    rw [List.foldl_cons]
    by_cases h : t x = i ∧ f x = j
    · rw [if_pos h]; exact Int.le_trans (by omega) (arcT_le l _ i j)
    · rw [if_neg h]; exact arcT_le l a0 i j

theorem arcT_ge' {α : Type} {t f : α → Nat} {w : α → Int} : ∀ (l : List α) (a0 : Int) (x : α), x ∈ l → w x ≤ l.foldl (fun acc y => if t y = t x ∧ f y = f x then max acc (w y) else acc) a0
  | [], _, x, h => by cases h
  | y :: l, a0, x, h => by
    rw [List.foldl_cons]
    rcases List.mem_cons.1 h with rfl | h
    · rw [if_pos ⟨rfl, rfl⟩]; exact Int.le_trans (by omega) (arcT_le l _ _ _)
    · exact arcT_ge' l _ x h

theorem arcT_ge {α : Type} {t f : α → Nat} {w : α → Int} {l : List α} {x : α} (h : x ∈ l) : w x ≤ arcT t f w l (t x) (f x) := arcT_ge' l _ x h

theorem arcT_cases' {α : Type} {t f : α → Nat} {w : α → Int} (i j : Nat) : ∀ (l : List α) (a0 : Int), l.foldl (fun acc x => if t x = i ∧ f x = j then max acc (w x) else acc) a0 = a0 ∨ ∃ x, x ∈ l ∧ t x = i ∧ f x = j ∧ l.foldl (fun acc x => if t x = i ∧ f x = j then max acc (w x) else acc) a0 = w x
  | [], a0 => .inl rfl
  | y :: l, a0 => by
    rw [List.foldl_cons]
    by_cases h : t y = i ∧ f y = j
    · rw [if_pos h]
      rcases arcT_cases' i j l (max a0 (w y)) with h1 | ⟨x, h1, h2, h3, h4⟩
      · by_cases h5 : w y ≤ a0
        · left; rw [h1]; omega
        · right; exact ⟨y, by simp, h.1, h.2, by rw [h1]; omega⟩
      · right; exact ⟨x, by simp [h1], h2, h3, h4⟩
    · rw [if_neg h]
      rcases arcT_cases' i j l a0 with h1 | ⟨x, h1, h2, h3, h4⟩
      · exact .inl h1
      · right; exact ⟨x, by simp [h1], h2, h3, h4⟩

theorem arcT_cases {α : Type} {t f : α → Nat} {w : α → Int} (l : List α) (i j : Nat) : arcT t f w l i j = -1000000000000000 ∨ ∃ x, x ∈ l ∧ t x = i ∧ f x = j ∧ arcT t f w l i j = w x := arcT_cases' i j l _

theorem arcT_ok {α : Type} {t f : α → Nat} {w : α → Int} {l : List α} (h : ∀ x, x ∈ l → -1000000 ≤ w x ∧ w x ≤ 1000000) (n : Nat) : TabOk (arcT t f w l) n := fun i j _ _ => by
  rcases arcT_cases (t := t) (f := f) (w := w) l i j with e | ⟨x, hx, _, _, e⟩
  · exact .inl e
  · rw [e]; exact .inr (h x hx)

/-- a loop that lays arcs into a table -/
theorem arc_loop {α : Type} {t f : α → Nat} {w : α → Int} {ps : List α} {n : Nat} {L : Nat → List (List Int) → Int → Option (List (List Int))}
    (hL : ∀ m k x h, k < ps.length → ps[k]? = some x → L (m + 1) (tabM n n h) (k : Int) = L m (tabM n n fun i j => if i = t x ∧ j = f x then max (h (t x) (f x)) (w x) else h i j) ((k + 1 : Nat) : Int))
    (hE : ∀ m h, L (m + 1) (tabM n n h) (ps.length : Int) = some (tabM n n h)) {F : Nat} (hn : ps.length < F) : L F (tabM n n fun _ _ => (-1000000000000000)) 0 = some (tabM n n (arcT t f w ps)) := by
  refine for0 (L := L) (len := ps.length) (fun k ms => ms = tabM n n (arcT t f w (ps.take k))) (R := fun o => o = some (tabM n n (arcT t f w ps))) ?_ ?_ rfl hn
  · rintro m k ms hk rfl
    have hx : ps[k]? = some ps[k] := List.getElem?_eq_getElem hk
    refine .inl ⟨_, hL m k ps[k] _ hk hx, tabM_congr fun i j _ _ => ?_⟩
    rw [List.take_add_one, hx]
    exact (arcT_snoc t f w (ps.take k) ps[k] i j).symm
  · rintro m ms rfl
    rw [hE m, List.take_length]

/-! ### The star, both ways -/
theorem tms_ta {M K a b : Int} (ha : Okw M a) (hb : Okw K b) (hM : M ≤ 10000000000) (hK : K ≤ 10000000000) : tms a b = ta a b := by
  unfold tms ta
  unfold Okw at ha hb
  by_cases h1 : a = -1000000000000000
  · subst h1; rw [if_pos (.inl rfl)]; rfl
  · by_cases h2 : b = -1000000000000000
    · subst h2; rw [if_pos (.inr rfl), beq_self_eq_true, Bool.or_true]; rfl
    · rw [if_neg (by omega), beq_false_of_ne h1, beq_false_of_ne h2]
      exact wr (by omega) (by omega)

theorem addm_tab {n : Nat} {f g : Nat → Nat → Int} : addm (tabM n n f) (tabM n n g) = tabM n n fun i j => max (f i j) (g i j) := by
  refine tabM_of (by rw [addm_len, tabM_len]) (fun i hi => ?_)
  unfold addm
  rw [List.getElem?_map, tabM_len, List.getElem?_range hi]
  refine congrArg some (row_of ?_ (fun j hj => ?_))
  · rw [addv_len, List.getD_eq_getElem?_getD, tabM_row hi]; simp
  · unfold addv
    have hl : ((tabM n n f).getD i []).length = n := by rw [List.getD_eq_getElem?_getD, tabM_row hi]; simp
    show ((List.range ((tabM n n f).getD i []).length).map fun q => max (((tabM n n f).getD i []).getD q 0) (((tabM n n g).getD i []).getD q 0))[j]? = _
    rw [hl, tabM_at hj, tabM_get hi hj, tabM_get hi hj]

theorem unitM_tab (n : Nat) : unitM n = tabM n n un := rfl

theorem rows_tab {n : Nat} {f : Nat → Nat → Int} (hn : n ≤ 10) : ∀ r, r ∈ tabM n n f → r.length ≤ 1048576 := fun r hr => by rw [tabM_rows r hr]; omega

theorem getD_tab {n i : Nat} {f : Nat → Nat → Int} (hi : i < n) : ((tabM n n f).getD i []).length = n := by
  rw [List.getD_eq_getElem?_getD, tabM_row hi]; simp


theorem mulM_tab {n : Nat} {f g : Nat → Nat → Int} {M K : Int} (hf : ∀ i j, i < n → j < n → Okw M (f i j)) (hg : ∀ i j, i < n → j < n → Okw K (g i j)) (hM : M ≤ 10000000000) (hK : K ≤ 10000000000) : mulM (tabM n n f) (tabM n n g) n = tabM n n fun i j => mx n fun q => ta (f i q) (g q j) := by
  unfold mulM
  rw [tabM_len, tabM_len]
  refine tabM_congr fun i j hi hj => ?_
  have : ∀ k, k ≤ n → dotM (tabM n n f) (tabM n n g) i j k = mx k fun q => ta (f i q) (g q j) := by
    intro k
    induction k with
    | zero => intro _; rfl
    | succ k ih =>
      intro hk
      rw [dotM_succ, mx_succ, ih (by omega), tabM_get hi (show k < n by omega), tabM_get (show k < n by omega) hj, tms_ta (hf i k hi (by omega)) (hg k j (by omega) hj) hM hK]
  exact this n (Nat.le_refl _)

theorem starCells {F n k i : Nat} {f : Nat → Nat → Int} {ms : List (List Int)} (hF : 134217728 ≤ F) (hn : n ≤ 10) (hf : TabOk f n) (hms : ms.length = n) (hk : k < n) (hi : i < n) (h0 : fw f k k k = 0) {h : Nat → Nat → Int} (hh : ∀ a b, a < n → b < n → h a b = if a < i then fw f (k + 1) a b else fw f k a b) :
    impl_starOf_L21 F (k : Int) ms (i : Int) F (tabM n n h) 0 = some (tabM n n fun a b => if a < i + 1 then fw f (k + 1) a b else fw f k a b) := by
  have ok : ∀ {i j : Nat}, i < n → j < n → Okw 10000000000 (fw f k i j) := fun hi hj => ok_up (fw_ok hf k (by omega) hi hj) (by have := bdw_le (show k ≤ 11 by omega); omega)
  refine for0 (L := impl_starOf_L21 F (k : Int) ms (i : Int)) (len := n) (fun j t => ∃ H : Nat → Nat → Int, t = tabM n n H ∧ ∀ a b, a < n → b < n → H a b = if a < i ∨ (a = i ∧ b < j) then fw f (k + 1) a b else fw f k a b) (R := fun o => o = some (tabM n n fun a b => if a < i + 1 then fw f (k + 1) a b else fw f k a b)) ?_ ?_ ?_ (by omega)
  · rintro m j t hj ⟨H, rfl, hH⟩
    have e1 : H i j = fw f k i j := by rw [hH i j hi hj]; exact if_neg (by omega)
    have e2 : H i k = fw f k i k := by
      rw [hH i k hi hk]
      by_cases c : i < i ∨ (i = i ∧ k < j)
      · rw [if_pos c]; exact fw_col hf (by omega) h0 hi hk
      · rw [if_neg c]
    have e3 : H k j = fw f k k j := by
      rw [hH k j hk hj]
      by_cases c : k < i ∨ (k = i ∧ j < j)
      · rw [if_pos c]; exact fw_row hf (by omega) h0 hj hk
      · rw [if_neg c]
    refine .inl ⟨_, ?_, fun a b => if a = i ∧ b = j then max (fw f k i j) (ta (fw f k i k) (fw f k k j)) else H a b, rfl, fun a b ha hb => ?_⟩
    · simp only [impl_starOf_L21, hms, bdT (show (j : Int) < (n : Int) by omega), idx_nat, tabM_row hi, tabM_row hk, tabM_at hj, tabM_at hk, e1, e2, e3, Option.bind_some, implTimes_is, tms_ta (ok hi hk) (ok hk hj) (Int.le_refl _) (Int.le_refl _), upd_nat _ (show j < ((List.range n).map fun b => H i b).length by simpa using hj), upd_nat _ (show i < (tabM n n H).length by rw [tabM_len]; exact hi), wrN (show j ≤ 67108864 by omega), tabM_set hi hj]
    · show (if a = i ∧ b = j then max (fw f k i j) (ta (fw f k i k) (fw f k k j)) else H a b) = _
      by_cases c : a = i ∧ b = j
      · rw [if_pos c, if_pos (by omega), c.1, c.2]; rfl
      · rw [if_neg c, hH a b ha hb]
        by_cases c2 : a < i ∨ (a = i ∧ b < j)
        · rw [if_pos c2, if_pos (by omega)]
        · rw [if_neg c2, if_neg (by omega)]
  · rintro m t ⟨H, rfl, hH⟩
    simp only [impl_starOf_L21, hms, bdF (show ¬ (n : Int) < (n : Int) by omega)]
    refine congrArg some (tabM_congr fun a b ha hb => ?_)
    rw [hH a b ha hb]
    by_cases c : a < i + 1
    · rw [if_pos c, if_pos (by omega)]
    · rw [if_neg c, if_neg (by omega)]
  · refine ⟨h, rfl, fun a b ha hb => ?_⟩
    rw [hh a b ha hb]
    by_cases c : a < i
    · rw [if_pos c, if_pos (.inl c)]
    · rw [if_neg c, if_neg (by omega)]

theorem starRound {F n k : Nat} {f : Nat → Nat → Int} {ms : List (List Int)} (hF : 134217728 ≤ F) (hn : n ≤ 10) (hf : TabOk f n) (hms : ms.length = n) (hk : k < n) (h0 : fw f k k k = 0) :
    impl_starOf_L20 F ms (k : Int) F (tabM n n (fw f k)) 0 = some (tabM n n (fw f (k + 1))) := by
  refine for0 (L := impl_starOf_L20 F ms (k : Int)) (len := n) (fun i t => t = tabM n n fun a b => if a < i then fw f (k + 1) a b else fw f k a b) (R := fun o => o = some (tabM n n (fw f (k + 1)))) ?_ ?_ ?_ (by omega)
  · rintro m i t hi rfl
    refine .inl ⟨_, ?_, rfl⟩
    simp only [impl_starOf_L20, hms, bdT (show (i : Int) < (n : Int) by omega), starCells (F := F) hF hn hf (tabM_len n n _) hk hi h0 (fun _ _ _ _ => rfl), Option.bind_some, wrN (show i ≤ 67108864 by omega)]
  · rintro m t rfl
    simp only [impl_starOf_L20, hms, bdF (show ¬ (n : Int) < (n : Int) by omega)]
    refine congrArg some (tabM_congr fun a b ha _ => ?_)
    rw [if_pos ha]
  · refine tabM_congr fun a b _ _ => ?_
    rw [if_neg (by omega)]

theorem implStar_is {F n : Nat} {f : Nat → Nat → Int} (hF : 134217728 ≤ F) (h1 : 1 ≤ n) (hn : n ≤ 10) (hf : TabOk f n) : (FwOk f n ∧ impl_starOf F (tabM n n f) = some (tabM n n (fw f n), true)) ∨ (¬ FwOk f n ∧ impl_starOf F (tabM n n f) = some ([], false)) := by
  unfold impl_starOf
  rw [tabM_len, implUnit_is hF (show n ≤ 1048576 by omega), Option.bind_some, unitM_tab, implAdd_is (n := n) hF (by rw [tabM_len]; omega) (by rw [tabM_len]; omega) (by omega) (by rw [tabM_len, tabM_len]) tabM_rows tabM_rows, Option.bind_some, addm_tab]
  have H := for0 (L := impl_starOf_L16 F (tabM n n (fw f 0))) (len := n) (fun k t => t = tabM n n (fw f k)) (R := fun o => (¬ FwOk f n ∧ o = some (.inl ([], false))) ∨ o = some (.inr (tabM n n (fw f n)))) (s := tabM n n (fw f 0)) (n := F) ?_ ?_ rfl (by omega)
  · have e0 : (tabM n n fun i j => max (f i j) (un i j)) = tabM n n (fw f 0) := rfl
    rw [e0]
    rcases H with ⟨h2, h3⟩ | h3
    · right
      exact ⟨h2, by rw [h3]; rfl⟩
    · rw [h3]
      simp only [Option.bind_some]
      rw [all_loop (ps := List.range n) (g := fun k => decide (fw f n k k ≤ 0)) (r := (([] : List (List Int)), false)) (L := impl_starOf_L22 F (tabM n n (fw f n))) (n := F) ?_ ?_ (by rw [List.length_range]; omega)]
      · by_cases c : FwOk f n
        · left
          refine ⟨c, ?_⟩
          rw [show ((List.range n).all fun k => decide (fw f n k k ≤ 0)) = true from List.all_eq_true.2 fun k hk => decide_eq_true (c k (by simpa using hk))]
          rfl
        · right
          refine ⟨c, ?_⟩
          rw [show ((List.range n).all fun k => decide (fw f n k k ≤ 0)) = false from ?_]
          · rfl
          · apply Classical.byContradiction
            intro hne
            rw [Bool.not_eq_false, List.all_eq_true] at hne
            exact c fun k hk => of_decide_eq_true (hne k (by simpa using hk))
      · intro m k x hk hx
        rw [List.length_range] at hk
        have e : x = k := by rw [List.getElem?_range hk] at hx; cases hx; rfl
        subst e
        simp only [impl_starOf_L22, tabM_len, bdT (show (x : Int) < (n : Int) by omega), idx_nat, tabM_row hk, tabM_at hk, Option.bind_some, wrN (show x ≤ 67108864 by omega)]
        by_cases c : fw f n x x ≤ 0
        · rw [bdT c, bdF (by omega)]
        · rw [bdF c, bdT (by omega)]
      · intro m
        rw [List.length_range]
        simp only [impl_starOf_L22, tabM_len, bdF (show ¬ (n : Int) < (n : Int) by omega)]
  · rintro m k t hk rfl
    by_cases c : 0 < fw f k k k
    · refine .inr (.inl ⟨fun h => ?_, ?_⟩)
      · have := fwok_step hf h k hk; omega
      · simp only [impl_starOf_L16, tabM_len, bdT (show (k : Int) < (n : Int) by omega), idx_nat, tabM_row hk, tabM_at hk, Option.bind_some, bdT c]
    · have h0 : fw f k k k = 0 := by have := fw_diag hf k k; omega
      refine .inl ⟨_, ?_, rfl⟩
      simp only [impl_starOf_L16, tabM_len, bdT (show (k : Int) < (n : Int) by omega), idx_nat, tabM_row hk, tabM_at hk, Option.bind_some, bdF c, starRound (F := F) hF hn hf (tabM_len n n _) hk h0, wrN (show k ≤ 67108864 by omega)]
  · rintro m t rfl
    refine .inr ?_
    simp only [impl_starOf_L16, tabM_len, bdF (show ¬ (n : Int) < (n : Int) by omega)]

/-! ### Runs of a system -/
def sr : Option (List Int × List Int) → Sum (List Int × List Int × Bool) (List Int × List Int)
  | none => .inl ([], [], false)
  | some p => .inr p

def ir : Option (List Int × List Int) → Sum (List Int × List Int × Int) (List Int × List Int)
  | none => .inl ([], [], 3)
  | some p => .inr p

def so : Option (List Int) → Sum (List Int × Bool) (List Int)
  | none => .inl ([], false)
  | some l => .inr l

def io : Option (List Int) → Sum (List Int × Int) (List Int)
  | none => .inl ([], 3)
  | some l => .inr l

/-! ### Tables on vectors -/
theorem applyv_tab {n : Nat} {T : Nat → Nat → Int} {x : List Int} {M K : Int} (hT : ∀ i j, i < n → j < n → Okw M (T i j)) (hx : ∀ q, q < n → Okw K (x.getD q 0)) (hM : M ≤ 10000000000) (hK : K ≤ 10000000000) : applyv (tabM n n T) x = (List.range n).map fun i => mx n fun q => ta (T i q) (x.getD q 0) := by
  unfold applyv tabM
  rw [List.map_map]
  apply List.map_congr_left
  intro i hi
  have hi' : i < n := by simpa using hi
  show dotv ((List.range n).map fun j => T i j) x ((List.range n).map fun j => T i j).length = _
  rw [List.length_map, List.length_range]
  have : ∀ k, k ≤ n → (List.range k).foldl (fun acc q => max acc (tms (((List.range n).map fun j => T i j).getD q 0) (x.getD q 0))) (-1000000000000000) = mx k fun q => ta (T i q) (x.getD q 0) := by
    intro k
    induction k with
    | zero => intro _; rfl
    | succ k ih =>
      intro hk
      rw [List.range_succ, List.foldl_append, ih (by omega), mx_succ]
      show max _ (tms (((List.range n).map fun j => T i j).getD k 0) (x.getD k 0)) = _
      rw [List.getD_eq_getElem?_getD, tabM_at (show k < n by omega), Option.getD_some, tms_ta (hT i k hi' (by omega)) (hx k (by omega)) hM hK]
  exact this n (Nat.le_refl _)

theorem getI {xs : List Int} {i : Int} (h0 : 0 ≤ i) (h1 : i < (xs.length : Int)) : idx xs i = some (xs.getD i.toNat 0) := by
  rw [idx_int h0 h1, List.getD_eq_getElem?_getD, List.getElem?_eq_getElem (by omega)]; rfl

/-! ### Lists of nodes -/
def nl (o : List Nat) : List Int := o.map fun (x : Nat) => (x : Int)

theorem nl_len (o : List Nat) : (nl o).length = o.length := by unfold nl; simp

theorem nl_app (o : List Nat) (x : Nat) : nl o ++ [(x : Int)] = nl (o ++ [x]) := by unfold nl; simp

theorem nl_at (o : List Nat) (i : Nat) : (nl o)[i]? = (o[i]?).map fun (x : Nat) => (x : Int) := by unfold nl; simp

theorem nl_has (o : List Nat) (x : Nat) : ((nl o).any fun y => y == (x : Int)) = o.contains x := by
  apply Bool.eq_iff_iff.2
  simp only [nl, List.any_map, List.any_eq_true, Function.comp_apply, beq_iff_eq, List.contains_iff_mem]
  constructor
  · rintro ⟨y, hy, e⟩
    have : y = x := by omega
    exact this ▸ hy
  · intro h; exact ⟨x, h, rfl⟩

theorem specHas_is {F : Nat} {xs : List Int} {x : Int} (hF : 134217728 ≤ F) (hl : xs.length ≤ 1048576) : spec_l01Has F xs x = some (xs.any fun y => y == x) := by
  unfold spec_l01Has
  rw [all_loop (ps := xs) (g := fun y => !(y == x)) (r := true) (L := spec_l01Has_L1 F xs x) ?_ ?_ (by omega)]
  · have := any_not (g := fun y => !(y == x)) xs
    simp only [Bool.not_not] at this
    rw [this]
    cases xs.all (fun y => !(y == x)) <;> rfl
  · intro n k y hk hy
    simp only [spec_l01Has_L1, bdT (show (k : Int) < (xs.length : Int) by omega), idx_nat, hy, Option.bind_some, condn, wrN (show k ≤ 67108864 by omega)]
  · intro n
    simp only [spec_l01Has_L1, bdF (show ¬ (xs.length : Int) < (xs.length : Int) by omega)]

/-! ### Liveness -/
def mat0 (E : Nat → Nat → Bool) (n : Nat) : List (List Int) := (List.range n).map fun v => (List.range n).map fun u => bif E u v then 0 else (-1000000000000000)

theorem mat0_row {E : Nat → Nat → Bool} {n v : Nat} (hv : v < n) : (mat0 E n)[v]? = some ((List.range n).map fun u => bif E u v then 0 else (-1000000000000000)) := by
  unfold mat0; rw [List.getElem?_map, List.getElem?_range hv]; rfl

theorem map_range_set {α : Type} (f : Nat → α) (n i : Nat) (y : α) : ((List.range n).map f).set i y = (List.range n).map fun j => if j = i then y else f j := by
  apply List.ext_getElem?; intro q
  by_cases hq : q < n
  · by_cases e : q = i
    · subst e
      rw [set_here (by simpa using hq), List.getElem?_map, List.getElem?_range hq]; simp
    · rw [set_keep e, List.getElem?_map, List.getElem?_map, List.getElem?_range hq]; simp [e]
  · rw [List.getElem?_eq_none (by simp; omega), List.getElem?_eq_none (by simp; omega)]

theorem mat0_set {E : Nat → Nat → Bool} {n u v : Nat} : (mat0 E n).set v (((List.range n).map fun u' => bif E u' v then (0 : Int) else (-1000000000000000)).set u 0) = mat0 (fun u' v' => E u' v' || (v' == v && u' == u)) n := by
  unfold mat0
  rw [map_range_set, map_range_set]
  apply List.map_congr_left; intro v' _
  by_cases hv : v' = v
  · subst hv
    rw [if_pos rfl]
    apply List.map_congr_left; intro u' _
    by_cases hu : u' = u
    · subst hu; simp
    · rw [if_neg hu]; simp only [beq_false_of_ne hu, Bool.and_false, Bool.or_false]
  · rw [if_neg hv]
    apply List.map_congr_left; intro u' _
    simp only [beq_false_of_ne hv, Bool.false_and, Bool.or_false]

/-- a written cycle that goes on from a path -/
def Ext (E : Nat → Nat → Bool) (n f : Nat) (p : List Nat) (l : Nat) (q : List Nat) : Prop := (∀ x, x ∈ q → f < x ∧ x < n) ∧ (p ++ q).Nodup ∧ Chain E l q f

theorem grow_is {F n : Nat} {E : Nat → Nat → Bool} (hF : 134217728 ≤ F) (hn : n ≤ 1000) : ∀ (k : Nat) (p : List Nat) (f l : Nat), p[0]? = some f → p[p.length - 1]? = some l → p.Nodup → (∀ x, x ∈ p → x < n) → n + 1 ≤ k + p.length →
    ∃ r, spec_l03Grow_rec F k (mat0 E n) (nl p) 0 (-1) = some r ∧ (r ≠ [] ↔ ∃ q, Ext E n f p l q) := by
  intro k
  induction k with
  | zero =>
    intro p f l _ _ hd hl hk
    have := nodup_le n p hd hl
    omega
  | succ k ih =>
    intro p f l hf hl hd hlt hk
    have hp0 : 0 < p.length := (List.getElem?_eq_some_iff.1 hf).1
    have hpn := nodup_le n p hd hlt
    have hfn : f < n := hlt f (List.mem_of_getElem? hf)
    have hln : l < n := hlt l (List.mem_of_getElem? hl)
    have i1 : idx (nl p) 0 = some (f : Int) := by
      rw [show (0 : Int) = ((0 : Nat) : Int) from rfl, idx_nat, nl_at, hf]; rfl
    have i2 : idx (nl p) (IntKind.i64.wrap (((nl p).length : Int) - 1)) = some (l : Int) := by
      rw [nl_len, wr (by omega) (by omega), show (p.length : Int) - 1 = ((p.length - 1 : Nat) : Int) by omega, idx_nat, nl_at, hl]; rfl
    have cell : ∀ v, v < n → idx (mat0 E n) (v : Int) = some ((List.range n).map fun u => bif E u v then 0 else (-1000000000000000)) := fun v hv => by rw [idx_nat, mat0_row hv]
    have cel2 : ∀ v, idx ((List.range n).map fun u => bif E u v then (0 : Int) else (-1000000000000000)) (l : Int) = some (bif E l v then 0 else (-1000000000000000)) := fun v => by
      rw [idx_nat, List.getElem?_map, List.getElem?_range hln]; rfl
    unfold spec_l03Grow_rec
    simp only [i1, i2, cell f hfn, cel2, Option.bind_some]
    cases hE : E l f with
    | true =>
      refine ⟨nl p, rfl, ⟨fun _ => ⟨[], (fun x hx => (by cases hx)), by simpa using hd, hE⟩, fun _ e => ?_⟩⟩
      have := congrArg List.length e
      rw [nl_len] at this; simp at this; subst this; simp at hp0
    | false =>
      have H := for_ind (L := fun m (_ : Unit) i => spec_l03Grow_L1 F (mat0 E n) (nl p) 0 (-1) (l : Int) (spec_l03Grow_rec F k) m i) n
        (fun j _ => f < j ∧ ∀ v q, f < v → v < j → E l v = true → v ∉ p → ¬ Ext E n f (p ++ [v]) v q)
        (fun o => (∃ r, r ≠ [] ∧ o = some (.inl r) ∧ ∃ q, Ext E n f p l q) ∨ (o = some (.inr ()) ∧ ¬ ∃ q, Ext E n f p l q)) ?_ ?_ (n - (f + 1)) (f + 1) () F (by omega) ⟨by omega, fun v q h1 h2 => by omega⟩ (by omega)
      · have hw : IntKind.i64.wrap ((f : Int) + 1) = ((f + 1 : Nat) : Int) := wrN (by omega)
        have hc : ((-1000000000000000 : Int) != (-1000000000000000)) = false := rfl
        simp only [cond_false, hc, Option.bind_some, hw]
        rcases H with ⟨r, h1, h2, h3⟩ | ⟨h2, h3⟩
        · exact ⟨r, by simp only [h2, Option.bind_some], ⟨fun _ => h3, fun _ => h1⟩⟩
        · exact ⟨[], by simp only [h2, Option.bind_some], ⟨fun h => absurd rfl h, fun h => absurd h h3⟩⟩
      · rintro m j _ hj ⟨hfj, hI⟩
        have hown : spec_l01Own F (nl p) = some (nl p) := by
          unfold spec_l01Own
          rw [app_le (by rw [nl_len]; simp only [List.length_nil]; omega)]; rfl
        have happ : app (nl p) [(j : Int)] = some (nl (p ++ [j])) := by
          rw [app_le (by rw [nl_len]; simp only [List.length_singleton]; omega), nl_app]
        have hwj : IntKind.i64.wrap ((j : Int) + 1) = ((j + 1 : Nat) : Int) := wrN (by omega)
        have hml : ((mat0 E n).length : Int) = (n : Int) := by unfold mat0; simp
        cases hEj : E l j with
        | false =>
          refine .inl ⟨(), ?_, by omega, fun v q h1 h2 h3 h4 => ?_⟩
          · have hc : ((-1000000000000000 : Int) == (-1000000000000000)) = true := rfl
            simp only [spec_l03Grow_L1, hml, bdT (show (j : Int) < (n : Int) by omega), cell j hj, cel2, hEj, Option.bind_some, cond_false, hc, cond_true, hwj]
          · by_cases e : v = j
            · subst e; rw [hEj] at h3; cases h3
            · exact hI v q h1 (by omega) h3 h4
        | true =>
          have hc : ((0 : Int) == (-1000000000000000)) = false := rfl
          cases hpj : p.contains j with
          | true =>
            refine .inl ⟨(), ?_, by omega, fun v q h1 h2 h3 h4 => ?_⟩
            · simp only [spec_l03Grow_L1, hml, bdT (show (j : Int) < (n : Int) by omega), cell j hj, cel2, hEj, Option.bind_some, cond_true, hc, cond_false, specHas_is (F := F) (xs := nl p) (x := (j : Int)) hF (by rw [nl_len]; omega), nl_has, hpj, hwj]
            · by_cases e : v = j
              · subst e; exact absurd (by simpa using hpj) h4
              · exact hI v q h1 (by omega) h3 h4
          | false =>
            have hjp : j ∉ p := by simpa using hpj
            obtain ⟨r, hr, hriff⟩ := ih (p ++ [j]) f j (by rw [List.getElem?_append_left hp0]; exact hf) (by simp) (by
                rw [List.nodup_append]
                refine ⟨hd, by simp, fun a ha b hb e => ?_⟩
                simp only [List.mem_singleton] at hb
                exact hjp (by rw [← hb, ← e]; exact ha)) (fun x hx => by
                rcases List.mem_append.1 hx with hx | hx
                · exact hlt x hx
                · simp only [List.mem_singleton] at hx; omega) (by rw [List.length_append, List.length_singleton]; omega)
            have hw0 : IntKind.i64.wrap ((0 : Int) + 0) = 0 := rfl
            have S : spec_l03Grow_L1 F (mat0 E n) (nl p) 0 (-1) (l : Int) (spec_l03Grow_rec F k) (m + 1) (j : Int) = bif decide (0 < (r.length : Int)) then some (.inl r) else spec_l03Grow_L1 F (mat0 E n) (nl p) 0 (-1) (l : Int) (spec_l03Grow_rec F k) m ((j + 1 : Nat) : Int) := by
              simp only [spec_l03Grow_L1, hml, bdT (show (j : Int) < (n : Int) by omega), cell j hj, cel2, hEj, Option.bind_some, cond_true, hc, cond_false, specHas_is (F := F) (xs := nl p) (x := (j : Int)) hF (by rw [nl_len]; omega), nl_has, hpj, hown, happ, hw0, hr, hwj]
              cases decide (0 < (r.length : Int)) <;> rfl
            by_cases hre : r = []
            · refine .inl ⟨(), ?_, by omega, fun v q h1 h2 h3 h4 => ?_⟩
              · simp only [S, hre, List.length_nil, bdF (show ¬ (0 : Int) < ((0 : Nat) : Int) by omega)]
              · by_cases e : v = j
                · subst e
                  intro hx
                  exact (hriff.2 ⟨q, hx⟩) hre
                · exact hI v q h1 (by omega) h3 h4
            · refine .inr (.inl ⟨r, hre, ?_, ?_⟩)
              · have : 0 < r.length := List.length_pos_iff.2 hre
                simp only [S, bdT (show (0 : Int) < (r.length : Int) by omega)]
              · obtain ⟨q, h1, h2, h3⟩ := hriff.1 hre
                refine ⟨j :: q, fun x hx => ?_, by simpa using h2, hEj, h3⟩
                rcases List.mem_cons.1 hx with rfl | hx
                · exact ⟨hfj, hj⟩
                · exact h1 x hx
      · rintro m _ ⟨_, hI⟩
        refine .inr ⟨?_, ?_⟩
        · have hml : ((mat0 E n).length : Int) = (n : Int) := by unfold mat0; simp
          simp only [spec_l03Grow_L1, hml, bdF (show ¬ (n : Int) < (n : Int) by omega)]
        · rintro ⟨q, h1, h2, h3⟩
          cases q with
          | nil => rw [show Chain E l [] f = (E l f = true) from rfl, hE] at h3; cases h3
          | cons v q =>
            have hv := h1 v (by simp)
            refine hI v q hv.1 hv.2 h3.1 (fun hm => ?_) ⟨fun x hx => h1 x (by simp [hx]), by simpa using h2, h3.2⟩
            rw [List.nodup_append] at h2
            exact h2.2.2 v hm v (by simp) rfl

theorem specOver_is {F n : Nat} {E : Nat → Nat → Bool} (hF : 134217728 ≤ F) (hn : n ≤ 1000) : ∃ r, spec_l03Over F (mat0 E n) (-1) = some r ∧ (r ≠ [] ↔ ∃ v q, v < n ∧ Cyc E n v q) := by
  unfold spec_l03Over
  have hml : ((mat0 E n).length : Int) = (n : Int) := by unfold mat0; simp
  have H := for0 (L := fun m (_ : Unit) i => spec_l03Over_L1 F (mat0 E n) (-1) m i) (len := n) (fun j _ => ∀ v q, v < j → ¬ Cyc E n v q)
    (R := fun o => (∃ r, r ≠ [] ∧ o = some (.inl r) ∧ ∃ v q, v < n ∧ Cyc E n v q) ∨ (o = some (.inr ()) ∧ ¬ ∃ v q, v < n ∧ Cyc E n v q)) (s := ()) (n := F) ?_ ?_ (fun v q h => by omega) (by omega)
  · rcases H with ⟨r, h1, h2, h3⟩ | ⟨h2, h3⟩
    · exact ⟨r, by simp only [h2, Option.bind_some], ⟨fun _ => h3, fun _ => h1⟩⟩
    · exact ⟨[], by simp only [h2, Option.bind_some], ⟨fun h => absurd rfl h, fun h => absurd h h3⟩⟩
  · intro m j _ hj hI
    obtain ⟨r, hr, hriff⟩ := grow_is (F := F) (E := E) hF hn F [j] j j rfl rfl (by simp) (fun x hx => by simp only [List.mem_singleton] at hx; omega) (by simp only [List.length_singleton]; omega)
    have hgr : spec_l03Grow F (mat0 E n) [(j : Int)] 0 (-1) = some r := hr
    have hext : ∀ q, Ext E n j [j] j q ↔ Cyc E n j q := fun q => Iff.rfl
    by_cases hre : r = []
    · refine .inl ⟨(), ?_, fun v q hv hc => ?_⟩
      · simp only [spec_l03Over_L1, hml, bdT (show (j : Int) < (n : Int) by omega), hgr, Option.bind_some, hre, List.length_nil, bdF (show ¬ (0 : Int) < ((0 : Nat) : Int) by omega), wrN (show j ≤ 67108864 by omega)]
      · by_cases e : v = j
        · subst e
          exact (hriff.2 ⟨q, (hext q).2 hc⟩) hre
        · exact hI v q (by omega) hc
    · refine .inr (.inl ⟨r, hre, ?_, ?_⟩)
      · have : 0 < r.length := List.length_pos_iff.2 hre
        simp only [spec_l03Over_L1, hml, bdT (show (j : Int) < (n : Int) by omega), hgr, Option.bind_some, bdT (show (0 : Int) < (r.length : Int) by omega)]
      · obtain ⟨q, hq⟩ := hriff.1 hre
        exact ⟨j, q, hj, (hext q).1 hq⟩
  · intro m _ hI
    refine .inr ⟨?_, ?_⟩
    · simp only [spec_l03Over_L1, hml, bdF (show ¬ (n : Int) < (n : Int) by omega)]
    · rintro ⟨v, q, hv, hc⟩
      exact hI v q hv hc

def nextI : Option Nat → Int
  | some e => (e : Int)
  | none => -1

/-! ### Squares as tables -/
def entryOf (a : List (List Int)) (i j : Nat) : Int := (a.getD i []).getD j 0

theorem square_tab {a : List (List Int)} (h : squareB a = true) : 1 ≤ a.length ∧ a.length ≤ 10 ∧ a = tabM a.length a.length (entryOf a) ∧ TabOk (entryOf a) a.length := by
  unfold squareB at h
  rw [Bool.and_eq_true, beq_iff_eq] at h
  obtain ⟨hm, h2⟩ := h
  unfold matB at hm
  rw [Bool.and_eq_true, inB_true, List.all_eq_true] at hm
  obtain ⟨h3, h4⟩ := hm
  have hr : ∀ r, r ∈ a → r.length = a.length := fun r hr => by
    have := h4 r hr
    rw [Bool.and_eq_true, beq_iff_eq] at this
    omega
  refine ⟨by omega, by omega, tabM_self rfl hr, fun i j hi hj => ?_⟩
  have e : a[i]? = some (a.getD i []) := by rw [List.getD_eq_getElem?_getD, List.getElem?_eq_getElem hi]; rfl
  have hrow := List.mem_of_getElem? e
  have h5 := h4 _ hrow
  rw [Bool.and_eq_true] at h5
  have h6 := h5.1
  unfold vecB at h6
  rw [Bool.and_eq_true, List.all_eq_true] at h6
  have hjl : j < (a.getD i []).length := by rw [hr _ hrow]; exact hj
  have h7 := h6.2 _ (List.mem_of_getElem? (getD_of hjl))
  unfold valB at h7
  rw [Bool.or_eq_true, beq_iff_eq, inB_true] at h7
  exact h7

/-! ### Searches for cycles -/
theorem nl_first {p : List Nat} (h : p ≠ []) : idx (nl p) 0 = some (headN p : Int) := by
  cases p with
  | nil => exact absurd rfl h
  | cons x p => rw [show (0 : Int) = ((0 : Nat) : Int) from rfl, idx_nat, nl_at]; rfl

theorem nl_last {p : List Nat} (h : p ≠ []) (hl : p.length ≤ 1000) : idx (nl p) (IntKind.i64.wrap (((nl p).length : Int) - 1)) = some (lastN p : Int) := by
  have h0 := List.length_pos_iff.2 h
  rw [nl_len, wr (by omega) (by omega), show ((p.length : Int) - 1) = ((p.length - 1 : Nat) : Int) by omega, idx_nat, nl_at]
  unfold lastN
  rw [List.getLastD_eq_getLast?, List.getLast?_eq_getElem?]
  cases hp : p[p.length - 1]? with
  | none => rw [List.getElem?_eq_none_iff] at hp; omega
  | some x => rfl

theorem first_lt {n : Nat} {p : List Nat} (h : p ≠ []) (hp : ∀ x, x ∈ p → x < n) : headN p < n := by
  cases p with
  | nil => exact absurd rfl h
  | cons x p => exact hp x (by simp)

theorem last_mem {p : List Nat} (h : p ≠ []) : lastN p ∈ p := by
  unfold lastN
  rw [List.getLastD_eq_getLast?, List.getLast?_eq_some_getLast h]
  exact List.getLast_mem h

/-- a path of a search -/
structure PathOk (f : Nat → Nat → Int) (n : Nat) (p : List Nat) : Prop where
  ne : p ≠ []
  nodup : p.Nodup
  lt : ∀ x, x ∈ p → x < n
  w0 : -1000000 * (p.length : Int) ≤ pathw f p
  w1 : pathw f p ≤ 1000000 * (p.length : Int)

theorem PathOk.one (f : Nat → Nat → Int) {n v : Nat} (h : v < n) : PathOk f n [v] := ⟨by simp, by simp, fun x hx => by simp at hx; omega, by show _ ≤ (0 : Int); simp, by show (0 : Int) ≤ _; simp⟩

theorem PathOk.next {f : Nat → Nat → Int} {n v : Nat} {p : List Nat} (hf : TabOk f n) (h : PathOk f n p) (hv : v < n) (hc : candW f p v = true) : PathOk f n (p ++ [v]) ∧ pathw f (p ++ [v]) = pathw f p + f v (lastN p) ∧ f v (lastN p) ≠ -1000000000000000 := by
  unfold candW at hc
  rw [Bool.and_eq_true, Bool.and_eq_true] at hc
  have hnv : v ∉ p := by simpa using hc.2
  have ha := arcB_true.1 hc.1.2
  have hb := hf v (lastN p) hv (h.lt _ (last_mem h.ne))
  have e := pathw_snoc f v h.ne
  have h0 := h.w0
  have h1 := h.w1
  unfold Okw at hb
  refine ⟨⟨by simp, ?_, fun x hx => ?_, ?_, ?_⟩, e, ha⟩
  · rw [List.nodup_append]
    refine ⟨h.nodup, by simp, fun x hx y hy => ?_⟩
    simp only [List.mem_singleton] at hy
    subst hy
    exact fun e => hnv (e ▸ hx)
  · rcases List.mem_append.1 hx with hx | hx
    · exact h.lt x hx
    · simp only [List.mem_singleton] at hx; subst hx; exact hv
  · rw [e, List.length_append, List.length_singleton]; omega
  · rw [e, List.length_append, List.length_singleton]; omega

theorem specGrow_is {F n : Nat} {f : Nat → Nat → Int} {over : Int} (hF : 134217728 ≤ F) (hn : n ≤ 10) (hf : TabOk f n) : ∀ (k : Nat) (p : List Nat), PathOk f n p → n + 2 ≤ p.length + k →
    spec_l03Grow_rec F k (tabM n n f) (nl p) (pathw f p) over = some ((gdfs (accG f fun w => decide (over < w)) (candW f) n k p).elim [] nl) := by
  intro k
  induction k with
  | zero => intro p hp hk; have := nodup_le n p hp.nodup hp.lt; omega
  | succ k ih =>
    intro p hp hk
    have hpl := nodup_le n p hp.nodup hp.lt
    have hfl := first_lt hp.ne hp.lt
    have hll := hp.lt _ (last_mem hp.ne)
    have hcl := hf (headN p) (lastN p) hfl hll
    have h0 := hp.w0
    have h1 := hp.w1
    have hacc : (bif (f (headN p) (lastN p) != (-1000000000000000)) then some (decide (over < IntKind.i64.wrap (pathw f p + f (headN p) (lastN p)))) else some false) = some (accG f (fun w => decide (over < w)) p) := by
      unfold accG arcB
      by_cases e : f (headN p) (lastN p) = -1000000000000000
      · rw [bF (neF e), dF (by simpa using e), Bool.false_and]
      · unfold Okw at hcl
        rw [bT (neT e), dT e, Bool.true_and, wr (by omega) (by omega)]
    unfold spec_l03Grow_rec gdfs
    simp only [nl_first hp.ne, nl_last hp.ne (by omega), Option.bind_some, idx_nat, tabM_row hfl, tabM_at hll, hacc]
    cases ha : accG f (fun w => decide (over < w)) p with
    | true => rfl
    | false =>
      simp only [cond_false, Bool.false_eq_true, if_false]
      have hw1 : IntKind.i64.wrap ((headN p : Int) + 1) = ((headN p + 1 : Nat) : Int) := wrN (by omega)
      rw [hw1]
      have H := for_ind (L := fun m (_ : Unit) i => spec_l03Grow_L1 F (tabM n n f) (nl p) (pathw f p) over (lastN p : Int) (spec_l03Grow_rec F k) m i) n
        (fun j _ => headN p < j ∧ ∀ v, v < j → (if candW f p v = true then gdfs (accG f fun w => decide (over < w)) (candW f) n k (p ++ [v]) else none) = none)
        (fun o => (∃ r, r ≠ [] ∧ o = some (.inl (nl r)) ∧ ((List.range n).findSome? fun v => if candW f p v = true then gdfs (accG f fun w => decide (over < w)) (candW f) n k (p ++ [v]) else none) = some r) ∨ (o = some (.inr ()) ∧ ((List.range n).findSome? fun v => if candW f p v = true then gdfs (accG f fun w => decide (over < w)) (candW f) n k (p ++ [v]) else none) = none)) ?_ ?_ (n - (headN p + 1)) (headN p + 1) () F (by omega) ⟨by omega, fun v hv => ?_⟩ (by omega)
      · rcases H with ⟨r, h2, h3, h4⟩ | ⟨h3, h4⟩
        · simp only [h3, h4, Option.bind_some, Option.elim_some]
        · simp only [h3, h4, Option.bind_some, Option.elim_none]
      · rintro m j _ hj ⟨hfj, hI⟩
        have hcj := hf j (lastN p) hj hll
        have hown : spec_l01Own F (nl p) = some (nl p) := by
          unfold spec_l01Own
          rw [app_le (by rw [nl_len]; simp only [List.length_nil]; omega)]; rfl
        have happ : app (nl p) [(j : Int)] = some (nl (p ++ [j])) := by
          rw [app_le (by rw [nl_len]; simp only [List.length_singleton]; omega), nl_app]
        have hwj : IntKind.i64.wrap ((j : Int) + 1) = ((j + 1 : Nat) : Int) := wrN (by omega)
        cases hc : candW f p j with
        | false =>
          refine .inl ⟨(), ?_, by omega, fun v hv => ?_⟩
          · by_cases e : f j (lastN p) = -1000000000000000
            · simp only [spec_l03Grow_L1, tabM_len, bdT (show (j : Int) < (n : Int) by omega), idx_nat, tabM_row hj, tabM_at hll, Option.bind_some, e, beq_self_eq_true, cond_true, hwj]
            · have hpj : p.contains j = true := by
                unfold candW arcB at hc
                rw [dT hfj, dT e, Bool.true_and, Bool.true_and, Bool.not_eq_false'] at hc
                exact hc
              simp only [spec_l03Grow_L1, tabM_len, bdT (show (j : Int) < (n : Int) by omega), idx_nat, tabM_row hj, tabM_at hll, Option.bind_some, beq_false_of_ne e, cond_false, specHas_is (F := F) (xs := nl p) (x := (j : Int)) hF (by rw [nl_len]; omega), nl_has, hpj, cond_true, hwj]
          · by_cases e : v = j
            · subst e; rw [hc]; rfl
            · exact hI v (by omega)
        | true =>
          obtain ⟨hp', hpw, hne⟩ := hp.next hf hj hc
          have hpj : p.contains j = false := by
            unfold candW at hc
            rw [Bool.and_eq_true, Bool.not_eq_true'] at hc
            exact hc.2
          have hw2 : IntKind.i64.wrap (pathw f p + f j (lastN p)) = pathw f (p ++ [j]) := by
            unfold Okw at hcj
            rw [hpw, wr (by omega) (by omega)]
          have hr := ih (p ++ [j]) hp' (by rw [List.length_append, List.length_singleton]; omega)
          have S : spec_l03Grow_L1 F (tabM n n f) (nl p) (pathw f p) over (lastN p : Int) (spec_l03Grow_rec F k) (m + 1) (j : Int) = bif decide (0 < (((gdfs (accG f fun w => decide (over < w)) (candW f) n k (p ++ [j])).elim [] nl).length : Int)) then some (.inl ((gdfs (accG f fun w => decide (over < w)) (candW f) n k (p ++ [j])).elim [] nl)) else spec_l03Grow_L1 F (tabM n n f) (nl p) (pathw f p) over (lastN p : Int) (spec_l03Grow_rec F k) m ((j + 1 : Nat) : Int) := by
            simp only [spec_l03Grow_L1, tabM_len, bdT (show (j : Int) < (n : Int) by omega), idx_nat, tabM_row hj, tabM_at hll, Option.bind_some, beq_false_of_ne hne, cond_false, specHas_is (F := F) (xs := nl p) (x := (j : Int)) hF (by rw [nl_len]; omega), nl_has, hpj, hown, happ, hw2, hr, hwj]
            cases decide (0 < (((gdfs (accG f fun w => decide (over < w)) (candW f) n k (p ++ [j])).elim [] nl).length : Int)) <;> rfl
          cases hg : gdfs (accG f fun w => decide (over < w)) (candW f) n k (p ++ [j]) with
          | none =>
            refine .inl ⟨(), ?_, by omega, fun v hv => ?_⟩
            · rw [S, hg]; rfl
            · by_cases e : v = j
              · subst e; rw [if_pos hc]; exact hg
              · exact hI v (by omega)
          | some r =>
            obtain ⟨_, q, hrq, _⟩ := gdfs_some hg
            have hne' : r ≠ [] := by rw [hrq]; simp
            have hlen := List.length_pos_iff.2 hne'
            refine .inr (.inl ⟨r, hne', ?_, fs_some hI (by rw [if_pos hc]; exact hg) hj⟩)
            rw [S, hg]
            show (bif decide (0 < ((nl r).length : Int)) then _ else _) = _
            rw [nl_len, bdT (by omega)]; rfl
      · rintro m _ ⟨_, hI⟩
        refine .inr ⟨?_, fs_none hI⟩
        simp only [spec_l03Grow_L1, tabM_len, bdF (show ¬ (n : Int) < (n : Int) by omega)]
      · have : candW f p v = false := by
          unfold candW
          rw [dF (by omega), Bool.false_and, Bool.false_and]
        rw [this]; rfl

theorem specOverT_is {F n : Nat} {f : Nat → Nat → Int} {over : Int} (hF : 134217728 ≤ F) (hn : n ≤ 10) (hf : TabOk f n) : spec_l03Over F (tabM n n f) over = some ((firstCyc f n (fun w => decide (over < w)) F).elim [] nl) := by
  unfold spec_l03Over
  have H := for0 (L := fun m (_ : Unit) i => spec_l03Over_L1 F (tabM n n f) over m i) (len := n) (fun j _ => ∀ v, v < j → gdfs (accG f fun w => decide (over < w)) (candW f) n F [v] = none)
    (R := fun o => (∃ r, o = some (.inl (nl r)) ∧ firstCyc f n (fun w => decide (over < w)) F = some r) ∨ (o = some (.inr ()) ∧ firstCyc f n (fun w => decide (over < w)) F = none)) (s := ()) (n := F) ?_ ?_ (fun v h => by omega) (by omega)
  · rcases H with ⟨r, h1, h2⟩ | ⟨h1, h2⟩
    · simp only [h1, h2, Option.bind_some, Option.elim_some]
    · simp only [h1, h2, Option.bind_some, Option.elim_none]
  · intro m j _ hj hI
    have hr : spec_l03Grow F (tabM n n f) [(j : Int)] 0 over = some ((gdfs (accG f fun w => decide (over < w)) (candW f) n F [j]).elim [] nl) := specGrow_is (F := F) hF hn hf F [j] (PathOk.one f hj) (by simp only [List.length_singleton]; omega)
    have S : spec_l03Over_L1 F (tabM n n f) over (m + 1) (j : Int) = bif decide (0 < (((gdfs (accG f fun w => decide (over < w)) (candW f) n F [j]).elim [] nl).length : Int)) then some (.inl ((gdfs (accG f fun w => decide (over < w)) (candW f) n F [j]).elim [] nl)) else spec_l03Over_L1 F (tabM n n f) over m ((j + 1 : Nat) : Int) := by
      simp only [spec_l03Over_L1, tabM_len, bdT (show (j : Int) < (n : Int) by omega), hr, Option.bind_some, wrN (show j ≤ 67108864 by omega)]
    cases hg : gdfs (accG f fun w => decide (over < w)) (candW f) n F [j] with
    | none =>
      refine .inl ⟨(), ?_, fun v hv => ?_⟩
      · rw [S, hg]; rfl
      · by_cases e : v = j
        · subst e; exact hg
        · exact hI v (by omega)
    | some r =>
      obtain ⟨_, q, hrq, _⟩ := gdfs_some hg
      have hlen := List.length_pos_iff.2 (show r ≠ [] by rw [hrq]; simp)
      refine .inr (.inl ⟨r, ?_, fs_some hI hg hj⟩)
      rw [S, hg]
      show (bif decide (0 < ((nl r).length : Int)) then _ else _) = _
      rw [nl_len, bdT (by omega)]; rfl
  · intro m _ hI
    refine .inr ⟨?_, fs_none hI⟩
    simp only [spec_l03Over_L1, tabM_len, bdF (show ¬ (n : Int) < (n : Int) by omega)]

/-- which nodes behind the first are used -/
def UsedOk (n : Nat) (p : List Nat) (u : List Bool) : Prop := u.length = n ∧ ∀ v, v < n → headN p < v → u[v]? = some (p.contains v)

theorem implGrow_is {F n : Nat} {f : Nat → Nat → Int} {good : Int → Bool} {W : List Int → Int → Option Bool} (hF : 134217728 ≤ F) (hn : n ≤ 10) (hf : TabOk f n) (hW : ∀ l w, W l w = some (good w)) : ∀ (k : Nat) (p : List Nat) (u : List Bool), PathOk f n p → UsedOk n p u → n + 2 ≤ p.length + k →
    ∃ u', impl_cycleSearch_goOn_rec F k (tabM n n f) W (nl p) u (pathw f p) = some ((gdfs (accG f good) (candW f) n k p).elim (false, nl p, u') (fun r => (true, nl r, u'))) ∧ UsedOk n p u' ∨ ∃ r, gdfs (accG f good) (candW f) n k p = some r ∧ impl_cycleSearch_goOn_rec F k (tabM n n f) W (nl p) u (pathw f p) = some (true, nl r, u') := by
  intro k
  induction k with
  | zero => intro p u hp _ hk; have := nodup_le n p hp.nodup hp.lt; omega
  | succ k ih =>
    intro p u hp hu hk
    have hpl := nodup_le n p hp.nodup hp.lt
    have hfl := first_lt hp.ne hp.lt
    have hll := hp.lt _ (last_mem hp.ne)
    have hcl := hf (headN p) (lastN p) hfl hll
    have h0 := hp.w0
    have h1 := hp.w1
    have hacc : (bif (f (headN p) (lastN p) != (-1000000000000000)) then ((W (nl p) (IntKind.i64.wrap (pathw f p + f (headN p) (lastN p)))).bind fun r23 => some r23) else some false) = some (accG f good p) := by
      unfold accG arcB
      by_cases e : f (headN p) (lastN p) = -1000000000000000
      · rw [bF (neF e), dF (by simpa using e), Bool.false_and]
      · unfold Okw at hcl
        rw [bT (neT e), hW, dT e, Bool.true_and, wr (by omega) (by omega)]; rfl
    unfold impl_cycleSearch_goOn_rec gdfs
    simp only [nl_first hp.ne, nl_last hp.ne (by omega), Option.bind_some, idx_nat, tabM_row hfl, tabM_at hll, hacc]
    cases ha : accG f good p with
    | true => exact ⟨u, .inr ⟨p, rfl, rfl⟩⟩
    | false =>
      simp only [cond_false, Bool.false_eq_true, if_false]
      have hw1 : IntKind.i64.wrap ((headN p : Int) + 1) = ((headN p + 1 : Nat) : Int) := wrN (by omega)
      rw [hw1]
      have H := for_ind (L := fun m (s : List Int × List Bool) i => impl_cycleSearch_goOn_L1 F (tabM n n f) W (pathw f p) (lastN p : Int) (impl_cycleSearch_goOn_rec F k) m s.1 s.2 i) n
        (fun j s => s.1 = nl p ∧ UsedOk n p s.2 ∧ headN p < j ∧ ∀ v, v < j → (if candW f p v = true then gdfs (accG f good) (candW f) n k (p ++ [v]) else none) = none)
        (fun o => (∃ r u', o = some (.inl (true, nl r, u')) ∧ ((List.range n).findSome? fun v => if candW f p v = true then gdfs (accG f good) (candW f) n k (p ++ [v]) else none) = some r) ∨ (∃ u', o = some (.inr (nl p, u')) ∧ UsedOk n p u' ∧ ((List.range n).findSome? fun v => if candW f p v = true then gdfs (accG f good) (candW f) n k (p ++ [v]) else none) = none)) ?_ ?_ (n - (headN p + 1)) (headN p + 1) (nl p, u) F (by omega) ⟨rfl, hu, by omega, fun v hv => ?_⟩ (by omega)
      · rcases H with ⟨r, u', h3, h4⟩ | ⟨u', h3, h5, h4⟩
        · exact ⟨u', .inr ⟨r, h4, by simp only [h3, Option.bind_some]⟩⟩
        · exact ⟨u', .inl ⟨by simp only [h3, h4, Option.bind_some, Option.elim_none], h5⟩⟩
      · rintro m j ⟨_, us⟩ hj ⟨rfl, hu2, hfj, hI⟩
        simp only at hu2
        obtain ⟨hul, hus⟩ := hu2
        have hcj := hf j (lastN p) hj hll
        have happ : app (nl p) [(j : Int)] = some (nl (p ++ [j])) := by
          rw [app_le (by rw [nl_len]; simp only [List.length_singleton]; omega), nl_app]
        have hwj : IntKind.i64.wrap ((j : Int) + 1) = ((j + 1 : Nat) : Int) := wrN (by omega)
        have huj := hus j hj hfj
        cases hc : candW f p j with
        | false =>
          refine .inl ⟨(nl p, us), ?_, rfl, ⟨hul, hus⟩, by omega, fun v hv => ?_⟩
          · by_cases e : f j (lastN p) = -1000000000000000
            · simp only [impl_cycleSearch_goOn_L1, tabM_len, bdT (show (j : Int) < (n : Int) by omega), idx_nat, tabM_row hj, tabM_at hll, Option.bind_some, e, beq_self_eq_true, cond_true, hwj]
            · have hpj : p.contains j = true := by
                unfold candW arcB at hc
                rw [dT hfj, dT e, Bool.true_and, Bool.true_and, Bool.not_eq_false'] at hc
                exact hc
              simp only [impl_cycleSearch_goOn_L1, tabM_len, bdT (show (j : Int) < (n : Int) by omega), idx_nat, tabM_row hj, tabM_at hll, Option.bind_some, beq_false_of_ne e, cond_false, huj, hpj, cond_true, hwj]
          · by_cases e : v = j
            · subst e; rw [hc]; rfl
            · exact hI v (by omega)
        | true =>
          obtain ⟨hp', hpw, hne⟩ := hp.next hf hj hc
          have hpj : p.contains j = false := by
            unfold candW at hc
            rw [Bool.and_eq_true, Bool.not_eq_true'] at hc
            exact hc.2
          have hw2 : IntKind.i64.wrap (pathw f p + f j (lastN p)) = pathw f (p ++ [j]) := by
            unfold Okw at hcj
            rw [hpw, wr (by omega) (by omega)]
          have hjl : j < us.length := by omega
          have hu3 : UsedOk n (p ++ [j]) (us.set j true) := by
            refine ⟨by rw [List.length_set]; exact hul, fun v hv hfv => ?_⟩
            rw [headN_snoc hp.ne] at hfv
            by_cases e : v = j
            · subst e; rw [set_here hjl]; simp
            · rw [set_keep e, hus v hv hfv]
              simp [e]
          obtain ⟨u', hr⟩ := ih (p ++ [j]) (us.set j true) hp' hu3 (by rw [List.length_append, List.length_singleton]; omega)
          have S : ∀ (b : Bool) (pp : List Int) (uu : List Bool), impl_cycleSearch_goOn_rec F k (tabM n n f) W (nl (p ++ [j])) (us.set j true) (pathw f (p ++ [j])) = some (b, pp, uu) → impl_cycleSearch_goOn_L1 F (tabM n n f) W (pathw f p) (lastN p : Int) (impl_cycleSearch_goOn_rec F k) (m + 1) (nl p) us (j : Int) = bif b then some (.inl (true, pp, uu)) else ((cutTo pp (IntKind.i64.wrap ((pp.length : Int) - 1))).bind fun xs509 => ((idx uu (j : Int)).bind fun _ => ((upd uu (j : Int) false).bind fun xs512 => impl_cycleSearch_goOn_L1 F (tabM n n f) W (pathw f p) (lastN p : Int) (impl_cycleSearch_goOn_rec F k) m xs509 xs512 ((j + 1 : Nat) : Int)))) := by
            intro b pp uu hrec
            simp only [impl_cycleSearch_goOn_L1, tabM_len, bdT (show (j : Int) < (n : Int) by omega), idx_nat, tabM_row hj, tabM_at hll, Option.bind_some, beq_false_of_ne hne, cond_false, huj, hpj, upd_nat _ hjl, happ, hw2, hrec, hwj]
            cases b with
            | true => rfl
            | false =>
              simp only [cond_false]
              cases cutTo pp (IntKind.i64.wrap ((pp.length : Int) - 1)) with
              | none => rfl
              | some x =>
                simp only [Option.bind_some]
                cases uu[j]? with
                | none => rfl
                | some y =>
                  simp only [Option.bind_some]
                  cases upd uu (j : Int) false <;> rfl
          rcases hr with ⟨hr, hu'⟩ | ⟨r, hg, hr⟩
          · cases hg : gdfs (accG f good) (candW f) n k (p ++ [j]) with
            | none =>
              rw [hg] at hr
              have hcut : cutTo (nl (p ++ [j])) (IntKind.i64.wrap (((nl (p ++ [j])).length : Int) - 1)) = some (nl p) := by
                rw [nl_len, List.length_append, List.length_singleton, wr (by omega) (by omega)]
                unfold cutTo
                rw [nl_len, List.length_append, List.length_singleton, if_pos ⟨by omega, by omega⟩, show (((p.length + 1 : Nat) : Int) - 1).toNat = p.length by omega]
                unfold nl
                rw [List.map_append, List.take_left' (by simp)]
              have hjl' : j < u'.length := by rw [hu'.1]; exact hj
              refine .inl ⟨(nl p, u'.set j false), ?_, rfl, ⟨by rw [List.length_set]; exact hu'.1, fun v hv hfv => ?_⟩, by omega, fun v hv => ?_⟩
              · simp only [Option.elim_none] at hr
                show impl_cycleSearch_goOn_L1 F (tabM n n f) W (pathw f p) (lastN p : Int) (impl_cycleSearch_goOn_rec F k) (m + 1) (nl p) us (j : Int) = _
                rw [S _ _ _ hr, hcut]
                simp only [cond_false, Option.bind_some, idx_nat, List.getElem?_eq_getElem hjl', upd_nat _ hjl']
              · by_cases e : v = j
                · subst e; rw [set_here hjl', hpj]
                · rw [set_keep e, hu'.2 v hv (by rw [headN_snoc hp.ne]; exact hfv)]
                  simp [e]
              · by_cases e : v = j
                · subst e; rw [if_pos hc]; exact hg
                · exact hI v (by omega)
            | some r =>
              rw [hg] at hr
              refine .inr (.inl ⟨r, u', ?_, fs_some hI (by rw [if_pos hc]; exact hg) hj⟩)
              show impl_cycleSearch_goOn_L1 F (tabM n n f) W (pathw f p) (lastN p : Int) (impl_cycleSearch_goOn_rec F k) (m + 1) (nl p) us (j : Int) = _
              simp only [Option.elim_some] at hr
              rw [S _ _ _ hr]; rfl
          · refine .inr (.inl ⟨r, u', ?_, fs_some hI (by rw [if_pos hc]; exact hg) hj⟩)
            show impl_cycleSearch_goOn_L1 F (tabM n n f) W (pathw f p) (lastN p : Int) (impl_cycleSearch_goOn_rec F k) (m + 1) (nl p) us (j : Int) = _
            rw [S _ _ _ hr]; rfl
      · rintro m ⟨_, us⟩ ⟨rfl, hu2, _, hI⟩
        refine .inr ⟨us, ?_, hu2, fs_none hI⟩
        simp only [impl_cycleSearch_goOn_L1, tabM_len, bdF (show ¬ (n : Int) < (n : Int) by omega)]
      · have : candW f p v = false := by
          unfold candW
          rw [dF (by omega), Bool.false_and, Bool.false_and]
        rw [this]; rfl

theorem implFirst_is {F n : Nat} {f : Nat → Nat → Int} {good : Int → Bool} {W : List Int → Int → Option Bool} (hF : 134217728 ≤ F) (hn : n ≤ 10) (hf : TabOk f n) (hW : ∀ l w, W l w = some (good w)) : impl_firstCycle F (tabM n n f) W = some ((firstCyc f n good F).elim [] nl) := by
  unfold impl_firstCycle
  have H := for0 (L := fun m (_ : Unit) i => impl_firstCycle_L1 F (tabM n n f) W m i) (len := n) (fun j _ => ∀ v, v < j → gdfs (accG f good) (candW f) n F [v] = none)
    (R := fun o => (∃ r, o = some (.inl (nl r)) ∧ firstCyc f n good F = some r) ∨ (o = some (.inr ()) ∧ firstCyc f n good F = none)) (s := ()) (n := F) ?_ ?_ (fun v h => by omega) (by omega)
  · rcases H with ⟨r, h1, h2⟩ | ⟨h1, h2⟩
    · simp only [h1, h2, Option.bind_some, Option.elim_some]
    · simp only [h1, h2, Option.bind_some, Option.elim_none]
  · intro m j _ hj hI
    have hmk : mk (n : Int) false = some (List.replicate n false) := mk_nat false (by omega)
    have hu0 : UsedOk n [j] (List.replicate n false) := ⟨by simp, fun v hv hfv => by
      have : headN [j] = j := rfl
      rw [this] at hfv
      rw [List.getElem?_replicate, if_pos hv]
      simp; omega⟩
    have S : ∀ (b : Bool) (pp : List Int) (uu : List Bool), impl_cycleSearch_goOn F (tabM n n f) W [(j : Int)] (List.replicate n false) 0 = some (b, pp, uu) → impl_firstCycle_L1 F (tabM n n f) W (m + 1) (j : Int) = bif b then some (.inl pp) else impl_firstCycle_L1 F (tabM n n f) W m ((j + 1 : Nat) : Int) := by
      intro b pp uu h
      simp only [impl_firstCycle_L1, tabM_len, bdT (show (j : Int) < (n : Int) by omega), hmk, h, Option.bind_some, wrN (show j ≤ 67108864 by omega)]
    obtain ⟨u', hr⟩ := implGrow_is (F := F) (good := good) (W := W) hF hn hf hW F [j] (List.replicate n false) (PathOk.one f hj) hu0 (by simp only [List.length_singleton]; omega)
    rcases hr with ⟨hr, _⟩ | ⟨r, hg, hr⟩
    · cases hg : gdfs (accG f good) (candW f) n F [j] with
      | none =>
        rw [hg] at hr
        refine .inl ⟨(), ?_, fun v hv => ?_⟩
        · exact (S _ _ _ hr).trans rfl
        · by_cases e : v = j
          · subst e; exact hg
          · exact hI v (by omega)
      | some r =>
        rw [hg] at hr
        exact .inr (.inl ⟨r, (S _ _ _ hr).trans rfl, fs_some hI hg hj⟩)
    · exact .inr (.inl ⟨r, (S _ _ _ hr).trans rfl, fs_some hI hg hj⟩)
  · intro m _ hI
    refine .inr ⟨?_, fs_none hI⟩
    simp only [impl_firstCycle_L1, tabM_len, bdF (show ¬ (n : Int) < (n : Int) by omega)]

/-! ### Positive cycles, by the program -/
theorem squareB_tab {n : Nat} {f : Nat → Nat → Int} (h1 : 1 ≤ n) (hn : n ≤ 10) (hf : TabOk f n) : squareB (tabM n n f) = true := by
  have h0 : firstL (tabM n n f) = (n : Int) := by
    unfold firstL
    rw [List.getD_eq_getElem?_getD, tabM_row (show 0 < n by omega)]; simp
  unfold squareB matB
  rw [h0, tabM_len, Bool.and_eq_true, Bool.and_eq_true, inB_true, List.all_eq_true, beq_iff_eq]
  refine ⟨⟨by omega, fun r hr => ?_⟩, rfl⟩
  have hl := tabM_rows r hr
  unfold vecB
  rw [Bool.and_eq_true, Bool.and_eq_true, inB_true, beq_iff_eq, List.all_eq_true, hl]
  refine ⟨⟨by omega, fun x hx => ?_⟩, rfl⟩
  obtain ⟨i, hi, rfl⟩ := List.getElem_of_mem hr
  rw [tabM_len] at hi
  have e : (tabM n n f)[i] = (List.range n).map fun j => f i j := by
    have := tabM_row (m := n) (n := n) (f := f) hi
    rw [List.getElem?_eq_getElem (by rw [tabM_len]; exact hi)] at this
    exact Option.some.inj this
  rw [e, List.mem_map] at hx
  obtain ⟨j, hj, rfl⟩ := hx
  have := hf i j hi (by simpa using hj)
  unfold valB
  rw [Bool.or_eq_true, beq_iff_eq, inB_true]
  exact this

theorem implPos_is {F n : Nat} {f : Nat → Nat → Int} (hF : 134217728 ≤ F) (n1 : 1 ≤ n) (n10 : n ≤ 10) (hk : TabOk f n) : impl_PositiveCycle F (tabM n n f) = some ((firstCyc f n (fun w => decide (0 < w)) F).elim ([], 4) (fun r => (nl r, 0))) := by
  unfold impl_PositiveCycle
  have hW : ∀ (l : List Int) (w : Int), (fun x0 x1 => impl_PositiveCycle_c1 F x0 x1) l w = some (decide (0 < w)) := fun l w => rfl
  have hI := implFirst_is (F := F) (good := fun w => decide (0 < w)) hF n10 hk hW
  have hp := firstCyc_pos (a := f) (n := n) (K := F) (by omega)
  rw [implSquare_is hF (rows_tab n10), squareB_tab n1 n10 hk]
  simp only [Bool.not_true, cond_false, Option.bind_some, hI]
  rcases implStar_is (F := F) hF n1 n10 hk with ⟨hok, h2⟩ | ⟨hno, h2⟩
  · have hc : firstCyc f n (fun w => decide (0 < w)) F = none := by
      cases h : firstCyc f n (fun w => decide (0 < w)) F with
      | none => rfl
      | some r => exact absurd (hp.1 (by rw [h]; rfl)) (fwok_none hk (by omega) hok)
    rw [h2, hc]; rfl
  · have hpos : PosCyc f n := Classical.byContradiction fun h => hno ((fwok_iff hk (by omega)).2 h)
    obtain ⟨r, hr⟩ := Option.isSome_iff_exists.1 (hp.2 hpos)
    rw [h2, hr]; rfl

theorem foldl_len {α : Type} {f : List Int → α → List Int} (hf : ∀ xs a, (f xs a).length = xs.length) : ∀ (l : List α) (xs : List Int), (l.foldl f xs).length = xs.length
  | [], _ => rfl
  | a :: l, xs => by rw [List.foldl_cons, foldl_len hf l, hf]

theorem getN {xs : List Int} {i : Int} {u n : Nat} (h : i = (u : Int)) (hu : u < n) (hx : xs.length = n) : idx xs i = some (xs.getD i.toNat 0) := by
  subst h; rw [idx_nat, Int.toNat_natCast, getD_of (by omega)]

theorem upd_last {pre : List (List Int)} {xs ys : List Int} : upd (pre ++ [xs]) (pre.length : Int) ys = some (pre ++ [ys]) := by
  rw [upd_nat _ (by simp)]; simp

theorem foldl_range {S : Type} {f : S → Nat → S} {o : List Nat} {s : S} {k : Nat} (hk : k < o.length) : (o.take (k + 1)).foldl f s = f ((o.take k).foldl f s) (o.getD k 0) := by
  have : o[k]? = some (o.getD k 0) := by rw [List.getD_eq_getElem?_getD, List.getElem?_eq_getElem hk]; rfl
  rw [List.take_add_one, this, List.foldl_append]; rfl

theorem last_at {pre : List (List Int)} {xs : List Int} : (pre ++ [xs])[pre.length]? = some xs := by simp

/-! ### Delays lie in their range -/
theorem wr_range (n : Int) : -9223372036854775808 ≤ IntKind.i64.wrap n ∧ IntKind.i64.wrap n ≤ 9223372036854775807 := by
  simp [IntKind.wrap, IntKind.bits, IntKind.signed]; omega

def allIn (xs : List Int) : Prop := ∀ i, 0 ≤ xs.getD i 0 ∧ xs.getD i 0 ≤ 1000000

theorem allIn_mem {xs : List Int} (h : allIn xs) : ∀ x, x ∈ xs → 0 ≤ x ∧ x ≤ 1000000 := by
  intro x hx
  obtain ⟨i, hi, rfl⟩ := List.getElem_of_mem hx
  have := h i
  rw [List.getD_eq_getElem?_getD, List.getElem?_eq_getElem hi] at this
  exact this

theorem allIn_of {xs : List Int} (h : ∀ x, x ∈ xs → 0 ≤ x ∧ x ≤ 1000000) : allIn xs := by
  intro i
  by_cases hi : i < xs.length
  · rw [List.getD_eq_getElem?_getD, List.getElem?_eq_getElem hi]; exact h _ (List.getElem_mem hi)
  · rw [List.getD_eq_getElem?_getD, List.getElem?_eq_none (by omega)]; simp

theorem set_getD {xs : List Int} {e i : Nat} {y : Int} : (xs.set e y).getD i 0 = if i = e ∧ i < xs.length then y else xs.getD i 0 := by
  rw [List.getD_eq_getElem?_getD, List.getD_eq_getElem?_getD]
  by_cases h : i = e
  · subst h
    by_cases hl : i < xs.length
    · rw [set_here hl, if_pos ⟨rfl, hl⟩]; rfl
    · rw [if_neg (fun hc => hl hc.2), List.getElem?_eq_none (by simp; omega), List.getElem?_eq_none (by omega)]
  · rw [set_keep h, if_neg (fun hc => h hc.1)]

theorem foldl_in {α : Type} {f : List Int → α → List Int} (l : List α) (hf : ∀ xs a, a ∈ l → allIn xs → allIn (f xs a)) : ∀ xs, allIn xs → allIn (l.foldl f xs) := by
  induction l with
  | nil => intro xs h; exact h
  | cons a l ih => intro xs h; exact ih (fun xs b hb => hf xs b (by simp [hb])) _ (hf xs a (by simp) h)

theorem rowsD {T : List (List Int)} {k : Nat} (h : k < T.length) : T[k]? = some (T.getD k []) := by
  rw [List.getD_eq_getElem?_getD, List.getElem?_eq_getElem h]; rfl

/-! ### When delays are settled -/
def zB (xs : List Int) : Bool := xs.all fun x => inB x 0 0

theorem sum_pos {xs : List Int} (h : ∀ x, x ∈ xs → 0 ≤ x ∧ x ≤ 1000000) : 0 ≤ xs.sum ∧ xs.sum ≤ 1000000 * (xs.length : Int) ∧ decide (0 < xs.sum) = !zB xs := by
  induction xs with
  | nil => exact ⟨by simp, by simp, rfl⟩
  | cons x xs ih =>
    obtain ⟨h1, h2, h3⟩ := ih (fun y hy => h y (by simp [hy]))
    have hx := h x (by simp)
    rw [List.sum_cons]
    refine ⟨by omega, by simp only [List.length_cons]; omega, ?_⟩
    have e : zB (x :: xs) = (inB x 0 0 && zB xs) := rfl
    rw [e]
    by_cases h0 : x = 0
    · subst h0
      rw [show inB 0 0 0 = true from rfl, Bool.true_and, ← h3]; simp
    · rw [inB_false (show ¬ ((0 : Int) ≤ x ∧ x ≤ 0) by omega), Bool.false_and]
      exact decide_eq_true (by omega)

/-- behind the last row that is not zero -/
def lsz (T : List (List Int)) : Nat → Nat
  | 0 => 0
  | k + 1 => if zB (T.getD k []) = true then lsz T k else k + 1

theorem lsz_le (T : List (List Int)) : ∀ k, lsz T k ≤ k
  | 0 => Nat.le_refl _
  | k + 1 => by
    unfold lsz
    split
    · have := lsz_le T k; omega
    · exact Nat.le_refl _

/-! ### The greatest delays -/
def wmax (xs q : List Int) : List Int := (List.range xs.length).map fun i => max (xs.getD i 0) (q.getD i 0)

theorem wmax_len (xs q : List Int) : (wmax xs q).length = xs.length := by unfold wmax; simp

theorem wmax_of {r a b : List Int} (hl : r.length = a.length) (h : ∀ q, q < a.length → r[q]? = some (max (a.getD q 0) (b.getD q 0))) : r = wmax a b := by
  apply List.ext_getElem?; intro q
  by_cases hq : q < a.length
  · rw [h q hq]; unfold wmax; rw [List.getElem?_map, List.getElem?_range hq]; rfl
  · rw [List.getElem?_eq_none (by omega), List.getElem?_eq_none (by rw [wmax_len]; omega)]

theorem wfold_len (T : List (List Int)) (xs : List Int) : (T.foldl wmax xs).length = xs.length := foldl_len wmax_len T xs

theorem foldl_takeR {S : Type} {f : S → List Int → S} {T : List (List Int)} {s : S} {k : Nat} (hk : k < T.length) : (T.take (k + 1)).foldl f s = f ((T.take k).foldl f s) (T.getD k []) := by
  have : T[k]? = some (T.getD k []) := by rw [List.getD_eq_getElem?_getD, List.getElem?_eq_getElem hk]; rfl
  rw [List.take_add_one, this, List.foldl_append]; rfl

end Go.Proofs.Ytmijmamolmoheaa
