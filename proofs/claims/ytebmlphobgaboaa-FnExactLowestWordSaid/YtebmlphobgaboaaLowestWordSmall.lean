/- Plain lemmas about the small functions of the laws. -/
import Derived.Test.YtebmlphobgaboaaLowestWordModels
import Derived.Test.YtebmlphobgaboaaBf
namespace Go.Proofs.Ytebmlphobgaboaa

def toP_Int64 (p : Int) : Int := p
theorem szInt64S_is {F : Nat} {ps : List Int} {left : Int} (h0 : 0 ≤ left) (h1 : left ≤ 1048576) (h : ps.length ≤ 9223372036854775807) : ∃ r, laws_szInt64S F ps left = some r ∧ (r < 0 ∨ (0 ≤ r ∧ r + ps.length = left)) := by
  unfold laws_szInt64S
  rw [wr (by omega) (by omega)]
  by_cases hc : left - (ps.length : Int) < 0
  · exact ⟨-1, by rw [bdT hc], .inl (by decide)⟩
  · exact ⟨left - ps.length, by rw [bdF hc], .inr ⟨by omega, by omega⟩⟩
theorem toInt64S_is {F : Nat} {ps : List Int} (hF : 134217728 ≤ F) (h : ps.length ≤ 1048576) : laws_toInt64S F ps = some (ps.map toP_Int64) := by
  unfold laws_toInt64S
  rw [mk_nat _ (by omega)]
  simp only [Option.bind_some]
  rw [fill_loop (ps := ps) (f := toP_Int64) (L := laws_toInt64S_L1 F ps) ?_ ?_ (by simp) (by omega)]; rfl
  · intro n xs k x hk hx hl
    have hk' : k < xs.length := by omega
    have hq : xs[k]? = some xs[k] := List.getElem?_eq_getElem hk'
    simp only [laws_toInt64S_L1, bdT (show (k : Int) < (ps.length : Int) by omega), idx_nat, hx, hq, Option.bind_some, upd_nat, hk', wrN (show k ≤ 67108864 by omega), toP_Int64]
  · intro n xs
    simp only [laws_toInt64S_L1, bdF (show ¬ (ps.length : Int) < (ps.length : Int) by omega)]
theorem eqInt64S_same {F : Nat} {xs : List Int} (hF : 134217728 ≤ F) (h : xs.length ≤ 16777216) : laws_eqInt64S F xs xs = some true := by
  unfold laws_eqInt64S
  rw [bF (neF rfl), same_loop (L := laws_eqInt64S_L1 F xs xs) (len := xs.length) ?_ ?_ (by omega)]; rfl
  · intro n k hk
    have hq : xs[k]? = some xs[k] := List.getElem?_eq_getElem hk
    simp only [laws_eqInt64S_L1, bdT (show (k : Int) < (xs.length : Int) by omega), idx_nat, hq, Option.bind_some, bne_self_eq_false, cond_false, wrN (show k ≤ 67108864 by omega)]
  · intro n
    simp only [laws_eqInt64S_L1, bdF (show ¬ (xs.length : Int) < (xs.length : Int) by omega)]
def mrk_Int64 (k : Int) (i : Nat) : Int := k + 1 * (i : Int)
theorem markInt64S_is {F : Nat} {ps : List Int} {k : Int} (hF : 134217728 ≤ F) (h : ps.length ≤ 16777216) (h0 : 0 ≤ k) (h1 : k ≤ 1000000000000) :
    ∃ ms, laws_markInt64S F ps k = some (k + 1 * (ps.length : Int), ms) ∧ ms.length = ps.length ∧ ∀ i, i < ps.length → ms[i]? = some (mrk_Int64 k i) := by
  have H := for0 (L := fun n (s : List Int × Int) i => laws_markInt64S_L1 F n s.1 s.2 i) (len := ps.length) (fun j s => s.1.length = ps.length ∧ s.2 = k + 1 * (j : Int) ∧ ∀ i, i < j → s.1[i]? = some (mrk_Int64 k i))
    (R := fun r => ∃ ms, r = some (ms, k + 1 * (ps.length : Int)) ∧ ms.length = ps.length ∧ ∀ i, i < ps.length → ms[i]? = some (mrk_Int64 k i)) (s := (ps, k)) (n := F) ?_ ?_ ⟨rfl, by simp, by intro i hi; omega⟩ (by omega)
  · obtain ⟨ms, he, hl, hi⟩ := H
    refine ⟨ms, ?_, hl, hi⟩
    unfold laws_markInt64S
    rw [bind_of he]
  · rintro n j ⟨xs, s⟩ hj ⟨hl, hs, hi⟩
    simp only at hl hs hi
    subst hs
    have hk' : j < xs.length := by omega
    have hq : xs[j]? = some xs[j] := List.getElem?_eq_getElem hk'
    have w1 : IntKind.i64.wrap (k + 1 * (j : Int) + 1) = k + 1 * (j : Int) + 1 := wr (by omega) (by omega)
    refine .inl ⟨(xs.set j (mrk_Int64 k j), k + 1 * (j : Int) + 1), ?_, by rw [List.length_set]; exact hl, by simp only; omega, ?_⟩
    · simp only [laws_markInt64S_L1, bdT (show (j : Int) < (xs.length : Int) by omega), idx_nat, hq, Option.bind_some, upd_nat, hk', wrN (show j ≤ 67108864 by omega), w1, mrk_Int64]
    · intro i hij
      by_cases e : i = j
      · subst e; exact set_here hk'
      · simp only; rw [set_keep e]; exact hi i (by omega)
  · rintro n ⟨xs, s⟩ ⟨hl, hs, hi⟩
    simp only at hl hs hi
    refine ⟨xs, ?_, hl, hi⟩
    simp only [laws_markInt64S_L1, bdF (show ¬ (ps.length : Int) < (xs.length : Int) by omega), hs]
theorem heldInt64S_is {F : Nat} {ms : List Int} {k : Int} (hF : 134217728 ≤ F) (h : ms.length ≤ 16777216) (h0 : 0 ≤ k) (h1 : k ≤ 1000000000000) (hm : ∀ i, i < ms.length → ms[i]? = some (mrk_Int64 k i)) :
    laws_heldInt64S F ms k = some (k + 1 * (ms.length : Int)) := by
  unfold laws_heldInt64S
  rw [show laws_heldInt64S_L1 F ms F k 0 = some (.inr (k + 1 * (ms.length : Int))) from ?_]; rfl
  refine for0 (L := fun n (s : Int) i => laws_heldInt64S_L1 F ms n s i) (len := ms.length) (fun j s => s = k + 1 * (j : Int)) (R := fun r => r = some (.inr (k + 1 * (ms.length : Int)))) ?_ ?_ (by simp) (by omega)
  · rintro n j s hj rfl
    have w1 : IntKind.i64.wrap (k + 1 * (j : Int) + 1) = k + 1 * (j : Int) + 1 := wr (by omega) (by omega)
    refine .inl ⟨k + 1 * (j : Int) + 1, ?_, by omega⟩
    simp only [laws_heldInt64S_L1, bdT (show (j : Int) < (ms.length : Int) by omega), idx_nat, hm j hj, Option.bind_some, wrN (show j ≤ 67108864 by omega), w1, mrk_Int64, bne_self_eq_false, cond_false]
  · rintro n s rfl
    simp only [laws_heldInt64S_L1, bdF (show ¬ (ms.length : Int) < (ms.length : Int) by omega)]

theorem slices_IndexFunc_int64_is {F : Nat} {ps : List Int} {m : Int → Option Bool} {h : Int → Bool} (hF : 134217728 ≤ F) (hl : ps.length ≤ 16777216) (hm : ∀ x, x ∈ ps → m x = some (h x)) :
    slices_IndexFunc_int64 F ps m = some (firstAt (ps.findIdx? h)) := by
  unfold slices_IndexFunc_int64
  rw [find_loop (ps := ps) (h := h) (v := fun k => (k : Int)) (L := slices_IndexFunc_int64_L1 F ps m) ?_ ?_ (by omega)]
  · cases ps.findIdx? h <;> rfl
  · intro n k x hk hx
    simp only [slices_IndexFunc_int64_L1, bdT (show (k : Int) < (ps.length : Int) by omega), idx_nat, hx, Option.bind_some, hm x (List.mem_of_getElem? hx), wrN (show k ≤ 67108864 by omega)]
  · intro n
    simp only [slices_IndexFunc_int64_L1, bdF (show ¬ (ps.length : Int) < (ps.length : Int) by omega)]
theorem slices_ContainsFunc_int64_is {F : Nat} {ps : List Int} {m : Int → Option Bool} {h : Int → Bool} (hF : 134217728 ≤ F) (hl : ps.length ≤ 16777216) (hm : ∀ x, x ∈ ps → m x = some (h x)) :
    slices_ContainsFunc_int64 F ps m = some (ps.any h) := by
  unfold slices_ContainsFunc_int64
  rw [bind_of (slices_IndexFunc_int64_is hF hl hm), find_any]

theorem slices_IndexFunc_sint64_is {F : Nat} {ps : List (List Int)} {m : (List Int) → Option Bool} {h : (List Int) → Bool} (hF : 134217728 ≤ F) (hl : ps.length ≤ 16777216) (hm : ∀ x, x ∈ ps → m x = some (h x)) :
    slices_IndexFunc_sint64 F ps m = some (firstAt (ps.findIdx? h)) := by
  unfold slices_IndexFunc_sint64
  rw [find_loop (ps := ps) (h := h) (v := fun k => (k : Int)) (L := slices_IndexFunc_sint64_L1 F ps m) ?_ ?_ (by omega)]
  · cases ps.findIdx? h <;> rfl
  · intro n k x hk hx
    simp only [slices_IndexFunc_sint64_L1, bdT (show (k : Int) < (ps.length : Int) by omega), idx_nat, hx, Option.bind_some, hm x (List.mem_of_getElem? hx), wrN (show k ≤ 67108864 by omega)]
  · intro n
    simp only [slices_IndexFunc_sint64_L1, bdF (show ¬ (ps.length : Int) < (ps.length : Int) by omega)]
theorem slices_ContainsFunc_sint64_is {F : Nat} {ps : List (List Int)} {m : (List Int) → Option Bool} {h : (List Int) → Bool} (hF : 134217728 ≤ F) (hl : ps.length ≤ 16777216) (hm : ∀ x, x ∈ ps → m x = some (h x)) :
    slices_ContainsFunc_sint64 F ps m = some (ps.any h) := by
  unfold slices_ContainsFunc_sint64
  rw [bind_of (slices_IndexFunc_sint64_is hF hl hm), find_any]

theorem slices_IndexFunc_ssint64_is {F : Nat} {ps : List (List (List Int))} {m : (List (List Int)) → Option Bool} {h : (List (List Int)) → Bool} (hF : 134217728 ≤ F) (hl : ps.length ≤ 16777216) (hm : ∀ x, x ∈ ps → m x = some (h x)) :
    slices_IndexFunc_ssint64 F ps m = some (firstAt (ps.findIdx? h)) := by
  unfold slices_IndexFunc_ssint64
  rw [find_loop (ps := ps) (h := h) (v := fun k => (k : Int)) (L := slices_IndexFunc_ssint64_L1 F ps m) ?_ ?_ (by omega)]
  · cases ps.findIdx? h <;> rfl
  · intro n k x hk hx
    simp only [slices_IndexFunc_ssint64_L1, bdT (show (k : Int) < (ps.length : Int) by omega), idx_nat, hx, Option.bind_some, hm x (List.mem_of_getElem? hx), wrN (show k ≤ 67108864 by omega)]
  · intro n
    simp only [slices_IndexFunc_ssint64_L1, bdF (show ¬ (ps.length : Int) < (ps.length : Int) by omega)]
theorem slices_ContainsFunc_ssint64_is {F : Nat} {ps : List (List (List Int))} {m : (List (List Int)) → Option Bool} {h : (List (List Int)) → Bool} (hF : 134217728 ≤ F) (hl : ps.length ≤ 16777216) (hm : ∀ x, x ∈ ps → m x = some (h x)) :
    slices_ContainsFunc_ssint64 F ps m = some (ps.any h) := by
  unfold slices_ContainsFunc_ssint64
  rw [bind_of (slices_IndexFunc_ssint64_is hF hl hm), find_any]

theorem toInt64S_same {F : Nat} {ps : List Int} (hF : 134217728 ≤ F) (h : ps.length ≤ 1048576) : laws_toInt64S F ps = some ps := by
  rw [toInt64S_is hF h, show ps.map toP_Int64 = ps from by unfold toP_Int64; simp]

/-- how many numbers stand in the first i rows -/
def offR (rows : List (List Int)) (i : Nat) : Nat := ((rows.take i).map List.length).sum

theorem offR_zero (rows : List (List Int)) : offR rows 0 = 0 := rfl

theorem offR_succ {rows : List (List Int)} {i : Nat} {row : List Int} (h : rows[i]? = some row) : offR rows (i + 1) = offR rows i + row.length := by
  unfold offR
  rw [List.take_add_one, h]; simp

theorem offR_mono (rows : List (List Int)) (i : Nat) : offR rows i ≤ offR rows (i + 1) := by
  unfold offR
  rw [List.take_add_one, List.map_append, List.sum_append]; omega

theorem offR_le {rows : List (List Int)} {i j : Nat} (h : i ≤ j) : offR rows i ≤ offR rows j := by
  induction j with
  | zero => obtain rfl : i = 0 := by omega
            exact Nat.le_refl _
  | succ j ih =>
    by_cases e : i = j + 1
    · subst e; exact Nat.le_refl _
    · exact Nat.le_trans (ih (by omega)) (offR_mono rows j)


theorem rows_le {rows : List (List Int)} {N : Nat} (hr : offR rows rows.length ≤ N) : ∀ row, row ∈ rows → row.length ≤ N := by
  intro row hm
  obtain ⟨i, hi, rfl⟩ := List.getElem_of_mem hm
  have h1 := offR_succ (List.getElem?_eq_getElem hi)
  have h2 := offR_le (rows := rows) (show i + 1 ≤ rows.length by omega)
  omega

theorem szInt64SS_is {F : Nat} {ps : List (List Int)} {left : Int} (h0 : 0 ≤ left) (h1 : left ≤ 1048576) (hF : 9223372036854775808 ≤ F) (h : ps.length ≤ 9223372036854775807) (hr : ∀ row, row ∈ ps → row.length ≤ 9223372036854775807) :
    ∃ r, laws_szInt64SS F ps left = some r ∧ (r < 0 ∨ (0 ≤ r ∧ r + ps.length + offR ps ps.length = left)) := by
  unfold laws_szInt64SS
  rw [wr (by omega) (by omega)]
  by_cases hc : left - (ps.length : Int) < 0
  · exact ⟨-1, by rw [bdT hc], .inl (by decide)⟩
  rw [bdF hc]
  have H := for0 (L := fun n (s : Int) i => laws_szInt64SS_L1 F ps n s i) (len := ps.length) (fun j s => 0 ≤ s ∧ s + ps.length + offR ps j = left)
    (R := fun r => r = some (.inl (-1)) ∨ ∃ s, r = some (.inr s) ∧ 0 ≤ s ∧ s + ps.length + offR ps ps.length = left) (s := left - (ps.length : Int)) (n := F) ?_ ?_ ⟨by omega, by rw [offR_zero]; omega⟩ (by omega)
  · rcases H with he | ⟨s, he, h3, h4⟩
    · exact ⟨-1, by rw [he]; rfl, .inl (by decide)⟩
    · exact ⟨s, by rw [he]; rfl, .inr ⟨h3, h4⟩⟩
  · intro n j s hj ⟨hs, ht⟩
    have hq : ps[j]? = some ps[j] := List.getElem?_eq_getElem hj
    obtain ⟨r, hr1, hr2⟩ := szInt64S_is (F := F) hs (by omega) (hr _ (List.getElem_mem hj))
    by_cases hn : r < 0
    · refine .inr (.inl ?_)
      simp only [laws_szInt64SS_L1, bdT (show (j : Int) < (ps.length : Int) by omega), idx_nat, hq, Option.bind_some, hr1, bdT hn]
    · refine .inl ⟨r, ?_, by omega, by rw [offR_succ hq]; omega⟩
      simp only [laws_szInt64SS_L1, bdT (show (j : Int) < (ps.length : Int) by omega), idx_nat, hq, Option.bind_some, hr1, bdF hn]
      rw [wr (by omega) (by omega)]; rfl
  · intro n s ⟨hs, ht⟩
    refine .inr ⟨s, ?_, hs, ht⟩
    simp only [laws_szInt64SS_L1, bdF (show ¬ (ps.length : Int) < (ps.length : Int) by omega)]


theorem toInt64SS_is {F : Nat} {ps : List (List Int)} (hF : 134217728 ≤ F) (h : ps.length ≤ 1048576) (hr : offR ps ps.length ≤ 1048576) : laws_toInt64SS F ps = some ps := by
  have each : ∀ (i : Nat) (row : List Int), ps[i]? = some row → row.length ≤ 1048576 := fun i row hi => by
    have hlt := (List.getElem?_eq_some_iff.1 hi).1
    have h1 := offR_succ hi
    have h2 := offR_le (rows := ps) (show i + 1 ≤ ps.length by omega)
    omega
  unfold laws_toInt64SS
  rw [mk_nat _ (by omega)]
  simp only [Option.bind_some]
  rw [fill_loop (ps := ps) (f := fun x => x) (L := laws_toInt64SS_L1 F ps) ?_ ?_ (by simp) (by omega)]
  · simp
  · intro n xs k x hk hx hl
    have hk' : k < xs.length := by omega
    have hq : xs[k]? = some xs[k] := List.getElem?_eq_getElem hk'
    have ht := toInt64S_is (F := F) hF (each k x hx)
    rw [show x.map toP_Int64 = x from by unfold toP_Int64; simp] at ht
    simp only [laws_toInt64SS_L1, bdT (show (k : Int) < (ps.length : Int) by omega), idx_nat, hx, hq, ht, Option.bind_some, upd_nat, hk', wrN (show k ≤ 67108864 by omega)]
  · intro n xs
    simp only [laws_toInt64SS_L1, bdF (show ¬ (ps.length : Int) < (ps.length : Int) by omega)]


theorem eqInt64SS_same {F : Nat} {xs : List (List Int)} (hF : 134217728 ≤ F) (h : xs.length ≤ 16777216) (hr : ∀ row, row ∈ xs → row.length ≤ 16777216) : laws_eqInt64SS F xs xs = some true := by
  unfold laws_eqInt64SS
  rw [bF (neF rfl), same_loop (L := laws_eqInt64SS_L1 F xs xs) (len := xs.length) ?_ ?_ (by omega)]; rfl
  · intro n k hk
    have hq : xs[k]? = some xs[k] := List.getElem?_eq_getElem hk
    simp only [laws_eqInt64SS_L1, bdT (show (k : Int) < (xs.length : Int) by omega), idx_nat, hq, Option.bind_some, eqInt64S_same hF (hr _ (List.getElem_mem hk)), Bool.not_true, cond_false, wrN (show k ≤ 67108864 by omega)]
  · intro n
    simp only [laws_eqInt64SS_L1, bdF (show ¬ (xs.length : Int) < (xs.length : Int) by omega)]


/-- ms holds the marks from k on, in the shape of rows -/
def MarkedR (rows : List (List Int)) (k : Int) (ms : List (List Int)) (upto : Nat) : Prop :=
  ms.length = rows.length ∧ ∀ (i : Nat), i < upto → ∃ m row, ms[i]? = some m ∧ rows[i]? = some row ∧ m.length = row.length ∧ ∀ j, j < m.length → m[j]? = some (mrk_Int64 (k + offR rows i) j)

theorem markInt64SS_is {F : Nat} {ps : List (List Int)} {k : Int} (hF : 134217728 ≤ F) (h : ps.length ≤ 16777216) (hr : offR ps ps.length ≤ 16777216) (h0 : 0 ≤ k) (h1 : k ≤ 900000000000) :
    ∃ ms, laws_markInt64SS F ps k = some (k + offR ps ps.length, ms) ∧ MarkedR ps k ms ps.length := by
  have H := for0 (L := fun n (s : List (List Int) × Int) i => laws_markInt64SS_L1 F n s.1 s.2 i) (len := ps.length)
    (fun j s => s.2 = k + offR ps j ∧ MarkedR ps k s.1 j ∧ ∀ i, j ≤ i → s.1[i]? = ps[i]?)
    (R := fun r => ∃ ms, r = some (ms, k + (offR ps ps.length : Int)) ∧ MarkedR ps k ms ps.length) (s := (ps, k)) (n := F) ?_ ?_ ⟨by simp [offR_zero], ⟨rfl, by intro i hi; omega⟩, fun _ _ => rfl⟩ (by omega)
  · obtain ⟨ms, he, hm⟩ := H
    exact ⟨ms, by unfold laws_markInt64SS; rw [bind_of he], hm⟩
  · rintro n j ⟨xs, s⟩ hj ⟨hs, ⟨hl, hi⟩, hrest⟩
    simp only at hs hl hi hrest
    subst hs
    have hp : ps[j]? = some ps[j] := List.getElem?_eq_getElem hj
    have hq : xs[j]? = some ps[j] := (hrest j (Nat.le_refl _)).trans hp
    have hk' : j < xs.length := by omega
    have hle := offR_le (rows := ps) (show j + 1 ≤ ps.length by omega)
    have hsu := offR_succ hp
    obtain ⟨m, hm1, hm2, hm3⟩ := markInt64S_is (F := F) (ps := ps[j]) (k := k + offR ps j) hF (by omega) (by omega) (by omega)
    refine .inl ⟨(xs.set j m, k + (offR ps (j + 1) : Int)), ?_, rfl, ⟨by rw [List.length_set]; exact hl, ?_⟩, ?_⟩
    · simp only [laws_markInt64SS_L1, bdT (show (j : Int) < (xs.length : Int) by omega), idx_nat, hq, Option.bind_some, hm1, upd_nat, hk', wrN (show j ≤ 67108864 by omega)]
      rw [show k + (offR ps j : Int) + 1 * (ps[j].length : Int) = k + (offR ps (j + 1) : Int) by omega]
    · intro i hij
      by_cases e : i = j
      · subst e; exact ⟨m, ps[i], set_here hk', hp, hm2, by rw [hm2]; exact hm3⟩
      · simp only [set_keep e]; exact hi i (by omega)
    · intro i hij
      simp only [set_keep (show i ≠ j by omega)]; exact hrest i (by omega)
  · rintro n ⟨xs, s⟩ ⟨hs, hm, _⟩
    simp only at hs hm
    refine ⟨xs, ?_, hm⟩
    have := hm.1
    simp only [laws_markInt64SS_L1, bdF (show ¬ (ps.length : Int) < (xs.length : Int) by omega), hs]

/-! ### Slices of matrices -/
def wtM (m : List (List Int)) : Nat := m.length + offR m m.length

def offW (ms : List (List (List Int))) (i : Nat) : Nat := ((ms.take i).map wtM).sum

def offD (ms : List (List (List Int))) (i : Nat) : Nat := ((ms.take i).map fun m => offR m m.length).sum

theorem offW_zero (ms : List (List (List Int))) : offW ms 0 = 0 := rfl

theorem offW_succ {ms : List (List (List Int))} {i : Nat} {m : List (List Int)} (h : ms[i]? = some m) : offW ms (i + 1) = offW ms i + wtM m := by
  unfold offW
  rw [List.take_add_one, h]; simp

theorem offD_succ {ms : List (List (List Int))} {i : Nat} {m : List (List Int)} (h : ms[i]? = some m) : offD ms (i + 1) = offD ms i + offR m m.length := by
  unfold offD
  rw [List.take_add_one, h]; simp

theorem offW_mono (ms : List (List (List Int))) (i : Nat) : offW ms i ≤ offW ms (i + 1) := by
  unfold offW
  rw [List.take_add_one, List.map_append, List.sum_append]; omega

theorem offW_le {ms : List (List (List Int))} {i j : Nat} (h : i ≤ j) : offW ms i ≤ offW ms j := by
  induction j with
  | zero => obtain rfl : i = 0 := by omega
            exact Nat.le_refl _
  | succ j ih =>
    by_cases e : i = j + 1
    · subst e; exact Nat.le_refl _
    · exact Nat.le_trans (ih (by omega)) (offW_mono ms j)

theorem offD_le (ms : List (List (List Int))) : ∀ i, offD ms i ≤ offW ms i
  | 0 => Nat.le_refl _
  | i + 1 => by
    have := offD_le ms i
    cases h : ms[i]? with
    | none =>
      have e1 : offW ms (i + 1) = offW ms i := by unfold offW; rw [List.take_add_one, h]; simp
      have e2 : offD ms (i + 1) = offD ms i := by unfold offD; rw [List.take_add_one, h]; simp
      omega
    | some m =>
      rw [offW_succ h, offD_succ h]
      unfold wtM; omega

theorem offW_at {ms : List (List (List Int))} {i : Nat} {m : List (List Int)} (h : ms[i]? = some m) : m.length + offR m m.length ≤ offW ms ms.length := by
  have h1 := offW_succ h
  have h2 := offW_le (ms := ms) (show i + 1 ≤ ms.length from (List.getElem?_eq_some_iff.1 h).1)
  unfold wtM at h1
  omega

theorem offW_mem {ms : List (List (List Int))} {m : List (List Int)} (h : m ∈ ms) : m.length + offR m m.length ≤ offW ms ms.length := by
  obtain ⟨i, hi, rfl⟩ := List.getElem_of_mem h
  exact offW_at (List.getElem?_eq_getElem hi)

theorem szInt64SSS_is {F : Nat} {ps : List (List (List Int))} {left : Int} (h0 : 0 ≤ left) (h1 : left ≤ 1048576) (hF : 9223372036854775808 ≤ F) (h : ps.length ≤ 9223372036854775807) (hm : ∀ m, m ∈ ps → m.length ≤ 9223372036854775807) (hr : ∀ m, m ∈ ps → ∀ row, row ∈ m → row.length ≤ 9223372036854775807) :
    ∃ r, laws_szInt64SSS F ps left = some r ∧ (r < 0 ∨ (0 ≤ r ∧ r + ps.length + offW ps ps.length = left)) := by
  unfold laws_szInt64SSS
  rw [wr (by omega) (by omega)]
  by_cases hc : left - (ps.length : Int) < 0
  · exact ⟨-1, by rw [bdT hc], .inl (by decide)⟩
  rw [bdF hc]
  have H := for0 (L := fun n (s : Int) i => laws_szInt64SSS_L1 F ps n s i) (len := ps.length) (fun j s => 0 ≤ s ∧ s + ps.length + offW ps j = left)
    (R := fun r => r = some (.inl (-1)) ∨ ∃ s, r = some (.inr s) ∧ 0 ≤ s ∧ s + ps.length + offW ps ps.length = left) (s := left - (ps.length : Int)) (n := F) ?_ ?_ ⟨by omega, by rw [offW_zero]; omega⟩ (by omega)
  · rcases H with he | ⟨s, he, h3, h4⟩
    · exact ⟨-1, by rw [he]; rfl, .inl (by decide)⟩
    · exact ⟨s, by rw [he]; rfl, .inr ⟨h3, h4⟩⟩
  · intro n j s hj ⟨hs, ht⟩
    have hq : ps[j]? = some ps[j] := List.getElem?_eq_getElem hj
    have hmem := List.getElem_mem hj
    obtain ⟨r, hr1, hr2⟩ := szInt64SS_is (F := F) hs (by omega) hF (hm _ hmem) (hr _ hmem)
    by_cases hn : r < 0
    · refine .inr (.inl ?_)
      simp only [laws_szInt64SSS_L1, bdT (show (j : Int) < (ps.length : Int) by omega), idx_nat, hq, Option.bind_some, hr1, bdT hn]
    · have hsu := offW_succ hq
      unfold wtM at hsu
      refine .inl ⟨r, ?_, by omega, by omega⟩
      simp only [laws_szInt64SSS_L1, bdT (show (j : Int) < (ps.length : Int) by omega), idx_nat, hq, Option.bind_some, hr1, bdF hn]
      rw [wr (by omega) (by omega)]; rfl
  · intro n s ⟨hs, ht⟩
    refine .inr ⟨s, ?_, hs, ht⟩
    simp only [laws_szInt64SSS_L1, bdF (show ¬ (ps.length : Int) < (ps.length : Int) by omega)]

theorem toInt64SSS_is {F : Nat} {ps : List (List (List Int))} (hF : 134217728 ≤ F) (h : ps.length ≤ 1048576) (hw : offW ps ps.length ≤ 1048576) : laws_toInt64SSS F ps = some ps := by
  unfold laws_toInt64SSS
  rw [mk_nat _ (by omega)]
  simp only [Option.bind_some]
  rw [fill_loop (ps := ps) (f := fun m => m) (L := laws_toInt64SSS_L1 F ps) ?_ ?_ (by simp) (by omega), List.map_id']; rfl
  · intro n xs k x hk hx hl
    have hk' : k < xs.length := by omega
    have hq : xs[k]? = some xs[k] := List.getElem?_eq_getElem hk'
    have hb := offW_at hx
    simp only [laws_toInt64SSS_L1, bdT (show (k : Int) < (ps.length : Int) by omega), idx_nat, hx, hq, Option.bind_some, toInt64SS_is (F := F) (ps := x) hF (by omega) (by omega), upd_nat _ hk', wrN (show k ≤ 67108864 by omega)]
  · intro n xs
    simp only [laws_toInt64SSS_L1, bdF (show ¬ (ps.length : Int) < (ps.length : Int) by omega)]

theorem eqInt64SSS_same {F : Nat} {xs : List (List (List Int))} (hF : 134217728 ≤ F) (h : xs.length ≤ 1048576) (hw : offW xs xs.length ≤ 1048576) : laws_eqInt64SSS F xs xs = some true := by
  unfold laws_eqInt64SSS
  rw [bF (neF rfl), same_loop (L := laws_eqInt64SSS_L1 F xs xs) (len := xs.length) ?_ ?_ (by omega)]; rfl
  · intro n k hk
    have hq : xs[k]? = some xs[k] := List.getElem?_eq_getElem hk
    have hb := offW_at hq
    simp only [laws_eqInt64SSS_L1, bdT (show (k : Int) < (xs.length : Int) by omega), idx_nat, hq, Option.bind_some, eqInt64SS_same (F := F) (xs := xs[k]) hF (by omega) (rows_le (show offR xs[k] xs[k].length ≤ 16777216 by omega)), Bool.not_true, cond_false, wrN (show k ≤ 67108864 by omega)]
  · intro n
    simp only [laws_eqInt64SSS_L1, bdF (show ¬ (xs.length : Int) < (xs.length : Int) by omega)]

theorem markInt64SSS_is {F : Nat} {ps : List (List (List Int))} {k : Int} (hF : 134217728 ≤ F) (h : ps.length ≤ 1048576) (hw : offW ps ps.length ≤ 1048576) (h0 : 0 ≤ k) (h1 : k ≤ 800000000000) : ∃ k' ms, laws_markInt64SSS F ps k = some (k', ms) ∧ 0 ≤ k' ∧ k' ≤ k + 1048576 := by
  have H := for0 (L := fun n (s : List (List (List Int)) × Int) i => laws_markInt64SSS_L1 F n s.1 s.2 i) (len := ps.length)
    (fun j s => s.2 = k + offD ps j ∧ s.1.length = ps.length ∧ ∀ i, j ≤ i → s.1[i]? = ps[i]?)
    (R := fun r => ∃ ms, r = some (ms, k + (offD ps ps.length : Int))) (s := (ps, k)) (n := F) ?_ ?_ ⟨by simp [offD], rfl, fun _ _ => rfl⟩ (by omega)
  · obtain ⟨ms, he⟩ := H
    have := offD_le ps ps.length
    exact ⟨_, ms, by unfold laws_markInt64SSS; rw [bind_of he], by omega, by omega⟩
  · rintro n j ⟨xs, s⟩ hj ⟨hs, hl, hrest⟩
    simp only at hs hl hrest
    subst hs
    have hp : ps[j]? = some ps[j] := List.getElem?_eq_getElem hj
    have hq : xs[j]? = some ps[j] := (hrest j (Nat.le_refl _)).trans hp
    have hk' : j < xs.length := by omega
    have hb := offW_at hp
    have hle := offD_le ps j
    have hle2 := offW_le (ms := ps) (show j ≤ ps.length by omega)
    have hsu := offD_succ hp
    obtain ⟨m, hm1, _⟩ := markInt64SS_is (F := F) (ps := ps[j]) (k := k + offD ps j) hF (by omega) (by omega) (by omega) (by omega)
    refine .inl ⟨(xs.set j m, k + (offD ps (j + 1) : Int)), ?_, rfl, by rw [List.length_set]; exact hl, ?_⟩
    · simp only [laws_markInt64SSS_L1, bdT (show (j : Int) < (xs.length : Int) by omega), idx_nat, hq, Option.bind_some, hm1, upd_nat, hk', wrN (show j ≤ 67108864 by omega)]
      rw [show k + (offD ps j : Int) + (offR ps[j] ps[j].length : Int) = k + (offD ps (j + 1) : Int) by omega]
    · intro i hij
      simp only [set_keep (show i ≠ j by omega)]; exact hrest i (by omega)
  · rintro n ⟨xs, s⟩ ⟨hs, hl, _⟩
    simp only at hs hl
    refine ⟨xs, ?_⟩
    simp only [laws_markInt64SSS_L1, bdF (show ¬ (ps.length : Int) < (xs.length : Int) by omega), hs]

def inB (n lo hi : Int) : Bool := decide (lo ≤ n) && decide (n ≤ hi)

theorem inB_true {n lo hi : Int} : inB n lo hi = true ↔ lo ≤ n ∧ n ≤ hi := by unfold inB; simp

theorem inB_false {n lo hi : Int} (h : ¬ (lo ≤ n ∧ n ≤ hi)) : inB n lo hi = false := by
  cases e : inB n lo hi with
  | false => rfl
  | true => exact absurd (inB_true.1 e) h

theorem specIn_is {F : Nat} {n lo hi : Int} : spec_l01In F n lo hi = some (inB n lo hi) := by
  simp only [spec_l01In, cond_and, Option.bind_some]; rfl

theorem within_is {F : Nat} {n lo hi : Int} : impl_within F n lo hi = some (inB n lo hi) := by
  simp only [impl_within, cond_and, Option.bind_some]; rfl


/-! ### Values and vectors -/
def valB (a : Int) : Bool := (a == (-1000000000000000)) || inB a (-1000000) 1000000

theorem specValue_is {F : Nat} {a : Int} : spec_IsValue F a = some (valB a) := by
  simp only [spec_IsValue, spec_l01Finite, specIn_is, cond_or, Option.bind_some]; rfl

theorem implValue_is {F : Nat} {a : Int} : impl_IsValue F a = some (valB a) := by
  simp only [impl_IsValue, impl_isFinite, within_is, cond_or, Option.bind_some]; rfl

theorem specAll_is {F : Nat} {xs : List Int} (hF : 134217728 ≤ F) (hl : xs.length ≤ 1048576) : spec_l01All F xs false = some (xs.all valB) := by
  unfold spec_l01All
  rw [all_loop (ps := xs) (g := valB) (r := false) (L := spec_l01All_L1 F xs false) ?_ ?_ (by omega)]
  · cases xs.all valB <;> rfl
  · intro n k x hk hx
    simp only [spec_l01All_L1, bdT (show (k : Int) < (xs.length : Int) by omega), idx_nat, hx, Option.bind_some, specValue_is, cond_false, condn, wrN (show k ≤ 67108864 by omega)]
    cases valB x <;> rfl
  · intro n
    simp only [spec_l01All_L1, bdF (show ¬ (xs.length : Int) < (xs.length : Int) by omega)]

theorem implAll_is {F : Nat} {xs : List Int} (hF : 134217728 ≤ F) (hl : xs.length ≤ 1048576) : impl_areValues F xs = some (xs.all valB) := by
  unfold impl_areValues
  rw [bind_of (slices_ContainsFunc_int64_is (h := fun x => !valB x) hF (show xs.length ≤ 16777216 by omega) (fun x _ => show impl_areValues_c1 F x = _ by simp only [impl_areValues_c1, implValue_is, Option.bind_some])), any_not, Bool.not_not]

/-! ### Sums of the algebra -/
def tms (a b : Int) : Int := bif (a == (-1000000000000000)) || (b == (-1000000000000000)) then (-1000000000000000) else IntKind.i64.wrap (a + b)

/-- the sum of the products -/
def dotv (c x : List Int) (n : Nat) : Int := (List.range n).foldl (fun acc i => max acc (tms (c.getD i 0) (x.getD i 0))) (-1000000000000000)

theorem specTimes_is {F : Nat} {a b : Int} : spec_l01Times F a b = some (tms a b) := by
  unfold spec_l01Times tms
  cases (a == (-1000000000000000)) <;> cases (b == (-1000000000000000)) <;> rfl

theorem implTimes_is {F : Nat} {a b : Int} : impl_times F a b = some (tms a b) := by
  unfold impl_times tms
  cases (a == (-1000000000000000)) <;> cases (b == (-1000000000000000)) <;> rfl

/-! ### Lists of finite numbers -/
theorem fin_val (x : Int) : (valB x && !(x == (-1000000000000000))) = inB x (-1000000) 1000000 := by
  unfold valB
  cases h : (x == (-1000000000000000)) with
  | false => simp
  | true =>
    rw [beq_iff_eq] at h
    subst h; rfl

theorem specAllFin_is {F : Nat} {xs : List Int} (hF : 134217728 ≤ F) (hl : xs.length ≤ 1048576) : spec_l01All F xs true = some (xs.all fun x => inB x (-1000000) 1000000) := by
  unfold spec_l01All
  rw [all_loop (ps := xs) (g := fun x => inB x (-1000000) 1000000) (r := false) (L := spec_l01All_L1 F xs true) ?_ ?_ (by omega)]
  · cases (xs.all fun x => inB x (-1000000) 1000000) <;> rfl
  · intro n k x hk hx
    simp only [spec_l01All_L1, bdT (show (k : Int) < (xs.length : Int) by omega), idx_nat, hx, Option.bind_some, specValue_is, cond_true, condn, wrN (show k ≤ 67108864 by omega)]
    rw [← fin_val x]
    cases valB x <;> cases (x == (-1000000000000000)) <;> rfl
  · intro n
    simp only [spec_l01All_L1, bdF (show ¬ (xs.length : Int) < (xs.length : Int) by omega)]

def applyv (a : List (List Int)) (x : List Int) : List Int := a.map fun row => dotv row x row.length

theorem specApply_is {F : Nat} {a : List (List Int)} {x : List Int} (hF : 134217728 ≤ F) (ha : a.length ≤ 1048576) (hx : x.length ≤ 1048576) (hr : ∀ row, row ∈ a → row.length = x.length) : spec_l02Apply F a x = some (applyv a x) := by
  unfold spec_l02Apply
  rw [grow_loop (ps := a) (g := fun row => [dotv row x row.length]) (L := spec_l02Apply_L4 F a x) (by simp) ?_ ?_ (by omega)]
  · rw [Option.bind_some, flatMap_one]; rfl
  · intro n xs k row hk hrow hxl
    have hlen := hr row (List.mem_of_getElem? hrow)
    have inner : spec_l02Apply_L5 F a x (k : Int) F (-1000000000000000) 0 = some (dotv row x row.length) := by
      rw [hlen]
      refine fold_loop (len := x.length) (f := fun acc i => max acc (tms (row.getD i 0) (x.getD i 0))) (L := spec_l02Apply_L5 F a x (k : Int)) ?_ ?_ (by omega)
      · intro n s j hj
        simp only [spec_l02Apply_L5, bdT (show (j : Int) < (x.length : Int) by omega), idx_nat, hrow, getD_of hj, getD_of (show j < row.length by omega), Option.bind_some, specTimes_is, wrN (show j ≤ 67108864 by omega)]
      · intro n s
        simp only [spec_l02Apply_L5, bdF (show ¬ (x.length : Int) < (x.length : Int) by omega)]
    simp only [spec_l02Apply_L4, bdT (show (k : Int) < (a.length : Int) by omega), inner, Option.bind_some, app_le (show xs.length + [dotv row x row.length].length ≤ 67108864 by simp only [List.length_singleton]; omega), wrN (show k ≤ 67108864 by omega)]
  · intro n xs
    simp only [spec_l02Apply_L4, bdF (show ¬ (a.length : Int) < (a.length : Int) by omega)]

theorem implApply_is {F : Nat} {a : List (List Int)} {x : List Int} (hF : 134217728 ≤ F) (ha : a.length ≤ 1048576) (hx : x.length ≤ 1048576) (hr : ∀ row, row ∈ a → row.length = x.length) : impl_timesVector F a x = some (applyv a x) := by
  unfold impl_timesVector
  rw [mk_nat _ (by omega)]
  simp only [Option.bind_some]
  rw [fill_loop (ps := a) (f := fun row => dotv row x row.length) (L := impl_timesVector_L4 F a x) ?_ ?_ (by simp) (by omega)]
  · rfl
  · intro n xs k row hk hrow hl
    have hlen := hr row (List.mem_of_getElem? hrow)
    have hk' : k < xs.length := by omega
    have hq : xs[k]? = some xs[k] := List.getElem?_eq_getElem hk'
    have inner : impl_timesVector_L5 F x (k : Int) row F (xs.set k (-1000000000000000)) 0 = some (xs.set k (dotv row x row.length)) := by
      refine for0 (L := impl_timesVector_L5 F x (k : Int) row) (len := row.length) (fun j t => t = xs.set k ((List.range j).foldl (fun acc i => max acc (tms (row.getD i 0) (x.getD i 0))) (-1000000000000000))) (R := fun r => r = some (xs.set k (dotv row x row.length))) ?_ ?_ rfl (by omega)
      · rintro n j t hj rfl
        refine .inl ⟨_, ?_, rfl⟩
        simp only [impl_timesVector_L5, bdT (show (j : Int) < (row.length : Int) by omega), idx_nat, set_here hk', getD_of hj, getD_of (show j < x.length by omega), Option.bind_some, implTimes_is, upd_nat _ (show k < (xs.set k ((List.range j).foldl (fun acc i => max acc (tms (row.getD i 0) (x.getD i 0))) (-1000000000000000))).length by rw [List.length_set]; exact hk'), List.set_set, wrN (show j ≤ 67108864 by omega), List.range_succ, List.foldl_append, List.foldl_cons, List.foldl_nil]
      · rintro n t rfl
        simp only [impl_timesVector_L5, bdF (show ¬ (row.length : Int) < (row.length : Int) by omega)]; rfl
    simp only [impl_timesVector_L4, bdT (show (k : Int) < (a.length : Int) by omega), idx_nat, hrow, hq, Option.bind_some, upd_nat _ hk', inner, wrN (show k ≤ 67108864 by omega)]
  · intro n xs
    simp only [impl_timesVector_L4, bdF (show ¬ (a.length : Int) < (a.length : Int) by omega)]

def vecB (x : List Int) : Bool := inB x.length 1 10 && x.all valB

theorem specVector_is {F : Nat} {x : List Int} (hF : 134217728 ≤ F) (hl : x.length ≤ 1048576) : spec_l02Vector F x = some (vecB x) := by
  simp only [spec_l02Vector, specIn_is, specAll_is hF hl, Option.bind_some, cond_and]; rfl

def firstL (a : List (List Int)) : Int := ((a.getD 0 []).length : Int)

def matB (a : List (List Int)) : Bool := inB a.length 1 10 && a.all (fun row => vecB row && ((row.length : Int) == firstL a))

theorem first_is {a : List (List Int)} (h : 0 < a.length) : idx a 0 = some (a.getD 0 []) := by
  rw [show (0 : Int) = ((0 : Nat) : Int) from rfl, idx_nat, List.getD_eq_getElem?_getD, List.getElem?_eq_getElem h]; rfl

theorem specMatrix_is {F : Nat} {a : List (List Int)} (hF : 134217728 ≤ F) (hr : ∀ row, row ∈ a → row.length ≤ 1048576) : spec_IsMatrix F a = some (matB a) := by
  unfold spec_IsMatrix matB
  simp only [cond_or, Option.bind_some]
  by_cases h : (1 : Int) ≤ a.length ∧ (a.length : Int) ≤ 10
  · have c1 : (decide ((a.length : Int) < 1) || decide (10 < (a.length : Int))) = false := by simp; omega
    rw [bF c1, inB_true.2 h, Bool.true_and]
    rw [all_loop (ps := a) (g := fun row => vecB row && ((row.length : Int) == firstL a)) (r := false) (L := spec_IsMatrix_L1 F a) ?_ ?_ (by omega)]
    · cases a.all (fun row => vecB row && ((row.length : Int) == firstL a)) <;> rfl
    · intro n k row hk hx
      simp only [spec_IsMatrix_L1, bdT (show (k : Int) < (a.length : Int) by omega), idx_nat, hx, first_is (show 0 < a.length by omega), Option.bind_some, specVector_is hF (hr row (List.mem_of_getElem? hx)), wrN (show k ≤ 67108864 by omega), bne, firstL]
      cases vecB row <;> cases ((row.length : Int) == ((a.getD 0 []).length : Int)) <;> rfl
    · intro n
      simp only [spec_IsMatrix_L1, bdF (show ¬ (a.length : Int) < (a.length : Int) by omega)]
  · have c1 : (decide ((a.length : Int) < 1) || decide (10 < (a.length : Int))) = true := by simp; omega
    rw [bT c1, inB_false h]; rfl

theorem implMatrix_is {F : Nat} {a : List (List Int)} (hF : 134217728 ≤ F) (hr : ∀ row, row ∈ a → row.length ≤ 1048576) : impl_IsMatrix F a = some (matB a) := by
  unfold impl_IsMatrix matB
  simp only [within_is, Option.bind_some]
  by_cases h : (1 : Int) ≤ a.length ∧ (a.length : Int) ≤ 10
  · have h0 := first_is (a := a) (by omega)
    have hm : a.getD 0 [] ∈ a := by
      rw [List.getD_eq_getElem?_getD, List.getElem?_eq_getElem (show 0 < a.length by omega)]; exact List.getElem_mem _
    rw [inB_true.2 h]
    simp only [Bool.not_true, cond_false, h0, Option.bind_some, Bool.true_and]
    by_cases h2 : (1 : Int) ≤ firstL a ∧ firstL a ≤ 10
    · rw [show inB ((a.getD 0 []).length : Int) 1 10 = true from inB_true.2 h2]
      simp only [Bool.not_true, cond_false]
      rw [bind_of (slices_ContainsFunc_sint64_is (h := fun row => !((row.length : Int) == firstL a && row.all valB)) hF (show a.length ≤ 16777216 by omega) (fun row hrow => ?_)), any_not, Bool.not_not]
      · refine congrArg some ?_
        apply Bool.eq_iff_iff.2
        rw [List.all_eq_true, List.all_eq_true]
        constructor
        · intro H row hrow
          have := H row hrow
          rw [Bool.and_eq_true, beq_iff_eq] at this
          rw [Bool.and_eq_true, beq_iff_eq]
          refine ⟨?_, this.1⟩
          unfold vecB
          rw [Bool.and_eq_true, this.1]
          exact ⟨inB_true.2 h2, this.2⟩
        · intro H row hrow
          have := H row hrow
          rw [Bool.and_eq_true, beq_iff_eq] at this
          rw [Bool.and_eq_true, beq_iff_eq]
          have h3 := this.1
          unfold vecB at h3
          rw [Bool.and_eq_true] at h3
          exact ⟨this.2, h3.2⟩
      · show impl_IsMatrix_c1 F row a = _
        simp only [impl_IsMatrix_c1, h0, Option.bind_some, implAll_is hF (hr row hrow), bne, firstL]
        cases ((row.length : Int) == ((a.getD 0 []).length : Int)) <;> cases row.all valB <;> rfl
    · rw [show inB ((a.getD 0 []).length : Int) 1 10 = false from inB_false h2]
      simp only [Bool.not_false, cond_true]
      refine congrArg some ?_
      symm
      rw [List.all_eq_false]
      refine ⟨_, hm, ?_⟩
      unfold vecB
      rw [show inB ((a.getD 0 []).length : Int) 1 10 = false from inB_false h2]
      simp
  · rw [inB_false h]; rfl

def squareB (a : List (List Int)) : Bool := matB a && ((a.length : Int) == firstL a)

theorem specSquare_is {F : Nat} {a : List (List Int)} (hF : 134217728 ≤ F) (hr : ∀ row, row ∈ a → row.length ≤ 1048576) : spec_l02Square F a = some (squareB a) := by
  unfold spec_l02Square squareB
  rw [bind_of (specMatrix_is hF hr)]
  cases hm : matB a with
  | false => rfl
  | true =>
    have h : 0 < a.length := by
      unfold matB at hm; rw [Bool.and_eq_true, inB_true] at hm; omega
    simp only [cond_true, first_is h, Option.bind_some, firstL, Bool.true_and]

theorem implSquare_is {F : Nat} {a : List (List Int)} (hF : 134217728 ≤ F) (hr : ∀ row, row ∈ a → row.length ≤ 1048576) : impl_isSquare F a = some (squareB a) := by
  unfold impl_isSquare squareB
  rw [bind_of (implMatrix_is hF hr)]
  cases hm : matB a with
  | false => rfl
  | true =>
    have h : 0 < a.length := by
      unfold matB at hm; rw [Bool.and_eq_true, inB_true] at hm; omega
    simp only [cond_true, first_is h, Option.bind_some, firstL, Bool.true_and]

theorem implVector_is {F : Nat} {x : List Int} (hF : 134217728 ≤ F) (hl : x.length ≤ 1048576) : impl_isVector F x = some (vecB x) := by
  simp only [impl_isVector, within_is, implAll_is hF hl, Option.bind_some, cond_and]; rfl

/-! ### Matrices by their entries -/
def tabM (m n : Nat) (f : Nat → Nat → Int) : List (List Int) := (List.range m).map fun i => (List.range n).map fun j => f i j

theorem tabM_len (m n : Nat) (f : Nat → Nat → Int) : (tabM m n f).length = m := by unfold tabM; simp

theorem tabM_row {m n i : Nat} {f : Nat → Nat → Int} (h : i < m) : (tabM m n f)[i]? = some ((List.range n).map fun j => f i j) := by
  unfold tabM; rw [List.getElem?_map, List.getElem?_range h]; rfl

theorem tabM_rows {m n : Nat} {f : Nat → Nat → Int} : ∀ r, r ∈ tabM m n f → r.length = n := by
  intro r hr
  unfold tabM at hr
  rw [List.mem_map] at hr
  obtain ⟨i, _, rfl⟩ := hr
  simp

theorem tabM_of {m n : Nat} {f : Nat → Nat → Int} {t : List (List Int)} (hl : t.length = m) (h : ∀ i, i < m → t[i]? = some ((List.range n).map fun j => f i j)) : t = tabM m n f := by
  apply List.ext_getElem?; intro q
  by_cases hq : q < m
  · rw [h q hq, tabM_row hq]
  · rw [List.getElem?_eq_none (by omega), List.getElem?_eq_none (by rw [tabM_len]; omega)]

theorem row_of {n : Nat} {f : Nat → Int} {r : List Int} (hl : r.length = n) (h : ∀ j, j < n → r[j]? = some (f j)) : r = (List.range n).map f := by
  apply List.ext_getElem?; intro q
  by_cases hq : q < n
  · rw [h q hq, List.getElem?_map, List.getElem?_range hq]; rfl
  · rw [List.getElem?_eq_none (by omega), List.getElem?_eq_none (by simp; omega)]

def unitM (n : Nat) : List (List Int) := tabM n n fun i j => if i = j then 0 else (-1000000000000000)

/-! ### Products -/
def dotM (a b : List (List Int)) (i j : Nat) (k : Nat) : Int := (List.range k).foldl (fun acc q => max acc (tms ((a.getD i []).getD q 0) ((b.getD q []).getD j 0))) (-1000000000000000)

theorem dotM_succ (a b : List (List Int)) (i j k : Nat) : dotM a b i j (k + 1) = max (dotM a b i j k) (tms ((a.getD i []).getD k 0) ((b.getD k []).getD j 0)) := by
  unfold dotM; rw [List.range_succ, List.foldl_append]; rfl

def mulM (a b : List (List Int)) (n : Nat) : List (List Int) := tabM a.length n fun i j => dotM a b i j b.length

theorem rowG {t : List (List Int)} {k : Nat} (h : k < t.length) : t[k]? = some (t.getD k []) := by
  rw [List.getD_eq_getElem?_getD, List.getElem?_eq_getElem h]; rfl

theorem mulM_len (a b : List (List Int)) (n : Nat) : (mulM a b n).length = a.length := tabM_len _ _ _

theorem mulM_rows {a b : List (List Int)} {n : Nat} : ∀ r, r ∈ mulM a b n → r.length = n := tabM_rows

def valsM (a : List (List Int)) : Bool := a.all fun r => r.all valB

/-! ### Modes -/
def firstN (ms : List (List (List Int))) : Int := ((ms.getD 0 []).length : Int)

def modesB (ms : List (List (List Int))) : Bool := inB ms.length 1 4 && ms.all fun m => squareB m && ((m.length : Int) == firstN ms)

theorem firstM_is {ms : List (List (List Int))} (h : 0 < ms.length) : idx ms 0 = some (ms.getD 0 []) := by
  rw [show (0 : Int) = ((0 : Nat) : Int) from rfl, idx_nat, List.getD_eq_getElem?_getD, List.getElem?_eq_getElem h]; rfl

theorem specModes_is {F : Nat} {ms : List (List (List Int))} (hF : 134217728 ≤ F) (hl : ms.length ≤ 1048576) (hr : ∀ m, m ∈ ms → ∀ row, row ∈ m → row.length ≤ 1048576) : spec_AreModes F ms = some (modesB ms) := by
  unfold spec_AreModes modesB
  simp only [cond_or, Option.bind_some]
  by_cases h : (1 : Int) ≤ ms.length ∧ (ms.length : Int) ≤ 4
  · have c1 : (decide ((ms.length : Int) < 1) || decide (4 < (ms.length : Int))) = false := by simp; omega
    rw [bF c1, inB_true.2 h, Bool.true_and]
    rw [all_loop (ps := ms) (g := fun m => squareB m && ((m.length : Int) == firstN ms)) (r := false) (L := spec_AreModes_L1 F ms) ?_ ?_ (by omega)]
    · cases ms.all (fun m => squareB m && ((m.length : Int) == firstN ms)) <;> rfl
    · intro n k m hk hx
      simp only [spec_AreModes_L1, bdT (show (k : Int) < (ms.length : Int) by omega), idx_nat, hx, firstM_is (show 0 < ms.length by omega), Option.bind_some, specSquare_is hF (hr m (List.mem_of_getElem? hx)), wrN (show k ≤ 67108864 by omega), bne, firstN]
      cases squareB m <;> cases ((m.length : Int) == ((ms.getD 0 []).length : Int)) <;> rfl
    · intro n
      simp only [spec_AreModes_L1, bdF (show ¬ (ms.length : Int) < (ms.length : Int) by omega)]
  · have c1 : (decide ((ms.length : Int) < 1) || decide (4 < (ms.length : Int))) = true := by simp; omega
    rw [bT c1, inB_false h]; rfl

theorem implModes_is {F : Nat} {ms : List (List (List Int))} (hF : 134217728 ≤ F) (hl : ms.length ≤ 1048576) (hr : ∀ m, m ∈ ms → ∀ row, row ∈ m → row.length ≤ 1048576) : impl_AreModes F ms = some (modesB ms) := by
  unfold impl_AreModes modesB
  simp only [within_is, Option.bind_some]
  by_cases h : (1 : Int) ≤ ms.length ∧ (ms.length : Int) ≤ 4
  · have h0 := firstM_is (ms := ms) (by omega)
    rw [inB_true.2 h]
    simp only [cond_true, Bool.true_and]
    rw [slices_ContainsFunc_ssint64_is (h := fun m => !(squareB m && ((m.length : Int) == firstN ms))) hF (show ms.length ≤ 16777216 by omega) (fun m hm => ?_)]
    · simp only [Option.bind_some, any_not, Bool.not_not]
    · show impl_AreModes_c1 F m ms = _
      simp only [impl_AreModes_c1, h0, Option.bind_some, implSquare_is hF (hr m hm), bne, firstN]
      cases squareB m <;> cases ((m.length : Int) == ((ms.getD 0 []).length : Int)) <;> rfl
  · rw [inB_false h]; rfl

/-- all matrices are squares of one size -/
theorem modesB_true {ms : List (List (List Int))} (h : modesB ms = true) : ∃ n : Nat, (ms.getD 0 []).length = n ∧ 1 ≤ n ∧ n ≤ 10 ∧ 1 ≤ ms.length ∧ ms.length ≤ 4 ∧ ∀ m, m ∈ ms → m.length = n ∧ ∀ row, row ∈ m → row.length = n := by
  unfold modesB at h
  rw [Bool.and_eq_true, inB_true, List.all_eq_true] at h
  have hm : ms.getD 0 [] ∈ ms := by
    rw [List.getD_eq_getElem?_getD, List.getElem?_eq_getElem (show 0 < ms.length by omega)]; exact List.getElem_mem _
  have sq : ∀ m, squareB m = true → 1 ≤ m.length ∧ m.length ≤ 10 ∧ ∀ row, row ∈ m → row.length = m.length := by
    intro m hs
    unfold squareB matB at hs
    simp only [Bool.and_eq_true, inB_true, beq_iff_eq, List.all_eq_true] at hs
    refine ⟨by omega, by omega, fun row hrow => ?_⟩
    have := (hs.1.2 row hrow).2
    omega
  have h0 := h.2 _ hm
  rw [Bool.and_eq_true] at h0
  obtain ⟨a1, a2, _⟩ := sq _ h0.1
  refine ⟨_, rfl, a1, a2, by omega, by omega, fun m hmm => ?_⟩
  have h2 := h.2 m hmm
  rw [Bool.and_eq_true, beq_iff_eq] at h2
  unfold firstN at h2
  obtain ⟨_, _, b3⟩ := sq _ h2.1
  exact ⟨by omega, fun row hrow => by rw [b3 row hrow]; omega⟩

/-! ### Words -/
theorem specWithin_is {F : Nat} {xs : List Int} {most lo hi : Int} (hF : 134217728 ≤ F) (hl : xs.length ≤ 1048576) : spec_l01Within F xs most lo hi = some ((xs.all fun x => inB x lo hi) && decide ((xs.length : Int) ≤ most)) := by
  unfold spec_l01Within
  rw [all_loop (ps := xs) (g := fun x => inB x lo hi) (r := false) (L := spec_l01Within_L1 F xs lo hi) ?_ ?_ (by omega)]
  · cases xs.all (fun x => inB x lo hi) <;> rfl
  · intro n k x hk hx
    simp only [spec_l01Within_L1, bdT (show (k : Int) < (xs.length : Int) by omega), idx_nat, hx, Option.bind_some, specIn_is, condn, wrN (show k ≤ 67108864 by omega)]
  · intro n
    simp only [spec_l01Within_L1, bdF (show ¬ (xs.length : Int) < (xs.length : Int) by omega)]

def wordB (ms : List (List (List Int))) (w : List Int) : Bool := (w.all fun x => inB x 0 (IntKind.i64.wrap ((ms.length : Int) - 1))) && decide ((w.length : Int) ≤ 6)

theorem specWord_is {F : Nat} {ms : List (List (List Int))} {w : List Int} (hF : 134217728 ≤ F) (hl : w.length ≤ 1048576) : spec_l25Word F ms w = some (wordB ms w) := by
  unfold spec_l25Word
  rw [specWithin_is hF hl]; rfl

theorem wordB_at {ms : List (List (List Int))} {w : List Int} (h : wordB ms w = true) (hm : 1 ≤ ms.length) (hm4 : ms.length ≤ 4) : w.length ≤ 6 ∧ ∀ k (hk : k < w.length), ∃ j : Nat, w[k] = (j : Int) ∧ j < ms.length := by
  unfold wordB at h
  simp only [Bool.and_eq_true, List.all_eq_true, inB_true, decide_eq_true_eq] at h
  refine ⟨by omega, fun k hk => ?_⟩
  have := h.1 _ (List.getElem_mem hk)
  rw [wr (by omega) (by omega)] at this
  exact ⟨(w[k]).toNat, by omega, by omega⟩

/-! ### Shifted vectors, sums of matrices -/
def shiftv (x : List Int) (g : Int) : List Int := x.map fun v => tms v g

/-! ### Sums of matrices -/
def addv (a b : List Int) : List Int := (List.range a.length).map fun i => max (a.getD i 0) (b.getD i 0)

theorem addv_len (a b : List Int) : (addv a b).length = a.length := by unfold addv; simp

def addm (a b : List (List Int)) : List (List Int) := (List.range a.length).map fun i => addv (a.getD i []) (b.getD i [])

theorem addv_of {r a b : List Int} (hl : r.length = a.length) (h : ∀ q, q < a.length → r[q]? = some (max (a.getD q 0) (b.getD q 0))) : r = addv a b := by
  apply List.ext_getElem?; intro q
  by_cases hq : q < a.length
  · rw [h q hq]; unfold addv; rw [List.getElem?_map, List.getElem?_range hq]; rfl
  · rw [List.getElem?_eq_none (by omega), List.getElem?_eq_none (by rw [addv_len]; omega)]

/-! ### Sums of matrices, by the reference -/
theorem specOwn_is {F : Nat} {x : List Int} (hx : x.length ≤ 1048576) : spec_l01Own F x = some x := by
  unfold spec_l01Own
  rw [app_le (by simp only [List.length_nil]; omega)]; rfl

theorem addm_len (a b : List (List Int)) : (addm a b).length = a.length := by unfold addm; simp

theorem addm_rows {a b : List (List Int)} {n : Nat} (ha : ∀ r, r ∈ a → r.length = n) : ∀ r, r ∈ addm a b → r.length = n := by
  intro r hr
  unfold addm at hr
  rw [List.mem_map] at hr
  obtain ⟨i, hi, rfl⟩ := hr
  rw [addv_len]
  have hi' : i < a.length := by simpa using hi
  have e : a[i]? = some (a.getD i []) := by rw [List.getD_eq_getElem?_getD, List.getElem?_eq_getElem hi']; rfl
  exact ha _ (List.mem_of_getElem? e)

/-! ### Tables by their entries -/
theorem tabM_get {m n i j : Nat} {f : Nat → Nat → Int} (hi : i < m) (hj : j < n) : ((tabM m n f).getD i []).getD j 0 = f i j := by
  rw [List.getD_eq_getElem?_getD, List.getD_eq_getElem?_getD, tabM_row hi, Option.getD_some, List.getElem?_map, List.getElem?_range hj]; rfl

theorem tabM_congr {m n : Nat} {f g : Nat → Nat → Int} (h : ∀ i j, i < m → j < n → f i j = g i j) : tabM m n f = tabM m n g := by
  unfold tabM
  apply List.map_congr_left
  intro i hi
  apply List.map_congr_left
  intro j hj
  exact h i j (by simpa using hi) (by simpa using hj)

theorem tabM_at {n i : Nat} {f : Nat → Int} (h : i < n) : ((List.range n).map f)[i]? = some (f i) := by
  rw [List.getElem?_map, List.getElem?_range h]; rfl

theorem tabM_set {m n i j : Nat} {f : Nat → Nat → Int} {v : Int} (hi : i < m) (hj : j < n) : (tabM m n f).set i (((List.range n).map fun j => f i j).set j v) = tabM m n fun a b => if a = i ∧ b = j then v else f a b := by
  refine tabM_of (by rw [List.length_set, tabM_len]) (fun a ha => ?_)
  by_cases e : a = i
  · subst e
    rw [set_here (by rw [tabM_len]; exact ha)]
    refine congrArg some (row_of (by simp) (fun b hb => ?_))
    by_cases e2 : b = j
    · subst e2
      rw [set_here (by simpa using hb), if_pos ⟨rfl, rfl⟩]
    · rw [set_keep e2, tabM_at hb, if_neg (by omega)]
  · rw [set_keep e, tabM_row ha]
    refine congrArg some ?_
    apply List.map_congr_left
    intro b _
    rw [if_neg (by omega)]

theorem tabM_self {m n : Nat} {a : List (List Int)} (hl : a.length = m) (hr : ∀ r, r ∈ a → r.length = n) : a = tabM m n fun i j => (a.getD i []).getD j 0 := by
  refine tabM_of hl (fun i hi => ?_)
  have e : a[i]? = some (a.getD i []) := by rw [List.getD_eq_getElem?_getD, List.getElem?_eq_getElem (by omega)]; rfl
  rw [e]
  exact congrArg some (row_of (hr _ (List.mem_of_getElem? e)) (fun j hj => getD_of (by rw [hr _ (List.mem_of_getElem? e)]; exact hj)))

theorem tabM_inj {m n : Nat} {f g : Nat → Nat → Int} (h : tabM m n f = tabM m n g) {i j : Nat} (hi : i < m) (hj : j < n) : f i j = g i j := by
  rw [← tabM_get (f := f) hi hj, h, tabM_get hi hj]

/-! ### Tables of arcs -/
def arcT {α : Type} (t f : α → Nat) (w : α → Int) : List α → Nat → Nat → Int
  | l => fun i j => l.foldl (fun acc x => if t x = i ∧ f x = j then max acc (w x) else acc) (-1000000000000000)

theorem arcT_snoc {α : Type} (t f : α → Nat) (w : α → Int) (l : List α) (x : α) (i j : Nat) : arcT t f w (l ++ [x]) i j = if i = t x ∧ j = f x then max (arcT t f w l (t x) (f x)) (w x) else arcT t f w l i j := by
  unfold arcT
  rw [List.foldl_append]
  simp only [List.foldl_cons, List.foldl_nil]
  by_cases h : t x = i ∧ f x = j
  · obtain ⟨rfl, rfl⟩ := h
    rw [if_pos ⟨rfl, rfl⟩]
  · rw [if_neg h, if_neg (by omega)]

theorem arcT_le {α : Type} {t f : α → Nat} {w : α → Int} : ∀ (l : List α) (a0 : Int) (i j : Nat), a0 ≤ l.foldl (fun acc x => if t x = i ∧ f x = j then max acc (w x) else acc) a0
  | [], a0, _, _ => Int.le_refl _
  | x :: l, a0, i, j => by
    rw [List.foldl_cons]
    by_cases h : t x = i ∧ f x = j
    · rw [if_pos h]; exact Int.le_trans (by omega) (arcT_le l _ i j)
    · rw [if_neg h]; exact arcT_le l a0 i j

theorem arcT_ge' {α : Type} {t f : α → Nat} {w : α → Int} : ∀ (l : List α) (a0 : Int) (x : α), x ∈ l → w x ≤ l.foldl (fun acc y => if t y = t x ∧ f y = f x then max acc (w y) else acc) a0
  | [], _, x, h => by cases h
  | y :: l, a0, x, h => by
    rw [List.foldl_cons]
    rcases List.mem_cons.1 h with rfl | h
    · rw [if_pos ⟨rfl, rfl⟩]; exact Int.le_trans (by omega) (arcT_le l _ _ _)
    · exact arcT_ge' l _ x h

theorem arcT_ge {α : Type} {t f : α → Nat} {w : α → Int} {l : List α} {x : α} (h : x ∈ l) : w x ≤ arcT t f w l (t x) (f x) := arcT_ge' l _ x h

theorem arcT_cases' {α : Type} {t f : α → Nat} {w : α → Int} (i j : Nat) : ∀ (l : List α) (a0 : Int), l.foldl (fun acc x => if t x = i ∧ f x = j then max acc (w x) else acc) a0 = a0 ∨ ∃ x, x ∈ l ∧ t x = i ∧ f x = j ∧ l.foldl (fun acc x => if t x = i ∧ f x = j then max acc (w x) else acc) a0 = w x
  | [], a0 => .inl rfl
  | y :: l, a0 => by
    rw [List.foldl_cons]
    by_cases h : t y = i ∧ f y = j
    · rw [if_pos h]
      rcases arcT_cases' i j l (max a0 (w y)) with h1 | ⟨x, h1, h2, h3, h4⟩
      · by_cases h5 : w y ≤ a0
        · left; rw [h1]; omega
        · right; exact ⟨y, by simp, h.1, h.2, by rw [h1]; omega⟩
      · right; exact ⟨x, by simp [h1], h2, h3, h4⟩
    · rw [if_neg h]
      rcases arcT_cases' i j l a0 with h1 | ⟨x, h1, h2, h3, h4⟩
      · exact .inl h1
      · right; exact ⟨x, by simp [h1], h2, h3, h4⟩

theorem arcT_cases {α : Type} {t f : α → Nat} {w : α → Int} (l : List α) (i j : Nat) : arcT t f w l i j = -1000000000000000 ∨ ∃ x, x ∈ l ∧ t x = i ∧ f x = j ∧ arcT t f w l i j = w x := arcT_cases' i j l _

theorem arcT_ok {α : Type} {t f : α → Nat} {w : α → Int} {l : List α} (h : ∀ x, x ∈ l → -1000000 ≤ w x ∧ w x ≤ 1000000) (n : Nat) : TabOk (arcT t f w l) n := fun i j _ _ => by
  rcases arcT_cases (t := t) (f := f) (w := w) l i j with e | ⟨x, hx, _, _, e⟩
  · exact .inl e
  · rw [e]; exact .inr (h x hx)

/-- a loop that lays arcs into a table -/
theorem arc_loop {α : Type} {t f : α → Nat} {w : α → Int} {ps : List α} {n : Nat} {L : Nat → List (List Int) → Int → Option (List (List Int))}
    (hL : ∀ m k x h, k < ps.length → ps[k]? = some x → L (m + 1) (tabM n n h) (k : Int) = L m (tabM n n fun i j => if i = t x ∧ j = f x then max (h (t x) (f x)) (w x) else h i j) ((k + 1 : Nat) : Int))
    (hE : ∀ m h, L (m + 1) (tabM n n h) (ps.length : Int) = some (tabM n n h)) {F : Nat} (hn : ps.length < F) : L F (tabM n n fun _ _ => (-1000000000000000)) 0 = some (tabM n n (arcT t f w ps)) := by
  refine for0 (L := L) (len := ps.length) (fun k ms => ms = tabM n n (arcT t f w (ps.take k))) (R := fun o => o = some (tabM n n (arcT t f w ps))) ?_ ?_ rfl hn
  · rintro m k ms hk rfl
    have hx : ps[k]? = some ps[k] := List.getElem?_eq_getElem hk
    refine .inl ⟨_, hL m k ps[k] _ hk hx, tabM_congr fun i j _ _ => ?_⟩
    rw [List.take_add_one, hx]
    exact (arcT_snoc t f w (ps.take k) ps[k] i j).symm
  · rintro m ms rfl
    rw [hE m, List.take_length]

/-! ### The star, both ways -/
theorem tms_ta {M K a b : Int} (ha : Okw M a) (hb : Okw K b) (hM : M ≤ 10000000000) (hK : K ≤ 10000000000) : tms a b = ta a b := by
  unfold tms ta
  unfold Okw at ha hb
  by_cases h1 : a = -1000000000000000
  · subst h1; rw [if_pos (.inl rfl)]; rfl
  · by_cases h2 : b = -1000000000000000
    · subst h2; rw [if_pos (.inr rfl), beq_self_eq_true, Bool.or_true]; rfl
    · rw [if_neg (by omega), beq_false_of_ne h1, beq_false_of_ne h2]
      exact wr (by omega) (by omega)

theorem addm_tab {n : Nat} {f g : Nat → Nat → Int} : addm (tabM n n f) (tabM n n g) = tabM n n fun i j => max (f i j) (g i j) := by
  refine tabM_of (by rw [addm_len, tabM_len]) (fun i hi => ?_)
  unfold addm
  rw [List.getElem?_map, tabM_len, List.getElem?_range hi]
  refine congrArg some (row_of ?_ (fun j hj => ?_))
  · rw [addv_len, List.getD_eq_getElem?_getD, tabM_row hi]; simp
  · unfold addv
    have hl : ((tabM n n f).getD i []).length = n := by rw [List.getD_eq_getElem?_getD, tabM_row hi]; simp
    show ((List.range ((tabM n n f).getD i []).length).map fun q => max (((tabM n n f).getD i []).getD q 0) (((tabM n n g).getD i []).getD q 0))[j]? = _
    rw [hl, tabM_at hj, tabM_get hi hj, tabM_get hi hj]

theorem unitM_tab (n : Nat) : unitM n = tabM n n un := rfl

theorem rows_tab {n : Nat} {f : Nat → Nat → Int} (hn : n ≤ 10) : ∀ r, r ∈ tabM n n f → r.length ≤ 1048576 := fun r hr => by rw [tabM_rows r hr]; omega

theorem getD_tab {n i : Nat} {f : Nat → Nat → Int} (hi : i < n) : ((tabM n n f).getD i []).length = n := by
  rw [List.getD_eq_getElem?_getD, tabM_row hi]; simp


theorem mulM_tab {n : Nat} {f g : Nat → Nat → Int} {M K : Int} (hf : ∀ i j, i < n → j < n → Okw M (f i j)) (hg : ∀ i j, i < n → j < n → Okw K (g i j)) (hM : M ≤ 10000000000) (hK : K ≤ 10000000000) : mulM (tabM n n f) (tabM n n g) n = tabM n n fun i j => mx n fun q => ta (f i q) (g q j) := by
  unfold mulM
  rw [tabM_len, tabM_len]
  refine tabM_congr fun i j hi hj => ?_
  have : ∀ k, k ≤ n → dotM (tabM n n f) (tabM n n g) i j k = mx k fun q => ta (f i q) (g q j) := by
    intro k
    induction k with
    | zero => intro _; rfl
    | succ k ih =>
      intro hk
      rw [dotM_succ, mx_succ, ih (by omega), tabM_get hi (show k < n by omega), tabM_get (show k < n by omega) hj, tms_ta (hf i k hi (by omega)) (hg k j (by omega) hj) hM hK]
  exact this n (Nat.le_refl _)

/-! ### Runs of a system -/
def sr : Option (List Int × List Int) → Sum (List Int × List Int × Bool) (List Int × List Int)
  | none => .inl ([], [], false)
  | some p => .inr p

def ir : Option (List Int × List Int) → Sum (List Int × List Int × Int) (List Int × List Int)
  | none => .inl ([], [], 3)
  | some p => .inr p

def so : Option (List Int) → Sum (List Int × Bool) (List Int)
  | none => .inl ([], false)
  | some l => .inr l

def io : Option (List Int) → Sum (List Int × Int) (List Int)
  | none => .inl ([], 3)
  | some l => .inr l

/-! ### Tables on vectors -/
theorem applyv_tab {n : Nat} {T : Nat → Nat → Int} {x : List Int} {M K : Int} (hT : ∀ i j, i < n → j < n → Okw M (T i j)) (hx : ∀ q, q < n → Okw K (x.getD q 0)) (hM : M ≤ 10000000000) (hK : K ≤ 10000000000) : applyv (tabM n n T) x = (List.range n).map fun i => mx n fun q => ta (T i q) (x.getD q 0) := by
  unfold applyv tabM
  rw [List.map_map]
  apply List.map_congr_left
  intro i hi
  have hi' : i < n := by simpa using hi
  show dotv ((List.range n).map fun j => T i j) x ((List.range n).map fun j => T i j).length = _
  rw [List.length_map, List.length_range]
  have : ∀ k, k ≤ n → (List.range k).foldl (fun acc q => max acc (tms (((List.range n).map fun j => T i j).getD q 0) (x.getD q 0))) (-1000000000000000) = mx k fun q => ta (T i q) (x.getD q 0) := by
    intro k
    induction k with
    | zero => intro _; rfl
    | succ k ih =>
      intro hk
      rw [List.range_succ, List.foldl_append, ih (by omega), mx_succ]
      show max _ (tms (((List.range n).map fun j => T i j).getD k 0) (x.getD k 0)) = _
      rw [List.getD_eq_getElem?_getD, tabM_at (show k < n by omega), Option.getD_some, tms_ta (hT i k hi' (by omega)) (hx k (by omega)) hM hK]
  exact this n (Nat.le_refl _)

theorem getI {xs : List Int} {i : Int} (h0 : 0 ≤ i) (h1 : i < (xs.length : Int)) : idx xs i = some (xs.getD i.toNat 0) := by
  rw [idx_int h0 h1, List.getD_eq_getElem?_getD, List.getElem?_eq_getElem (by omega)]; rfl

/-! ### Lists of nodes -/
def nl (o : List Nat) : List Int := o.map fun (x : Nat) => (x : Int)

theorem nl_len (o : List Nat) : (nl o).length = o.length := by unfold nl; simp

theorem nl_app (o : List Nat) (x : Nat) : nl o ++ [(x : Int)] = nl (o ++ [x]) := by unfold nl; simp

theorem nl_at (o : List Nat) (i : Nat) : (nl o)[i]? = (o[i]?).map fun (x : Nat) => (x : Int) := by unfold nl; simp

theorem nl_has (o : List Nat) (x : Nat) : ((nl o).any fun y => y == (x : Int)) = o.contains x := by
  apply Bool.eq_iff_iff.2
  simp only [nl, List.any_map, List.any_eq_true, Function.comp_apply, beq_iff_eq, List.contains_iff_mem]
  constructor
  · rintro ⟨y, hy, e⟩
    have : y = x := by omega
    exact this ▸ hy
  · intro h; exact ⟨x, h, rfl⟩

/-! ### Liveness -/
def mat0 (E : Nat → Nat → Bool) (n : Nat) : List (List Int) := (List.range n).map fun v => (List.range n).map fun u => bif E u v then 0 else (-1000000000000000)

theorem mat0_row {E : Nat → Nat → Bool} {n v : Nat} (hv : v < n) : (mat0 E n)[v]? = some ((List.range n).map fun u => bif E u v then 0 else (-1000000000000000)) := by
  unfold mat0; rw [List.getElem?_map, List.getElem?_range hv]; rfl

theorem map_range_set {α : Type} (f : Nat → α) (n i : Nat) (y : α) : ((List.range n).map f).set i y = (List.range n).map fun j => if j = i then y else f j := by
  apply List.ext_getElem?; intro q
  by_cases hq : q < n
  · by_cases e : q = i
    · subst e
      rw [set_here (by simpa using hq), List.getElem?_map, List.getElem?_range hq]; simp
    · rw [set_keep e, List.getElem?_map, List.getElem?_map, List.getElem?_range hq]; simp [e]
  · rw [List.getElem?_eq_none (by simp; omega), List.getElem?_eq_none (by simp; omega)]

theorem mat0_set {E : Nat → Nat → Bool} {n u v : Nat} : (mat0 E n).set v (((List.range n).map fun u' => bif E u' v then (0 : Int) else (-1000000000000000)).set u 0) = mat0 (fun u' v' => E u' v' || (v' == v && u' == u)) n := by
  unfold mat0
  rw [map_range_set, map_range_set]
  apply List.map_congr_left; intro v' _
  by_cases hv : v' = v
  · subst hv
    rw [if_pos rfl]
    apply List.map_congr_left; intro u' _
    by_cases hu : u' = u
    · subst hu; simp
    · rw [if_neg hu]; simp only [beq_false_of_ne hu, Bool.and_false, Bool.or_false]
  · rw [if_neg hv]
    apply List.map_congr_left; intro u' _
    simp only [beq_false_of_ne hv, Bool.false_and, Bool.or_false]

/-- a written cycle that goes on from a path -/
def Ext (E : Nat → Nat → Bool) (n f : Nat) (p : List Nat) (l : Nat) (q : List Nat) : Prop := (∀ x, x ∈ q → f < x ∧ x < n) ∧ (p ++ q).Nodup ∧ Chain E l q f

def nextI : Option Nat → Int
  | some e => (e : Int)
  | none => -1

/-! ### Squares as tables -/
def entryOf (a : List (List Int)) (i j : Nat) : Int := (a.getD i []).getD j 0

theorem square_tab {a : List (List Int)} (h : squareB a = true) : 1 ≤ a.length ∧ a.length ≤ 10 ∧ a = tabM a.length a.length (entryOf a) ∧ TabOk (entryOf a) a.length := by
  unfold squareB at h
  rw [Bool.and_eq_true, beq_iff_eq] at h
  obtain ⟨hm, h2⟩ := h
  unfold matB at hm
  rw [Bool.and_eq_true, inB_true, List.all_eq_true] at hm
  obtain ⟨h3, h4⟩ := hm
  have hr : ∀ r, r ∈ a → r.length = a.length := fun r hr => by
    have := h4 r hr
    rw [Bool.and_eq_true, beq_iff_eq] at this
    omega
  refine ⟨by omega, by omega, tabM_self rfl hr, fun i j hi hj => ?_⟩
  have e : a[i]? = some (a.getD i []) := by rw [List.getD_eq_getElem?_getD, List.getElem?_eq_getElem hi]; rfl
  have hrow := List.mem_of_getElem? e
  have h5 := h4 _ hrow
  rw [Bool.and_eq_true] at h5
  have h6 := h5.1
  unfold vecB at h6
  rw [Bool.and_eq_true, List.all_eq_true] at h6
  have hjl : j < (a.getD i []).length := by rw [hr _ hrow]; exact hj
  have h7 := h6.2 _ (List.mem_of_getElem? (getD_of hjl))
  unfold valB at h7
  rw [Bool.or_eq_true, beq_iff_eq, inB_true] at h7
  exact h7

/-! ### Searches for cycles -/
theorem nl_first {p : List Nat} (h : p ≠ []) : idx (nl p) 0 = some (headN p : Int) := by
  cases p with
  | nil => exact absurd rfl h
  | cons x p => rw [show (0 : Int) = ((0 : Nat) : Int) from rfl, idx_nat, nl_at]; rfl

theorem nl_last {p : List Nat} (h : p ≠ []) (hl : p.length ≤ 1000) : idx (nl p) (IntKind.i64.wrap (((nl p).length : Int) - 1)) = some (lastN p : Int) := by
  have h0 := List.length_pos_iff.2 h
  rw [nl_len, wr (by omega) (by omega), show ((p.length : Int) - 1) = ((p.length - 1 : Nat) : Int) by omega, idx_nat, nl_at]
  unfold lastN
  rw [List.getLastD_eq_getLast?, List.getLast?_eq_getElem?]
  cases hp : p[p.length - 1]? with
  | none => rw [List.getElem?_eq_none_iff] at hp; omega
  | some x => rfl

theorem first_lt {n : Nat} {p : List Nat} (h : p ≠ []) (hp : ∀ x, x ∈ p → x < n) : headN p < n := by
  cases p with
  | nil => exact absurd rfl h
  | cons x p => exact hp x (by simp)

theorem last_mem {p : List Nat} (h : p ≠ []) : lastN p ∈ p := by
  unfold lastN
  rw [List.getLastD_eq_getLast?, List.getLast?_eq_some_getLast h]
  exact List.getLast_mem h

/-- a path of a search -/
structure PathOk (f : Nat → Nat → Int) (n : Nat) (p : List Nat) : Prop where
  ne : p ≠ []
  nodup : p.Nodup
  lt : ∀ x, x ∈ p → x < n
  w0 : -1000000 * (p.length : Int) ≤ pathw f p
  w1 : pathw f p ≤ 1000000 * (p.length : Int)

theorem PathOk.one (f : Nat → Nat → Int) {n v : Nat} (h : v < n) : PathOk f n [v] := ⟨by simp, by simp, fun x hx => by simp at hx; omega, by show _ ≤ (0 : Int); simp, by show (0 : Int) ≤ _; simp⟩

theorem PathOk.next {f : Nat → Nat → Int} {n v : Nat} {p : List Nat} (hf : TabOk f n) (h : PathOk f n p) (hv : v < n) (hc : candW f p v = true) : PathOk f n (p ++ [v]) ∧ pathw f (p ++ [v]) = pathw f p + f v (lastN p) ∧ f v (lastN p) ≠ -1000000000000000 := by
  unfold candW at hc
  rw [Bool.and_eq_true, Bool.and_eq_true] at hc
  have hnv : v ∉ p := by simpa using hc.2
  have ha := arcB_true.1 hc.1.2
  have hb := hf v (lastN p) hv (h.lt _ (last_mem h.ne))
  have e := pathw_snoc f v h.ne
  have h0 := h.w0
  have h1 := h.w1
  unfold Okw at hb
  refine ⟨⟨by simp, ?_, fun x hx => ?_, ?_, ?_⟩, e, ha⟩
  · rw [List.nodup_append]
    refine ⟨h.nodup, by simp, fun x hx y hy => ?_⟩
    simp only [List.mem_singleton] at hy
    subst hy
    exact fun e => hnv (e ▸ hx)
  · rcases List.mem_append.1 hx with hx | hx
    · exact h.lt x hx
    · simp only [List.mem_singleton] at hx; subst hx; exact hv
  · rw [e, List.length_append, List.length_singleton]; omega
  · rw [e, List.length_append, List.length_singleton]; omega

/-- which nodes behind the first are used -/
def UsedOk (n : Nat) (p : List Nat) (u : List Bool) : Prop := u.length = n ∧ ∀ v, v < n → headN p < v → u[v]? = some (p.contains v)

theorem gdfs_ne {acc : List Nat → Bool} {cand : List Nat → Nat → Bool} {N k v : Nat} {r : List Nat} (h : gdfs acc cand N k [v] = some r) : r ≠ [] := by
  obtain ⟨_, q, e, _⟩ := gdfs_some h
  rw [e]; simp

theorem nl_ne {p : List Nat} (h : p ≠ []) : nl p ≠ [] := by
  cases p with
  | nil => exact absurd rfl h
  | cons x p => exact List.cons_ne_nil _ _

/-! ### Positive cycles, by the program -/
theorem squareB_tab {n : Nat} {f : Nat → Nat → Int} (h1 : 1 ≤ n) (hn : n ≤ 10) (hf : TabOk f n) : squareB (tabM n n f) = true := by
  have h0 : firstL (tabM n n f) = (n : Int) := by
    unfold firstL
    rw [List.getD_eq_getElem?_getD, tabM_row (show 0 < n by omega)]; simp
  unfold squareB matB
  rw [h0, tabM_len, Bool.and_eq_true, Bool.and_eq_true, inB_true, List.all_eq_true, beq_iff_eq]
  refine ⟨⟨by omega, fun r hr => ?_⟩, rfl⟩
  have hl := tabM_rows r hr
  unfold vecB
  rw [Bool.and_eq_true, Bool.and_eq_true, inB_true, beq_iff_eq, List.all_eq_true, hl]
  refine ⟨⟨by omega, fun x hx => ?_⟩, rfl⟩
  obtain ⟨i, hi, rfl⟩ := List.getElem_of_mem hr
  rw [tabM_len] at hi
  have e : (tabM n n f)[i] = (List.range n).map fun j => f i j := by
    have := tabM_row (m := n) (n := n) (f := f) hi
    rw [List.getElem?_eq_getElem (by rw [tabM_len]; exact hi)] at this
    exact Option.some.inj this
  rw [e, List.mem_map] at hx
  obtain ⟨j, hj, rfl⟩ := hx
  have := hf i j hi (by simpa using hj)
  unfold valB
  rw [Bool.or_eq_true, beq_iff_eq, inB_true]
  exact this

/-! ### The program's search for a better circuit -/
def tb (n : Nat) (x : Nat → Int) : List Int := (List.range n).map x

theorem tb_len (n : Nat) (x : Nat → Int) : (tb n x).length = n := by unfold tb; simp

theorem tb_at {n i : Nat} {x : Nat → Int} (h : i < n) : (tb n x)[i]? = some (x i) := by unfold tb; rw [List.getElem?_map, List.getElem?_range h]; rfl

theorem tb_set (n i : Nat) (x : Nat → Int) (y : Int) : (tb n x).set i y = tb n fun j => if j = i then y else x j := by unfold tb; rw [map_range_set]

theorem tb_zero (n : Nat) : List.replicate n (0 : Int) = tb n fun _ => 0 := by
  unfold tb
  apply List.ext_getElem? ; intro i
  rw [List.getElem?_replicate, List.getElem?_map]
  by_cases h : i < n
  · rw [if_pos h, List.getElem?_range h]; rfl
  · rw [if_neg h, List.getElem?_eq_none (by simpa using h)]; rfl

/-- the places last taken -/
def ViaOk (n m : Nat) (vs : List Nat) : Prop := vs.length = n ∧ ∀ v, v ∈ vs → v < m

theorem via_set {n m : Nat} {vs : List Nat} (h : ViaOk n m vs) {k : Nat} (hk : k < m) (i : Nat) : ViaOk n m (vs.set i k) := ⟨by rw [List.length_set]; exact h.1, fun v hv => by
  rcases List.mem_or_eq_of_mem_set hv with h1 | h1
  · exact h.2 v h1
  · omega⟩

theorem nl_set (vs : List Nat) (i k : Nat) : (nl vs).set i (k : Int) = nl (vs.set i k) := by
  unfold nl; rw [List.map_set]

def itn (φ : Nat → Nat) : Nat → Nat → Nat
  | 0, v => v
  | k + 1, v => itn φ k (φ v)

theorem itn_succ (φ : Nat → Nat) : ∀ (k v : Nat), itn φ (k + 1) v = φ (itn φ k v)
  | 0, _ => rfl
  | k + 1, v => itn_succ φ k (φ v)

theorem itn_add (φ : Nat → Nat) (i : Nat) : ∀ (j v : Nat), itn φ (i + j) v = itn φ i (itn φ j v)
  | 0, _ => rfl
  | j + 1, v => itn_add φ i j (φ v)

theorem itn_lt {φ : Nat → Nat} {n : Nat} (h : ∀ v, v < n → φ v < n) : ∀ (k : Nat) {v : Nat}, v < n → itn φ k v < n
  | 0, _, hv => hv
  | k + 1, _, hv => itn_lt h k (h _ hv)

theorem itn_back {φ : Nat → Nat} {n : Nat} (h : ∀ v, v < n → φ v < n) {v : Nat} (hv : v < n) : ∃ d, d < n ∧ itn φ (d + 1) (itn φ n v) = itn φ n v := by
  obtain ⟨p, q, h1, h2, h3⟩ := pigeon_n (n := n) (c := fun t => itn φ t v) (fun t _ => itn_lt h t hv)
  have h3 : itn φ p v = itn φ q v := h3
  refine ⟨q - p - 1, by omega, ?_⟩
  rw [show q - p - 1 + 1 = q - p by omega, ← itn_add, show q - p + n = (n - p) + q by omega, itn_add, ← h3, ← itn_add, show n - p + p = n by omega]

theorem eqN (a b : Nat) : ((a : Int) == (b : Int)) = decide (a = b) := by
  by_cases e : a = b
  · subst e; simp
  · rw [beq_false_of_ne (by omega), dF e]

theorem neN (a b : Nat) : ((a : Int) != (b : Int)) = !decide (a = b) := by rw [bne, eqN]

theorem ltN (a b : Nat) : decide ((a : Int) < (b : Int)) = decide (a < b) := by
  by_cases e : a < b
  · rw [dT e, dT (by omega)]
  · rw [dF e, dF (by omega)]

theorem nl_cut {p : List Nat} {j : Nat} (hl : p.length ≤ 1000) : cutTo (nl (p ++ [j])) (IntKind.i64.wrap (((nl (p ++ [j])).length : Int) - 1)) = some (nl p) := by
  rw [nl_len, List.length_append, List.length_singleton, wr (by omega) (by omega)]
  unfold cutTo
  rw [nl_len, List.length_append, List.length_singleton, if_pos ⟨by omega, by omega⟩, show (((p.length + 1 : Nat) : Int) - 1).toNat = p.length by omega]
  unfold nl
  rw [List.map_append, List.take_left' (by simp)]

theorem foldl_len {α : Type} {f : List Int → α → List Int} (hf : ∀ xs a, (f xs a).length = xs.length) : ∀ (l : List α) (xs : List Int), (l.foldl f xs).length = xs.length
  | [], _ => rfl
  | a :: l, xs => by rw [List.foldl_cons, foldl_len hf l, hf]

theorem getN {xs : List Int} {i : Int} {u n : Nat} (h : i = (u : Int)) (hu : u < n) (hx : xs.length = n) : idx xs i = some (xs.getD i.toNat 0) := by
  subst h; rw [idx_nat, Int.toNat_natCast, getD_of (by omega)]

theorem upd_last {pre : List (List Int)} {xs ys : List Int} : upd (pre ++ [xs]) (pre.length : Int) ys = some (pre ++ [ys]) := by
  rw [upd_nat _ (by simp)]; simp

theorem foldl_range {S : Type} {f : S → Nat → S} {o : List Nat} {s : S} {k : Nat} (hk : k < o.length) : (o.take (k + 1)).foldl f s = f ((o.take k).foldl f s) (o.getD k 0) := by
  have : o[k]? = some (o.getD k 0) := by rw [List.getD_eq_getElem?_getD, List.getElem?_eq_getElem hk]; rfl
  rw [List.take_add_one, this, List.foldl_append]; rfl

theorem last_at {pre : List (List Int)} {xs : List Int} : (pre ++ [xs])[pre.length]? = some xs := by simp

/-! ### Floats -/
def fstep (T : List (List Int)) (k : Nat) (ms : List (List Int)) (j : Nat) : List (List Int) := ms.set k ((ms.getD k []).set j (IntKind.i64.wrap ((ms.getD k []).getD j 0 - (T.getD k []).getD j 0)))

def frow (T : List (List Int)) (e : Nat) (ms : List (List Int)) (k : Nat) : List (List Int) := (List.range e).foldl (fstep T k) ms

def ftab (T : List (List Int)) (e n : Nat) (ms : List (List Int)) : List (List Int) := (List.range n).foldl (frow T e) ms

theorem rowOf {T : List (List Int)} {k : Nat} (h : k < T.length) : T[k]? = some (T.getD k []) := by
  rw [List.getD_eq_getElem?_getD, List.getElem?_eq_getElem h]; rfl

/-! ### Firings picked out of a table -/
/-- the firings of one round, of all rounds -/
def pickRow (p : Nat → Nat → Bool) (k n : Nat) : List (List Int) := (List.range n).flatMap fun e => bif p k e then [[((k + 1 : Nat) : Int), (e : Int)]] else []

def pickAll (p : Nat → Nat → Bool) (n : Nat) (m : Nat) : List (List Int) := (List.range m).flatMap fun k => pickRow p k n

theorem pickRow_len (p : Nat → Nat → Bool) (k : Nat) : ∀ n, (pickRow p k n).length ≤ n
  | 0 => by simp [pickRow]
  | n + 1 => by
    have := pickRow_len p k n
    have e : pickRow p k (n + 1) = pickRow p k n ++ bif p k n then [[((k + 1 : Nat) : Int), (n : Int)]] else [] := by
      unfold pickRow; rw [List.range_succ, List.flatMap_append]; simp
    rw [e]
    cases p k n <;> simp <;> omega

theorem pickAll_len (p : Nat → Nat → Bool) (n : Nat) : ∀ m, (pickAll p n m).length ≤ m * n
  | 0 => by simp [pickAll]
  | m + 1 => by
    have := pickAll_len p n m
    have h2 := pickRow_len p m n
    have e : pickAll p n (m + 1) = pickAll p n m ++ pickRow p m n := by
      unfold pickAll; rw [List.range_succ, List.flatMap_append]; simp
    rw [e, List.length_append, Nat.succ_mul]; omega

theorem pickAll_rows (p : Nat → Nat → Bool) (n m : Nat) : ∀ r, r ∈ pickAll p n m → r.length = 2 := by
  intro r hr
  unfold pickAll pickRow at hr
  rw [List.mem_flatMap] at hr
  obtain ⟨k, _, hr⟩ := hr
  rw [List.mem_flatMap] at hr
  obtain ⟨e, _, hr⟩ := hr
  cases h : p k e with
  | false => rw [h] at hr; cases hr
  | true => rw [h] at hr; simp only [cond_true, List.mem_singleton] at hr; rw [hr]; rfl

/-- a loop over a round that appends -/
theorem row_loop {p : Nat → Nat → Bool} {k n : Nat} {acc : List (List Int)} {L : Nat → List (List Int) → Int → Option (List (List Int))} (ha : acc.length ≤ 1000) (hn : n ≤ 10)
    (hL : ∀ m ms e, e < n → ms.length ≤ 2000 → L (m + 1) ms (e : Int) = L m (ms ++ bif p k e then [[((k + 1 : Nat) : Int), (e : Int)]] else []) ((e + 1 : Nat) : Int))
    (hE : ∀ m ms, L (m + 1) ms (n : Int) = some ms) {F : Nat} (hF : 134217728 ≤ F) : L F acc 0 = some (acc ++ pickRow p k n) := by
  refine for0 (L := L) (len := n) (fun j s => s = acc ++ pickRow p k j) (R := fun q => q = some (acc ++ pickRow p k n)) ?_ ?_ (by unfold pickRow; simp) (by omega)
  · rintro m j s hj rfl
    have hl := pickRow_len p k j
    refine .inl ⟨_, hL m _ j hj (by rw [List.length_append]; omega), ?_⟩
    have e : pickRow p k (j + 1) = pickRow p k j ++ bif p k j then [[((k + 1 : Nat) : Int), (j : Int)]] else [] := by
      unfold pickRow; rw [List.range_succ, List.flatMap_append]; simp
    rw [e, List.append_assoc]
  · rintro m s rfl
    exact hE m _

theorem all_rounds {p : Nat → Nat → Bool} {n len : Nat} {L : Nat → List (List Int) → Int → Option (List (List Int))} (hn : n ≤ 10) (hlen : len ≤ 50)
    (hL : ∀ m k ms, k < len → ms.length ≤ 1000 → L (m + 1) ms (k : Int) = L m (ms ++ pickRow p k n) ((k + 1 : Nat) : Int))
    (hE : ∀ m ms, L (m + 1) ms (len : Int) = some ms) {F : Nat} (hF : 134217728 ≤ F) : L F [] 0 = some (pickAll p n len) := by
  refine for0 (L := L) (len := len) (fun j s => s = pickAll p n j) (R := fun q => q = some (pickAll p n len)) ?_ ?_ (by unfold pickAll; simp) (by omega)
  · rintro m j s hj rfl
    have hl := pickAll_len p n j
    have h2 := Nat.mul_le_mul (show j ≤ 50 by omega) hn
    refine .inl ⟨_, hL m j _ hj (by omega), ?_⟩
    unfold pickAll; rw [List.range_succ, List.flatMap_append]; simp
  · rintro m s rfl
    exact hE m _

theorem off_rows {rows : List (List Int)} {n : Nat} (h : ∀ r, r ∈ rows → r.length = n) : ∀ k, k ≤ rows.length → offR rows k = k * n := by
  intro k
  induction k with
  | zero => intro _; rw [offR_zero]; omega
  | succ k ih =>
    intro hk
    have hr : rows[k]? = some rows[k] := List.getElem?_eq_getElem (by omega)
    rw [offR_succ hr, ih (by omega), h _ (List.mem_of_getElem? hr), Nat.succ_mul]

theorem rowD {T : List (List Int)} {k : Nat} (h : k < T.length) : T[k]? = some (T.getD k []) := by
  rw [List.getD_eq_getElem?_getD, List.getElem?_eq_getElem h]; rfl

def lateP (T due : List (List Int)) (k e : Nat) : Bool := decide ((due.getD k []).getD e 0 < (T.getD k []).getD e 0)

/-! ### Delays lie in their range -/
theorem wr_range (n : Int) : -9223372036854775808 ≤ IntKind.i64.wrap n ∧ IntKind.i64.wrap n ≤ 9223372036854775807 := by
  simp [IntKind.wrap, IntKind.bits, IntKind.signed]; omega

def allIn (xs : List Int) : Prop := ∀ i, 0 ≤ xs.getD i 0 ∧ xs.getD i 0 ≤ 1000000

theorem allIn_mem {xs : List Int} (h : allIn xs) : ∀ x, x ∈ xs → 0 ≤ x ∧ x ≤ 1000000 := by
  intro x hx
  obtain ⟨i, hi, rfl⟩ := List.getElem_of_mem hx
  have := h i
  rw [List.getD_eq_getElem?_getD, List.getElem?_eq_getElem hi] at this
  exact this

theorem allIn_of {xs : List Int} (h : ∀ x, x ∈ xs → 0 ≤ x ∧ x ≤ 1000000) : allIn xs := by
  intro i
  by_cases hi : i < xs.length
  · rw [List.getD_eq_getElem?_getD, List.getElem?_eq_getElem hi]; exact h _ (List.getElem_mem hi)
  · rw [List.getD_eq_getElem?_getD, List.getElem?_eq_none (by omega)]; simp

theorem set_getD {xs : List Int} {e i : Nat} {y : Int} : (xs.set e y).getD i 0 = if i = e ∧ i < xs.length then y else xs.getD i 0 := by
  rw [List.getD_eq_getElem?_getD, List.getD_eq_getElem?_getD]
  by_cases h : i = e
  · subst h
    by_cases hl : i < xs.length
    · rw [set_here hl, if_pos ⟨rfl, hl⟩]; rfl
    · rw [if_neg (fun hc => hl hc.2), List.getElem?_eq_none (by simp; omega), List.getElem?_eq_none (by omega)]
  · rw [set_keep h, if_neg (fun hc => h hc.1)]

theorem foldl_in {α : Type} {f : List Int → α → List Int} (l : List α) (hf : ∀ xs a, a ∈ l → allIn xs → allIn (f xs a)) : ∀ xs, allIn xs → allIn (l.foldl f xs) := by
  induction l with
  | nil => intro xs h; exact h
  | cons a l ih => intro xs h; exact ih (fun xs b hb => hf xs b (by simp [hb])) _ (hf xs a (by simp) h)

theorem rowsD {T : List (List Int)} {k : Nat} (h : k < T.length) : T[k]? = some (T.getD k []) := by
  rw [List.getD_eq_getElem?_getD, List.getElem?_eq_getElem h]; rfl

/-! ### When delays are settled -/
def zB (xs : List Int) : Bool := xs.all fun x => inB x 0 0

theorem sum_pos {xs : List Int} (h : ∀ x, x ∈ xs → 0 ≤ x ∧ x ≤ 1000000) : 0 ≤ xs.sum ∧ xs.sum ≤ 1000000 * (xs.length : Int) ∧ decide (0 < xs.sum) = !zB xs := by
  induction xs with
  | nil => exact ⟨by simp, by simp, rfl⟩
  | cons x xs ih =>
    obtain ⟨h1, h2, h3⟩ := ih (fun y hy => h y (by simp [hy]))
    have hx := h x (by simp)
    rw [List.sum_cons]
    refine ⟨by omega, by simp only [List.length_cons]; omega, ?_⟩
    have e : zB (x :: xs) = (inB x 0 0 && zB xs) := rfl
    rw [e]
    by_cases h0 : x = 0
    · subst h0
      rw [show inB 0 0 0 = true from rfl, Bool.true_and, ← h3]; simp
    · rw [inB_false (show ¬ ((0 : Int) ≤ x ∧ x ≤ 0) by omega), Bool.false_and]
      exact decide_eq_true (by omega)

/-- behind the last row that is not zero -/
def lsz (T : List (List Int)) : Nat → Nat
  | 0 => 0
  | k + 1 => if zB (T.getD k []) = true then lsz T k else k + 1

theorem lsz_le (T : List (List Int)) : ∀ k, lsz T k ≤ k
  | 0 => Nat.le_refl _
  | k + 1 => by
    unfold lsz
    split
    · have := lsz_le T k; omega
    · exact Nat.le_refl _

/-! ### The greatest delays -/
def wmax (xs q : List Int) : List Int := (List.range xs.length).map fun i => max (xs.getD i 0) (q.getD i 0)

theorem wmax_len (xs q : List Int) : (wmax xs q).length = xs.length := by unfold wmax; simp

theorem wmax_of {r a b : List Int} (hl : r.length = a.length) (h : ∀ q, q < a.length → r[q]? = some (max (a.getD q 0) (b.getD q 0))) : r = wmax a b := by
  apply List.ext_getElem?; intro q
  by_cases hq : q < a.length
  · rw [h q hq]; unfold wmax; rw [List.getElem?_map, List.getElem?_range hq]; rfl
  · rw [List.getElem?_eq_none (by omega), List.getElem?_eq_none (by rw [wmax_len]; omega)]

theorem wfold_len (T : List (List Int)) (xs : List Int) : (T.foldl wmax xs).length = xs.length := foldl_len wmax_len T xs

theorem foldl_takeR {S : Type} {f : S → List Int → S} {T : List (List Int)} {s : S} {k : Nat} (hk : k < T.length) : (T.take (k + 1)).foldl f s = f ((T.take k).foldl f s) (T.getD k []) := by
  have : T[k]? = some (T.getD k []) := by rw [List.getD_eq_getElem?_getD, List.getElem?_eq_getElem hk]; rfl
  rw [List.take_add_one, this, List.foldl_append]; rfl

/-! ### Tables by blocks -/
theorem mapR_at {n j : Nat} {g : Nat → Int} (h : j < n) : ((List.range n).map g)[j]? = some (g j) := by
  rw [List.getElem?_map, List.getElem?_range h]; rfl

theorem mapR_upd {n j : Nat} {g : Nat → Int} {x : Int} (h : j < n) : upd ((List.range n).map g) (j : Int) x = some (((List.range n).map g).set j x) := upd_nat _ (by simpa using h)

theorem tabM_upd {m n i j : Nat} {f : Nat → Nat → Int} {x : Int} (hi : i < m) : upd (tabM m n f) (i : Int) (((List.range n).map fun b => f i b).set j x) = some (tabM m n fun a b => if a = i ∧ b = j then x else f a b) := by
  rw [upd_nat _ (by rw [tabM_len]; exact hi)]
  refine congrArg some (tabM_of (by rw [List.length_set, tabM_len]) fun a ha => ?_)
  by_cases e : a = i
  · subst e
    rw [set_here (by rw [tabM_len]; exact ha)]
    refine congrArg some (row_of (by simp) fun b hb => ?_)
    by_cases e : b = j
    · subst e; rw [set_here (by simpa using hb)]; simp
    · rw [set_keep e, mapR_at hb]; simp [e]
  · rw [set_keep e, tabM_row ha]
    refine congrArg some (List.map_congr_left fun b _ => ?_)
    simp [e]

def ent (A : List (List Int)) (i j : Nat) : Int := (A.getD i []).getD j 0

theorem ent_row {A : List (List Int)} {i : Nat} (h : i < A.length) : A[i]? = some (A.getD i []) := by
  rw [List.getD_eq_getElem?_getD, List.getElem?_eq_getElem h]; rfl

theorem ent_len {A : List (List Int)} {n i : Nat} (hr : ∀ row, row ∈ A → row.length = n) (h : i < A.length) : (A.getD i []).length = n := hr _ (List.mem_of_getElem? (ent_row h))

/-- a part of a row is filled -/
theorem fillRow {F M N r c len : Nat} {g : Nat → Int} {f : Nat → Nat → Int} {L : Nat → List (List Int) → Int → Option (List (List Int))}
    (hL : ∀ m k (f' : Nat → Nat → Int), k < len → L (m + 1) (tabM M N f') (k : Int) = L m (tabM M N fun a b => if a = r ∧ b = c + k then g k else f' a b) ((k + 1 : Nat) : Int))
    (hE : ∀ m ms, L (m + 1) ms (len : Int) = some ms) (hn : len < F) : L F (tabM M N f) 0 = some (tabM M N fun a b => if a = r ∧ c ≤ b ∧ b < c + len then g (b - c) else f a b) := by
  refine for0 (L := L) (len := len) (fun k s => s = tabM M N fun a b => if a = r ∧ c ≤ b ∧ b < c + k then g (b - c) else f a b) (R := fun o => o = some (tabM M N fun a b => if a = r ∧ c ≤ b ∧ b < c + len then g (b - c) else f a b)) ?_ ?_ ?_ hn
  · rintro m k s hk rfl
    refine .inl ⟨_, hL m k _ hk, tabM_congr fun a b _ _ => ?_⟩
    by_cases ha : a = r
    · by_cases hb : b = c + k
      · subst hb; simp [ha]
      · by_cases h1 : c ≤ b ∧ b < c + k
        · rw [if_neg (by omega), if_pos ⟨ha, h1⟩, if_pos (by omega)]
        · rw [if_neg (by omega), if_neg (by omega), if_neg (by omega)]
    · simp [ha]
  · rintro m s rfl
    exact hE m _
  · refine tabM_congr fun a b _ _ => ?_
    rw [if_neg (by omega)]

/-- rows are filled one by one -/
theorem fillRows {F M N r len : Nat} {P : Nat → Prop} [DecidablePred P] {G : Nat → Nat → Int} {f : Nat → Nat → Int} {L : Nat → List (List Int) → Int → Option (List (List Int))}
    (hL : ∀ m i (f' : Nat → Nat → Int), i < len → L (m + 1) (tabM M N f') (i : Int) = L m (tabM M N fun a b => if a = r + i ∧ P b then G i b else f' a b) ((i + 1 : Nat) : Int))
    (hE : ∀ m ms, L (m + 1) ms (len : Int) = some ms) (hn : len < F) : L F (tabM M N f) 0 = some (tabM M N fun a b => if (r ≤ a ∧ a < r + len) ∧ P b then G (a - r) b else f a b) := by
  refine for0 (L := L) (len := len) (fun k s => s = tabM M N fun a b => if (r ≤ a ∧ a < r + k) ∧ P b then G (a - r) b else f a b) (R := fun o => o = some (tabM M N fun a b => if (r ≤ a ∧ a < r + len) ∧ P b then G (a - r) b else f a b)) ?_ ?_ ?_ hn
  · rintro m k s hk rfl
    refine .inl ⟨_, hL m k _ hk, tabM_congr fun a b _ _ => ?_⟩
    by_cases hb : P b
    · simp only [hb, and_true]
      by_cases ha : a = r + k
      · subst ha; rw [if_pos rfl, if_pos (by omega), Nat.add_sub_cancel_left]
      · by_cases h1 : r ≤ a ∧ a < r + k
        · rw [if_neg ha, if_pos h1, if_pos (by omega)]
        · rw [if_neg ha, if_neg h1, if_neg (by omega)]
    · simp [hb]
  · rintro m s rfl
    exact hE m _
  · refine tabM_congr fun a b _ _ => ?_
    rw [if_neg (by omega)]

def blk (A B C : List (List Int)) (i j : Nat) : Int :=
  if i < A.length then (if j < A.length then ent A i j else -1000000000000000) else if j < A.length then ent C (i - A.length) j else ent B (i - A.length) (j - A.length)


theorem flat_sz {a : List (List Int)} (hr : ∀ r, r ∈ a → r.length ≤ 1000) : ∀ k, k ≤ a.length → (a.take k).flatten.length ≤ k * 1000
  | 0, _ => by simp
  | k + 1, h => by
    have hx : a[k]? = some a[k] := List.getElem?_eq_getElem (by omega)
    have := flat_sz hr k (by omega)
    have h2 := hr _ (List.getElem_mem (show k < a.length by omega))
    rw [List.take_add_one, hx, List.flatten_append, List.length_append]
    simp only [Option.toList_some, List.flatten_cons, List.flatten_nil, List.append_nil]
    omega

/-! ### The best word -/
def stepw (ms : List (List (List Int))) (m : Nat) (x : List Int) : Option (List Int) := bif (applyv (ms.getD m []) x).all valB then some (applyv (ms.getD m []) x) else none

def runw (ms : List (List (List Int))) : List Nat → List Int → Option (List Int)
  | [], x => some x
  | m :: w, x => (stepw ms m x).bind (runw ms w)

def iw (w : List Nat) : List Int := List.map (fun m : Nat => (m : Int)) w

def hgt (xs : List Int) : Int := (List.range xs.length).foldl (fun s k => max s (xs.getD k 0)) (-1000000000000000)

def updB (most : Bool) (s : List Int × Int × Bool) (w : List Int) (h : Int) : List Int × Int × Bool := bif (!s.2.2 || (bif most then decide (s.2.1 < h) else decide (h < s.2.1))) then (w, h, true) else s

def gfold (ms : List (List (List Int))) (most : Bool) (pre : List Nat) (x : List Int) : List (List Nat) → List Int × Int × Bool → Option (List Int × Int × Bool)
  | [], s => some s
  | w :: ws, s => (runw ms w x).bind fun y => gfold ms most pre x ws (updB most s (iw (pre ++ w)) (hgt y))

def wf (M : Nat) : Nat → List (List Nat)
  | 0 => [[]]
  | l + 1 => (List.range M).flatMap fun m => (wf M l).map (List.cons m)

def snocs (M : Nat) (w : List Nat) : List (List Nat) := (List.range M).map fun m => w ++ [m]

theorem gfold_append {ms : List (List (List Int))} {most : Bool} {pre : List Nat} {x : List Int} : ∀ (a b : List (List Nat)) (s : List Int × Int × Bool), gfold ms most pre x (a ++ b) s = (gfold ms most pre x a s).bind (gfold ms most pre x b)
  | [], b, s => rfl
  | w :: a, b, s => by
    rw [List.cons_append]
    simp only [gfold]
    cases runw ms w x with
    | none => rfl
    | some y => simp only [Option.bind_some]; exact gfold_append a b _

theorem gfold_cons {ms : List (List (List Int))} {most : Bool} {pre : List Nat} {x y : List Int} {m : Nat} (h : stepw ms m x = some y) : ∀ (a : List (List Nat)) (s : List Int × Int × Bool), gfold ms most pre x (a.map (List.cons m)) s = gfold ms most (pre ++ [m]) y a s
  | [], s => rfl
  | w :: a, s => by
    rw [List.map_cons]
    simp only [gfold, runw, h, Option.bind_some, List.append_assoc, List.singleton_append]
    cases runw ms w y with
    | none => rfl
    | some z => simp only [Option.bind_some]; exact gfold_cons h a _

theorem wf_ne {M : Nat} (h : 1 ≤ M) : ∀ l, wf M l ≠ []
  | 0 => by simp [wf]
  | l + 1 => by
    obtain ⟨w, ws, e⟩ := List.exists_cons_of_ne_nil (wf_ne h l)
    intro h0
    simp only [wf, List.flatMap_eq_nil_iff, List.mem_range] at h0
    have := h0 0 (by omega)
    rw [e] at this; simp at this

theorem wf_snoc {M : Nat} : ∀ l, (wf M l).flatMap (snocs M) = wf M (l + 1)
  | 0 => by
    simp only [wf, List.flatMap_cons, List.flatMap_nil, List.append_nil, List.map_cons, List.map_nil, snocs, List.nil_append]
    rw [flatMap_one]
  | l + 1 => by
    have ih := wf_snoc (M := M) l
    have e1 : wf M (l + 1) = (List.range M).flatMap fun m => (wf M l).map (List.cons m) := rfl
    calc (wf M (l + 1)).flatMap (snocs M) = ((List.range M).flatMap fun m => (wf M l).map (List.cons m)).flatMap (snocs M) := by rw [← e1]
      _ = (List.range M).flatMap fun m => ((wf M l).flatMap (snocs M)).map (List.cons m) := by
        rw [List.flatMap_assoc]
        congr 1; funext m
        rw [List.flatMap_map, List.map_flatMap]
        congr 1; funext w
        simp [snocs]
      _ = wf M (l + 1 + 1) := by rw [ih]; rfl

theorem wf_len {M : Nat} (hM : M ≤ 4) : ∀ l, (wf M l).length ≤ 4 ^ l
  | 0 => by simp [wf]
  | l + 1 => by
    have ih := wf_len hM l
    have e : ∀ ks : List Nat, (ks.flatMap fun m => (wf M l).map (List.cons m)).length = ks.length * (wf M l).length := by
      intro ks
      induction ks with
      | nil => simp
      | cons k ks ih => rw [List.flatMap_cons, List.length_append, ih, List.length_map, List.length_cons, Nat.add_mul]; omega
    show ((List.range M).flatMap fun m => (wf M l).map (List.cons m)).length ≤ 4 ^ (l + 1)
    rw [e, List.length_range, Nat.pow_succ, Nat.mul_comm]
    exact Nat.mul_le_mul ih hM

theorem wf_mem {M : Nat} : ∀ l w, w ∈ wf M l → w.length = l ∧ ∀ m, m ∈ w → m < M
  | 0, w, h => by
    simp only [wf, List.mem_singleton] at h
    subst h; simp
  | l + 1, w, h => by
    simp only [wf, List.mem_flatMap, List.mem_range, List.mem_map] at h
    obtain ⟨m, hm, v, hv, rfl⟩ := h
    obtain ⟨h1, h2⟩ := wf_mem l v hv
    refine ⟨by rw [List.length_cons, h1], fun k hk => ?_⟩
    rcases List.mem_cons.1 hk with rfl | hk
    · exact hm
    · exact h2 k hk

theorem hg_bd {xs : List Int} (h : xs.all valB = true) : -1000000000000000 ≤ hgt xs ∧ hgt xs ≤ 1000000000000000 := by
  have hk : ∀ k, -1000000000000000 ≤ xs.getD k 0 ∧ xs.getD k 0 ≤ 1000000000000000 := by
    intro k
    by_cases hk : k < xs.length
    · have := List.all_eq_true.1 h _ (List.mem_of_getElem? (getD_of hk))
      unfold valB at this
      rw [Bool.or_eq_true, beq_iff_eq, inB_true] at this
      omega
    · rw [List.getD_eq_getElem?_getD, List.getElem?_eq_none (by omega)]; simp
  have H : ∀ (ks : List Nat) (s : Int), (-1000000000000000 ≤ s ∧ s ≤ 1000000000000000) → -1000000000000000 ≤ ks.foldl (fun s k => max s (xs.getD k 0)) s ∧ ks.foldl (fun s k => max s (xs.getD k 0)) s ≤ 1000000000000000 := by
    intro ks
    induction ks with
    | nil => intro s hs; exact hs
    | cons k ks ih =>
      intro s hs
      have := hk k
      exact ih (max s (xs.getD k 0)) (by omega)
  exact H _ _ (by omega)

theorem implHgt_is {F : Nat} {xs : List Int} (hF : 134217728 ≤ F) (hl : xs.length ≤ 1048576) : impl_sumOf F xs = some (hgt xs) := by
  unfold impl_sumOf
  rw [fold_loop (len := xs.length) (f := fun s k => max s (xs.getD k 0)) (L := impl_sumOf_L1 F xs) ?_ ?_ (by omega)]
  · rfl
  · intro n s k hk
    simp only [impl_sumOf_L1, bdT (show (k : Int) < (xs.length : Int) by omega), idx_nat, getD_of hk, Option.bind_some, wrN (show k ≤ 67108864 by omega)]
  · intro n s
    simp only [impl_sumOf_L1, bdF (show ¬ (xs.length : Int) < (xs.length : Int) by omega)]

theorem specHgt_is {F : Nat} {xs : List Int} (hF : 134217728 ≤ F) (hl : xs.length ≤ 10) (hv : xs.all valB = true) : spec_SumOf F xs = some (hgt xs, 0) := by
  unfold spec_SumOf
  rw [bdF (by omega), specAll_is hF (by omega), hv]
  simp only [Option.bind_some, Bool.not_true, cond_false]
  rw [fold_loop (len := xs.length) (f := fun s k => max s (xs.getD k 0)) (L := spec_SumOf_L1 F xs) ?_ ?_ (by omega)]
  · rfl
  · intro n s k hk
    simp only [spec_SumOf_L1, bdT (show (k : Int) < (xs.length : Int) by omega), idx_nat, getD_of hk, Option.bind_some, wrN (show k ≤ 67108864 by omega)]
  · intro n s
    simp only [spec_SumOf_L1, bdF (show ¬ (xs.length : Int) < (xs.length : Int) by omega)]

structure MsOk (ms : List (List (List Int))) (n : Nat) : Prop where
  n1 : 1 ≤ n
  n10 : n ≤ 10
  m1 : 1 ≤ ms.length
  m4 : ms.length ≤ 4
  sq : ∀ m, m ∈ ms → m.length = n ∧ ∀ row, row ∈ m → row.length = n

theorem MsOk.at' {ms : List (List (List Int))} {n m : Nat} (h : MsOk ms n) (hm : m < ms.length) : ms[m]? = some (ms.getD m []) ∧ (ms.getD m []).length = n ∧ ∀ row, row ∈ ms.getD m [] → row.length = n := by
  have e : ms[m]? = some (ms.getD m []) := by rw [List.getD_eq_getElem?_getD, List.getElem?_eq_getElem hm]; rfl
  exact ⟨e, h.sq _ (List.mem_of_getElem? e)⟩

theorem MsOk.len {ms : List (List (List Int))} {n m : Nat} (h : MsOk ms n) (hm : m < ms.length) (x : List Int) : (applyv (ms.getD m []) x).length = n := by
  unfold applyv; rw [List.length_map]; exact (h.at' hm).2.1

theorem stepw_some {ms : List (List (List Int))} {n m : Nat} {x y : List Int} (h : MsOk ms n) (hm : m < ms.length) (hs : stepw ms m x = some y) : y.length = n ∧ y.all valB = true := by
  unfold stepw at hs
  cases hv : (applyv (ms.getD m []) x).all valB with
  | false => rw [hv] at hs; cases hs
  | true => rw [hv] at hs; cases hs; exact ⟨h.len hm x, hv⟩

theorem runw_some {ms : List (List (List Int))} {n : Nat} (h : MsOk ms n) : ∀ {w : List Nat} {x y : List Int}, (∀ m, m ∈ w → m < ms.length) → x.length = n → x.all valB = true → runw ms w x = some y → y.length = n ∧ y.all valB = true
  | [], x, y, _, hx, hv, hr => by cases hr; exact ⟨hx, hv⟩
  | m :: w, x, y, hw, _, _, hr => by
    unfold runw at hr
    cases hs : stepw ms m x with
    | none => rw [hs] at hr; cases hr
    | some z =>
      rw [hs, Option.bind_some] at hr
      obtain ⟨h1, h2⟩ := stepw_some h (hw m (by simp)) hs
      exact runw_some h (fun k hk => hw k (List.mem_cons_of_mem _ hk)) h1 h2 hr

theorem updB_bd {most : Bool} {s : List Int × Int × Bool} {w : List Int} {h : Int} (hs : -1000000000000000 ≤ s.2.1 ∧ s.2.1 ≤ 1000000000000000) (hh : -1000000000000000 ≤ h ∧ h ≤ 1000000000000000) : -1000000000000000 ≤ (updB most s w h).2.1 ∧ (updB most s w h).2.1 ≤ 1000000000000000 := by
  unfold updB
  cases (!s.2.2 || (bif most then decide (s.2.1 < h) else decide (h < s.2.1)))
  · exact hs
  · exact hh

def signOk (sg : Int) (most : Bool) : Prop := (sg = 1 ∧ most = true) ∨ (sg = -1 ∧ most = false)

theorem sign_is {sg a b : Int} {most : Bool} (h : signOk sg most) (ha : -1000000000000000 ≤ a ∧ a ≤ 1000000000000000) (hb : -1000000000000000 ≤ b ∧ b ≤ 1000000000000000) : decide (IntKind.i64.wrap (sg * a) < IntKind.i64.wrap (sg * b)) = bif most then decide (a < b) else decide (b < a) := by
  rcases h with ⟨rfl, rfl⟩ | ⟨rfl, rfl⟩
  · rw [wr (by omega) (by omega), wr (by omega) (by omega), Int.one_mul, Int.one_mul]; rfl
  · rw [wr (by omega) (by omega), wr (by omega) (by omega)]
    simp only [cond_false]
    by_cases hc : b < a
    · rw [dT hc, dT (by omega)]
    · rw [dF hc, dF (by omega)]

theorem iw_snoc (w : List Nat) (m : Nat) : iw (w ++ [m]) = iw w ++ [(m : Int)] := by simp [iw]

theorem gfold_pre {ms : List (List (List Int))} {most : Bool} {pre : List Nat} {x : List Int} {g : Nat → List (List Nat)} {s : List Int × Int × Bool} {k : Nat} : ∀ d, gfold ms most pre x ((List.range k).flatMap g) s = none → gfold ms most pre x ((List.range (k + d)).flatMap g) s = none
  | 0, h => h
  | d + 1, h => by
    rw [← Nat.add_assoc, List.range_succ, List.flatMap_append, gfold_append, gfold_pre d h]; rfl

theorem goOn_is {F n : Nat} {sg : Int} {most : Bool} {ms : List (List (List Int))} (hF : 134217728 ≤ F) (hM : MsOk ms n) (hsg : signOk sg most) : ∀ (l fuel : Nat) (pre : List Nat) (x : List Int) (s : List Int × Int × Bool), l < fuel → pre.length + l ≤ 6 → x.length = n → x.all valB = true → (-1000000000000000 ≤ s.2.1 ∧ s.2.1 ≤ 1000000000000000) →
    match gfold ms most pre x (wf ms.length l) s with
    | some t => impl_wordSearch_goOn_rec F fuel ms sg (iw pre) s.1 s.2.1 s.2.2 x (l : Int) = some (true, sg, iw pre, t.1, t.2.1, t.2.2) ∧ (-1000000000000000 ≤ t.2.1 ∧ t.2.1 ≤ 1000000000000000)
    | none => ∃ z, impl_wordSearch_goOn_rec F fuel ms sg (iw pre) s.1 s.2.1 s.2.2 x (l : Int) = some (false, z) := by
  intro l
  induction l with
  | zero =>
    intro fuel pre x s hf hp hx hv hs
    obtain ⟨fuel, rfl⟩ : ∃ q, fuel = q + 1 := ⟨fuel - 1, by omega⟩
    have hb := hg_bd hv
    have hcl : slices_Clone_int64 F (iw pre) = some (iw pre) := by
      unfold slices_Clone_int64
      rw [app_le (by simp only [List.length_nil, iw, List.length_map]; omega)]; rfl
    have hz : (((0 : Nat) : Int) == 0) = true := rfl
    simp only [wf, gfold, runw, Option.bind_some, List.append_nil]
    refine ⟨?_, updB_bd hs hb⟩
    obtain ⟨best, height, found⟩ := s
    simp only at hs ⊢
    simp only [impl_wordSearch_goOn_rec, hz, cond_true, implHgt_is hF (show x.length ≤ 1048576 by have := hM.n10; omega), Option.bind_some, sign_is hsg hs hb]
    unfold updB
    cases found
    · simp only [Bool.not_false, cond_true, Option.bind_some, hcl, Bool.true_or]
    · simp only [Bool.not_true, cond_false, Bool.false_or]
      cases (bif most then decide (height < hgt x) else decide (hgt x < height))
      · rfl
      · simp only [Option.bind_some, cond_true, hcl]
  | succ l ih =>
    intro fuel pre x s hf hp hx hv hs
    obtain ⟨fuel, rfl⟩ : ∃ q, fuel = q + 1 := ⟨fuel - 1, by omega⟩
    have hz : (((l + 1 : Nat) : Int) == 0) = false := beq_false_of_ne (by omega)
    have hwl : IntKind.i64.wrap (((l + 1 : Nat) : Int) - 1) = (l : Int) := by rw [wr (by omega) (by omega)]; omega
    have hpl : (iw pre).length = pre.length := by simp [iw]
    have L := for0 (L := fun n (s : List Int × Int × Bool) i => impl_wordSearch_goOn_L1 F ms x ((l + 1 : Nat) : Int) (impl_wordSearch_goOn_rec F fuel) n sg (iw pre) s.1 s.2.1 s.2.2 i) (len := ms.length)
      (fun k t => gfold ms most pre x ((List.range k).flatMap fun m => (wf ms.length l).map (List.cons m)) s = some t ∧ (-1000000000000000 ≤ t.2.1 ∧ t.2.1 ≤ 1000000000000000))
      (R := fun o => match gfold ms most pre x (wf ms.length (l + 1)) s with
        | some t => o = some (.inr (sg, iw pre, t.1, t.2.1, t.2.2)) ∧ (-1000000000000000 ≤ t.2.1 ∧ t.2.1 ≤ 1000000000000000)
        | none => ∃ z, o = some (.inl (false, z))) (s := s) (n := F) ?_ ?_ ⟨rfl, hs⟩ (by have := hM.m4; omega)
    · cases hg : gfold ms most pre x (wf ms.length (l + 1)) s with
      | none =>
        rw [hg] at L
        obtain ⟨z, hL⟩ := L
        exact ⟨z, by simp only [impl_wordSearch_goOn_rec, hz, cond_false, hL, Option.bind_some]⟩
      | some t =>
        rw [hg] at L
        exact ⟨by simp only [impl_wordSearch_goOn_rec, hz, cond_false, L.1, Option.bind_some], L.2⟩
    · rintro q k t hk ⟨ht, htb⟩
      obtain ⟨hm, m1, m2⟩ := hM.at' hk
      have hap := implApply_is (F := F) (a := ms.getD k []) (x := x) hF (by have := hM.n10; omega) (by have := hM.n10; omega) (fun row hr => by rw [m2 row hr, hx])
      have hal := implAll_is (F := F) (xs := applyv (ms.getD k []) x) hF (by rw [hM.len hk]; have := hM.n10; omega)
      have hdead : gfold ms most pre x ((wf ms.length l).map (List.cons k)) t = none → gfold ms most pre x (wf ms.length (l + 1)) s = none := by
        intro h0
        have h1 : gfold ms most pre x ((List.range (k + 1)).flatMap fun m => (wf ms.length l).map (List.cons m)) s = none := by
          rw [List.range_succ, List.flatMap_append, gfold_append, ht, Option.bind_some]
          simpa using h0
        have := gfold_pre (ms.length - (k + 1)) h1
        rw [show k + 1 + (ms.length - (k + 1)) = ms.length by omega] at this
        exact this
      cases hval : (applyv (ms.getD k []) x).all valB with
      | false =>
        refine .inr ?_
        have hst : stepw ms k x = none := by unfold stepw; rw [hval]; rfl
        have h0 : gfold ms most pre x ((wf ms.length l).map (List.cons k)) t = none := by
          obtain ⟨w, ws, e⟩ := List.exists_cons_of_ne_nil (wf_ne hM.m1 l)
          rw [e, List.map_cons]
          simp only [gfold, runw, hst, Option.bind_none]
        rw [hdead h0]
        exact ⟨(sg, iw pre, t.1, t.2.1, t.2.2), by simp only [impl_wordSearch_goOn_L1, bdT (show (k : Int) < (ms.length : Int) by omega), idx_nat, hm, Option.bind_some, hap, hal, hval, Bool.not_false, cond_true]⟩
      | true =>
        have hst : stepw ms k x = some (applyv (ms.getD k []) x) := by unfold stepw; rw [hval]; rfl
        have happ : app (iw pre) [(k : Int)] = some (iw (pre ++ [k])) := by rw [iw_snoc]; exact app_le (by rw [hpl]; simp; omega)
        have hi := ih fuel (pre ++ [k]) (applyv (ms.getD k []) x) t (by omega) (by simp; omega) (hM.len hk x) hval htb
        rw [← gfold_cons hst] at hi
        cases hg : gfold ms most pre x ((wf ms.length l).map (List.cons k)) t with
        | none =>
          rw [hg] at hi
          obtain ⟨z, hi⟩ := hi
          refine .inr ?_
          rw [hdead hg]
          obtain ⟨z1, z2, z3, z4, z5⟩ := z
          exact ⟨(z1, z2, z3, z4, z5), by simp only [impl_wordSearch_goOn_L1, bdT (show (k : Int) < (ms.length : Int) by omega), idx_nat, hm, Option.bind_some, hap, hal, hval, Bool.not_true, cond_false, happ, hwl, hi, Bool.not_false, cond_true]⟩
        | some u =>
          rw [hg] at hi
          obtain ⟨hi, hub⟩ := hi
          have hlen : ((iw (pre ++ [k])).length : Int) = (pre.length : Int) + 1 := by rw [iw_snoc, List.length_append, hpl]; simp
          have hcut : cutTo (iw (pre ++ [k])) (IntKind.i64.wrap (((iw (pre ++ [k])).length : Int) - 1)) = some (iw pre) := by
            rw [hlen, wr (by omega) (by omega)]
            unfold cutTo
            rw [if_pos (by omega), show ((pre.length : Int) + 1 - 1).toNat = pre.length by omega, iw_snoc, List.take_append_of_le_length (by rw [hpl]; omega), List.take_of_length_le (by rw [hpl]; omega)]
          refine .inl ⟨u, ?_, ?_, hub⟩
          · simp only [impl_wordSearch_goOn_L1, bdT (show (k : Int) < (ms.length : Int) by omega), idx_nat, hm, Option.bind_some, hap, hal, hval, Bool.not_true, cond_false, happ, hwl, hi, hcut, wrN (show k ≤ 67108864 by have := hM.m4; omega)]
          · rw [List.range_succ, List.flatMap_append, gfold_append, ht, Option.bind_some]
            simpa using hg
    · rintro q t ⟨ht, htb⟩
      have e : gfold ms most pre x (wf ms.length (l + 1)) s = some t := ht
      rw [e]
      exact ⟨by simp only [impl_wordSearch_goOn_L1, bdF (show ¬ (ms.length : Int) < (ms.length : Int) by omega)], htb⟩

def sw : Option (List Int) → Sum (List Int × Int) (List Int)
  | none => .inl ([], 3)
  | some l => .inr l

theorem specRun_is {F n : Nat} {ms : List (List (List Int))} {w : List Nat} (hF : 134217728 ≤ F) (hM : MsOk ms n) (hl : w.length ≤ 6) (hw : ∀ m, m ∈ w → m < ms.length) : ∀ (d k f : Nat) (x : List Int), k + d = w.length → d < f → x.length = n → spec_AfterWord_L1 F ms (iw w) f x (k : Int) = some (sw (runw ms (w.drop k) x)) := by
  have hiw : (iw w).length = w.length := by simp [iw]
  intro d
  induction d with
  | zero =>
    intro k f x hk e1 hx
    obtain ⟨f, rfl⟩ : ∃ m, f = m + 1 := ⟨f - 1, by omega⟩
    rw [List.drop_of_length_le (by omega)]
    simp only [spec_AfterWord_L1, bdF (show ¬ (k : Int) < ((iw w).length : Int) by omega)]; rfl
  | succ d ih =>
    intro k f x hk e1 hx
    obtain ⟨f, rfl⟩ : ∃ m, f = m + 1 := ⟨f - 1, by omega⟩
    have hk' : k < w.length := by omega
    have hjl := hw _ (List.getElem_mem hk')
    have hwk : (iw w)[k]? = some (w[k] : Int) := by unfold iw; rw [List.getElem?_map, List.getElem?_eq_getElem hk']; rfl
    obtain ⟨hm, m1, m2⟩ := hM.at' hjl
    have hap := specApply_is (F := F) (a := ms.getD w[k] []) (x := x) hF (by have := hM.n10; omega) (by have := hM.n10; omega) (fun row hr => by rw [m2 row hr, hx])
    have hal := hM.len hjl x
    have hvec : vecB (applyv (ms.getD w[k] []) x) = (applyv (ms.getD w[k] []) x).all valB := by
      unfold vecB
      rw [inB_true.2 (show (1 : Int) ≤ ((applyv (ms.getD w[k] []) x).length : Int) ∧ ((applyv (ms.getD w[k] []) x).length : Int) ≤ 10 by have := hM.n1; have := hM.n10; omega), Bool.true_and]
    rw [List.drop_eq_getElem_cons hk']
    simp only [spec_AfterWord_L1, bdT (show (k : Int) < ((iw w).length : Int) by omega), idx_nat, hwk, hm, Option.bind_some, hap, specVector_is (F := F) (x := applyv (ms.getD w[k] []) x) hF (by have := hM.n10; omega), hvec, wrN (show k ≤ 67108864 by omega), runw]
    cases hv : (applyv (ms.getD w[k] []) x).all valB with
    | false =>
      have : stepw ms w[k] x = none := by unfold stepw; rw [hv]; rfl
      rw [this]; rfl
    | true =>
      have : stepw ms w[k] x = some (applyv (ms.getD w[k] []) x) := by unfold stepw; rw [hv]; rfl
      rw [this]
      simp only [Bool.not_true, cond_false, Option.bind_some]
      exact ih (k + 1) f _ (by omega) (by omega) hal

theorem specWords_is {F n : Nat} {ms : List (List (List Int))} (hF : 134217728 ≤ F) (hM : MsOk ms n) : ∀ (l : Nat), l ≤ 6 → spec_l25Words F ms (l : Int) = some ((wf ms.length l).map iw) := by
  have m4 := hM.m4
  have inner : ∀ (ws : List (List Nat)) (i : Nat) (w : List Nat) (acc : List (List Int)), ws[i]? = some w → w.length ≤ 6 → acc.length ≤ 100000 → spec_l25Words_L21 F ms (ws.map iw) (i : Int) F acc 0 = some (acc ++ (snocs ms.length w).map iw) := by
    intro ws i w acc hw hwl ha
    refine for0 (L := spec_l25Words_L21 F ms (ws.map iw) (i : Int)) (len := ms.length) (fun k s => s = acc ++ ((List.range k).map fun m => w ++ [m]).map iw) (R := fun o => o = some (acc ++ (snocs ms.length w).map iw)) ?_ ?_ (by simp) (by omega)
    · rintro q k s hk rfl
      have hi : (ws.map iw)[i]? = some (iw w) := by rw [List.getElem?_map, hw]; rfl
      have hil : (iw w).length = w.length := by simp [iw]
      have happ : app (iw w) [(k : Int)] = some (iw (w ++ [k])) := by rw [iw_snoc]; exact app_le (by rw [hil]; simp; omega)
      refine .inl ⟨_, ?_, rfl⟩
      simp only [spec_l25Words_L21, bdT (show (k : Int) < (ms.length : Int) by omega), idx_nat, hi, Option.bind_some, specOwn_is (show (iw w).length ≤ 1048576 by omega), happ, app_le (show (acc ++ ((List.range k).map fun m => w ++ [m]).map iw).length + [iw (w ++ [k])].length ≤ 67108864 by simp; omega), wrN (show k ≤ 67108864 by omega), List.range_succ, List.map_append, List.map_cons, List.map_nil, List.append_assoc]
    · rintro q s rfl
      simp only [spec_l25Words_L21, bdF (show ¬ (ms.length : Int) < (ms.length : Int) by omega)]; rfl
  have flen : ∀ ws : List (List Nat), (ws.flatMap (snocs ms.length)).length = ws.length * ms.length := by
    intro ws
    induction ws with
    | nil => simp
    | cons w ws ih => rw [List.flatMap_cons, List.length_append, ih, List.length_cons, Nat.add_mul]; simp [snocs]; omega
  have outer : ∀ (ws : List (List Nat)), ws.length ≤ 4096 → (∀ w, w ∈ ws → w.length ≤ 6) → spec_l25Words_L20 F ms (ws.map iw) F [] 0 = some ((ws.flatMap (snocs ms.length)).map iw) := by
    intro ws hl hw
    refine for0 (L := spec_l25Words_L20 F ms (ws.map iw)) (len := ws.length) (fun k s => s = ((ws.take k).flatMap (snocs ms.length)).map iw) (R := fun o => o = some ((ws.flatMap (snocs ms.length)).map iw)) ?_ ?_ (by simp) (by omega)
    · rintro q k s hk rfl
      have hx : ws[k]? = some ws[k] := List.getElem?_eq_getElem hk
      have hlen : (((ws.take k).flatMap (snocs ms.length)).map iw).length ≤ 100000 := by
        rw [List.length_map, flen, List.length_take]
        have := Nat.mul_le_mul (show min k ws.length ≤ 4096 by omega) m4
        omega
      have hin := inner ws k ws[k] _ hx (hw _ (List.getElem_mem hk)) hlen
      refine .inl ⟨((ws.take (k + 1)).flatMap (snocs ms.length)).map iw, ?_, rfl⟩
      simp only [spec_l25Words_L20, List.length_map, bdT (show (k : Int) < (ws.length : Int) by omega), hin, Option.bind_some, wrN (show k ≤ 67108864 by omega), List.take_add_one, hx, Option.toList_some, List.flatMap_append, List.flatMap_cons, List.flatMap_nil, List.append_nil, List.map_append]
    · rintro q s rfl
      simp only [spec_l25Words_L20, List.length_map, bdF (show ¬ (ws.length : Int) < (ws.length : Int) by omega), List.take_length]
  have main : ∀ (d k f : Nat), d + k ≤ 6 → d < f → spec_l25Words_L16 F ms f (d : Int) ((wf ms.length k).map iw) = some ((wf ms.length (k + d)).map iw) := by
    intro d
    induction d with
    | zero =>
      intro k f _ hf
      obtain ⟨f, rfl⟩ : ∃ m, f = m + 1 := ⟨f - 1, by omega⟩
      simp only [spec_l25Words_L16, bdF (show ¬ 0 < ((0 : Nat) : Int) by omega)]; rfl
    | succ d ih =>
      intro k f hdk hf
      obtain ⟨f, rfl⟩ : ∃ m, f = m + 1 := ⟨f - 1, by omega⟩
      have hwl := wf_len m4 k
      have h4 : 4 ^ k ≤ 4 ^ 6 := Nat.pow_le_pow_right (by decide) (by omega)
      have ho := outer (wf ms.length k) (by have : (4 : Nat) ^ 6 = 4096 := rfl; omega) (fun w hw => by have := (wf_mem k w hw).1; omega)
      rw [wf_snoc] at ho
      have hwd : IntKind.i64.wrap (((d + 1 : Nat) : Int) - 1) = (d : Int) := by rw [wr (by omega) (by omega)]; omega
      simp only [spec_l25Words_L16, bdT (show 0 < ((d + 1 : Nat) : Int) by omega), ho, Option.bind_some, hwd]
      rw [ih (k + 1) f (by omega) (by omega), show k + 1 + d = k + (d + 1) by omega]
  intro l hl
  unfold spec_l25Words
  have h := main l 0 F (by omega) (by omega)
  rw [Nat.zero_add] at h
  have h : spec_l25Words_L16 F ms F (l : Int) [[]] = some ((wf ms.length l).map iw) := h
  rw [h]; rfl

theorem best_same {F : Nat} {sg : Int} {most : Bool} {x0 : List (List (List Int))} {x1 : List Int} {x2 : Int} (hsg : signOk sg most) (hF : 134217728 ≤ F) (h0 : x0.length ≤ 1048576) (hr : ∀ m, m ∈ x0 → ∀ row, row ∈ m → row.length ≤ 1048576) (h1 : x1.length ≤ 1048576) :
    ∃ r : List Int × Int × Int, spec_l25Best F x0 x1 x2 most = some r ∧ impl_bestWord F x0 x1 x2 sg = some r ∧ r.1.length ≤ 1048576 := by
  unfold spec_l25Best impl_bestWord
  rw [specIn_is, Option.bind_some]
  simp only [spec_l25Code, impl_checkModes, specModes_is hF h0 hr, implModes_is hF h0 hr, specVector_is hF h1, implVector_is hF h1, within_is, Option.bind_some]
  cases hm : modesB x0 with
  | false => exact ⟨([], 0, 1), rfl, rfl, by simp⟩
  | true =>
    cases hv : vecB x1 with
    | false => exact ⟨([], 0, 1), rfl, rfl, by simp⟩
    | true =>
      obtain ⟨n, a0, a1, a2, a3, a4, a5⟩ := modesB_true hm
      have hM : MsOk x0 n := ⟨a1, a2, a3, a4, a5⟩
      simp only [Bool.not_true, cond_false, Option.bind_some, firstM_is (show 0 < x0.length by omega)]
      by_cases hx : (x1.length : Int) = ((x0.getD 0 []).length : Int)
      · rw [bF (neF hx), bF (neF hx)]
        cases hi : inB x2 0 6 with
        | false => exact ⟨([], 0, 2), rfl, rfl, by simp⟩
        | true =>
          obtain ⟨i0, i1⟩ := inB_true.1 hi
          obtain ⟨l, rfl⟩ : ∃ l : Nat, x2 = (l : Int) := ⟨x2.toNat, by omega⟩
          have hxn : x1.length = n := by omega
          have hva : x1.all valB = true := by
            unfold vecB at hv
            rw [Bool.and_eq_true] at hv
            exact hv.2
          have hI := goOn_is (F := F) hF hM hsg l F [] x1 ([], 0, false) (by omega) (by simp; omega) hxn hva (by simp)
          simp only [Bool.not_true, cond_false, bne_self_eq_false, Option.bind_some, specWords_is hF hM l (by omega)]
          have hwl := wf_len a4 l
          have h4 : 4 ^ l ≤ 4 ^ 6 := Nat.pow_le_pow_right (by decide) (by omega)
          have h46 : (4 : Nat) ^ 6 = 4096 := rfl
          have hS := for0 (L := fun n (s : Int × List Int) i => spec_l25Best_L1 F x0 x1 most ((wf x0.length l).map iw) n s.1 i s.2) (len := (wf x0.length l).length)
            (fun k s => gfold x0 most [] x1 ((wf x0.length l).take k) ([], 0, false) = some (s.2, s.1, decide (0 < k)) ∧ s.2.length ≤ 6)
            (R := fun o => match gfold x0 most [] x1 (wf x0.length l) ([], 0, false) with
              | some t => o = some (.inr (t.2.1, t.1)) ∧ t.1.length ≤ 6
              | none => o = some (.inl ([], 0, 3))) (s := (0, [])) (n := F) ?_ ?_ ⟨rfl, by simp⟩ (by omega)
          · cases hg : gfold x0 most [] x1 (wf x0.length l) ([], 0, false) with
            | none =>
              rw [hg] at hS hI
              obtain ⟨z, hI⟩ := hI
              refine ⟨([], 0, 3), ?_, ?_, by simp⟩
              · simp only at hS
                rw [hS]; rfl
              · have hI : impl_wordSearch_goOn F x0 sg [] [] 0 false x1 (l : Int) = some (false, z) := hI
                rw [hI]; rfl
            | some t =>
              rw [hg] at hS hI
              refine ⟨(t.1, t.2.1, 0), ?_, ?_, ?_⟩
              · have hS1 := hS.1
                simp only at hS1
                rw [hS1]; rfl
              · have hI1 : impl_wordSearch_goOn F x0 sg [] [] 0 false x1 (l : Int) = some (true, sg, [], t.1, t.2.1, t.2.2) := hI.1
                rw [hI1]; rfl
              · have := hS.2
                simp only; omega
          · rintro q k ⟨hh, bb⟩ hk ⟨hg, hbl⟩
            simp only at hg hbl
            have hxk : (wf x0.length l)[k]? = some (wf x0.length l)[k] := List.getElem?_eq_getElem hk
            obtain ⟨w1, w2⟩ := wf_mem l _ (List.getElem_mem hk)
            generalize (wf x0.length l)[k] = w at hxk w1 w2
            have hik : ((wf x0.length l).map iw)[k]? = some (iw w) := by rw [List.getElem?_map, hxk]; rfl
            have hiwl : (iw w).length = w.length := by simp [iw]
            have hword : wordB x0 (iw w) = true := by
              unfold wordB
              rw [Bool.and_eq_true, List.all_eq_true]
              refine ⟨fun y hy => ?_, dT (by omega)⟩
              unfold iw at hy
              rw [List.mem_map] at hy
              obtain ⟨m, hm', rfl⟩ := hy
              have := w2 m hm'
              rw [wr (by omega) (by omega)]
              exact inB_true.2 (by omega)
            have hrun := specRun_is (F := F) (w := w) hF hM (by omega) w2 w.length 0 F x1 (by omega) (by omega) hxn
            rw [List.drop_zero, show ((0 : Nat) : Int) = 0 from rfl] at hrun
            have hAW : spec_AfterWord F x0 x1 (iw w) = some (match runw x0 w x1 with | some y => (y, 0) | none => ([], 3)) := by
              unfold spec_AfterWord
              rw [bind_of (specWord_is hF (by omega)), hword]
              simp only [spec_l25Code, specModes_is hF h0 hr, specVector_is hF h1, hm, hv, Option.bind_some, Bool.not_true, cond_false, firstM_is (show 0 < x0.length by omega)]
              rw [bF (neF hx)]
              simp only [Option.bind_some, bne_self_eq_false, cond_false, specOwn_is h1, hrun]
              cases runw x0 w x1 <;> rfl
            have htk : gfold x0 most [] x1 ((wf x0.length l).take (k + 1)) ([], 0, false) = (runw x0 w x1).bind fun y => some (updB most (bb, hh, decide (0 < k)) (iw w) (hgt y)) := by
              rw [List.take_add_one, hxk, gfold_append, hg, Option.bind_some]
              rfl
            cases hrw : runw x0 w x1 with
            | none =>
              refine .inr ?_
              rw [hrw] at hAW htk
              have hnone : gfold x0 most [] x1 (wf x0.length l) ([], 0, false) = none := by
                conv => lhs; rw [← List.take_append_drop (k + 1) (wf x0.length l)]
                rw [gfold_append, htk]; rfl
              rw [hnone]
              simp only [spec_l25Best_L1, List.length_map, bdT (show (k : Int) < ((wf x0.length l).length : Int) by omega), idx_nat, hik, Option.bind_some, hAW]
              rfl
            | some y =>
              rw [hrw] at hAW htk
              obtain ⟨y1, y2⟩ := runw_some hM w2 hxn hva hrw
              have hsum := specHgt_is (F := F) (xs := y) hF (by omega) y2
              simp only [Option.bind_some] at htk
              have hcond : ((bif ((k : Int) == 0) then some (true, bb) else (bif most then (bif (decide (hh < hgt y)) then some (true, bb) else (bif (!most) then some ((decide (hgt y < hh)), bb) else some (false, bb))) else (bif (!most) then some ((decide (hgt y < hh)), bb) else some (false, bb)))) : Option (Bool × (List Int))) = some (!decide (0 < k) || (bif most then decide (hh < hgt y) else decide (hgt y < hh)), bb) := by
                by_cases hk0 : k = 0
                · subst hk0; rfl
                · rw [beq_false_of_ne (show (k : Int) ≠ 0 by omega), dT (show 0 < k by omega)]
                  cases most
                  · rfl
                  · simp only [cond_true, cond_false, Bool.not_true, Bool.false_or]
                    cases decide (hh < hgt y) <;> rfl
              have h0k : decide (0 < k + 1) = true := dT (by omega)
              rcases hb : (!decide (0 < k) || (bif most then decide (hh < hgt y) else decide (hgt y < hh))) with _ | _
              · refine .inl ⟨(hh, bb), ?_, ?_, hbl⟩
                · simp only [spec_l25Best_L1, List.length_map, bdT (show (k : Int) < ((wf x0.length l).length : Int) by omega), idx_nat, hik, Option.bind_some, hAW, bne_self_eq_false, cond_false, hsum, hcond, hb, wrN (show k ≤ 67108864 by omega)]
                · rw [htk]
                  unfold updB
                  simp only [hb, cond_false, h0k]
                  have : decide (0 < k) = true := by
                    cases hd : decide (0 < k) with
                    | true => rfl
                    | false => rw [hd] at hb; simp at hb
                  rw [this]
              · refine .inl ⟨(hgt y, iw w), ?_, ?_, by simp only; omega⟩
                · simp only [spec_l25Best_L1, List.length_map, bdT (show (k : Int) < ((wf x0.length l).length : Int) by omega), idx_nat, hik, Option.bind_some, hAW, bne_self_eq_false, cond_false, hsum, hcond, hb, cond_true, wrN (show k ≤ 67108864 by omega)]
                · rw [htk]
                  unfold updB
                  simp only [hb, cond_true, h0k]
          · rintro q ⟨hh, bb⟩ ⟨hg, hbl⟩
            simp only at hg hbl
            rw [List.take_length] at hg
            rw [hg]
            exact ⟨by simp only [spec_l25Best_L1, List.length_map, bdF (show ¬ ((wf x0.length l).length : Int) < ((wf x0.length l).length : Int) by omega)], hbl⟩
      · rw [bT (neT hx), bT (neT hx)]
        exact ⟨([], 0, 5), rfl, rfl, by simp⟩

end Go.Proofs.Ytebmlphobgaboaa
