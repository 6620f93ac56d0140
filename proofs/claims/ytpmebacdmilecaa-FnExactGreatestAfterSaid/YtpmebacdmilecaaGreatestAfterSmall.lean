/- Plain lemmas about the small functions of the laws. -/
import Derived.Test.YtpmebacdmilecaaGreatestAfterModels
import Derived.Test.YtpmebacdmilecaaPure
namespace Go.Proofs.Ytpmebacdmilecaa

def toP_Int64 (p : Int) : Int := p
theorem szInt64S_is {F : Nat} {ps : List Int} {left : Int} (h0 : 0 ≤ left) (h1 : left ≤ 1048576) (h : ps.length ≤ 9223372036854775807) : ∃ r, laws_szInt64S F ps left = some r ∧ (r < 0 ∨ (0 ≤ r ∧ r + ps.length = left)) := by
  unfold laws_szInt64S
  rw [wr (by omega) (by omega)]
  by_cases hc : left - (ps.length : Int) < 0
  · exact ⟨-1, by rw [bdT hc], .inl (by decide)⟩
  · exact ⟨left - ps.length, by rw [bdF hc], .inr ⟨by omega, by omega⟩⟩
theorem toInt64S_is {F : Nat} {ps : List Int} (hF : 134217728 ≤ F) (h : ps.length ≤ 1048576) : laws_toInt64S F ps = some (ps.map toP_Int64) := by
  unfold laws_toInt64S
  rw [mk_nat _ (by omega)]
  simp only [Option.bind_some]
  rw [fill_loop (ps := ps) (f := toP_Int64) (L := laws_toInt64S_L1 F ps) ?_ ?_ (by simp) (by omega)]; rfl
  · intro n xs k x hk hx hl
    have hk' : k < xs.length := by omega
    have hq : xs[k]? = some xs[k] := List.getElem?_eq_getElem hk'
    simp only [laws_toInt64S_L1, bdT (show (k : Int) < (ps.length : Int) by omega), idx_nat, hx, hq, Option.bind_some, upd_nat, hk', wrN (show k ≤ 67108864 by omega), toP_Int64]
  · intro n xs
    simp only [laws_toInt64S_L1, bdF (show ¬ (ps.length : Int) < (ps.length : Int) by omega)]
theorem eqInt64S_same {F : Nat} {xs : List Int} (hF : 134217728 ≤ F) (h : xs.length ≤ 16777216) : laws_eqInt64S F xs xs = some true := by
  unfold laws_eqInt64S
  rw [bF (neF rfl), same_loop (L := laws_eqInt64S_L1 F xs xs) (len := xs.length) ?_ ?_ (by omega)]; rfl
  · intro n k hk
    have hq : xs[k]? = some xs[k] := List.getElem?_eq_getElem hk
    simp only [laws_eqInt64S_L1, bdT (show (k : Int) < (xs.length : Int) by omega), idx_nat, hq, Option.bind_some, bne_self_eq_false, cond_false, wrN (show k ≤ 67108864 by omega)]
  · intro n
    simp only [laws_eqInt64S_L1, bdF (show ¬ (xs.length : Int) < (xs.length : Int) by omega)]
def mrk_Int64 (k : Int) (i : Nat) : Int := k + 1 * (i : Int)
theorem markInt64S_is {F : Nat} {ps : List Int} {k : Int} (hF : 134217728 ≤ F) (h : ps.length ≤ 16777216) (h0 : 0 ≤ k) (h1 : k ≤ 1000000000000) :
    ∃ ms, laws_markInt64S F ps k = some (k + 1 * (ps.length : Int), ms) ∧ ms.length = ps.length ∧ ∀ i, i < ps.length → ms[i]? = some (mrk_Int64 k i) := by
  have H := for0 (L := fun n (s : List Int × Int) i => laws_markInt64S_L1 F n s.1 s.2 i) (len := ps.length) (fun j s => s.1.length = ps.length ∧ s.2 = k + 1 * (j : Int) ∧ ∀ i, i < j → s.1[i]? = some (mrk_Int64 k i))
    (R := fun r => ∃ ms, r = some (ms, k + 1 * (ps.length : Int)) ∧ ms.length = ps.length ∧ ∀ i, i < ps.length → ms[i]? = some (mrk_Int64 k i)) (s := (ps, k)) (n := F) ?_ ?_ ⟨rfl, by simp, by intro i hi; omega⟩ (by omega)
  · obtain ⟨ms, he, hl, hi⟩ := H
    refine ⟨ms, ?_, hl, hi⟩
    unfold laws_markInt64S
    rw [bind_of he]
  · rintro n j ⟨xs, s⟩ hj ⟨hl, hs, hi⟩
    simp only at hl hs hi
    subst hs
    have hk' : j < xs.length := by omega
    have hq : xs[j]? = some xs[j] := List.getElem?_eq_getElem hk'
    have w1 : IntKind.i64.wrap (k + 1 * (j : Int) + 1) = k + 1 * (j : Int) + 1 := wr (by omega) (by omega)
    refine .inl ⟨(xs.set j (mrk_Int64 k j), k + 1 * (j : Int) + 1), ?_, by rw [List.length_set]; exact hl, by simp only; omega, ?_⟩
    · simp only [laws_markInt64S_L1, bdT (show (j : Int) < (xs.length : Int) by omega), idx_nat, hq, Option.bind_some, upd_nat, hk', wrN (show j ≤ 67108864 by omega), w1, mrk_Int64]
    · intro i hij
      by_cases e : i = j
      · subst e; exact set_here hk'
      · simp only; rw [set_keep e]; exact hi i (by omega)
  · rintro n ⟨xs, s⟩ ⟨hl, hs, hi⟩
    simp only at hl hs hi
    refine ⟨xs, ?_, hl, hi⟩
    simp only [laws_markInt64S_L1, bdF (show ¬ (ps.length : Int) < (xs.length : Int) by omega), hs]
theorem heldInt64S_is {F : Nat} {ms : List Int} {k : Int} (hF : 134217728 ≤ F) (h : ms.length ≤ 16777216) (h0 : 0 ≤ k) (h1 : k ≤ 1000000000000) (hm : ∀ i, i < ms.length → ms[i]? = some (mrk_Int64 k i)) :
    laws_heldInt64S F ms k = some (k + 1 * (ms.length : Int)) := by
  unfold laws_heldInt64S
  rw [show laws_heldInt64S_L1 F ms F k 0 = some (.inr (k + 1 * (ms.length : Int))) from ?_]; rfl
  refine for0 (L := fun n (s : Int) i => laws_heldInt64S_L1 F ms n s i) (len := ms.length) (fun j s => s = k + 1 * (j : Int)) (R := fun r => r = some (.inr (k + 1 * (ms.length : Int)))) ?_ ?_ (by simp) (by omega)
  · rintro n j s hj rfl
    have w1 : IntKind.i64.wrap (k + 1 * (j : Int) + 1) = k + 1 * (j : Int) + 1 := wr (by omega) (by omega)
    refine .inl ⟨k + 1 * (j : Int) + 1, ?_, by omega⟩
    simp only [laws_heldInt64S_L1, bdT (show (j : Int) < (ms.length : Int) by omega), idx_nat, hm j hj, Option.bind_some, wrN (show j ≤ 67108864 by omega), w1, mrk_Int64, bne_self_eq_false, cond_false]
  · rintro n s rfl
    simp only [laws_heldInt64S_L1, bdF (show ¬ (ms.length : Int) < (ms.length : Int) by omega)]

theorem slices_IndexFunc_int64_is {F : Nat} {ps : List Int} {m : Int → Option Bool} {h : Int → Bool} (hF : 134217728 ≤ F) (hl : ps.length ≤ 16777216) (hm : ∀ x, x ∈ ps → m x = some (h x)) :
    slices_IndexFunc_int64 F ps m = some (firstAt (ps.findIdx? h)) := by
  unfold slices_IndexFunc_int64
  rw [find_loop (ps := ps) (h := h) (v := fun k => (k : Int)) (L := slices_IndexFunc_int64_L1 F ps m) ?_ ?_ (by omega)]
  · cases ps.findIdx? h <;> rfl
  · intro n k x hk hx
    simp only [slices_IndexFunc_int64_L1, bdT (show (k : Int) < (ps.length : Int) by omega), idx_nat, hx, Option.bind_some, hm x (List.mem_of_getElem? hx), wrN (show k ≤ 67108864 by omega)]
  · intro n
    simp only [slices_IndexFunc_int64_L1, bdF (show ¬ (ps.length : Int) < (ps.length : Int) by omega)]
theorem slices_ContainsFunc_int64_is {F : Nat} {ps : List Int} {m : Int → Option Bool} {h : Int → Bool} (hF : 134217728 ≤ F) (hl : ps.length ≤ 16777216) (hm : ∀ x, x ∈ ps → m x = some (h x)) :
    slices_ContainsFunc_int64 F ps m = some (ps.any h) := by
  unfold slices_ContainsFunc_int64
  rw [bind_of (slices_IndexFunc_int64_is hF hl hm), find_any]

theorem slices_IndexFunc_sint64_is {F : Nat} {ps : List (List Int)} {m : (List Int) → Option Bool} {h : (List Int) → Bool} (hF : 134217728 ≤ F) (hl : ps.length ≤ 16777216) (hm : ∀ x, x ∈ ps → m x = some (h x)) :
    slices_IndexFunc_sint64 F ps m = some (firstAt (ps.findIdx? h)) := by
  unfold slices_IndexFunc_sint64
  rw [find_loop (ps := ps) (h := h) (v := fun k => (k : Int)) (L := slices_IndexFunc_sint64_L1 F ps m) ?_ ?_ (by omega)]
  · cases ps.findIdx? h <;> rfl
  · intro n k x hk hx
    simp only [slices_IndexFunc_sint64_L1, bdT (show (k : Int) < (ps.length : Int) by omega), idx_nat, hx, Option.bind_some, hm x (List.mem_of_getElem? hx), wrN (show k ≤ 67108864 by omega)]
  · intro n
    simp only [slices_IndexFunc_sint64_L1, bdF (show ¬ (ps.length : Int) < (ps.length : Int) by omega)]
theorem slices_ContainsFunc_sint64_is {F : Nat} {ps : List (List Int)} {m : (List Int) → Option Bool} {h : (List Int) → Bool} (hF : 134217728 ≤ F) (hl : ps.length ≤ 16777216) (hm : ∀ x, x ∈ ps → m x = some (h x)) :
    slices_ContainsFunc_sint64 F ps m = some (ps.any h) := by
  unfold slices_ContainsFunc_sint64
  rw [bind_of (slices_IndexFunc_sint64_is hF hl hm), find_any]

theorem slices_IndexFunc_ssint64_is {F : Nat} {ps : List (List (List Int))} {m : (List (List Int)) → Option Bool} {h : (List (List Int)) → Bool} (hF : 134217728 ≤ F) (hl : ps.length ≤ 16777216) (hm : ∀ x, x ∈ ps → m x = some (h x)) :
    slices_IndexFunc_ssint64 F ps m = some (firstAt (ps.findIdx? h)) := by
  unfold slices_IndexFunc_ssint64
  rw [find_loop (ps := ps) (h := h) (v := fun k => (k : Int)) (L := slices_IndexFunc_ssint64_L1 F ps m) ?_ ?_ (by omega)]
  · cases ps.findIdx? h <;> rfl
  · intro n k x hk hx
    simp only [slices_IndexFunc_ssint64_L1, bdT (show (k : Int) < (ps.length : Int) by omega), idx_nat, hx, Option.bind_some, hm x (List.mem_of_getElem? hx), wrN (show k ≤ 67108864 by omega)]
  · intro n
    simp only [slices_IndexFunc_ssint64_L1, bdF (show ¬ (ps.length : Int) < (ps.length : Int) by omega)]
theorem slices_ContainsFunc_ssint64_is {F : Nat} {ps : List (List (List Int))} {m : (List (List Int)) → Option Bool} {h : (List (List Int)) → Bool} (hF : 134217728 ≤ F) (hl : ps.length ≤ 16777216) (hm : ∀ x, x ∈ ps → m x = some (h x)) :
    slices_ContainsFunc_ssint64 F ps m = some (ps.any h) := by
  unfold slices_ContainsFunc_ssint64
  rw [bind_of (slices_IndexFunc_ssint64_is hF hl hm), find_any]

theorem toInt64S_same {F : Nat} {ps : List Int} (hF : 134217728 ≤ F) (h : ps.length ≤ 1048576) : laws_toInt64S F ps = some ps := by
  rw [toInt64S_is hF h, show ps.map toP_Int64 = ps from by unfold toP_Int64; simp]

/-- how many numbers stand in the first i rows -/
def offR (rows : List (List Int)) (i : Nat) : Nat := ((rows.take i).map List.length).sum
theorem offR_zero (rows : List (List Int)) : offR rows 0 = 0 := rfl
theorem offR_succ {rows : List (List Int)} {i : Nat} {row : List Int} (h : rows[i]? = some row) : offR rows (i + 1) = offR rows i + row.length := by
  unfold offR
  rw [List.take_add_one, h]; simp
theorem offR_mono (rows : List (List Int)) (i : Nat) : offR rows i ≤ offR rows (i + 1) := by
  unfold offR
  rw [List.take_add_one, List.map_append, List.sum_append]; omega
theorem offR_le {rows : List (List Int)} {i j : Nat} (h : i ≤ j) : offR rows i ≤ offR rows j := by
  induction j with
  | zero => obtain rfl : i = 0 := by omega
            exact Nat.le_refl _
  | succ j ih =>
    by_cases e : i = j + 1
    · subst e; exact Nat.le_refl _
    · exact Nat.le_trans (ih (by omega)) (offR_mono rows j)

theorem rows_le {rows : List (List Int)} {N : Nat} (hr : offR rows rows.length ≤ N) : ∀ row, row ∈ rows → row.length ≤ N := by
  intro row hm
  obtain ⟨i, hi, rfl⟩ := List.getElem_of_mem hm
  have h1 := offR_succ (List.getElem?_eq_getElem hi)
  have h2 := offR_le (rows := rows) (show i + 1 ≤ rows.length by omega)
  omega

theorem szInt64SS_is {F : Nat} {ps : List (List Int)} {left : Int} (h0 : 0 ≤ left) (h1 : left ≤ 1048576) (hF : 9223372036854775808 ≤ F) (h : ps.length ≤ 9223372036854775807) (hr : ∀ row, row ∈ ps → row.length ≤ 9223372036854775807) :
    ∃ r, laws_szInt64SS F ps left = some r ∧ (r < 0 ∨ (0 ≤ r ∧ r + ps.length + offR ps ps.length = left)) := by
  unfold laws_szInt64SS
  rw [wr (by omega) (by omega)]
  by_cases hc : left - (ps.length : Int) < 0
  · exact ⟨-1, by rw [bdT hc], .inl (by decide)⟩
  rw [bdF hc]
  have H := for0 (L := fun n (s : Int) i => laws_szInt64SS_L1 F ps n s i) (len := ps.length) (fun j s => 0 ≤ s ∧ s + ps.length + offR ps j = left)
    (R := fun r => r = some (.inl (-1)) ∨ ∃ s, r = some (.inr s) ∧ 0 ≤ s ∧ s + ps.length + offR ps ps.length = left) (s := left - (ps.length : Int)) (n := F) ?_ ?_ ⟨by omega, by rw [offR_zero]; omega⟩ (by omega)
  · rcases H with he | ⟨s, he, h3, h4⟩
    · exact ⟨-1, by rw [he]; rfl, .inl (by decide)⟩
    · exact ⟨s, by rw [he]; rfl, .inr ⟨h3, h4⟩⟩
  · intro n j s hj ⟨hs, ht⟩
    have hq : ps[j]? = some ps[j] := List.getElem?_eq_getElem hj
    obtain ⟨r, hr1, hr2⟩ := szInt64S_is (F := F) hs (by omega) (hr _ (List.getElem_mem hj))
    by_cases hn : r < 0
    · refine .inr (.inl ?_)
      simp only [laws_szInt64SS_L1, bdT (show (j : Int) < (ps.length : Int) by omega), idx_nat, hq, Option.bind_some, hr1, bdT hn]
    · refine .inl ⟨r, ?_, by omega, by rw [offR_succ hq]; omega⟩
      simp only [laws_szInt64SS_L1, bdT (show (j : Int) < (ps.length : Int) by omega), idx_nat, hq, Option.bind_some, hr1, bdF hn]
      rw [wr (by omega) (by omega)]; rfl
  · intro n s ⟨hs, ht⟩
    refine .inr ⟨s, ?_, hs, ht⟩
    simp only [laws_szInt64SS_L1, bdF (show ¬ (ps.length : Int) < (ps.length : Int) by omega)]


theorem toInt64SS_is {F : Nat} {ps : List (List Int)} (hF : 134217728 ≤ F) (h : ps.length ≤ 1048576) (hr : offR ps ps.length ≤ 1048576) : laws_toInt64SS F ps = some ps := by
  have each : ∀ (i : Nat) (row : List Int), ps[i]? = some row → row.length ≤ 1048576 := fun i row hi => by
    have hlt := (List.getElem?_eq_some_iff.1 hi).1
    have h1 := offR_succ hi
    have h2 := offR_le (rows := ps) (show i + 1 ≤ ps.length by omega)
    omega
  unfold laws_toInt64SS
  rw [mk_nat _ (by omega)]
  simp only [Option.bind_some]
  rw [fill_loop (ps := ps) (f := fun x => x) (L := laws_toInt64SS_L1 F ps) ?_ ?_ (by simp) (by omega)]
  · simp
  · intro n xs k x hk hx hl
    have hk' : k < xs.length := by omega
    have hq : xs[k]? = some xs[k] := List.getElem?_eq_getElem hk'
    have ht := toInt64S_is (F := F) hF (each k x hx)
    rw [show x.map toP_Int64 = x from by unfold toP_Int64; simp] at ht
    simp only [laws_toInt64SS_L1, bdT (show (k : Int) < (ps.length : Int) by omega), idx_nat, hx, hq, ht, Option.bind_some, upd_nat, hk', wrN (show k ≤ 67108864 by omega)]
  · intro n xs
    simp only [laws_toInt64SS_L1, bdF (show ¬ (ps.length : Int) < (ps.length : Int) by omega)]


theorem eqInt64SS_same {F : Nat} {xs : List (List Int)} (hF : 134217728 ≤ F) (h : xs.length ≤ 16777216) (hr : ∀ row, row ∈ xs → row.length ≤ 16777216) : laws_eqInt64SS F xs xs = some true := by
  unfold laws_eqInt64SS
  rw [bF (neF rfl), same_loop (L := laws_eqInt64SS_L1 F xs xs) (len := xs.length) ?_ ?_ (by omega)]; rfl
  · intro n k hk
    have hq : xs[k]? = some xs[k] := List.getElem?_eq_getElem hk
    simp only [laws_eqInt64SS_L1, bdT (show (k : Int) < (xs.length : Int) by omega), idx_nat, hq, Option.bind_some, eqInt64S_same hF (hr _ (List.getElem_mem hk)), Bool.not_true, cond_false, wrN (show k ≤ 67108864 by omega)]
  · intro n
    simp only [laws_eqInt64SS_L1, bdF (show ¬ (xs.length : Int) < (xs.length : Int) by omega)]


/-- ms holds the marks from k on, in the shape of rows -/
def MarkedR (rows : List (List Int)) (k : Int) (ms : List (List Int)) (upto : Nat) : Prop :=
  ms.length = rows.length ∧ ∀ (i : Nat), i < upto → ∃ m row, ms[i]? = some m ∧ rows[i]? = some row ∧ m.length = row.length ∧ ∀ j, j < m.length → m[j]? = some (mrk_Int64 (k + offR rows i) j)
theorem markInt64SS_is {F : Nat} {ps : List (List Int)} {k : Int} (hF : 134217728 ≤ F) (h : ps.length ≤ 16777216) (hr : offR ps ps.length ≤ 16777216) (h0 : 0 ≤ k) (h1 : k ≤ 900000000000) :
    ∃ ms, laws_markInt64SS F ps k = some (k + offR ps ps.length, ms) ∧ MarkedR ps k ms ps.length := by
  have H := for0 (L := fun n (s : List (List Int) × Int) i => laws_markInt64SS_L1 F n s.1 s.2 i) (len := ps.length)
    (fun j s => s.2 = k + offR ps j ∧ MarkedR ps k s.1 j ∧ ∀ i, j ≤ i → s.1[i]? = ps[i]?)
    (R := fun r => ∃ ms, r = some (ms, k + (offR ps ps.length : Int)) ∧ MarkedR ps k ms ps.length) (s := (ps, k)) (n := F) ?_ ?_ ⟨by simp [offR_zero], ⟨rfl, by intro i hi; omega⟩, fun _ _ => rfl⟩ (by omega)
  · obtain ⟨ms, he, hm⟩ := H
    exact ⟨ms, by unfold laws_markInt64SS; rw [bind_of he], hm⟩
  · rintro n j ⟨xs, s⟩ hj ⟨hs, ⟨hl, hi⟩, hrest⟩
    simp only at hs hl hi hrest
    subst hs
    have hp : ps[j]? = some ps[j] := List.getElem?_eq_getElem hj
    have hq : xs[j]? = some ps[j] := (hrest j (Nat.le_refl _)).trans hp
    have hk' : j < xs.length := by omega
    have hle := offR_le (rows := ps) (show j + 1 ≤ ps.length by omega)
    have hsu := offR_succ hp
    obtain ⟨m, hm1, hm2, hm3⟩ := markInt64S_is (F := F) (ps := ps[j]) (k := k + offR ps j) hF (by omega) (by omega) (by omega)
    refine .inl ⟨(xs.set j m, k + (offR ps (j + 1) : Int)), ?_, rfl, ⟨by rw [List.length_set]; exact hl, ?_⟩, ?_⟩
    · simp only [laws_markInt64SS_L1, bdT (show (j : Int) < (xs.length : Int) by omega), idx_nat, hq, Option.bind_some, hm1, upd_nat, hk', wrN (show j ≤ 67108864 by omega)]
      rw [show k + (offR ps j : Int) + 1 * (ps[j].length : Int) = k + (offR ps (j + 1) : Int) by omega]
    · intro i hij
      by_cases e : i = j
      · subst e; exact ⟨m, ps[i], set_here hk', hp, hm2, by rw [hm2]; exact hm3⟩
      · simp only [set_keep e]; exact hi i (by omega)
    · intro i hij
      simp only [set_keep (show i ≠ j by omega)]; exact hrest i (by omega)
  · rintro n ⟨xs, s⟩ ⟨hs, hm, _⟩
    simp only at hs hm
    refine ⟨xs, ?_, hm⟩
    have := hm.1
    simp only [laws_markInt64SS_L1, bdF (show ¬ (ps.length : Int) < (xs.length : Int) by omega), hs]

/-! ### Slices of matrices -/
def wtM (m : List (List Int)) : Nat := m.length + offR m m.length
def offW (ms : List (List (List Int))) (i : Nat) : Nat := ((ms.take i).map wtM).sum
def offD (ms : List (List (List Int))) (i : Nat) : Nat := ((ms.take i).map fun m => offR m m.length).sum
theorem offW_zero (ms : List (List (List Int))) : offW ms 0 = 0 := rfl
theorem offW_succ {ms : List (List (List Int))} {i : Nat} {m : List (List Int)} (h : ms[i]? = some m) : offW ms (i + 1) = offW ms i + wtM m := by
  unfold offW
  rw [List.take_add_one, h]; simp
theorem offD_succ {ms : List (List (List Int))} {i : Nat} {m : List (List Int)} (h : ms[i]? = some m) : offD ms (i + 1) = offD ms i + offR m m.length := by
  unfold offD
  rw [List.take_add_one, h]; simp
theorem offW_mono (ms : List (List (List Int))) (i : Nat) : offW ms i ≤ offW ms (i + 1) := by
  unfold offW
  rw [List.take_add_one, List.map_append, List.sum_append]; omega
theorem offW_le {ms : List (List (List Int))} {i j : Nat} (h : i ≤ j) : offW ms i ≤ offW ms j := by
  induction j with
  | zero => obtain rfl : i = 0 := by omega
            exact Nat.le_refl _
  | succ j ih =>
    by_cases e : i = j + 1
    · subst e; exact Nat.le_refl _
    · exact Nat.le_trans (ih (by omega)) (offW_mono ms j)
theorem offD_le (ms : List (List (List Int))) : ∀ i, offD ms i ≤ offW ms i
  | 0 => Nat.le_refl _
  | i + 1 => by
    have := offD_le ms i
    cases h : ms[i]? with
    | none =>
      have e1 : offW ms (i + 1) = offW ms i := by unfold offW; rw [List.take_add_one, h]; simp
      have e2 : offD ms (i + 1) = offD ms i := by unfold offD; rw [List.take_add_one, h]; simp
      omega
    | some m =>
      rw [offW_succ h, offD_succ h]
      unfold wtM; omega
theorem offW_at {ms : List (List (List Int))} {i : Nat} {m : List (List Int)} (h : ms[i]? = some m) : m.length + offR m m.length ≤ offW ms ms.length := by
  have h1 := offW_succ h
  have h2 := offW_le (ms := ms) (show i + 1 ≤ ms.length from (List.getElem?_eq_some_iff.1 h).1)
  unfold wtM at h1
  omega
theorem offW_mem {ms : List (List (List Int))} {m : List (List Int)} (h : m ∈ ms) : m.length + offR m m.length ≤ offW ms ms.length := by
  obtain ⟨i, hi, rfl⟩ := List.getElem_of_mem h
  exact offW_at (List.getElem?_eq_getElem hi)
theorem szInt64SSS_is {F : Nat} {ps : List (List (List Int))} {left : Int} (h0 : 0 ≤ left) (h1 : left ≤ 1048576) (hF : 9223372036854775808 ≤ F) (h : ps.length ≤ 9223372036854775807) (hm : ∀ m, m ∈ ps → m.length ≤ 9223372036854775807) (hr : ∀ m, m ∈ ps → ∀ row, row ∈ m → row.length ≤ 9223372036854775807) :
    ∃ r, laws_szInt64SSS F ps left = some r ∧ (r < 0 ∨ (0 ≤ r ∧ r + ps.length + offW ps ps.length = left)) := by
  unfold laws_szInt64SSS
  rw [wr (by omega) (by omega)]
  by_cases hc : left - (ps.length : Int) < 0
  · exact ⟨-1, by rw [bdT hc], .inl (by decide)⟩
  rw [bdF hc]
  have H := for0 (L := fun n (s : Int) i => laws_szInt64SSS_L1 F ps n s i) (len := ps.length) (fun j s => 0 ≤ s ∧ s + ps.length + offW ps j = left)
    (R := fun r => r = some (.inl (-1)) ∨ ∃ s, r = some (.inr s) ∧ 0 ≤ s ∧ s + ps.length + offW ps ps.length = left) (s := left - (ps.length : Int)) (n := F) ?_ ?_ ⟨by omega, by rw [offW_zero]; omega⟩ (by omega)
  · rcases H with he | ⟨s, he, h3, h4⟩
    · exact ⟨-1, by rw [he]; rfl, .inl (by decide)⟩
    · exact ⟨s, by rw [he]; rfl, .inr ⟨h3, h4⟩⟩
  · intro n j s hj ⟨hs, ht⟩
    have hq : ps[j]? = some ps[j] := List.getElem?_eq_getElem hj
    have hmem := List.getElem_mem hj
    obtain ⟨r, hr1, hr2⟩ := szInt64SS_is (F := F) hs (by omega) hF (hm _ hmem) (hr _ hmem)
    by_cases hn : r < 0
    · refine .inr (.inl ?_)
      simp only [laws_szInt64SSS_L1, bdT (show (j : Int) < (ps.length : Int) by omega), idx_nat, hq, Option.bind_some, hr1, bdT hn]
    · have hsu := offW_succ hq
      unfold wtM at hsu
      refine .inl ⟨r, ?_, by omega, by omega⟩
      simp only [laws_szInt64SSS_L1, bdT (show (j : Int) < (ps.length : Int) by omega), idx_nat, hq, Option.bind_some, hr1, bdF hn]
      rw [wr (by omega) (by omega)]; rfl
  · intro n s ⟨hs, ht⟩
    refine .inr ⟨s, ?_, hs, ht⟩
    simp only [laws_szInt64SSS_L1, bdF (show ¬ (ps.length : Int) < (ps.length : Int) by omega)]
theorem toInt64SSS_is {F : Nat} {ps : List (List (List Int))} (hF : 134217728 ≤ F) (h : ps.length ≤ 1048576) (hw : offW ps ps.length ≤ 1048576) : laws_toInt64SSS F ps = some ps := by
  unfold laws_toInt64SSS
  rw [mk_nat _ (by omega)]
  simp only [Option.bind_some]
  rw [fill_loop (ps := ps) (f := fun m => m) (L := laws_toInt64SSS_L1 F ps) ?_ ?_ (by simp) (by omega), List.map_id']; rfl
  · intro n xs k x hk hx hl
    have hk' : k < xs.length := by omega
    have hq : xs[k]? = some xs[k] := List.getElem?_eq_getElem hk'
    have hb := offW_at hx
    simp only [laws_toInt64SSS_L1, bdT (show (k : Int) < (ps.length : Int) by omega), idx_nat, hx, hq, Option.bind_some, toInt64SS_is (F := F) (ps := x) hF (by omega) (by omega), upd_nat _ hk', wrN (show k ≤ 67108864 by omega)]
  · intro n xs
    simp only [laws_toInt64SSS_L1, bdF (show ¬ (ps.length : Int) < (ps.length : Int) by omega)]
theorem eqInt64SSS_same {F : Nat} {xs : List (List (List Int))} (hF : 134217728 ≤ F) (h : xs.length ≤ 1048576) (hw : offW xs xs.length ≤ 1048576) : laws_eqInt64SSS F xs xs = some true := by
  unfold laws_eqInt64SSS
  rw [bF (neF rfl), same_loop (L := laws_eqInt64SSS_L1 F xs xs) (len := xs.length) ?_ ?_ (by omega)]; rfl
  · intro n k hk
    have hq : xs[k]? = some xs[k] := List.getElem?_eq_getElem hk
    have hb := offW_at hq
    simp only [laws_eqInt64SSS_L1, bdT (show (k : Int) < (xs.length : Int) by omega), idx_nat, hq, Option.bind_some, eqInt64SS_same (F := F) (xs := xs[k]) hF (by omega) (rows_le (show offR xs[k] xs[k].length ≤ 16777216 by omega)), Bool.not_true, cond_false, wrN (show k ≤ 67108864 by omega)]
  · intro n
    simp only [laws_eqInt64SSS_L1, bdF (show ¬ (xs.length : Int) < (xs.length : Int) by omega)]
theorem markInt64SSS_is {F : Nat} {ps : List (List (List Int))} {k : Int} (hF : 134217728 ≤ F) (h : ps.length ≤ 1048576) (hw : offW ps ps.length ≤ 1048576) (h0 : 0 ≤ k) (h1 : k ≤ 800000000000) : ∃ k' ms, laws_markInt64SSS F ps k = some (k', ms) ∧ 0 ≤ k' ∧ k' ≤ k + 1048576 := by
  have H := for0 (L := fun n (s : List (List (List Int)) × Int) i => laws_markInt64SSS_L1 F n s.1 s.2 i) (len := ps.length)
    (fun j s => s.2 = k + offD ps j ∧ s.1.length = ps.length ∧ ∀ i, j ≤ i → s.1[i]? = ps[i]?)
    (R := fun r => ∃ ms, r = some (ms, k + (offD ps ps.length : Int))) (s := (ps, k)) (n := F) ?_ ?_ ⟨by simp [offD], rfl, fun _ _ => rfl⟩ (by omega)
  · obtain ⟨ms, he⟩ := H
    have := offD_le ps ps.length
    exact ⟨_, ms, by unfold laws_markInt64SSS; rw [bind_of he], by omega, by omega⟩
  · rintro n j ⟨xs, s⟩ hj ⟨hs, hl, hrest⟩
    simp only at hs hl hrest
    subst hs
    have hp : ps[j]? = some ps[j] := List.getElem?_eq_getElem hj
    have hq : xs[j]? = some ps[j] := (hrest j (Nat.le_refl _)).trans hp
    have hk' : j < xs.length := by omega
    have hb := offW_at hp
    have hle := offD_le ps j
    have hle2 := offW_le (ms := ps) (show j ≤ ps.length by omega)
    have hsu := offD_succ hp
    obtain ⟨m, hm1, _⟩ := markInt64SS_is (F := F) (ps := ps[j]) (k := k + offD ps j) hF (by omega) (by omega) (by omega) (by omega)
    refine .inl ⟨(xs.set j m, k + (offD ps (j + 1) : Int)), ?_, rfl, by rw [List.length_set]; exact hl, ?_⟩
    · simp only [laws_markInt64SSS_L1, bdT (show (j : Int) < (xs.length : Int) by omega), idx_nat, hq, Option.bind_some, hm1, upd_nat, hk', wrN (show j ≤ 67108864 by omega)]
      rw [show k + (offD ps j : Int) + (offR ps[j] ps[j].length : Int) = k + (offD ps (j + 1) : Int) by omega]
    · intro i hij
      simp only [set_keep (show i ≠ j by omega)]; exact hrest i (by omega)
  · rintro n ⟨xs, s⟩ ⟨hs, hl, _⟩
    simp only at hs hl
    refine ⟨xs, ?_⟩
    simp only [laws_markInt64SSS_L1, bdF (show ¬ (ps.length : Int) < (xs.length : Int) by omega), hs]

def inB (n lo hi : Int) : Bool := decide (lo ≤ n) && decide (n ≤ hi)
theorem inB_true {n lo hi : Int} : inB n lo hi = true ↔ lo ≤ n ∧ n ≤ hi := by unfold inB; simp
theorem inB_false {n lo hi : Int} (h : ¬ (lo ≤ n ∧ n ≤ hi)) : inB n lo hi = false := by
  cases e : inB n lo hi with
  | false => rfl
  | true => exact absurd (inB_true.1 e) h
theorem specIn_is {F : Nat} {n lo hi : Int} : spec_l01In F n lo hi = some (inB n lo hi) := by
  simp only [spec_l01In, cond_and, Option.bind_some]; rfl
theorem within_is {F : Nat} {n lo hi : Int} : impl_within F n lo hi = some (inB n lo hi) := by
  simp only [impl_within, cond_and, Option.bind_some]; rfl


/-! ### Values and vectors -/
def valB (a : Int) : Bool := (a == (-1000000000000000)) || inB a (-1000000) 1000000
theorem specValue_is {F : Nat} {a : Int} : spec_IsValue F a = some (valB a) := by
  simp only [spec_IsValue, spec_l01Finite, specIn_is, cond_or, Option.bind_some]; rfl
theorem implValue_is {F : Nat} {a : Int} : impl_IsValue F a = some (valB a) := by
  simp only [impl_IsValue, impl_isFinite, within_is, cond_or, Option.bind_some]; rfl
theorem specAll_is {F : Nat} {xs : List Int} (hF : 134217728 ≤ F) (hl : xs.length ≤ 1048576) : spec_l01All F xs false = some (xs.all valB) := by
  unfold spec_l01All
  rw [all_loop (ps := xs) (g := valB) (r := false) (L := spec_l01All_L1 F xs false) ?_ ?_ (by omega)]
  · cases xs.all valB <;> rfl
  · intro n k x hk hx
    simp only [spec_l01All_L1, bdT (show (k : Int) < (xs.length : Int) by omega), idx_nat, hx, Option.bind_some, specValue_is, cond_false, condn, wrN (show k ≤ 67108864 by omega)]
    cases valB x <;> rfl
  · intro n
    simp only [spec_l01All_L1, bdF (show ¬ (xs.length : Int) < (xs.length : Int) by omega)]
theorem implAll_is {F : Nat} {xs : List Int} (hF : 134217728 ≤ F) (hl : xs.length ≤ 1048576) : impl_areValues F xs = some (xs.all valB) := by
  unfold impl_areValues
  rw [bind_of (slices_ContainsFunc_int64_is (h := fun x => !valB x) hF (show xs.length ≤ 16777216 by omega) (fun x _ => show impl_areValues_c1 F x = _ by simp only [impl_areValues_c1, implValue_is, Option.bind_some])), any_not, Bool.not_not]
/-! ### Sums of the algebra -/
def tms (a b : Int) : Int := bif (a == (-1000000000000000)) || (b == (-1000000000000000)) then (-1000000000000000) else IntKind.i64.wrap (a + b)
theorem specTimes_is {F : Nat} {a b : Int} : spec_l01Times F a b = some (tms a b) := by
  unfold spec_l01Times tms
  cases (a == (-1000000000000000)) <;> cases (b == (-1000000000000000)) <;> rfl
theorem implTimes_is {F : Nat} {a b : Int} : impl_times F a b = some (tms a b) := by
  unfold impl_times tms
  cases (a == (-1000000000000000)) <;> cases (b == (-1000000000000000)) <;> rfl
/-- the sum of the products -/
def dotv (c x : List Int) (n : Nat) : Int := (List.range n).foldl (fun acc i => max acc (tms (c.getD i 0) (x.getD i 0))) (-1000000000000000)

def applyv (a : List (List Int)) (x : List Int) : List Int := a.map fun row => dotv row x row.length
theorem specApply_is {F : Nat} {a : List (List Int)} {x : List Int} (hF : 134217728 ≤ F) (ha : a.length ≤ 1048576) (hx : x.length ≤ 1048576) (hr : ∀ row, row ∈ a → row.length = x.length) : spec_l02Apply F a x = some (applyv a x) := by
  unfold spec_l02Apply
  rw [grow_loop (ps := a) (g := fun row => [dotv row x row.length]) (L := spec_l02Apply_L4 F a x) (by simp) ?_ ?_ (by omega)]
  · rw [Option.bind_some, flatMap_one]; rfl
  · intro n xs k row hk hrow hxl
    have hlen := hr row (List.mem_of_getElem? hrow)
    have inner : spec_l02Apply_L5 F a x (k : Int) F (-1000000000000000) 0 = some (dotv row x row.length) := by
      rw [hlen]
      refine fold_loop (len := x.length) (f := fun acc i => max acc (tms (row.getD i 0) (x.getD i 0))) (L := spec_l02Apply_L5 F a x (k : Int)) ?_ ?_ (by omega)
      · intro n s j hj
        simp only [spec_l02Apply_L5, bdT (show (j : Int) < (x.length : Int) by omega), idx_nat, hrow, getD_of hj, getD_of (show j < row.length by omega), Option.bind_some, specTimes_is, wrN (show j ≤ 67108864 by omega)]
      · intro n s
        simp only [spec_l02Apply_L5, bdF (show ¬ (x.length : Int) < (x.length : Int) by omega)]
    simp only [spec_l02Apply_L4, bdT (show (k : Int) < (a.length : Int) by omega), inner, Option.bind_some, app_le (show xs.length + [dotv row x row.length].length ≤ 67108864 by simp only [List.length_singleton]; omega), wrN (show k ≤ 67108864 by omega)]
  · intro n xs
    simp only [spec_l02Apply_L4, bdF (show ¬ (a.length : Int) < (a.length : Int) by omega)]
theorem implApply_is {F : Nat} {a : List (List Int)} {x : List Int} (hF : 134217728 ≤ F) (ha : a.length ≤ 1048576) (hx : x.length ≤ 1048576) (hr : ∀ row, row ∈ a → row.length = x.length) : impl_timesVector F a x = some (applyv a x) := by
  unfold impl_timesVector
  rw [mk_nat _ (by omega)]
  simp only [Option.bind_some]
  rw [fill_loop (ps := a) (f := fun row => dotv row x row.length) (L := impl_timesVector_L4 F a x) ?_ ?_ (by simp) (by omega)]
  · rfl
  · intro n xs k row hk hrow hl
    have hlen := hr row (List.mem_of_getElem? hrow)
    have hk' : k < xs.length := by omega
    have hq : xs[k]? = some xs[k] := List.getElem?_eq_getElem hk'
    have inner : impl_timesVector_L5 F x (k : Int) row F (xs.set k (-1000000000000000)) 0 = some (xs.set k (dotv row x row.length)) := by
      refine for0 (L := impl_timesVector_L5 F x (k : Int) row) (len := row.length) (fun j t => t = xs.set k ((List.range j).foldl (fun acc i => max acc (tms (row.getD i 0) (x.getD i 0))) (-1000000000000000))) (R := fun r => r = some (xs.set k (dotv row x row.length))) ?_ ?_ rfl (by omega)
      · rintro n j t hj rfl
        refine .inl ⟨_, ?_, rfl⟩
        simp only [impl_timesVector_L5, bdT (show (j : Int) < (row.length : Int) by omega), idx_nat, set_here hk', getD_of hj, getD_of (show j < x.length by omega), Option.bind_some, implTimes_is, upd_nat _ (show k < (xs.set k ((List.range j).foldl (fun acc i => max acc (tms (row.getD i 0) (x.getD i 0))) (-1000000000000000))).length by rw [List.length_set]; exact hk'), List.set_set, wrN (show j ≤ 67108864 by omega), List.range_succ, List.foldl_append, List.foldl_cons, List.foldl_nil]
      · rintro n t rfl
        simp only [impl_timesVector_L5, bdF (show ¬ (row.length : Int) < (row.length : Int) by omega)]; rfl
    simp only [impl_timesVector_L4, bdT (show (k : Int) < (a.length : Int) by omega), idx_nat, hrow, hq, Option.bind_some, upd_nat _ hk', inner, wrN (show k ≤ 67108864 by omega)]
  · intro n xs
    simp only [impl_timesVector_L4, bdF (show ¬ (a.length : Int) < (a.length : Int) by omega)]

def vecB (x : List Int) : Bool := inB x.length 1 10 && x.all valB
theorem specVector_is {F : Nat} {x : List Int} (hF : 134217728 ≤ F) (hl : x.length ≤ 1048576) : spec_l02Vector F x = some (vecB x) := by
  simp only [spec_l02Vector, specIn_is, specAll_is hF hl, Option.bind_some, cond_and]; rfl
def firstL (a : List (List Int)) : Int := ((a.getD 0 []).length : Int)
def matB (a : List (List Int)) : Bool := inB a.length 1 10 && a.all (fun row => vecB row && ((row.length : Int) == firstL a))
theorem first_is {a : List (List Int)} (h : 0 < a.length) : idx a 0 = some (a.getD 0 []) := by
  rw [show (0 : Int) = ((0 : Nat) : Int) from rfl, idx_nat, List.getD_eq_getElem?_getD, List.getElem?_eq_getElem h]; rfl
theorem specMatrix_is {F : Nat} {a : List (List Int)} (hF : 134217728 ≤ F) (hr : ∀ row, row ∈ a → row.length ≤ 1048576) : spec_IsMatrix F a = some (matB a) := by
  unfold spec_IsMatrix matB
  simp only [cond_or, Option.bind_some]
  by_cases h : (1 : Int) ≤ a.length ∧ (a.length : Int) ≤ 10
  · have c1 : (decide ((a.length : Int) < 1) || decide (10 < (a.length : Int))) = false := by simp; omega
    rw [bF c1, inB_true.2 h, Bool.true_and]
    rw [all_loop (ps := a) (g := fun row => vecB row && ((row.length : Int) == firstL a)) (r := false) (L := spec_IsMatrix_L1 F a) ?_ ?_ (by omega)]
    · cases a.all (fun row => vecB row && ((row.length : Int) == firstL a)) <;> rfl
    · intro n k row hk hx
      simp only [spec_IsMatrix_L1, bdT (show (k : Int) < (a.length : Int) by omega), idx_nat, hx, first_is (show 0 < a.length by omega), Option.bind_some, specVector_is hF (hr row (List.mem_of_getElem? hx)), wrN (show k ≤ 67108864 by omega), bne, firstL]
      cases vecB row <;> cases ((row.length : Int) == ((a.getD 0 []).length : Int)) <;> rfl
    · intro n
      simp only [spec_IsMatrix_L1, bdF (show ¬ (a.length : Int) < (a.length : Int) by omega)]
  · have c1 : (decide ((a.length : Int) < 1) || decide (10 < (a.length : Int))) = true := by simp; omega
    rw [bT c1, inB_false h]; rfl
theorem implMatrix_is {F : Nat} {a : List (List Int)} (hF : 134217728 ≤ F) (hr : ∀ row, row ∈ a → row.length ≤ 1048576) : impl_IsMatrix F a = some (matB a) := by
  unfold impl_IsMatrix matB
  simp only [within_is, Option.bind_some]
  by_cases h : (1 : Int) ≤ a.length ∧ (a.length : Int) ≤ 10
  · have h0 := first_is (a := a) (by omega)
    have hm : a.getD 0 [] ∈ a := by
      rw [List.getD_eq_getElem?_getD, List.getElem?_eq_getElem (show 0 < a.length by omega)]; exact List.getElem_mem _
    rw [inB_true.2 h]
    simp only [Bool.not_true, cond_false, h0, Option.bind_some, Bool.true_and]
    by_cases h2 : (1 : Int) ≤ firstL a ∧ firstL a ≤ 10
    · rw [show inB ((a.getD 0 []).length : Int) 1 10 = true from inB_true.2 h2]
      simp only [Bool.not_true, cond_false]
      rw [bind_of (slices_ContainsFunc_sint64_is (h := fun row => !((row.length : Int) == firstL a && row.all valB)) hF (show a.length ≤ 16777216 by omega) (fun row hrow => ?_)), any_not, Bool.not_not]
      · refine congrArg some ?_
        apply Bool.eq_iff_iff.2
        rw [List.all_eq_true, List.all_eq_true]
        constructor
        · intro H row hrow
          have := H row hrow
          rw [Bool.and_eq_true, beq_iff_eq] at this
          rw [Bool.and_eq_true, beq_iff_eq]
          refine ⟨?_, this.1⟩
          unfold vecB
          rw [Bool.and_eq_true, this.1]
          exact ⟨inB_true.2 h2, this.2⟩
        · intro H row hrow
          have := H row hrow
          rw [Bool.and_eq_true, beq_iff_eq] at this
          rw [Bool.and_eq_true, beq_iff_eq]
          have h3 := this.1
          unfold vecB at h3
          rw [Bool.and_eq_true] at h3
          exact ⟨this.2, h3.2⟩
      · show impl_IsMatrix_c1 F row a = _
        simp only [impl_IsMatrix_c1, h0, Option.bind_some, implAll_is hF (hr row hrow), bne, firstL]
        cases ((row.length : Int) == ((a.getD 0 []).length : Int)) <;> cases row.all valB <;> rfl
    · rw [show inB ((a.getD 0 []).length : Int) 1 10 = false from inB_false h2]
      simp only [Bool.not_false, cond_true]
      refine congrArg some ?_
      symm
      rw [List.all_eq_false]
      refine ⟨_, hm, ?_⟩
      unfold vecB
      rw [show inB ((a.getD 0 []).length : Int) 1 10 = false from inB_false h2]
      simp
  · rw [inB_false h]; rfl
def squareB (a : List (List Int)) : Bool := matB a && ((a.length : Int) == firstL a)
theorem specSquare_is {F : Nat} {a : List (List Int)} (hF : 134217728 ≤ F) (hr : ∀ row, row ∈ a → row.length ≤ 1048576) : spec_l02Square F a = some (squareB a) := by
  unfold spec_l02Square squareB
  rw [bind_of (specMatrix_is hF hr)]
  cases hm : matB a with
  | false => rfl
  | true =>
    have h : 0 < a.length := by
      unfold matB at hm; rw [Bool.and_eq_true, inB_true] at hm; omega
    simp only [cond_true, first_is h, Option.bind_some, firstL, Bool.true_and]
theorem implSquare_is {F : Nat} {a : List (List Int)} (hF : 134217728 ≤ F) (hr : ∀ row, row ∈ a → row.length ≤ 1048576) : impl_isSquare F a = some (squareB a) := by
  unfold impl_isSquare squareB
  rw [bind_of (implMatrix_is hF hr)]
  cases hm : matB a with
  | false => rfl
  | true =>
    have h : 0 < a.length := by
      unfold matB at hm; rw [Bool.and_eq_true, inB_true] at hm; omega
    simp only [cond_true, first_is h, Option.bind_some, firstL, Bool.true_and]

theorem implVector_is {F : Nat} {x : List Int} (hF : 134217728 ≤ F) (hl : x.length ≤ 1048576) : impl_isVector F x = some (vecB x) := by
  simp only [impl_isVector, within_is, implAll_is hF hl, Option.bind_some, cond_and]; rfl

/-! ### Matrices by their entries -/
def tabM (m n : Nat) (f : Nat → Nat → Int) : List (List Int) := (List.range m).map fun i => (List.range n).map fun j => f i j
theorem tabM_len (m n : Nat) (f : Nat → Nat → Int) : (tabM m n f).length = m := by unfold tabM; simp
theorem tabM_row {m n i : Nat} {f : Nat → Nat → Int} (h : i < m) : (tabM m n f)[i]? = some ((List.range n).map fun j => f i j) := by
  unfold tabM; rw [List.getElem?_map, List.getElem?_range h]; rfl
theorem tabM_rows {m n : Nat} {f : Nat → Nat → Int} : ∀ r, r ∈ tabM m n f → r.length = n := by
  intro r hr
  unfold tabM at hr
  rw [List.mem_map] at hr
  obtain ⟨i, _, rfl⟩ := hr
  simp
theorem tabM_of {m n : Nat} {f : Nat → Nat → Int} {t : List (List Int)} (hl : t.length = m) (h : ∀ i, i < m → t[i]? = some ((List.range n).map fun j => f i j)) : t = tabM m n f := by
  apply List.ext_getElem?; intro q
  by_cases hq : q < m
  · rw [h q hq, tabM_row hq]
  · rw [List.getElem?_eq_none (by omega), List.getElem?_eq_none (by rw [tabM_len]; omega)]
theorem row_of {n : Nat} {f : Nat → Int} {r : List Int} (hl : r.length = n) (h : ∀ j, j < n → r[j]? = some (f j)) : r = (List.range n).map f := by
  apply List.ext_getElem?; intro q
  by_cases hq : q < n
  · rw [h q hq, List.getElem?_map, List.getElem?_range hq]; rfl
  · rw [List.getElem?_eq_none (by omega), List.getElem?_eq_none (by simp; omega)]

theorem byRow {F n i : Nat} {en : Int → Int → Option Int} {f : Nat → Int} {ms : List (List Int)} {q : List Int} (hF : 134217728 ≤ F) (hn : n ≤ 1048576) (hen : ∀ j, j < n → en (i : Int) (j : Int) = some (f j)) (hq : ms[i]? = some q) (hql : q.length = n) :
    impl_matrixBy_L5 F en (i : Int) q F ms 0 = some (ms.set i ((List.range n).map f)) := by
  have him : i < ms.length := (List.getElem?_eq_some_iff.1 hq).1
  refine for0 (L := impl_matrixBy_L5 F en (i : Int) q) (len := q.length) (fun k t => ∃ r, t = ms.set i r ∧ r.length = n ∧ ∀ j, j < k → r[j]? = some (f j)) (R := fun o => o = some (ms.set i ((List.range n).map f))) ?_ ?_ ⟨q, (set_same hq).symm, hql, fun j hj => by omega⟩ (by omega)
  · rintro m k t hk ⟨r, rfl, hrl, h1⟩
    have hkr : k < r.length := by omega
    refine .inl ⟨ms.set i (r.set k (f k)), ?_, r.set k (f k), rfl, by rw [List.length_set]; exact hrl, fun j hj => ?_⟩
    · simp only [impl_matrixBy_L5, bdT (show (k : Int) < (q.length : Int) by omega), idx_nat, set_here him, hen k (by omega), getD_of hkr, Option.bind_some, upd_nat _ hkr, upd_nat _ (show i < (ms.set i r).length by rw [List.length_set]; exact him), List.set_set, wrN (show k ≤ 67108864 by omega)]
    · by_cases e : j = k
      · subst e; exact set_here hkr
      · rw [set_keep e]; exact h1 j (by omega)
  · rintro m t ⟨r, rfl, hrl, h1⟩
    simp only [impl_matrixBy_L5, bdF (show ¬ (q.length : Int) < (q.length : Int) by omega)]
    rw [row_of hrl (fun j hj => h1 j (by omega))]
theorem matrixBy_is {F m n : Nat} {en : Int → Int → Option Int} {f : Nat → Nat → Int} (hF : 134217728 ≤ F) (hm : m ≤ 1048576) (hn : n ≤ 1048576) (hen : ∀ i j, i < m → j < n → en (i : Int) (j : Int) = some (f i j)) : impl_matrixBy F (m : Int) (n : Int) en = some (tabM m n f) := by
  unfold impl_matrixBy
  rw [mk_nat _ (by omega)]
  simp only [Option.bind_some]
  have H := for0 (L := impl_matrixBy_L4 F (n : Int) en (List.replicate m [])) (len := m) (fun k t => t.length = m ∧ ∀ i, i < k → t[i]? = some ((List.range n).map fun j => f i j)) (R := fun o => o = some (tabM m n f)) (s := List.replicate m []) (n := F) ?_ ?_ ⟨by simp, fun i hi => by omega⟩ (by omega)
  · rw [H]; rfl
  · rintro q k t hk ⟨hl, h1⟩
    have hkt : k < t.length := by omega
    have hmk : mk (n : Int) (0 : Int) = some (List.replicate n 0) := mk_nat _ (by omega)
    have ht : t[k]? = some t[k] := List.getElem?_eq_getElem hkt
    have hrow := byRow (F := F) (n := n) (i := k) (en := en) (f := fun j => f k j) (ms := t.set k (List.replicate n 0)) (q := List.replicate n 0) hF hn (fun j hj => hen k j hk hj) (set_here hkt) (by simp)
    refine .inl ⟨t.set k ((List.range n).map fun j => f k j), ?_, by rw [List.length_set]; exact hl, fun i hi => ?_⟩
    · rw [List.set_set] at hrow
      simp only [impl_matrixBy_L4, List.length_replicate, bdT (show (k : Int) < (m : Int) by omega), hmk, idx_nat, ht, Option.bind_some, upd_nat _ hkt, set_here hkt, hrow, wrN (show k ≤ 67108864 by omega)]
    · by_cases e : i = k
      · subst e; exact set_here hkt
      · rw [set_keep e]; exact h1 i (by omega)
  · rintro q t ⟨hl, h1⟩
    simp only [impl_matrixBy_L4, List.length_replicate, bdF (show ¬ (m : Int) < (m : Int) by omega)]
    rw [tabM_of hl h1]

/-! ### Modes -/
def firstN (ms : List (List (List Int))) : Int := ((ms.getD 0 []).length : Int)
def modesB (ms : List (List (List Int))) : Bool := inB ms.length 1 4 && ms.all fun m => squareB m && ((m.length : Int) == firstN ms)
theorem firstM_is {ms : List (List (List Int))} (h : 0 < ms.length) : idx ms 0 = some (ms.getD 0 []) := by
  rw [show (0 : Int) = ((0 : Nat) : Int) from rfl, idx_nat, List.getD_eq_getElem?_getD, List.getElem?_eq_getElem h]; rfl
theorem specModes_is {F : Nat} {ms : List (List (List Int))} (hF : 134217728 ≤ F) (hl : ms.length ≤ 1048576) (hr : ∀ m, m ∈ ms → ∀ row, row ∈ m → row.length ≤ 1048576) : spec_AreModes F ms = some (modesB ms) := by
  unfold spec_AreModes modesB
  simp only [cond_or, Option.bind_some]
  by_cases h : (1 : Int) ≤ ms.length ∧ (ms.length : Int) ≤ 4
  · have c1 : (decide ((ms.length : Int) < 1) || decide (4 < (ms.length : Int))) = false := by simp; omega
    rw [bF c1, inB_true.2 h, Bool.true_and]
    rw [all_loop (ps := ms) (g := fun m => squareB m && ((m.length : Int) == firstN ms)) (r := false) (L := spec_AreModes_L1 F ms) ?_ ?_ (by omega)]
    · cases ms.all (fun m => squareB m && ((m.length : Int) == firstN ms)) <;> rfl
    · intro n k m hk hx
      simp only [spec_AreModes_L1, bdT (show (k : Int) < (ms.length : Int) by omega), idx_nat, hx, firstM_is (show 0 < ms.length by omega), Option.bind_some, specSquare_is hF (hr m (List.mem_of_getElem? hx)), wrN (show k ≤ 67108864 by omega), bne, firstN]
      cases squareB m <;> cases ((m.length : Int) == ((ms.getD 0 []).length : Int)) <;> rfl
    · intro n
      simp only [spec_AreModes_L1, bdF (show ¬ (ms.length : Int) < (ms.length : Int) by omega)]
  · have c1 : (decide ((ms.length : Int) < 1) || decide (4 < (ms.length : Int))) = true := by simp; omega
    rw [bT c1, inB_false h]; rfl
theorem implModes_is {F : Nat} {ms : List (List (List Int))} (hF : 134217728 ≤ F) (hl : ms.length ≤ 1048576) (hr : ∀ m, m ∈ ms → ∀ row, row ∈ m → row.length ≤ 1048576) : impl_AreModes F ms = some (modesB ms) := by
  unfold impl_AreModes modesB
  simp only [within_is, Option.bind_some]
  by_cases h : (1 : Int) ≤ ms.length ∧ (ms.length : Int) ≤ 4
  · have h0 := firstM_is (ms := ms) (by omega)
    rw [inB_true.2 h]
    simp only [cond_true, Bool.true_and]
    rw [slices_ContainsFunc_ssint64_is (h := fun m => !(squareB m && ((m.length : Int) == firstN ms))) hF (show ms.length ≤ 16777216 by omega) (fun m hm => ?_)]
    · simp only [Option.bind_some, any_not, Bool.not_not]
    · show impl_AreModes_c1 F m ms = _
      simp only [impl_AreModes_c1, h0, Option.bind_some, implSquare_is hF (hr m hm), bne, firstN]
      cases squareB m <;> cases ((m.length : Int) == ((ms.getD 0 []).length : Int)) <;> rfl
  · rw [inB_false h]; rfl
/-- all matrices are squares of one size -/
theorem modesB_true {ms : List (List (List Int))} (h : modesB ms = true) : ∃ n : Nat, (ms.getD 0 []).length = n ∧ 1 ≤ n ∧ n ≤ 10 ∧ 1 ≤ ms.length ∧ ms.length ≤ 4 ∧ ∀ m, m ∈ ms → m.length = n ∧ ∀ row, row ∈ m → row.length = n := by
  unfold modesB at h
  rw [Bool.and_eq_true, inB_true, List.all_eq_true] at h
  have hm : ms.getD 0 [] ∈ ms := by
    rw [List.getD_eq_getElem?_getD, List.getElem?_eq_getElem (show 0 < ms.length by omega)]; exact List.getElem_mem _
  have sq : ∀ m, squareB m = true → 1 ≤ m.length ∧ m.length ≤ 10 ∧ ∀ row, row ∈ m → row.length = m.length := by
    intro m hs
    unfold squareB matB at hs
    simp only [Bool.and_eq_true, inB_true, beq_iff_eq, List.all_eq_true] at hs
    refine ⟨by omega, by omega, fun row hrow => ?_⟩
    have := (hs.1.2 row hrow).2
    omega
  have h0 := h.2 _ hm
  rw [Bool.and_eq_true] at h0
  obtain ⟨a1, a2, _⟩ := sq _ h0.1
  refine ⟨_, rfl, a1, a2, by omega, by omega, fun m hmm => ?_⟩
  have h2 := h.2 m hmm
  rw [Bool.and_eq_true, beq_iff_eq] at h2
  unfold firstN at h2
  obtain ⟨_, _, b3⟩ := sq _ h2.1
  exact ⟨by omega, fun row hrow => by rw [b3 row hrow]; omega⟩

/-! ### Sums of matrices, by the reference -/
def addv (a b : List Int) : List Int := (List.range a.length).map fun i => max (a.getD i 0) (b.getD i 0)
theorem addv_len (a b : List Int) : (addv a b).length = a.length := by unfold addv; simp
def addm (a b : List (List Int)) : List (List Int) := (List.range a.length).map fun i => addv (a.getD i []) (b.getD i [])
theorem specOwn_is {F : Nat} {x : List Int} (hx : x.length ≤ 1048576) : spec_l01Own F x = some x := by
  unfold spec_l01Own
  rw [app_le (by simp only [List.length_nil]; omega)]; rfl
theorem specOwnM_is {F : Nat} {a : List (List Int)} (hF : 134217728 ≤ F) (ha : a.length ≤ 1048576) (hr : ∀ row, row ∈ a → row.length ≤ 1048576) : spec_l02Own F a = some a := by
  unfold spec_l02Own
  rw [grow_loop (ps := a) (g := fun r => [r]) (L := spec_l02Own_L1 F a) (by simp) ?_ ?_ (by omega)]
  · rw [Option.bind_some, flatMap_one, List.map_id']
  · intro n xs k v hk hv hl
    simp only [spec_l02Own_L1, bdT (show (k : Int) < (a.length : Int) by omega), idx_nat, hv, Option.bind_some, specOwn_is (hr v (List.mem_of_getElem? hv)), app_le (show xs.length + [v].length ≤ 67108864 by simp only [List.length_singleton]; omega), wrN (show k ≤ 67108864 by omega)]
  · intro n xs
    simp only [spec_l02Own_L1, bdF (show ¬ (a.length : Int) < (a.length : Int) by omega)]
theorem addv_of {r a b : List Int} (hl : r.length = a.length) (h : ∀ q, q < a.length → r[q]? = some (max (a.getD q 0) (b.getD q 0))) : r = addv a b := by
  apply List.ext_getElem?; intro q
  by_cases hq : q < a.length
  · rw [h q hq]; unfold addv; rw [List.getElem?_map, List.getElem?_range hq]; rfl
  · rw [List.getElem?_eq_none (by omega), List.getElem?_eq_none (by rw [addv_len]; omega)]
theorem specAddRow {F : Nat} {b ms : List (List Int)} {i : Nat} {row rb : List Int} (hF : 134217728 ≤ F) (hi : ms[i]? = some row) (hb : b[i]? = some rb) (hl : row.length ≤ 1048576) (hlb : row.length ≤ rb.length) :
    spec_l02Add_L5 F b (i : Int) F ms 0 = some (ms.set i (addv row rb)) := by
  have him : i < ms.length := (List.getElem?_eq_some_iff.1 hi).1
  refine for0 (L := spec_l02Add_L5 F b (i : Int)) (len := row.length) (fun j t => ∃ r, t = ms.set i r ∧ r.length = row.length ∧ (∀ q, q < j → r[q]? = some (max (row.getD q 0) (rb.getD q 0))) ∧ ∀ q, j ≤ q → r[q]? = row[q]?) (R := fun o => o = some (ms.set i (addv row rb))) ?_ ?_ ⟨row, (set_same hi).symm, rfl, by intro q hq; omega, fun _ _ => rfl⟩ (by omega)
  · rintro n j t hj ⟨r, rfl, hrl, h1, h2⟩
    have hjr : j < r.length := by omega
    have hrj : r[j]? = some (row.getD j 0) := by rw [h2 j (Nat.le_refl _), getD_of hj]
    refine .inl ⟨ms.set i (r.set j (max (row.getD j 0) (rb.getD j 0))), ?_, r.set j (max (row.getD j 0) (rb.getD j 0)), rfl, by rw [List.length_set]; exact hrl, ?_, ?_⟩
    · simp only [spec_l02Add_L5, idx_nat, set_here him, hb, hrj, getD_of (show j < rb.length by omega), Option.bind_some, bdT (show (j : Int) < (r.length : Int) by omega), upd_nat _ hjr, upd_nat _ (show i < (ms.set i r).length by rw [List.length_set]; exact him), List.set_set, wrN (show j ≤ 67108864 by omega)]
    · intro q hq
      by_cases e : q = j
      · subst e; exact set_here hjr
      · rw [set_keep e]; exact h1 q (by omega)
    · intro q hq
      rw [set_keep (by omega)]; exact h2 q (by omega)
  · rintro n t ⟨r, rfl, hrl, h1, _⟩
    simp only [spec_l02Add_L5, idx_nat, set_here him, Option.bind_some, bdF (show ¬ (row.length : Int) < (r.length : Int) by omega)]
    rw [addv_of hrl h1]
theorem specAdd_is {F : Nat} {a b : List (List Int)} (hF : 134217728 ≤ F) (ha : a.length ≤ 1048576) (hr : ∀ row, row ∈ a → row.length ≤ 1048576) (hab : b.length = a.length) (hrb : ∀ i, i < a.length → (a.getD i []).length ≤ (b.getD i []).length) : spec_l02Add F a b = some (addm a b) := by
  unfold spec_l02Add
  rw [bind_of (specOwnM_is hF ha hr)]
  have D : ∀ {m : List (List Int)} {i : Nat}, i < m.length → m[i]? = some (m.getD i []) := fun h => by rw [List.getD_eq_getElem?_getD, List.getElem?_eq_getElem h]; rfl
  have H := for0 (L := spec_l02Add_L4 F b) (len := a.length) (fun j t => t.length = a.length ∧ (∀ q, q < j → t[q]? = some (addv (a.getD q []) (b.getD q []))) ∧ ∀ q, j ≤ q → t[q]? = a[q]?) (R := fun o => o = some (addm a b)) (s := a) (n := F) ?_ ?_ ⟨rfl, by intro q hq; omega, fun _ _ => rfl⟩ (by omega)
  · rw [H]; rfl
  · rintro n j t hj ⟨hl, h1, h2⟩
    have hjt : j < t.length := by omega
    have hrow : t[j]? = some (a.getD j []) := by rw [h2 j (Nat.le_refl _), D hj]
    refine .inl ⟨t.set j (addv (a.getD j []) (b.getD j [])), ?_, by rw [List.length_set]; exact hl, ?_, ?_⟩
    · simp only [spec_l02Add_L4, bdT (show (j : Int) < (t.length : Int) by omega), specAddRow hF hrow (D (show j < b.length by omega)) (hr _ (List.mem_of_getElem? (D hj))) (hrb j hj), Option.bind_some, wrN (show j ≤ 67108864 by omega)]
    · intro q hq
      by_cases e : q = j
      · subst e; exact set_here hjt
      · rw [set_keep e]; exact h1 q (by omega)
    · intro q hq
      rw [set_keep (by omega)]; exact h2 q (by omega)
  · rintro n t ⟨hl, h1, _⟩
    simp only [spec_l02Add_L4, bdF (show ¬ (a.length : Int) < (t.length : Int) by omega)]
    refine congrArg some ?_
    apply List.ext_getElem?; intro q
    by_cases hq : q < a.length
    · rw [h1 q hq]; unfold addm; rw [List.getElem?_map, List.getElem?_range hq]; rfl
    · rw [List.getElem?_eq_none (by omega), List.getElem?_eq_none (by unfold addm; simp; omega)]

theorem addm_len (a b : List (List Int)) : (addm a b).length = a.length := by unfold addm; simp
theorem addm_rows {a b : List (List Int)} {n : Nat} (ha : ∀ r, r ∈ a → r.length = n) : ∀ r, r ∈ addm a b → r.length = n := by
  intro r hr
  unfold addm at hr
  rw [List.mem_map] at hr
  obtain ⟨i, hi, rfl⟩ := hr
  rw [addv_len]
  have hi' : i < a.length := by simpa using hi
  have e : a[i]? = some (a.getD i []) := by rw [List.getD_eq_getElem?_getD, List.getElem?_eq_getElem hi']; rfl
  exact ha _ (List.mem_of_getElem? e)
theorem implAdd_is {F n : Nat} {a b : List (List Int)} (hF : 134217728 ≤ F) (ha0 : 0 < a.length) (hal : a.length ≤ 1048576) (hn : n ≤ 1048576) (hab : b.length = a.length) (ha : ∀ r, r ∈ a → r.length = n) (hb : ∀ r, r ∈ b → r.length = n) : impl_addMatrices F a b = some (addm a b) := by
  have G : ∀ {t : List (List Int)} {k : Nat}, k < t.length → t[k]? = some (t.getD k []) := fun h => by rw [List.getD_eq_getElem?_getD, List.getElem?_eq_getElem h]; rfl
  have h0 : idx a 0 = some (a.getD 0 []) := (idx_nat a 0).trans (G ha0)
  have hl0 : (a.getD 0 []).length = n := ha _ (List.mem_of_getElem? (G ha0))
  unfold impl_addMatrices
  rw [bind_of h0, hl0, matrixBy_is (f := fun i j => max ((a.getD i []).getD j 0) ((b.getD i []).getD j 0)) hF hal hn (fun i j hi hj => ?_)]
  · simp only [Option.bind_some]
    refine congrArg some ?_
    unfold tabM addm
    apply List.map_congr_left
    intro i hi
    have hi' : i < a.length := by simpa using hi
    unfold addv
    rw [ha _ (List.mem_of_getElem? (G hi'))]
  · show impl_addMatrices_c1 F (i : Int) (j : Int) a b = _
    have har := G hi
    have hbr := G (t := b) (k := i) (by omega)
    have l1 := ha _ (List.mem_of_getElem? har)
    have l2 := hb _ (List.mem_of_getElem? hbr)
    simp only [impl_addMatrices_c1, idx_nat, har, hbr, getD_of (show j < (a.getD i []).length by omega), getD_of (show j < (b.getD i []).length by omega), Option.bind_some]

theorem implCloneM_is {F : Nat} {a : List (List Int)} (hF : 134217728 ≤ F) (ha : a.length ≤ 1048576) (hr : ∀ row, row ∈ a → row.length ≤ 1048576) : impl_cloneMatrix F a = some a := by
  unfold impl_cloneMatrix
  rw [mk_nat _ (by omega)]
  simp only [Option.bind_some]
  rw [fill_loop (ps := a) (f := fun r => r) (L := impl_cloneMatrix_L1 F a) ?_ ?_ (by simp) (by omega), List.map_id']; rfl
  · intro n xs k x hk hx hl
    have hk' : k < xs.length := by omega
    have hq : xs[k]? = some xs[k] := List.getElem?_eq_getElem hk'
    have hcl : slices_Clone_int64 F x = some x := by
      unfold slices_Clone_int64
      rw [app_le (by have := hr x (List.mem_of_getElem? hx); simp only [List.length_nil]; omega)]; rfl
    simp only [impl_cloneMatrix_L1, bdT (show (k : Int) < (a.length : Int) by omega), idx_nat, hx, hq, Option.bind_some, hcl, upd_nat _ hk', wrN (show k ≤ 67108864 by omega)]
  · intro n xs
    simp only [impl_cloneMatrix_L1, bdF (show ¬ (a.length : Int) < (a.length : Int) by omega)]

end Go.Proofs.Ytpmebacdmilecaa
