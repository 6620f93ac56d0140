/- Plain lemmas about the small functions of the laws. -/
import Derived.Test.YtcpfhonmmpbadaaWordMatrixModels
import Derived.Test.YtcpfhonmmpbadaaPure
namespace Go.Proofs.Ytcpfhonmmpbadaa

def toP_Int64 (p : Int) : Int := p
theorem szInt64S_is {F : Nat} {ps : List Int} {left : Int} (h0 : 0 ≤ left) (h1 : left ≤ 1048576) (h : ps.length ≤ 9223372036854775807) : ∃ r, laws_szInt64S F ps left = some r ∧ (r < 0 ∨ (0 ≤ r ∧ r + ps.length = left)) := by
  unfold laws_szInt64S
  rw [wr (by omega) (by omega)]
  by_cases hc : left - (ps.length : Int) < 0
  · exact ⟨-1, by rw [bdT hc], .inl (by decide)⟩
  · exact ⟨left - ps.length, by rw [bdF hc], .inr ⟨by omega, by omega⟩⟩
theorem toInt64S_is {F : Nat} {ps : List Int} (hF : 134217728 ≤ F) (h : ps.length ≤ 1048576) : laws_toInt64S F ps = some (ps.map toP_Int64) := by
  unfold laws_toInt64S
  rw [mk_nat _ (by omega)]
  simp only [Option.bind_some]
  rw [fill_loop (ps := ps) (f := toP_Int64) (L := laws_toInt64S_L1 F ps) ?_ ?_ (by simp) (by omega)]; rfl
  · intro n xs k x hk hx hl
    have hk' : k < xs.length := by omega
    have hq : xs[k]? = some xs[k] := List.getElem?_eq_getElem hk'
    simp only [laws_toInt64S_L1, bdT (show (k : Int) < (ps.length : Int) by omega), idx_nat, hx, hq, Option.bind_some, upd_nat, hk', wrN (show k ≤ 67108864 by omega), toP_Int64]
  · intro n xs
    simp only [laws_toInt64S_L1, bdF (show ¬ (ps.length : Int) < (ps.length : Int) by omega)]
theorem eqInt64S_same {F : Nat} {xs : List Int} (hF : 134217728 ≤ F) (h : xs.length ≤ 16777216) : laws_eqInt64S F xs xs = some true := by
  unfold laws_eqInt64S
  rw [bF (neF rfl), same_loop (L := laws_eqInt64S_L1 F xs xs) (len := xs.length) ?_ ?_ (by omega)]; rfl
  · intro n k hk
    have hq : xs[k]? = some xs[k] := List.getElem?_eq_getElem hk
    simp only [laws_eqInt64S_L1, bdT (show (k : Int) < (xs.length : Int) by omega), idx_nat, hq, Option.bind_some, bne_self_eq_false, cond_false, wrN (show k ≤ 67108864 by omega)]
  · intro n
    simp only [laws_eqInt64S_L1, bdF (show ¬ (xs.length : Int) < (xs.length : Int) by omega)]
def mrk_Int64 (k : Int) (i : Nat) : Int := k + 1 * (i : Int)
theorem markInt64S_is {F : Nat} {ps : List Int} {k : Int} (hF : 134217728 ≤ F) (h : ps.length ≤ 16777216) (h0 : 0 ≤ k) (h1 : k ≤ 1000000000000) :
    ∃ ms, laws_markInt64S F ps k = some (k + 1 * (ps.length : Int), ms) ∧ ms.length = ps.length ∧ ∀ i, i < ps.length → ms[i]? = some (mrk_Int64 k i) := by
  have H := for0 (L := fun n (s : List Int × Int) i => laws_markInt64S_L1 F n s.1 s.2 i) (len := ps.length) (fun j s => s.1.length = ps.length ∧ s.2 = k + 1 * (j : Int) ∧ ∀ i, i < j → s.1[i]? = some (mrk_Int64 k i))
    (R := fun r => ∃ ms, r = some (ms, k + 1 * (ps.length : Int)) ∧ ms.length = ps.length ∧ ∀ i, i < ps.length → ms[i]? = some (mrk_Int64 k i)) (s := (ps, k)) (n := F) ?_ ?_ ⟨rfl, by simp, by intro i hi; omega⟩ (by omega)
  · obtain ⟨ms, he, hl, hi⟩ := H
    refine ⟨ms, ?_, hl, hi⟩
    unfold laws_markInt64S
    rw [bind_of he]
  · rintro n j ⟨xs, s⟩ hj ⟨hl, hs, hi⟩
    simp only at hl hs hi
    subst hs
    have hk' : j < xs.length := by omega
    have hq : xs[j]? = some xs[j] := List.getElem?_eq_getElem hk'
    have w1 : IntKind.i64.wrap (k + 1 * (j : Int) + 1) = k + 1 * (j : Int) + 1 := wr (by omega) (by omega)
    refine .inl ⟨(xs.set j (mrk_Int64 k j), k + 1 * (j : Int) + 1), ?_, by rw [List.length_set]; exact hl, by simp only; omega, ?_⟩
    · simp only [laws_markInt64S_L1, bdT (show (j : Int) < (xs.length : Int) by omega), idx_nat, hq, Option.bind_some, upd_nat, hk', wrN (show j ≤ 67108864 by omega), w1, mrk_Int64]
    · intro i hij
      by_cases e : i = j
      · subst e; exact set_here hk'
      · simp only; rw [set_keep e]; exact hi i (by omega)
  · rintro n ⟨xs, s⟩ ⟨hl, hs, hi⟩
    simp only at hl hs hi
    refine ⟨xs, ?_, hl, hi⟩
    simp only [laws_markInt64S_L1, bdF (show ¬ (ps.length : Int) < (xs.length : Int) by omega), hs]
theorem heldInt64S_is {F : Nat} {ms : List Int} {k : Int} (hF : 134217728 ≤ F) (h : ms.length ≤ 16777216) (h0 : 0 ≤ k) (h1 : k ≤ 1000000000000) (hm : ∀ i, i < ms.length → ms[i]? = some (mrk_Int64 k i)) :
    laws_heldInt64S F ms k = some (k + 1 * (ms.length : Int)) := by
  unfold laws_heldInt64S
  rw [show laws_heldInt64S_L1 F ms F k 0 = some (.inr (k + 1 * (ms.length : Int))) from ?_]; rfl
  refine for0 (L := fun n (s : Int) i => laws_heldInt64S_L1 F ms n s i) (len := ms.length) (fun j s => s = k + 1 * (j : Int)) (R := fun r => r = some (.inr (k + 1 * (ms.length : Int)))) ?_ ?_ (by simp) (by omega)
  · rintro n j s hj rfl
    have w1 : IntKind.i64.wrap (k + 1 * (j : Int) + 1) = k + 1 * (j : Int) + 1 := wr (by omega) (by omega)
    refine .inl ⟨k + 1 * (j : Int) + 1, ?_, by omega⟩
    simp only [laws_heldInt64S_L1, bdT (show (j : Int) < (ms.length : Int) by omega), idx_nat, hm j hj, Option.bind_some, wrN (show j ≤ 67108864 by omega), w1, mrk_Int64, bne_self_eq_false, cond_false]
  · rintro n s rfl
    simp only [laws_heldInt64S_L1, bdF (show ¬ (ms.length : Int) < (ms.length : Int) by omega)]

theorem slices_IndexFunc_int64_is {F : Nat} {ps : List Int} {m : Int → Option Bool} {h : Int → Bool} (hF : 134217728 ≤ F) (hl : ps.length ≤ 16777216) (hm : ∀ x, x ∈ ps → m x = some (h x)) :
    slices_IndexFunc_int64 F ps m = some (firstAt (ps.findIdx? h)) := by
  unfold slices_IndexFunc_int64
  rw [find_loop (ps := ps) (h := h) (v := fun k => (k : Int)) (L := slices_IndexFunc_int64_L1 F ps m) ?_ ?_ (by omega)]
  · cases ps.findIdx? h <;> rfl
  · intro n k x hk hx
    simp only [slices_IndexFunc_int64_L1, bdT (show (k : Int) < (ps.length : Int) by omega), idx_nat, hx, Option.bind_some, hm x (List.mem_of_getElem? hx), wrN (show k ≤ 67108864 by omega)]
  · intro n
    simp only [slices_IndexFunc_int64_L1, bdF (show ¬ (ps.length : Int) < (ps.length : Int) by omega)]
theorem slices_ContainsFunc_int64_is {F : Nat} {ps : List Int} {m : Int → Option Bool} {h : Int → Bool} (hF : 134217728 ≤ F) (hl : ps.length ≤ 16777216) (hm : ∀ x, x ∈ ps → m x = some (h x)) :
    slices_ContainsFunc_int64 F ps m = some (ps.any h) := by
  unfold slices_ContainsFunc_int64
  rw [bind_of (slices_IndexFunc_int64_is hF hl hm), find_any]

theorem slices_IndexFunc_sint64_is {F : Nat} {ps : List (List Int)} {m : (List Int) → Option Bool} {h : (List Int) → Bool} (hF : 134217728 ≤ F) (hl : ps.length ≤ 16777216) (hm : ∀ x, x ∈ ps → m x = some (h x)) :
    slices_IndexFunc_sint64 F ps m = some (firstAt (ps.findIdx? h)) := by
  unfold slices_IndexFunc_sint64
  rw [find_loop (ps := ps) (h := h) (v := fun k => (k : Int)) (L := slices_IndexFunc_sint64_L1 F ps m) ?_ ?_ (by omega)]
  · cases ps.findIdx? h <;> rfl
  · intro n k x hk hx
    simp only [slices_IndexFunc_sint64_L1, bdT (show (k : Int) < (ps.length : Int) by omega), idx_nat, hx, Option.bind_some, hm x (List.mem_of_getElem? hx), wrN (show k ≤ 67108864 by omega)]
  · intro n
    simp only [slices_IndexFunc_sint64_L1, bdF (show ¬ (ps.length : Int) < (ps.length : Int) by omega)]
theorem slices_ContainsFunc_sint64_is {F : Nat} {ps : List (List Int)} {m : (List Int) → Option Bool} {h : (List Int) → Bool} (hF : 134217728 ≤ F) (hl : ps.length ≤ 16777216) (hm : ∀ x, x ∈ ps → m x = some (h x)) :
    slices_ContainsFunc_sint64 F ps m = some (ps.any h) := by
  unfold slices_ContainsFunc_sint64
  rw [bind_of (slices_IndexFunc_sint64_is hF hl hm), find_any]

theorem slices_IndexFunc_ssint64_is {F : Nat} {ps : List (List (List Int))} {m : (List (List Int)) → Option Bool} {h : (List (List Int)) → Bool} (hF : 134217728 ≤ F) (hl : ps.length ≤ 16777216) (hm : ∀ x, x ∈ ps → m x = some (h x)) :
    slices_IndexFunc_ssint64 F ps m = some (firstAt (ps.findIdx? h)) := by
  unfold slices_IndexFunc_ssint64
  rw [find_loop (ps := ps) (h := h) (v := fun k => (k : Int)) (L := slices_IndexFunc_ssint64_L1 F ps m) ?_ ?_ (by omega)]
  · cases ps.findIdx? h <;> rfl
  · intro n k x hk hx
    simp only [slices_IndexFunc_ssint64_L1, bdT (show (k : Int) < (ps.length : Int) by omega), idx_nat, hx, Option.bind_some, hm x (List.mem_of_getElem? hx), wrN (show k ≤ 67108864 by omega)]
  · intro n
    simp only [slices_IndexFunc_ssint64_L1, bdF (show ¬ (ps.length : Int) < (ps.length : Int) by omega)]
theorem slices_ContainsFunc_ssint64_is {F : Nat} {ps : List (List (List Int))} {m : (List (List Int)) → Option Bool} {h : (List (List Int)) → Bool} (hF : 134217728 ≤ F) (hl : ps.length ≤ 16777216) (hm : ∀ x, x ∈ ps → m x = some (h x)) :
    slices_ContainsFunc_ssint64 F ps m = some (ps.any h) := by
  unfold slices_ContainsFunc_ssint64
  rw [bind_of (slices_IndexFunc_ssint64_is hF hl hm), find_any]

theorem toInt64S_same {F : Nat} {ps : List Int} (hF : 134217728 ≤ F) (h : ps.length ≤ 1048576) : laws_toInt64S F ps = some ps := by
  rw [toInt64S_is hF h, show ps.map toP_Int64 = ps from by unfold toP_Int64; simp]

/-- how many numbers stand in the first i rows -/
def offR (rows : List (List Int)) (i : Nat) : Nat := ((rows.take i).map List.length).sum
theorem offR_zero (rows : List (List Int)) : offR rows 0 = 0 := rfl
theorem offR_succ {rows : List (List Int)} {i : Nat} {row : List Int} (h : rows[i]? = some row) : offR rows (i + 1) = offR rows i + row.length := by
  unfold offR
  rw [List.take_add_one, h]; simp
theorem offR_mono (rows : List (List Int)) (i : Nat) : offR rows i ≤ offR rows (i + 1) := by
  unfold offR
  rw [List.take_add_one, List.map_append, List.sum_append]; omega
theorem offR_le {rows : List (List Int)} {i j : Nat} (h : i ≤ j) : offR rows i ≤ offR rows j := by
  induction j with
  | zero => obtain rfl : i = 0 := by omega
            exact Nat.le_refl _
  | succ j ih =>
    by_cases e : i = j + 1
    · subst e; exact Nat.le_refl _
    · exact Nat.le_trans (ih (by omega)) (offR_mono rows j)

theorem rows_le {rows : List (List Int)} {N : Nat} (hr : offR rows rows.length ≤ N) : ∀ row, row ∈ rows → row.length ≤ N := by
  intro row hm
  obtain ⟨i, hi, rfl⟩ := List.getElem_of_mem hm
  have h1 := offR_succ (List.getElem?_eq_getElem hi)
  have h2 := offR_le (rows := rows) (show i + 1 ≤ rows.length by omega)
  omega

theorem szInt64SS_is {F : Nat} {ps : List (List Int)} {left : Int} (h0 : 0 ≤ left) (h1 : left ≤ 1048576) (hF : 9223372036854775808 ≤ F) (h : ps.length ≤ 9223372036854775807) (hr : ∀ row, row ∈ ps → row.length ≤ 9223372036854775807) :
    ∃ r, laws_szInt64SS F ps left = some r ∧ (r < 0 ∨ (0 ≤ r ∧ r + ps.length + offR ps ps.length = left)) := by
  unfold laws_szInt64SS
  rw [wr (by omega) (by omega)]
  by_cases hc : left - (ps.length : Int) < 0
  · exact ⟨-1, by rw [bdT hc], .inl (by decide)⟩
  rw [bdF hc]
  have H := for0 (L := fun n (s : Int) i => laws_szInt64SS_L1 F ps n s i) (len := ps.length) (fun j s => 0 ≤ s ∧ s + ps.length + offR ps j = left)
    (R := fun r => r = some (.inl (-1)) ∨ ∃ s, r = some (.inr s) ∧ 0 ≤ s ∧ s + ps.length + offR ps ps.length = left) (s := left - (ps.length : Int)) (n := F) ?_ ?_ ⟨by omega, by rw [offR_zero]; omega⟩ (by omega)
  · rcases H with he | ⟨s, he, h3, h4⟩
    · exact ⟨-1, by rw [he]; rfl, .inl (by decide)⟩
    · exact ⟨s, by rw [he]; rfl, .inr ⟨h3, h4⟩⟩
  · intro n j s hj ⟨hs, ht⟩
    have hq : ps[j]? = some ps[j] := List.getElem?_eq_getElem hj
    obtain ⟨r, hr1, hr2⟩ := szInt64S_is (F := F) hs (by omega) (hr _ (List.getElem_mem hj))
    by_cases hn : r < 0
    · refine .inr (.inl ?_)
      simp only [laws_szInt64SS_L1, bdT (show (j : Int) < (ps.length : Int) by omega), idx_nat, hq, Option.bind_some, hr1, bdT hn]
    · refine .inl ⟨r, ?_, by omega, by rw [offR_succ hq]; omega⟩
      simp only [laws_szInt64SS_L1, bdT (show (j : Int) < (ps.length : Int) by omega), idx_nat, hq, Option.bind_some, hr1, bdF hn]
      rw [wr (by omega) (by omega)]; rfl
  · intro n s ⟨hs, ht⟩
    refine .inr ⟨s, ?_, hs, ht⟩
    simp only [laws_szInt64SS_L1, bdF (show ¬ (ps.length : Int) < (ps.length : Int) by omega)]


theorem toInt64SS_is {F : Nat} {ps : List (List Int)} (hF : 134217728 ≤ F) (h : ps.length ≤ 1048576) (hr : offR ps ps.length ≤ 1048576) : laws_toInt64SS F ps = some ps := by
  have each : ∀ (i : Nat) (row : List Int), ps[i]? = some row → row.length ≤ 1048576 := fun i row hi => by
    have hlt := (List.getElem?_eq_some_iff.1 hi).1
    have h1 := offR_succ hi
    have h2 := offR_le (rows := ps) (show i + 1 ≤ ps.length by omega)
    omega
  unfold laws_toInt64SS
  rw [mk_nat _ (by omega)]
  simp only [Option.bind_some]
  rw [fill_loop (ps := ps) (f := fun x => x) (L := laws_toInt64SS_L1 F ps) ?_ ?_ (by simp) (by omega)]
  · simp
  · intro n xs k x hk hx hl
    have hk' : k < xs.length := by omega
    have hq : xs[k]? = some xs[k] := List.getElem?_eq_getElem hk'
    have ht := toInt64S_is (F := F) hF (each k x hx)
    rw [show x.map toP_Int64 = x from by unfold toP_Int64; simp] at ht
    simp only [laws_toInt64SS_L1, bdT (show (k : Int) < (ps.length : Int) by omega), idx_nat, hx, hq, ht, Option.bind_some, upd_nat, hk', wrN (show k ≤ 67108864 by omega)]
  · intro n xs
    simp only [laws_toInt64SS_L1, bdF (show ¬ (ps.length : Int) < (ps.length : Int) by omega)]


theorem eqInt64SS_same {F : Nat} {xs : List (List Int)} (hF : 134217728 ≤ F) (h : xs.length ≤ 16777216) (hr : ∀ row, row ∈ xs → row.length ≤ 16777216) : laws_eqInt64SS F xs xs = some true := by
  unfold laws_eqInt64SS
  rw [bF (neF rfl), same_loop (L := laws_eqInt64SS_L1 F xs xs) (len := xs.length) ?_ ?_ (by omega)]; rfl
  · intro n k hk
    have hq : xs[k]? = some xs[k] := List.getElem?_eq_getElem hk
    simp only [laws_eqInt64SS_L1, bdT (show (k : Int) < (xs.length : Int) by omega), idx_nat, hq, Option.bind_some, eqInt64S_same hF (hr _ (List.getElem_mem hk)), Bool.not_true, cond_false, wrN (show k ≤ 67108864 by omega)]
  · intro n
    simp only [laws_eqInt64SS_L1, bdF (show ¬ (xs.length : Int) < (xs.length : Int) by omega)]


/-- ms holds the marks from k on, in the shape of rows -/
def MarkedR (rows : List (List Int)) (k : Int) (ms : List (List Int)) (upto : Nat) : Prop :=
  ms.length = rows.length ∧ ∀ (i : Nat), i < upto → ∃ m row, ms[i]? = some m ∧ rows[i]? = some row ∧ m.length = row.length ∧ ∀ j, j < m.length → m[j]? = some (mrk_Int64 (k + offR rows i) j)
theorem markInt64SS_is {F : Nat} {ps : List (List Int)} {k : Int} (hF : 134217728 ≤ F) (h : ps.length ≤ 16777216) (hr : offR ps ps.length ≤ 16777216) (h0 : 0 ≤ k) (h1 : k ≤ 900000000000) :
    ∃ ms, laws_markInt64SS F ps k = some (k + offR ps ps.length, ms) ∧ MarkedR ps k ms ps.length := by
  have H := for0 (L := fun n (s : List (List Int) × Int) i => laws_markInt64SS_L1 F n s.1 s.2 i) (len := ps.length)
    (fun j s => s.2 = k + offR ps j ∧ MarkedR ps k s.1 j ∧ ∀ i, j ≤ i → s.1[i]? = ps[i]?)
    (R := fun r => ∃ ms, r = some (ms, k + (offR ps ps.length : Int)) ∧ MarkedR ps k ms ps.length) (s := (ps, k)) (n := F) ?_ ?_ ⟨by simp [offR_zero], ⟨rfl, by intro i hi; omega⟩, fun _ _ => rfl⟩ (by omega)
  · obtain ⟨ms, he, hm⟩ := H
    exact ⟨ms, by unfold laws_markInt64SS; rw [bind_of he], hm⟩
  · rintro n j ⟨xs, s⟩ hj ⟨hs, ⟨hl, hi⟩, hrest⟩
    simp only at hs hl hi hrest
    subst hs
    have hp : ps[j]? = some ps[j] := List.getElem?_eq_getElem hj
    have hq : xs[j]? = some ps[j] := (hrest j (Nat.le_refl _)).trans hp
    have hk' : j < xs.length := by omega
    have hle := offR_le (rows := ps) (show j + 1 ≤ ps.length by omega)
    have hsu := offR_succ hp
    obtain ⟨m, hm1, hm2, hm3⟩ := markInt64S_is (F := F) (ps := ps[j]) (k := k + offR ps j) hF (by omega) (by omega) (by omega)
    refine .inl ⟨(xs.set j m, k + (offR ps (j + 1) : Int)), ?_, rfl, ⟨by rw [List.length_set]; exact hl, ?_⟩, ?_⟩
    · simp only [laws_markInt64SS_L1, bdT (show (j : Int) < (xs.length : Int) by omega), idx_nat, hq, Option.bind_some, hm1, upd_nat, hk', wrN (show j ≤ 67108864 by omega)]
      rw [show k + (offR ps j : Int) + 1 * (ps[j].length : Int) = k + (offR ps (j + 1) : Int) by omega]
    · intro i hij
      by_cases e : i = j
      · subst e; exact ⟨m, ps[i], set_here hk', hp, hm2, by rw [hm2]; exact hm3⟩
      · simp only [set_keep e]; exact hi i (by omega)
    · intro i hij
      simp only [set_keep (show i ≠ j by omega)]; exact hrest i (by omega)
  · rintro n ⟨xs, s⟩ ⟨hs, hm, _⟩
    simp only at hs hm
    refine ⟨xs, ?_, hm⟩
    have := hm.1
    simp only [laws_markInt64SS_L1, bdF (show ¬ (ps.length : Int) < (xs.length : Int) by omega), hs]

theorem heldInt64SS_is {F : Nat} {ps ms : List (List Int)} {k : Int} (hF : 134217728 ≤ F) (h : ps.length ≤ 16777216) (hr : offR ps ps.length ≤ 16777216) (h0 : 0 ≤ k) (h1 : k ≤ 900000000000) (hm : MarkedR ps k ms ps.length) : laws_heldInt64SS F ms k = some (k + (offR ps ps.length : Int)) := by
  obtain ⟨hml, hmi⟩ := hm
  have H := for0 (L := laws_heldInt64SS_L1 F ms) (len := ps.length) (fun j s => s = k + (offR ps j : Int)) (R := fun r => r = some (.inr (k + (offR ps ps.length : Int)))) (s := k) (n := F) ?_ ?_ (by simp [offR_zero]) (by omega)
  · unfold laws_heldInt64SS; rw [H]; rfl
  · rintro n j s hj rfl
    obtain ⟨m, row, hm1, hm2, hm3, hm4⟩ := hmi j hj
    have hsu := offR_succ hm2
    have hle := offR_le (rows := ps) (show j + 1 ≤ ps.length by omega)
    have hh := heldInt64S_is (F := F) (k := k + (offR ps j : Int)) (ms := m) hF (by omega) (by omega) (by omega) hm4
    refine .inl ⟨_, ?_, rfl⟩
    have e : k + (offR ps j : Int) + 1 * (m.length : Int) = k + (offR ps (j + 1) : Int) := by omega
    simp only [laws_heldInt64SS_L1, bdT (show (j : Int) < (ms.length : Int) by omega), idx_nat, hm1, Option.bind_some, hh, e, bdF (show ¬ k + (offR ps (j + 1) : Int) < 0 by omega), wrN (show j ≤ 67108864 by omega)]
  · rintro n s rfl
    simp only [laws_heldInt64SS_L1, bdF (show ¬ (ps.length : Int) < (ms.length : Int) by omega)]

/-! ### Slices of matrices -/
def wtM (m : List (List Int)) : Nat := m.length + offR m m.length
def offW (ms : List (List (List Int))) (i : Nat) : Nat := ((ms.take i).map wtM).sum
def offD (ms : List (List (List Int))) (i : Nat) : Nat := ((ms.take i).map fun m => offR m m.length).sum
theorem offW_zero (ms : List (List (List Int))) : offW ms 0 = 0 := rfl
theorem offW_succ {ms : List (List (List Int))} {i : Nat} {m : List (List Int)} (h : ms[i]? = some m) : offW ms (i + 1) = offW ms i + wtM m := by
  unfold offW
  rw [List.take_add_one, h]; simp
theorem offD_succ {ms : List (List (List Int))} {i : Nat} {m : List (List Int)} (h : ms[i]? = some m) : offD ms (i + 1) = offD ms i + offR m m.length := by
  unfold offD
  rw [List.take_add_one, h]; simp
theorem offW_mono (ms : List (List (List Int))) (i : Nat) : offW ms i ≤ offW ms (i + 1) := by
  unfold offW
  rw [List.take_add_one, List.map_append, List.sum_append]; omega
theorem offW_le {ms : List (List (List Int))} {i j : Nat} (h : i ≤ j) : offW ms i ≤ offW ms j := by
  induction j with
  | zero => obtain rfl : i = 0 := by omega
            exact Nat.le_refl _
  | succ j ih =>
    by_cases e : i = j + 1
    · subst e; exact Nat.le_refl _
    · exact Nat.le_trans (ih (by omega)) (offW_mono ms j)
theorem offD_le (ms : List (List (List Int))) : ∀ i, offD ms i ≤ offW ms i
  | 0 => Nat.le_refl _
  | i + 1 => by
    have := offD_le ms i
    cases h : ms[i]? with
    | none =>
      have e1 : offW ms (i + 1) = offW ms i := by unfold offW; rw [List.take_add_one, h]; simp
      have e2 : offD ms (i + 1) = offD ms i := by unfold offD; rw [List.take_add_one, h]; simp
      omega
    | some m =>
      rw [offW_succ h, offD_succ h]
      unfold wtM; omega
theorem offW_at {ms : List (List (List Int))} {i : Nat} {m : List (List Int)} (h : ms[i]? = some m) : m.length + offR m m.length ≤ offW ms ms.length := by
  have h1 := offW_succ h
  have h2 := offW_le (ms := ms) (show i + 1 ≤ ms.length from (List.getElem?_eq_some_iff.1 h).1)
  unfold wtM at h1
  omega
theorem offW_mem {ms : List (List (List Int))} {m : List (List Int)} (h : m ∈ ms) : m.length + offR m m.length ≤ offW ms ms.length := by
  obtain ⟨i, hi, rfl⟩ := List.getElem_of_mem h
  exact offW_at (List.getElem?_eq_getElem hi)
theorem szInt64SSS_is {F : Nat} {ps : List (List (List Int))} {left : Int} (h0 : 0 ≤ left) (h1 : left ≤ 1048576) (hF : 9223372036854775808 ≤ F) (h : ps.length ≤ 9223372036854775807) (hm : ∀ m, m ∈ ps → m.length ≤ 9223372036854775807) (hr : ∀ m, m ∈ ps → ∀ row, row ∈ m → row.length ≤ 9223372036854775807) :
    ∃ r, laws_szInt64SSS F ps left = some r ∧ (r < 0 ∨ (0 ≤ r ∧ r + ps.length + offW ps ps.length = left)) := by
  unfold laws_szInt64SSS
  rw [wr (by omega) (by omega)]
  by_cases hc : left - (ps.length : Int) < 0
  · exact ⟨-1, by rw [bdT hc], .inl (by decide)⟩
  rw [bdF hc]
  have H := for0 (L := fun n (s : Int) i => laws_szInt64SSS_L1 F ps n s i) (len := ps.length) (fun j s => 0 ≤ s ∧ s + ps.length + offW ps j = left)
    (R := fun r => r = some (.inl (-1)) ∨ ∃ s, r = some (.inr s) ∧ 0 ≤ s ∧ s + ps.length + offW ps ps.length = left) (s := left - (ps.length : Int)) (n := F) ?_ ?_ ⟨by omega, by rw [offW_zero]; omega⟩ (by omega)
  · rcases H with he | ⟨s, he, h3, h4⟩
    · exact ⟨-1, by rw [he]; rfl, .inl (by decide)⟩
    · exact ⟨s, by rw [he]; rfl, .inr ⟨h3, h4⟩⟩
  · intro n j s hj ⟨hs, ht⟩
    have hq : ps[j]? = some ps[j] := List.getElem?_eq_getElem hj
    have hmem := List.getElem_mem hj
    obtain ⟨r, hr1, hr2⟩ := szInt64SS_is (F := F) hs (by omega) hF (hm _ hmem) (hr _ hmem)
    by_cases hn : r < 0
    · refine .inr (.inl ?_)
      simp only [laws_szInt64SSS_L1, bdT (show (j : Int) < (ps.length : Int) by omega), idx_nat, hq, Option.bind_some, hr1, bdT hn]
    · have hsu := offW_succ hq
      unfold wtM at hsu
      refine .inl ⟨r, ?_, by omega, by omega⟩
      simp only [laws_szInt64SSS_L1, bdT (show (j : Int) < (ps.length : Int) by omega), idx_nat, hq, Option.bind_some, hr1, bdF hn]
      rw [wr (by omega) (by omega)]; rfl
  · intro n s ⟨hs, ht⟩
    refine .inr ⟨s, ?_, hs, ht⟩
    simp only [laws_szInt64SSS_L1, bdF (show ¬ (ps.length : Int) < (ps.length : Int) by omega)]
theorem toInt64SSS_is {F : Nat} {ps : List (List (List Int))} (hF : 134217728 ≤ F) (h : ps.length ≤ 1048576) (hw : offW ps ps.length ≤ 1048576) : laws_toInt64SSS F ps = some ps := by
  unfold laws_toInt64SSS
  rw [mk_nat _ (by omega)]
  simp only [Option.bind_some]
  rw [fill_loop (ps := ps) (f := fun m => m) (L := laws_toInt64SSS_L1 F ps) ?_ ?_ (by simp) (by omega), List.map_id']; rfl
  · intro n xs k x hk hx hl
    have hk' : k < xs.length := by omega
    have hq : xs[k]? = some xs[k] := List.getElem?_eq_getElem hk'
    have hb := offW_at hx
    simp only [laws_toInt64SSS_L1, bdT (show (k : Int) < (ps.length : Int) by omega), idx_nat, hx, hq, Option.bind_some, toInt64SS_is (F := F) (ps := x) hF (by omega) (by omega), upd_nat _ hk', wrN (show k ≤ 67108864 by omega)]
  · intro n xs
    simp only [laws_toInt64SSS_L1, bdF (show ¬ (ps.length : Int) < (ps.length : Int) by omega)]
theorem eqInt64SSS_same {F : Nat} {xs : List (List (List Int))} (hF : 134217728 ≤ F) (h : xs.length ≤ 1048576) (hw : offW xs xs.length ≤ 1048576) : laws_eqInt64SSS F xs xs = some true := by
  unfold laws_eqInt64SSS
  rw [bF (neF rfl), same_loop (L := laws_eqInt64SSS_L1 F xs xs) (len := xs.length) ?_ ?_ (by omega)]; rfl
  · intro n k hk
    have hq : xs[k]? = some xs[k] := List.getElem?_eq_getElem hk
    have hb := offW_at hq
    simp only [laws_eqInt64SSS_L1, bdT (show (k : Int) < (xs.length : Int) by omega), idx_nat, hq, Option.bind_some, eqInt64SS_same (F := F) (xs := xs[k]) hF (by omega) (rows_le (show offR xs[k] xs[k].length ≤ 16777216 by omega)), Bool.not_true, cond_false, wrN (show k ≤ 67108864 by omega)]
  · intro n
    simp only [laws_eqInt64SSS_L1, bdF (show ¬ (xs.length : Int) < (xs.length : Int) by omega)]
theorem markInt64SSS_is {F : Nat} {ps : List (List (List Int))} {k : Int} (hF : 134217728 ≤ F) (h : ps.length ≤ 1048576) (hw : offW ps ps.length ≤ 1048576) (h0 : 0 ≤ k) (h1 : k ≤ 800000000000) : ∃ k' ms, laws_markInt64SSS F ps k = some (k', ms) ∧ 0 ≤ k' ∧ k' ≤ k + 1048576 := by
  have H := for0 (L := fun n (s : List (List (List Int)) × Int) i => laws_markInt64SSS_L1 F n s.1 s.2 i) (len := ps.length)
    (fun j s => s.2 = k + offD ps j ∧ s.1.length = ps.length ∧ ∀ i, j ≤ i → s.1[i]? = ps[i]?)
    (R := fun r => ∃ ms, r = some (ms, k + (offD ps ps.length : Int))) (s := (ps, k)) (n := F) ?_ ?_ ⟨by simp [offD], rfl, fun _ _ => rfl⟩ (by omega)
  · obtain ⟨ms, he⟩ := H
    have := offD_le ps ps.length
    exact ⟨_, ms, by unfold laws_markInt64SSS; rw [bind_of he], by omega, by omega⟩
  · rintro n j ⟨xs, s⟩ hj ⟨hs, hl, hrest⟩
    simp only at hs hl hrest
    subst hs
    have hp : ps[j]? = some ps[j] := List.getElem?_eq_getElem hj
    have hq : xs[j]? = some ps[j] := (hrest j (Nat.le_refl _)).trans hp
    have hk' : j < xs.length := by omega
    have hb := offW_at hp
    have hle := offD_le ps j
    have hle2 := offW_le (ms := ps) (show j ≤ ps.length by omega)
    have hsu := offD_succ hp
    obtain ⟨m, hm1, _⟩ := markInt64SS_is (F := F) (ps := ps[j]) (k := k + offD ps j) hF (by omega) (by omega) (by omega) (by omega)
    refine .inl ⟨(xs.set j m, k + (offD ps (j + 1) : Int)), ?_, rfl, by rw [List.length_set]; exact hl, ?_⟩
    · simp only [laws_markInt64SSS_L1, bdT (show (j : Int) < (xs.length : Int) by omega), idx_nat, hq, Option.bind_some, hm1, upd_nat, hk', wrN (show j ≤ 67108864 by omega)]
      rw [show k + (offD ps j : Int) + (offR ps[j] ps[j].length : Int) = k + (offD ps (j + 1) : Int) by omega]
    · intro i hij
      simp only [set_keep (show i ≠ j by omega)]; exact hrest i (by omega)
  · rintro n ⟨xs, s⟩ ⟨hs, hl, _⟩
    simp only at hs hl
    refine ⟨xs, ?_⟩
    simp only [laws_markInt64SSS_L1, bdF (show ¬ (ps.length : Int) < (xs.length : Int) by omega), hs]

def inB (n lo hi : Int) : Bool := decide (lo ≤ n) && decide (n ≤ hi)
theorem inB_true {n lo hi : Int} : inB n lo hi = true ↔ lo ≤ n ∧ n ≤ hi := by unfold inB; simp
theorem inB_false {n lo hi : Int} (h : ¬ (lo ≤ n ∧ n ≤ hi)) : inB n lo hi = false := by
  cases e : inB n lo hi with
  | false => rfl
  | true => exact absurd (inB_true.1 e) h
theorem specIn_is {F : Nat} {n lo hi : Int} : spec_l01In F n lo hi = some (inB n lo hi) := by
  simp only [spec_l01In, cond_and, Option.bind_some]; rfl
theorem within_is {F : Nat} {n lo hi : Int} : impl_within F n lo hi = some (inB n lo hi) := by
  simp only [impl_within, cond_and, Option.bind_some]; rfl


theorem implAllWithin_is {F : Nat} {xs : List Int} {lo hi : Int} (hF : 134217728 ≤ F) (hl : xs.length ≤ 1048576) : impl_allWithin F xs lo hi = some (xs.all fun x => inB x lo hi) := by
  unfold impl_allWithin
  rw [all_loop (ps := xs) (g := fun x => inB x lo hi) (r := false) (L := impl_allWithin_L1 F xs lo hi) ?_ ?_ (by omega)]
  · cases (xs.all fun x => inB x lo hi) <;> rfl
  · intro n k x hk hx
    simp only [impl_allWithin_L1, bdT (show (k : Int) < (xs.length : Int) by omega), idx_nat, hx, Option.bind_some, within_is, condn, wrN (show k ≤ 67108864 by omega)]
  · intro n
    simp only [impl_allWithin_L1, bdF (show ¬ (xs.length : Int) < (xs.length : Int) by omega)]

/-! ### Values and vectors -/
def valB (a : Int) : Bool := (a == (-1000000000000000)) || inB a (-1000000) 1000000
theorem specValue_is {F : Nat} {a : Int} : spec_IsValue F a = some (valB a) := by
  simp only [spec_IsValue, spec_l01Finite, specIn_is, cond_or, Option.bind_some]; rfl
theorem implValue_is {F : Nat} {a : Int} : impl_IsValue F a = some (valB a) := by
  simp only [impl_IsValue, impl_isFinite, within_is, cond_or, Option.bind_some]; rfl
theorem specAll_is {F : Nat} {xs : List Int} (hF : 134217728 ≤ F) (hl : xs.length ≤ 1048576) : spec_l01All F xs false = some (xs.all valB) := by
  unfold spec_l01All
  rw [all_loop (ps := xs) (g := valB) (r := false) (L := spec_l01All_L1 F xs false) ?_ ?_ (by omega)]
  · cases xs.all valB <;> rfl
  · intro n k x hk hx
    simp only [spec_l01All_L1, bdT (show (k : Int) < (xs.length : Int) by omega), idx_nat, hx, Option.bind_some, specValue_is, cond_false, condn, wrN (show k ≤ 67108864 by omega)]
    cases valB x <;> rfl
  · intro n
    simp only [spec_l01All_L1, bdF (show ¬ (xs.length : Int) < (xs.length : Int) by omega)]
theorem implAll_is {F : Nat} {xs : List Int} (hF : 134217728 ≤ F) (hl : xs.length ≤ 1048576) : impl_areValues F xs = some (xs.all valB) := by
  unfold impl_areValues
  rw [bind_of (slices_ContainsFunc_int64_is (h := fun x => !valB x) hF (show xs.length ≤ 16777216 by omega) (fun x _ => show impl_areValues_c1 F x = _ by simp only [impl_areValues_c1, implValue_is, Option.bind_some])), any_not, Bool.not_not]
/-! ### Sums of the algebra -/
def tms (a b : Int) : Int := bif (a == (-1000000000000000)) || (b == (-1000000000000000)) then (-1000000000000000) else IntKind.i64.wrap (a + b)
theorem specTimes_is {F : Nat} {a b : Int} : spec_l01Times F a b = some (tms a b) := by
  unfold spec_l01Times tms
  cases (a == (-1000000000000000)) <;> cases (b == (-1000000000000000)) <;> rfl
theorem implTimes_is {F : Nat} {a b : Int} : impl_times F a b = some (tms a b) := by
  unfold impl_times tms
  cases (a == (-1000000000000000)) <;> cases (b == (-1000000000000000)) <;> rfl
/-- the sum of the products -/
def dotv (c x : List Int) (n : Nat) : Int := (List.range n).foldl (fun acc i => max acc (tms (c.getD i 0) (x.getD i 0))) (-1000000000000000)

/-! ### Lists of finite numbers -/
theorem fin_val (x : Int) : (valB x && !(x == (-1000000000000000))) = inB x (-1000000) 1000000 := by
  unfold valB
  cases h : (x == (-1000000000000000)) with
  | false => simp
  | true =>
    rw [beq_iff_eq] at h
    subst h; rfl
theorem specAllFin_is {F : Nat} {xs : List Int} (hF : 134217728 ≤ F) (hl : xs.length ≤ 1048576) : spec_l01All F xs true = some (xs.all fun x => inB x (-1000000) 1000000) := by
  unfold spec_l01All
  rw [all_loop (ps := xs) (g := fun x => inB x (-1000000) 1000000) (r := false) (L := spec_l01All_L1 F xs true) ?_ ?_ (by omega)]
  · cases (xs.all fun x => inB x (-1000000) 1000000) <;> rfl
  · intro n k x hk hx
    simp only [spec_l01All_L1, bdT (show (k : Int) < (xs.length : Int) by omega), idx_nat, hx, Option.bind_some, specValue_is, cond_true, condn, wrN (show k ≤ 67108864 by omega)]
    rw [← fin_val x]
    cases valB x <;> cases (x == (-1000000000000000)) <;> rfl
  · intro n
    simp only [spec_l01All_L1, bdF (show ¬ (xs.length : Int) < (xs.length : Int) by omega)]

def vecB (x : List Int) : Bool := inB x.length 1 10 && x.all valB
theorem specVector_is {F : Nat} {x : List Int} (hF : 134217728 ≤ F) (hl : x.length ≤ 1048576) : spec_l02Vector F x = some (vecB x) := by
  simp only [spec_l02Vector, specIn_is, specAll_is hF hl, Option.bind_some, cond_and]; rfl
def firstL (a : List (List Int)) : Int := ((a.getD 0 []).length : Int)
def matB (a : List (List Int)) : Bool := inB a.length 1 10 && a.all (fun row => vecB row && ((row.length : Int) == firstL a))
theorem first_is {a : List (List Int)} (h : 0 < a.length) : idx a 0 = some (a.getD 0 []) := by
  rw [show (0 : Int) = ((0 : Nat) : Int) from rfl, idx_nat, List.getD_eq_getElem?_getD, List.getElem?_eq_getElem h]; rfl
theorem specMatrix_is {F : Nat} {a : List (List Int)} (hF : 134217728 ≤ F) (hr : ∀ row, row ∈ a → row.length ≤ 1048576) : spec_IsMatrix F a = some (matB a) := by
  unfold spec_IsMatrix matB
  simp only [cond_or, Option.bind_some]
  by_cases h : (1 : Int) ≤ a.length ∧ (a.length : Int) ≤ 10
  · have c1 : (decide ((a.length : Int) < 1) || decide (10 < (a.length : Int))) = false := by simp; omega
    rw [bF c1, inB_true.2 h, Bool.true_and]
    rw [all_loop (ps := a) (g := fun row => vecB row && ((row.length : Int) == firstL a)) (r := false) (L := spec_IsMatrix_L1 F a) ?_ ?_ (by omega)]
    · cases a.all (fun row => vecB row && ((row.length : Int) == firstL a)) <;> rfl
    · intro n k row hk hx
      simp only [spec_IsMatrix_L1, bdT (show (k : Int) < (a.length : Int) by omega), idx_nat, hx, first_is (show 0 < a.length by omega), Option.bind_some, specVector_is hF (hr row (List.mem_of_getElem? hx)), wrN (show k ≤ 67108864 by omega), bne, firstL]
      cases vecB row <;> cases ((row.length : Int) == ((a.getD 0 []).length : Int)) <;> rfl
    · intro n
      simp only [spec_IsMatrix_L1, bdF (show ¬ (a.length : Int) < (a.length : Int) by omega)]
  · have c1 : (decide ((a.length : Int) < 1) || decide (10 < (a.length : Int))) = true := by simp; omega
    rw [bT c1, inB_false h]; rfl
theorem implMatrix_is {F : Nat} {a : List (List Int)} (hF : 134217728 ≤ F) (hr : ∀ row, row ∈ a → row.length ≤ 1048576) : impl_IsMatrix F a = some (matB a) := by
  unfold impl_IsMatrix matB
  simp only [within_is, Option.bind_some]
  by_cases h : (1 : Int) ≤ a.length ∧ (a.length : Int) ≤ 10
  · have h0 := first_is (a := a) (by omega)
    have hm : a.getD 0 [] ∈ a := by
      rw [List.getD_eq_getElem?_getD, List.getElem?_eq_getElem (show 0 < a.length by omega)]; exact List.getElem_mem _
    rw [inB_true.2 h]
    simp only [Bool.not_true, cond_false, h0, Option.bind_some, Bool.true_and]
    by_cases h2 : (1 : Int) ≤ firstL a ∧ firstL a ≤ 10
    · rw [show inB ((a.getD 0 []).length : Int) 1 10 = true from inB_true.2 h2]
      simp only [Bool.not_true, cond_false]
      rw [bind_of (slices_ContainsFunc_sint64_is (h := fun row => !((row.length : Int) == firstL a && row.all valB)) hF (show a.length ≤ 16777216 by omega) (fun row hrow => ?_)), any_not, Bool.not_not]
      · refine congrArg some ?_
        apply Bool.eq_iff_iff.2
        rw [List.all_eq_true, List.all_eq_true]
        constructor
        · intro H row hrow
          have := H row hrow
          rw [Bool.and_eq_true, beq_iff_eq] at this
          rw [Bool.and_eq_true, beq_iff_eq]
          refine ⟨?_, this.1⟩
          unfold vecB
          rw [Bool.and_eq_true, this.1]
          exact ⟨inB_true.2 h2, this.2⟩
        · intro H row hrow
          have := H row hrow
          rw [Bool.and_eq_true, beq_iff_eq] at this
          rw [Bool.and_eq_true, beq_iff_eq]
          have h3 := this.1
          unfold vecB at h3
          rw [Bool.and_eq_true] at h3
          exact ⟨this.2, h3.2⟩
      · show impl_IsMatrix_c1 F row a = _
        simp only [impl_IsMatrix_c1, h0, Option.bind_some, implAll_is hF (hr row hrow), bne, firstL]
        cases ((row.length : Int) == ((a.getD 0 []).length : Int)) <;> cases row.all valB <;> rfl
    · rw [show inB ((a.getD 0 []).length : Int) 1 10 = false from inB_false h2]
      simp only [Bool.not_false, cond_true]
      refine congrArg some ?_
      symm
      rw [List.all_eq_false]
      refine ⟨_, hm, ?_⟩
      unfold vecB
      rw [show inB ((a.getD 0 []).length : Int) 1 10 = false from inB_false h2]
      simp
  · rw [inB_false h]; rfl
def squareB (a : List (List Int)) : Bool := matB a && ((a.length : Int) == firstL a)
theorem specSquare_is {F : Nat} {a : List (List Int)} (hF : 134217728 ≤ F) (hr : ∀ row, row ∈ a → row.length ≤ 1048576) : spec_l02Square F a = some (squareB a) := by
  unfold spec_l02Square squareB
  rw [bind_of (specMatrix_is hF hr)]
  cases hm : matB a with
  | false => rfl
  | true =>
    have h : 0 < a.length := by
      unfold matB at hm; rw [Bool.and_eq_true, inB_true] at hm; omega
    simp only [cond_true, first_is h, Option.bind_some, firstL, Bool.true_and]
theorem implSquare_is {F : Nat} {a : List (List Int)} (hF : 134217728 ≤ F) (hr : ∀ row, row ∈ a → row.length ≤ 1048576) : impl_isSquare F a = some (squareB a) := by
  unfold impl_isSquare squareB
  rw [bind_of (implMatrix_is hF hr)]
  cases hm : matB a with
  | false => rfl
  | true =>
    have h : 0 < a.length := by
      unfold matB at hm; rw [Bool.and_eq_true, inB_true] at hm; omega
    simp only [cond_true, first_is h, Option.bind_some, firstL, Bool.true_and]

/-! ### Matrices by their entries -/
def tabM (m n : Nat) (f : Nat → Nat → Int) : List (List Int) := (List.range m).map fun i => (List.range n).map fun j => f i j
theorem tabM_len (m n : Nat) (f : Nat → Nat → Int) : (tabM m n f).length = m := by unfold tabM; simp
theorem tabM_row {m n i : Nat} {f : Nat → Nat → Int} (h : i < m) : (tabM m n f)[i]? = some ((List.range n).map fun j => f i j) := by
  unfold tabM; rw [List.getElem?_map, List.getElem?_range h]; rfl
theorem tabM_rows {m n : Nat} {f : Nat → Nat → Int} : ∀ r, r ∈ tabM m n f → r.length = n := by
  intro r hr
  unfold tabM at hr
  rw [List.mem_map] at hr
  obtain ⟨i, _, rfl⟩ := hr
  simp
theorem tabM_of {m n : Nat} {f : Nat → Nat → Int} {t : List (List Int)} (hl : t.length = m) (h : ∀ i, i < m → t[i]? = some ((List.range n).map fun j => f i j)) : t = tabM m n f := by
  apply List.ext_getElem?; intro q
  by_cases hq : q < m
  · rw [h q hq, tabM_row hq]
  · rw [List.getElem?_eq_none (by omega), List.getElem?_eq_none (by rw [tabM_len]; omega)]
theorem row_of {n : Nat} {f : Nat → Int} {r : List Int} (hl : r.length = n) (h : ∀ j, j < n → r[j]? = some (f j)) : r = (List.range n).map f := by
  apply List.ext_getElem?; intro q
  by_cases hq : q < n
  · rw [h q hq, List.getElem?_map, List.getElem?_range hq]; rfl
  · rw [List.getElem?_eq_none (by omega), List.getElem?_eq_none (by simp; omega)]

theorem byRow {F n i : Nat} {en : Int → Int → Option Int} {f : Nat → Int} {ms : List (List Int)} {q : List Int} (hF : 134217728 ≤ F) (hn : n ≤ 1048576) (hen : ∀ j, j < n → en (i : Int) (j : Int) = some (f j)) (hq : ms[i]? = some q) (hql : q.length = n) :
    impl_matrixBy_L5 F en (i : Int) q F ms 0 = some (ms.set i ((List.range n).map f)) := by
  have him : i < ms.length := (List.getElem?_eq_some_iff.1 hq).1
  refine for0 (L := impl_matrixBy_L5 F en (i : Int) q) (len := q.length) (fun k t => ∃ r, t = ms.set i r ∧ r.length = n ∧ ∀ j, j < k → r[j]? = some (f j)) (R := fun o => o = some (ms.set i ((List.range n).map f))) ?_ ?_ ⟨q, (set_same hq).symm, hql, fun j hj => by omega⟩ (by omega)
  · rintro m k t hk ⟨r, rfl, hrl, h1⟩
    have hkr : k < r.length := by omega
    refine .inl ⟨ms.set i (r.set k (f k)), ?_, r.set k (f k), rfl, by rw [List.length_set]; exact hrl, fun j hj => ?_⟩
    · simp only [impl_matrixBy_L5, bdT (show (k : Int) < (q.length : Int) by omega), idx_nat, set_here him, hen k (by omega), getD_of hkr, Option.bind_some, upd_nat _ hkr, upd_nat _ (show i < (ms.set i r).length by rw [List.length_set]; exact him), List.set_set, wrN (show k ≤ 67108864 by omega)]
    · by_cases e : j = k
      · subst e; exact set_here hkr
      · rw [set_keep e]; exact h1 j (by omega)
  · rintro m t ⟨r, rfl, hrl, h1⟩
    simp only [impl_matrixBy_L5, bdF (show ¬ (q.length : Int) < (q.length : Int) by omega)]
    rw [row_of hrl (fun j hj => h1 j (by omega))]
theorem matrixBy_is {F m n : Nat} {en : Int → Int → Option Int} {f : Nat → Nat → Int} (hF : 134217728 ≤ F) (hm : m ≤ 1048576) (hn : n ≤ 1048576) (hen : ∀ i j, i < m → j < n → en (i : Int) (j : Int) = some (f i j)) : impl_matrixBy F (m : Int) (n : Int) en = some (tabM m n f) := by
  unfold impl_matrixBy
  rw [mk_nat _ (by omega)]
  simp only [Option.bind_some]
  have H := for0 (L := impl_matrixBy_L4 F (n : Int) en (List.replicate m [])) (len := m) (fun k t => t.length = m ∧ ∀ i, i < k → t[i]? = some ((List.range n).map fun j => f i j)) (R := fun o => o = some (tabM m n f)) (s := List.replicate m []) (n := F) ?_ ?_ ⟨by simp, fun i hi => by omega⟩ (by omega)
  · rw [H]; rfl
  · rintro q k t hk ⟨hl, h1⟩
    have hkt : k < t.length := by omega
    have hmk : mk (n : Int) (0 : Int) = some (List.replicate n 0) := mk_nat _ (by omega)
    have ht : t[k]? = some t[k] := List.getElem?_eq_getElem hkt
    have hrow := byRow (F := F) (n := n) (i := k) (en := en) (f := fun j => f k j) (ms := t.set k (List.replicate n 0)) (q := List.replicate n 0) hF hn (fun j hj => hen k j hk hj) (set_here hkt) (by simp)
    refine .inl ⟨t.set k ((List.range n).map fun j => f k j), ?_, by rw [List.length_set]; exact hl, fun i hi => ?_⟩
    · rw [List.set_set] at hrow
      simp only [impl_matrixBy_L4, List.length_replicate, bdT (show (k : Int) < (m : Int) by omega), hmk, idx_nat, ht, Option.bind_some, upd_nat _ hkt, set_here hkt, hrow, wrN (show k ≤ 67108864 by omega)]
    · by_cases e : i = k
      · subst e; exact set_here hkt
      · rw [set_keep e]; exact h1 i (by omega)
  · rintro q t ⟨hl, h1⟩
    simp only [impl_matrixBy_L4, List.length_replicate, bdF (show ¬ (m : Int) < (m : Int) by omega)]
    rw [tabM_of hl h1]

theorem specBotM_is {F m n : Nat} (hF : 134217728 ≤ F) (hm : m ≤ 1048576) (hn : n ≤ 1048576) : spec_l02Bottom F (m : Int) (n : Int) = some (tabM m n fun _ _ => (-1000000000000000)) := by
  unfold spec_l02Bottom
  rw [tab_loop (len := m) (f := fun _ => (List.range n).map fun _ => (-1000000000000000)) (L := spec_l02Bottom_L4 F (m : Int) (n : Int)) ?_ ?_ (by omega)]
  · rfl
  · intro k xs j hj hx
    have inner : spec_l02Bottom_L5 F (n : Int) F [] 0 = some ((List.range n).map fun _ => (-1000000000000000)) := by
      refine tab_loop (len := n) (f := fun _ => (-1000000000000000)) (L := spec_l02Bottom_L5 F (n : Int)) ?_ ?_ (by omega)
      · intro k xs j hj hx
        simp only [spec_l02Bottom_L5, bdT (show (j : Int) < (n : Int) by omega), app_le (show xs.length + [(-1000000000000000 : Int)].length ≤ 67108864 by simp only [List.length_singleton]; omega), Option.bind_some, wrN (show j ≤ 67108864 by omega)]
      · intro k xs _
        simp only [spec_l02Bottom_L5, bdF (show ¬ (n : Int) < (n : Int) by omega)]
    simp only [spec_l02Bottom_L4, bdT (show (j : Int) < (m : Int) by omega), inner, app_le (show xs.length + [(List.range n).map fun _ => (-1000000000000000 : Int)].length ≤ 67108864 by simp only [List.length_singleton]; omega), Option.bind_some, wrN (show j ≤ 67108864 by omega)]
  · intro k xs _
    simp only [spec_l02Bottom_L4, bdF (show ¬ (m : Int) < (m : Int) by omega)]

def unitM (n : Nat) : List (List Int) := tabM n n fun i j => if i = j then 0 else (-1000000000000000)
theorem specUnit_is {F n : Nat} (hF : 134217728 ≤ F) (hn : n ≤ 1048576) : spec_l02Unit F (n : Int) = some (unitM n) := by
  unfold spec_l02Unit
  rw [bind_of (specBotM_is hF hn hn)]
  have H := for0 (L := spec_l02Unit_L1 F (n : Int)) (len := n) (fun k t => t.length = n ∧ (∀ i, i < k → t[i]? = some ((List.range n).map fun j => if i = j then 0 else (-1000000000000000))) ∧ ∀ i, k ≤ i → i < n → t[i]? = some ((List.range n).map fun _ => (-1000000000000000))) (R := fun o => o = some (unitM n)) (s := tabM n n fun _ _ => (-1000000000000000)) (n := F) ?_ ?_ ⟨tabM_len _ _ _, fun i hi => by omega, fun i _ hi => tabM_row hi⟩ (by omega)
  · rw [H]; rfl
  · rintro q k t hk ⟨hl, h1, h2⟩
    have hkt : k < t.length := by omega
    have hrow := h2 k (Nat.le_refl _) hk
    have hc : ((List.range n).map fun _ => (-1000000000000000 : Int))[k]? = some (-1000000000000000) := by rw [List.getElem?_map, List.getElem?_range hk]; rfl
    refine .inl ⟨t.set k (((List.range n).map fun _ => (-1000000000000000 : Int)).set k 0), ?_, by rw [List.length_set]; exact hl, fun i hi => ?_, fun i hi hin => ?_⟩
    · simp only [spec_l02Unit_L1, bdT (show (k : Int) < (n : Int) by omega), idx_nat, hrow, hc, Option.bind_some, upd_nat _ (show k < ((List.range n).map fun _ => (-1000000000000000 : Int)).length by simpa using hk), upd_nat _ hkt, wrN (show k ≤ 67108864 by omega)]
    · by_cases e : i = k
      · subst e
        rw [set_here hkt]
        refine congrArg some (row_of (by simp) (fun j hj => ?_))
        by_cases e2 : j = i
        · subst e2; rw [set_here (by simpa using hj), if_pos rfl]
        · rw [set_keep e2, List.getElem?_map, List.getElem?_range hj, if_neg (Ne.symm e2)]; rfl
      · rw [set_keep e]; exact h1 i (by omega)
    · rw [set_keep (by omega)]; exact h2 i (by omega) hin
  · rintro q t ⟨hl, h1, _⟩
    simp only [spec_l02Unit_L1, bdF (show ¬ (n : Int) < (n : Int) by omega)]
    rw [tabM_of hl h1]; rfl
theorem implUnit_is {F n : Nat} (hF : 134217728 ≤ F) (hn : n ≤ 1048576) : impl_unitMatrix F (n : Int) = some (unitM n) := by
  unfold impl_unitMatrix
  rw [matrixBy_is (f := fun i j => if i = j then 0 else (-1000000000000000)) hF hn hn (fun i j _ _ => ?_)]
  · rfl
  · show impl_unitMatrix_c1 F (i : Int) (j : Int) = _
    unfold impl_unitMatrix_c1
    by_cases e : i = j
    · subst e; rw [beq_self_eq_true, if_pos rfl]; rfl
    · rw [beq_false_of_ne (show (i : Int) ≠ (j : Int) by omega), if_neg e]; rfl

/-! ### Products -/
def dotM (a b : List (List Int)) (i j : Nat) (k : Nat) : Int := (List.range k).foldl (fun acc q => max acc (tms ((a.getD i []).getD q 0) ((b.getD q []).getD j 0))) (-1000000000000000)
theorem dotM_succ (a b : List (List Int)) (i j k : Nat) : dotM a b i j (k + 1) = max (dotM a b i j k) (tms ((a.getD i []).getD k 0) ((b.getD k []).getD j 0)) := by
  unfold dotM; rw [List.range_succ, List.foldl_append]; rfl
def mulM (a b : List (List Int)) (n : Nat) : List (List Int) := tabM a.length n fun i j => dotM a b i j b.length
theorem rowG {t : List (List Int)} {k : Nat} (h : k < t.length) : t[k]? = some (t.getD k []) := by
  rw [List.getD_eq_getElem?_getD, List.getElem?_eq_getElem h]; rfl
theorem specMulCell {F n i j : Nat} {a b ms : List (List Int)} {row : List Int} (hF : 134217728 ≤ F) (hb : b.length ≤ 1048576) (ha : ∀ r, r ∈ a → r.length = b.length) (hbr : ∀ r, r ∈ b → r.length = n) (hi : i < a.length) (hj : j < n) (hm : ms[i]? = some row) (hrl : row.length = n) (hc : row[j]? = some (-1000000000000000)) :
    spec_l02Multiply_L21 F a b (i : Int) (j : Int) F ms 0 = some (ms.set i (row.set j (dotM a b i j b.length))) := by
  have him : i < ms.length := (List.getElem?_eq_some_iff.1 hm).1
  refine for0 (L := spec_l02Multiply_L21 F a b (i : Int) (j : Int)) (len := b.length) (fun k t => t = ms.set i (row.set j (dotM a b i j k))) (R := fun o => o = some (ms.set i (row.set j (dotM a b i j b.length)))) ?_ ?_ ?_ (by omega)
  · rintro q k t hk rfl
    have hjr : j < row.length := by omega
    have har := rowG hi
    have hal := ha _ (List.mem_of_getElem? har)
    have hbk := rowG hk
    have hbl := hbr _ (List.mem_of_getElem? hbk)
    refine .inl ⟨_, ?_, rfl⟩
    simp only [spec_l02Multiply_L21, bdT (show (k : Int) < (b.length : Int) by omega), idx_nat, set_here him, set_here hjr, har, hbk, getD_of (show k < (a.getD i []).length by omega), getD_of (show j < (b.getD k []).length by omega), Option.bind_some, specTimes_is, upd_nat _ (show j < (row.set j (dotM a b i j k)).length by rw [List.length_set]; exact hjr), upd_nat _ (show i < (ms.set i (row.set j (dotM a b i j k))).length by rw [List.length_set]; exact him), List.set_set, dotM_succ, wrN (show k ≤ 67108864 by omega)]
  · rintro q t rfl
    simp only [spec_l02Multiply_L21, bdF (show ¬ (b.length : Int) < (b.length : Int) by omega)]
  · show ms = ms.set i (row.set j (-1000000000000000))
    rw [set_same hc, set_same hm]
theorem specMulRow {F n i : Nat} {a b ms : List (List Int)} {row : List Int} (hF : 134217728 ≤ F) (hb0 : 0 < b.length) (hb : b.length ≤ 1048576) (hn : n ≤ 1048576) (ha : ∀ r, r ∈ a → r.length = b.length) (hbr : ∀ r, r ∈ b → r.length = n) (hi : i < a.length) (hm : ms[i]? = some row) (hrl : row.length = n) (hc : ∀ j, j < n → row[j]? = some (-1000000000000000)) :
    spec_l02Multiply_L20 F a b (i : Int) F ms 0 = some (ms.set i ((List.range n).map fun j => dotM a b i j b.length)) := by
  have him : i < ms.length := (List.getElem?_eq_some_iff.1 hm).1
  have h0 : idx b 0 = some (b.getD 0 []) := (idx_nat b 0).trans (rowG hb0)
  have hl0 : (b.getD 0 []).length = n := hbr _ (List.mem_of_getElem? (rowG hb0))
  refine for0 (L := spec_l02Multiply_L20 F a b (i : Int)) (len := n) (fun k t => ∃ r, t = ms.set i r ∧ r.length = n ∧ (∀ j, j < k → r[j]? = some (dotM a b i j b.length)) ∧ ∀ j, k ≤ j → j < n → r[j]? = some (-1000000000000000)) (R := fun o => o = some (ms.set i ((List.range n).map fun j => dotM a b i j b.length))) ?_ ?_ ⟨row, (set_same hm).symm, hrl, fun j hj => by omega, fun j _ hj => hc j hj⟩ (by omega)
  · rintro q k t hk ⟨r, rfl, hl, h1, h2⟩
    have hkr : k < r.length := by omega
    have hcell := specMulCell (F := F) (ms := ms.set i r) hF hb ha hbr hi hk (set_here him) hl (h2 k (Nat.le_refl _) hk)
    rw [List.set_set] at hcell
    refine .inl ⟨ms.set i (r.set k (dotM a b i k b.length)), ?_, r.set k (dotM a b i k b.length), rfl, by rw [List.length_set]; exact hl, fun j hj => ?_, fun j hj hjn => ?_⟩
    · simp only [spec_l02Multiply_L20, h0, Option.bind_some, bdT (show (k : Int) < ((b.getD 0 []).length : Int) by omega), hcell, wrN (show k ≤ 67108864 by omega)]
    · by_cases e : j = k
      · subst e; exact set_here hkr
      · rw [set_keep e]; exact h1 j (by omega)
    · rw [set_keep (by omega)]; exact h2 j (by omega) hjn
  · rintro q t ⟨r, rfl, hl, h1, _⟩
    simp only [spec_l02Multiply_L20, h0, Option.bind_some, bdF (show ¬ (n : Int) < ((b.getD 0 []).length : Int) by omega)]
    rw [row_of hl h1]
theorem specMul_is {F n : Nat} {a b : List (List Int)} (hF : 134217728 ≤ F) (hal : a.length ≤ 1048576) (hb0 : 0 < b.length) (hb : b.length ≤ 1048576) (hn : n ≤ 1048576) (ha : ∀ r, r ∈ a → r.length = b.length) (hbr : ∀ r, r ∈ b → r.length = n) : spec_l02Multiply F a b = some (mulM a b n) := by
  have h0 : idx b 0 = some (b.getD 0 []) := (idx_nat b 0).trans (rowG hb0)
  have hl0 : (b.getD 0 []).length = n := hbr _ (List.mem_of_getElem? (rowG hb0))
  unfold spec_l02Multiply
  rw [bind_of h0, hl0, bind_of (specBotM_is hF hal hn)]
  have H := for0 (L := spec_l02Multiply_L16 F a b) (len := a.length) (fun k t => t.length = a.length ∧ (∀ i, i < k → t[i]? = some ((List.range n).map fun j => dotM a b i j b.length)) ∧ ∀ i, k ≤ i → i < a.length → t[i]? = some ((List.range n).map fun _ => (-1000000000000000))) (R := fun o => o = some (mulM a b n)) (s := tabM a.length n fun _ _ => (-1000000000000000)) (n := F) ?_ ?_ ⟨tabM_len _ _ _, fun i hi => by omega, fun i _ hi => tabM_row hi⟩ (by omega)
  · rw [H]; rfl
  · rintro q k t hk ⟨hl, h1, h2⟩
    have hkt : k < t.length := by omega
    have hrow := specMulRow (F := F) (ms := t) hF hb0 hb hn ha hbr hk (h2 k (Nat.le_refl _) hk) (by simp) (fun j hj => by rw [List.getElem?_map, List.getElem?_range hj]; rfl)
    refine .inl ⟨t.set k ((List.range n).map fun j => dotM a b k j b.length), ?_, by rw [List.length_set]; exact hl, fun i hi => ?_, fun i hi hin => ?_⟩
    · simp only [spec_l02Multiply_L16, bdT (show (k : Int) < (a.length : Int) by omega), hrow, Option.bind_some, wrN (show k ≤ 67108864 by omega)]
    · by_cases e : i = k
      · subst e; exact set_here hkt
      · rw [set_keep e]; exact h1 i (by omega)
    · rw [set_keep (by omega)]; exact h2 i (by omega) hin
  · rintro q t ⟨hl, h1, _⟩
    simp only [spec_l02Multiply_L16, bdF (show ¬ (a.length : Int) < (a.length : Int) by omega)]
    rw [tabM_of hl h1]; rfl
theorem implMul_is {F n : Nat} {a b : List (List Int)} (hF : 134217728 ≤ F) (hal : a.length ≤ 1048576) (hb0 : 0 < b.length) (hb : b.length ≤ 1048576) (hn : n ≤ 1048576) (ha : ∀ r, r ∈ a → r.length = b.length) (hbr : ∀ r, r ∈ b → r.length = n) : impl_multiply F a b = some (mulM a b n) := by
  have h0 : idx b 0 = some (b.getD 0 []) := (idx_nat b 0).trans (rowG hb0)
  have hl0 : (b.getD 0 []).length = n := hbr _ (List.mem_of_getElem? (rowG hb0))
  unfold impl_multiply
  rw [bind_of h0, hl0, matrixBy_is (f := fun i j => dotM a b i j b.length) hF hal hn (fun i j hi hj => ?_)]
  · rfl
  · show impl_multiply_c1 F (i : Int) (j : Int) a b = _
    have har := rowG hi
    have hrl := ha _ (List.mem_of_getElem? har)
    unfold impl_multiply_c1
    rw [idx_nat, har]
    simp only [Option.bind_some]
    have H := for0 (L := impl_multiply_c1_L1 F (j : Int) b (a.getD i [])) (len := b.length) (fun k s => s = dotM a b i j k) (R := fun o => o = some (dotM a b i j b.length)) (s := -1000000000000000) (n := F) ?_ ?_ rfl (by omega)
    · rw [H]; rfl
    · rintro q k s hk rfl
      have hbk := rowG hk
      have hbl := hbr _ (List.mem_of_getElem? hbk)
      refine .inl ⟨_, ?_, rfl⟩
      simp only [impl_multiply_c1_L1, bdT (show (k : Int) < ((a.getD i []).length : Int) by omega), idx_nat, hbk, getD_of (show k < (a.getD i []).length by omega), getD_of (show j < (b.getD k []).length by omega), Option.bind_some, implTimes_is, dotM_succ, wrN (show k ≤ 67108864 by omega)]
    · rintro q s rfl
      simp only [impl_multiply_c1_L1, bdF (show ¬ (b.length : Int) < ((a.getD i []).length : Int) by omega)]
theorem mulM_len (a b : List (List Int)) (n : Nat) : (mulM a b n).length = a.length := tabM_len _ _ _
theorem mulM_rows {a b : List (List Int)} {n : Nat} : ∀ r, r ∈ mulM a b n → r.length = n := tabM_rows

def valsM (a : List (List Int)) : Bool := a.all fun r => r.all valB
theorem implChecked_is {F : Nat} {a : List (List Int)} (hF : 134217728 ≤ F) (hl : a.length ≤ 1048576) (hr : ∀ r, r ∈ a → r.length ≤ 1048576) : impl_checkedMatrix F a = some (bif valsM a then (a, 0) else ([], 3)) := by
  unfold impl_checkedMatrix valsM
  rw [slices_ContainsFunc_sint64_is (h := fun r => !(r.all valB)) hF (by omega) (fun r hm => show impl_checkedMatrix_c1 F r = _ by simp only [impl_checkedMatrix_c1, implAll_is hF (hr r hm), Option.bind_some])]
  simp only [Option.bind_some, any_not]
  cases a.all (fun r => r.all valB) <;> rfl

/-! ### Modes -/
def firstN (ms : List (List (List Int))) : Int := ((ms.getD 0 []).length : Int)
def modesB (ms : List (List (List Int))) : Bool := inB ms.length 1 4 && ms.all fun m => squareB m && ((m.length : Int) == firstN ms)
theorem firstM_is {ms : List (List (List Int))} (h : 0 < ms.length) : idx ms 0 = some (ms.getD 0 []) := by
  rw [show (0 : Int) = ((0 : Nat) : Int) from rfl, idx_nat, List.getD_eq_getElem?_getD, List.getElem?_eq_getElem h]; rfl
theorem specModes_is {F : Nat} {ms : List (List (List Int))} (hF : 134217728 ≤ F) (hl : ms.length ≤ 1048576) (hr : ∀ m, m ∈ ms → ∀ row, row ∈ m → row.length ≤ 1048576) : spec_AreModes F ms = some (modesB ms) := by
  unfold spec_AreModes modesB
  simp only [cond_or, Option.bind_some]
  by_cases h : (1 : Int) ≤ ms.length ∧ (ms.length : Int) ≤ 4
  · have c1 : (decide ((ms.length : Int) < 1) || decide (4 < (ms.length : Int))) = false := by simp; omega
    rw [bF c1, inB_true.2 h, Bool.true_and]
    rw [all_loop (ps := ms) (g := fun m => squareB m && ((m.length : Int) == firstN ms)) (r := false) (L := spec_AreModes_L1 F ms) ?_ ?_ (by omega)]
    · cases ms.all (fun m => squareB m && ((m.length : Int) == firstN ms)) <;> rfl
    · intro n k m hk hx
      simp only [spec_AreModes_L1, bdT (show (k : Int) < (ms.length : Int) by omega), idx_nat, hx, firstM_is (show 0 < ms.length by omega), Option.bind_some, specSquare_is hF (hr m (List.mem_of_getElem? hx)), wrN (show k ≤ 67108864 by omega), bne, firstN]
      cases squareB m <;> cases ((m.length : Int) == ((ms.getD 0 []).length : Int)) <;> rfl
    · intro n
      simp only [spec_AreModes_L1, bdF (show ¬ (ms.length : Int) < (ms.length : Int) by omega)]
  · have c1 : (decide ((ms.length : Int) < 1) || decide (4 < (ms.length : Int))) = true := by simp; omega
    rw [bT c1, inB_false h]; rfl
theorem implModes_is {F : Nat} {ms : List (List (List Int))} (hF : 134217728 ≤ F) (hl : ms.length ≤ 1048576) (hr : ∀ m, m ∈ ms → ∀ row, row ∈ m → row.length ≤ 1048576) : impl_AreModes F ms = some (modesB ms) := by
  unfold impl_AreModes modesB
  simp only [within_is, Option.bind_some]
  by_cases h : (1 : Int) ≤ ms.length ∧ (ms.length : Int) ≤ 4
  · have h0 := firstM_is (ms := ms) (by omega)
    rw [inB_true.2 h]
    simp only [cond_true, Bool.true_and]
    rw [slices_ContainsFunc_ssint64_is (h := fun m => !(squareB m && ((m.length : Int) == firstN ms))) hF (show ms.length ≤ 16777216 by omega) (fun m hm => ?_)]
    · simp only [Option.bind_some, any_not, Bool.not_not]
    · show impl_AreModes_c1 F m ms = _
      simp only [impl_AreModes_c1, h0, Option.bind_some, implSquare_is hF (hr m hm), bne, firstN]
      cases squareB m <;> cases ((m.length : Int) == ((ms.getD 0 []).length : Int)) <;> rfl
  · rw [inB_false h]; rfl
/-- all matrices are squares of one size -/
theorem modesB_true {ms : List (List (List Int))} (h : modesB ms = true) : ∃ n : Nat, (ms.getD 0 []).length = n ∧ 1 ≤ n ∧ n ≤ 10 ∧ 1 ≤ ms.length ∧ ms.length ≤ 4 ∧ ∀ m, m ∈ ms → m.length = n ∧ ∀ row, row ∈ m → row.length = n := by
  unfold modesB at h
  rw [Bool.and_eq_true, inB_true, List.all_eq_true] at h
  have hm : ms.getD 0 [] ∈ ms := by
    rw [List.getD_eq_getElem?_getD, List.getElem?_eq_getElem (show 0 < ms.length by omega)]; exact List.getElem_mem _
  have sq : ∀ m, squareB m = true → 1 ≤ m.length ∧ m.length ≤ 10 ∧ ∀ row, row ∈ m → row.length = m.length := by
    intro m hs
    unfold squareB matB at hs
    simp only [Bool.and_eq_true, inB_true, beq_iff_eq, List.all_eq_true] at hs
    refine ⟨by omega, by omega, fun row hrow => ?_⟩
    have := (hs.1.2 row hrow).2
    omega
  have h0 := h.2 _ hm
  rw [Bool.and_eq_true] at h0
  obtain ⟨a1, a2, _⟩ := sq _ h0.1
  refine ⟨_, rfl, a1, a2, by omega, by omega, fun m hmm => ?_⟩
  have h2 := h.2 m hmm
  rw [Bool.and_eq_true, beq_iff_eq] at h2
  unfold firstN at h2
  obtain ⟨_, _, b3⟩ := sq _ h2.1
  exact ⟨by omega, fun row hrow => by rw [b3 row hrow]; omega⟩

/-! ### Words -/
theorem specWithin_is {F : Nat} {xs : List Int} {most lo hi : Int} (hF : 134217728 ≤ F) (hl : xs.length ≤ 1048576) : spec_l01Within F xs most lo hi = some ((xs.all fun x => inB x lo hi) && decide ((xs.length : Int) ≤ most)) := by
  unfold spec_l01Within
  rw [all_loop (ps := xs) (g := fun x => inB x lo hi) (r := false) (L := spec_l01Within_L1 F xs lo hi) ?_ ?_ (by omega)]
  · cases xs.all (fun x => inB x lo hi) <;> rfl
  · intro n k x hk hx
    simp only [spec_l01Within_L1, bdT (show (k : Int) < (xs.length : Int) by omega), idx_nat, hx, Option.bind_some, specIn_is, condn, wrN (show k ≤ 67108864 by omega)]
  · intro n
    simp only [spec_l01Within_L1, bdF (show ¬ (xs.length : Int) < (xs.length : Int) by omega)]
def wordB (ms : List (List (List Int))) (w : List Int) : Bool := (w.all fun x => inB x 0 (IntKind.i64.wrap ((ms.length : Int) - 1))) && decide ((w.length : Int) ≤ 6)
theorem specWord_is {F : Nat} {ms : List (List (List Int))} {w : List Int} (hF : 134217728 ≤ F) (hl : w.length ≤ 1048576) : spec_l25Word F ms w = some (wordB ms w) := by
  unfold spec_l25Word
  rw [specWithin_is hF hl]; rfl
theorem implWord_is {F : Nat} {ms : List (List (List Int))} {w : List Int} (hF : 134217728 ≤ F) (hl : w.length ≤ 1048576) : impl_isWord F ms w = some (wordB ms w) := by
  unfold impl_isWord wordB
  simp only [implAllWithin_is hF hl, Option.bind_some]
  cases decide ((w.length : Int) ≤ 6) <;> cases (w.all fun x => inB x 0 (IntKind.i64.wrap ((ms.length : Int) - 1))) <;> rfl
theorem wordB_at {ms : List (List (List Int))} {w : List Int} (h : wordB ms w = true) (hm : 1 ≤ ms.length) (hm4 : ms.length ≤ 4) : w.length ≤ 6 ∧ ∀ k (hk : k < w.length), ∃ j : Nat, w[k] = (j : Int) ∧ j < ms.length := by
  unfold wordB at h
  simp only [Bool.and_eq_true, List.all_eq_true, inB_true, decide_eq_true_eq] at h
  refine ⟨by omega, fun k hk => ?_⟩
  have := h.1 _ (List.getElem_mem hk)
  rw [wr (by omega) (by omega)] at this
  exact ⟨(w[k]).toNat, by omega, by omega⟩

end Go.Proofs.Ytcpfhonmmpbadaa
