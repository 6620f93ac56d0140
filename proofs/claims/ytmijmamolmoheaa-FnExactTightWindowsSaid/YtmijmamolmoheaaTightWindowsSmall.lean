/- Plain lemmas about the small functions of the laws. -/
import Derived.Test.YtmijmamolmoheaaTightWindowsModels
import Derived.Test.YtmijmamolmoheaaDfs
namespace Go.Proofs.Ytmijmamolmoheaa

def toP_Window (p : LWindow) : GWindow := ⟨p.Low, p.High⟩
theorem szWindowS_is {F : Nat} {ps : List LWindow} {left : Int} (h0 : 0 ≤ left) (h1 : left ≤ 1048576) (h : ps.length ≤ 9223372036854775807) : ∃ r, laws_szWindowS F ps left = some r ∧ (r < 0 ∨ (0 ≤ r ∧ r + ps.length = left)) := by
  unfold laws_szWindowS
  rw [wr (by omega) (by omega)]
  by_cases hc : left - (ps.length : Int) < 0
  · exact ⟨-1, by rw [bdT hc], .inl (by decide)⟩
  · exact ⟨left - ps.length, by rw [bdF hc], .inr ⟨by omega, by omega⟩⟩
theorem toWindowS_is {F : Nat} {ps : List LWindow} (hF : 134217728 ≤ F) (h : ps.length ≤ 1048576) : laws_toWindowS F ps = some (ps.map toP_Window) := by
  unfold laws_toWindowS
  rw [mk_nat _ (by omega)]
  simp only [Option.bind_some]
  rw [fill_loop (ps := ps) (f := toP_Window) (L := laws_toWindowS_L1 F ps) ?_ ?_ (by simp) (by omega)]; rfl
  · intro n xs k x hk hx hl
    have hk' : k < xs.length := by omega
    have hq : xs[k]? = some xs[k] := List.getElem?_eq_getElem hk'
    simp only [laws_toWindowS_L1, bdT (show (k : Int) < (ps.length : Int) by omega), idx_nat, hx, hq, laws_toWindow, Option.bind_some, upd_nat, hk', wrN (show k ≤ 67108864 by omega), toP_Window]
  · intro n xs
    simp only [laws_toWindowS_L1, bdF (show ¬ (ps.length : Int) < (ps.length : Int) by omega)]
theorem eqWindow_same {F : Nat} (x : GWindow) : laws_eqWindow F x x = some true := by
  simp only [laws_eqWindow, bne_self_eq_false, cond_false]
theorem eqWindowS_same {F : Nat} {xs : List GWindow} (hF : 134217728 ≤ F) (h : xs.length ≤ 16777216) : laws_eqWindowS F xs xs = some true := by
  unfold laws_eqWindowS
  rw [bF (neF rfl), same_loop (L := laws_eqWindowS_L1 F xs xs) (len := xs.length) ?_ ?_ (by omega)]; rfl
  · intro n k hk
    have hq : xs[k]? = some xs[k] := List.getElem?_eq_getElem hk
    simp only [laws_eqWindowS_L1, bdT (show (k : Int) < (xs.length : Int) by omega), idx_nat, hq, Option.bind_some, eqWindow_same, Bool.not_true, cond_false, wrN (show k ≤ 67108864 by omega)]
  · intro n
    simp only [laws_eqWindowS_L1, bdF (show ¬ (xs.length : Int) < (xs.length : Int) by omega)]
def mrk_Window (k : Int) (i : Nat) : GWindow := ⟨k + 2 * (i : Int), k + 2 * (i : Int) + 1⟩
theorem markWindowS_is {F : Nat} {ps : List GWindow} {k : Int} (hF : 134217728 ≤ F) (h : ps.length ≤ 16777216) (h0 : 0 ≤ k) (h1 : k ≤ 1000000000000) :
    ∃ ms, laws_markWindowS F ps k = some (k + 2 * (ps.length : Int), ms) ∧ ms.length = ps.length ∧ ∀ i, i < ps.length → ms[i]? = some (mrk_Window k i) := by
  have H := for0 (L := fun n (s : List GWindow × Int) i => laws_markWindowS_L1 F n s.1 s.2 i) (len := ps.length) (fun j s => s.1.length = ps.length ∧ s.2 = k + 2 * (j : Int) ∧ ∀ i, i < j → s.1[i]? = some (mrk_Window k i))
    (R := fun r => ∃ ms, r = some (ms, k + 2 * (ps.length : Int)) ∧ ms.length = ps.length ∧ ∀ i, i < ps.length → ms[i]? = some (mrk_Window k i)) (s := (ps, k)) (n := F) ?_ ?_ ⟨rfl, by simp, by intro i hi; omega⟩ (by omega)
  · obtain ⟨ms, he, hl, hi⟩ := H
    refine ⟨ms, ?_, hl, hi⟩
    unfold laws_markWindowS
    rw [bind_of he]
  · rintro n j ⟨xs, s⟩ hj ⟨hl, hs, hi⟩
    simp only at hl hs hi
    subst hs
    have hk' : j < xs.length := by omega
    have hq : xs[j]? = some xs[j] := List.getElem?_eq_getElem hk'
    have w1 : IntKind.i64.wrap (k + 2 * (j : Int) + 1) = k + 2 * (j : Int) + 1 := wr (by omega) (by omega)
    have w2 : IntKind.i64.wrap (k + 2 * (j : Int) + 1 + 1) = k + 2 * (j : Int) + 1 + 1 := wr (by omega) (by omega)
    refine .inl ⟨(xs.set j (mrk_Window k j), k + 2 * (j : Int) + 1 + 1), ?_, by rw [List.length_set]; exact hl, by simp only; omega, ?_⟩
    · simp only [laws_markWindowS_L1, bdT (show (j : Int) < (xs.length : Int) by omega), idx_nat, hq, Option.bind_some, upd_nat, hk', set_here, List.length_set, List.set_set, wrN (show j ≤ 67108864 by omega), w1, w2, mrk_Window]
    · intro i hij
      by_cases e : i = j
      · subst e; exact set_here hk'
      · simp only; rw [set_keep e]; exact hi i (by omega)
  · rintro n ⟨xs, s⟩ ⟨hl, hs, hi⟩
    simp only at hl hs hi
    refine ⟨xs, ?_, hl, hi⟩
    simp only [laws_markWindowS_L1, bdF (show ¬ (ps.length : Int) < (xs.length : Int) by omega), hs]
theorem heldWindowS_is {F : Nat} {ms : List GWindow} {k : Int} (hF : 134217728 ≤ F) (h : ms.length ≤ 16777216) (h0 : 0 ≤ k) (h1 : k ≤ 1000000000000) (hm : ∀ i, i < ms.length → ms[i]? = some (mrk_Window k i)) :
    laws_heldWindowS F ms k = some (k + 2 * (ms.length : Int)) := by
  unfold laws_heldWindowS
  rw [show laws_heldWindowS_L1 F ms F k 0 = some (.inr (k + 2 * (ms.length : Int))) from ?_]; rfl
  refine for0 (L := fun n (s : Int) i => laws_heldWindowS_L1 F ms n s i) (len := ms.length) (fun j s => s = k + 2 * (j : Int)) (R := fun r => r = some (.inr (k + 2 * (ms.length : Int)))) ?_ ?_ (by simp) (by omega)
  · rintro n j s hj rfl
    have w1 : IntKind.i64.wrap (k + 2 * (j : Int) + 1) = k + 2 * (j : Int) + 1 := wr (by omega) (by omega)
    have w2 : IntKind.i64.wrap (k + 2 * (j : Int) + 1 + 1) = k + 2 * (j : Int) + 1 + 1 := wr (by omega) (by omega)
    refine .inl ⟨k + 2 * (j : Int) + 1 + 1, ?_, by omega⟩
    simp only [laws_heldWindowS_L1, bdT (show (j : Int) < (ms.length : Int) by omega), idx_nat, hm j hj, Option.bind_some, wrN (show j ≤ 67108864 by omega), w1, w2, mrk_Window, bne_self_eq_false, cond_false]
  · rintro n s rfl
    simp only [laws_heldWindowS_L1, bdF (show ¬ (ms.length : Int) < (ms.length : Int) by omega)]

def toP_Bond (p : LBond) : GBond := ⟨p.From, p.To, p.Least⟩
theorem szBondS_is {F : Nat} {ps : List LBond} {left : Int} (h0 : 0 ≤ left) (h1 : left ≤ 1048576) (h : ps.length ≤ 9223372036854775807) : ∃ r, laws_szBondS F ps left = some r ∧ (r < 0 ∨ (0 ≤ r ∧ r + ps.length = left)) := by
  unfold laws_szBondS
  rw [wr (by omega) (by omega)]
  by_cases hc : left - (ps.length : Int) < 0
  · exact ⟨-1, by rw [bdT hc], .inl (by decide)⟩
  · exact ⟨left - ps.length, by rw [bdF hc], .inr ⟨by omega, by omega⟩⟩
theorem toBondS_is {F : Nat} {ps : List LBond} (hF : 134217728 ≤ F) (h : ps.length ≤ 1048576) : laws_toBondS F ps = some (ps.map toP_Bond) := by
  unfold laws_toBondS
  rw [mk_nat _ (by omega)]
  simp only [Option.bind_some]
  rw [fill_loop (ps := ps) (f := toP_Bond) (L := laws_toBondS_L1 F ps) ?_ ?_ (by simp) (by omega)]; rfl
  · intro n xs k x hk hx hl
    have hk' : k < xs.length := by omega
    have hq : xs[k]? = some xs[k] := List.getElem?_eq_getElem hk'
    simp only [laws_toBondS_L1, bdT (show (k : Int) < (ps.length : Int) by omega), idx_nat, hx, hq, laws_toBond, Option.bind_some, upd_nat, hk', wrN (show k ≤ 67108864 by omega), toP_Bond]
  · intro n xs
    simp only [laws_toBondS_L1, bdF (show ¬ (ps.length : Int) < (ps.length : Int) by omega)]
theorem eqBond_same {F : Nat} (x : GBond) : laws_eqBond F x x = some true := by
  simp only [laws_eqBond, bne_self_eq_false, cond_false]
theorem eqBondS_same {F : Nat} {xs : List GBond} (hF : 134217728 ≤ F) (h : xs.length ≤ 16777216) : laws_eqBondS F xs xs = some true := by
  unfold laws_eqBondS
  rw [bF (neF rfl), same_loop (L := laws_eqBondS_L1 F xs xs) (len := xs.length) ?_ ?_ (by omega)]; rfl
  · intro n k hk
    have hq : xs[k]? = some xs[k] := List.getElem?_eq_getElem hk
    simp only [laws_eqBondS_L1, bdT (show (k : Int) < (xs.length : Int) by omega), idx_nat, hq, Option.bind_some, eqBond_same, Bool.not_true, cond_false, wrN (show k ≤ 67108864 by omega)]
  · intro n
    simp only [laws_eqBondS_L1, bdF (show ¬ (xs.length : Int) < (xs.length : Int) by omega)]
def mrk_Bond (k : Int) (i : Nat) : GBond := ⟨k + 3 * (i : Int), k + 3 * (i : Int) + 1, k + 3 * (i : Int) + 1 + 1⟩
theorem markBondS_is {F : Nat} {ps : List GBond} {k : Int} (hF : 134217728 ≤ F) (h : ps.length ≤ 16777216) (h0 : 0 ≤ k) (h1 : k ≤ 1000000000000) :
    ∃ ms, laws_markBondS F ps k = some (k + 3 * (ps.length : Int), ms) ∧ ms.length = ps.length ∧ ∀ i, i < ps.length → ms[i]? = some (mrk_Bond k i) := by
  have H := for0 (L := fun n (s : List GBond × Int) i => laws_markBondS_L1 F n s.1 s.2 i) (len := ps.length) (fun j s => s.1.length = ps.length ∧ s.2 = k + 3 * (j : Int) ∧ ∀ i, i < j → s.1[i]? = some (mrk_Bond k i))
    (R := fun r => ∃ ms, r = some (ms, k + 3 * (ps.length : Int)) ∧ ms.length = ps.length ∧ ∀ i, i < ps.length → ms[i]? = some (mrk_Bond k i)) (s := (ps, k)) (n := F) ?_ ?_ ⟨rfl, by simp, by intro i hi; omega⟩ (by omega)
  · obtain ⟨ms, he, hl, hi⟩ := H
    refine ⟨ms, ?_, hl, hi⟩
    unfold laws_markBondS
    rw [bind_of he]
  · rintro n j ⟨xs, s⟩ hj ⟨hl, hs, hi⟩
    simp only at hl hs hi
    subst hs
    have hk' : j < xs.length := by omega
    have hq : xs[j]? = some xs[j] := List.getElem?_eq_getElem hk'
    have w1 : IntKind.i64.wrap (k + 3 * (j : Int) + 1) = k + 3 * (j : Int) + 1 := wr (by omega) (by omega)
    have w2 : IntKind.i64.wrap (k + 3 * (j : Int) + 1 + 1) = k + 3 * (j : Int) + 1 + 1 := wr (by omega) (by omega)
    have w3 : IntKind.i64.wrap (k + 3 * (j : Int) + 1 + 1 + 1) = k + 3 * (j : Int) + 1 + 1 + 1 := wr (by omega) (by omega)
    refine .inl ⟨(xs.set j (mrk_Bond k j), k + 3 * (j : Int) + 1 + 1 + 1), ?_, by rw [List.length_set]; exact hl, by simp only; omega, ?_⟩
    · simp only [laws_markBondS_L1, bdT (show (j : Int) < (xs.length : Int) by omega), idx_nat, hq, Option.bind_some, upd_nat, hk', set_here, List.length_set, List.set_set, wrN (show j ≤ 67108864 by omega), w1, w2, w3, mrk_Bond]
    · intro i hij
      by_cases e : i = j
      · subst e; exact set_here hk'
      · simp only; rw [set_keep e]; exact hi i (by omega)
  · rintro n ⟨xs, s⟩ ⟨hl, hs, hi⟩
    simp only at hl hs hi
    refine ⟨xs, ?_, hl, hi⟩
    simp only [laws_markBondS_L1, bdF (show ¬ (ps.length : Int) < (xs.length : Int) by omega), hs]

theorem slices_IndexFunc_Bond_is {F : Nat} {ps : List GBond} {m : GBond → Option Bool} {h : GBond → Bool} (hF : 134217728 ≤ F) (hl : ps.length ≤ 16777216) (hm : ∀ x, x ∈ ps → m x = some (h x)) :
    slices_IndexFunc_Bond F ps m = some (firstAt (ps.findIdx? h)) := by
  unfold slices_IndexFunc_Bond
  rw [find_loop (ps := ps) (h := h) (v := fun k => (k : Int)) (L := slices_IndexFunc_Bond_L1 F ps m) ?_ ?_ (by omega)]
  · cases ps.findIdx? h <;> rfl
  · intro n k x hk hx
    simp only [slices_IndexFunc_Bond_L1, bdT (show (k : Int) < (ps.length : Int) by omega), idx_nat, hx, Option.bind_some, hm x (List.mem_of_getElem? hx), wrN (show k ≤ 67108864 by omega)]
  · intro n
    simp only [slices_IndexFunc_Bond_L1, bdF (show ¬ (ps.length : Int) < (ps.length : Int) by omega)]
theorem slices_ContainsFunc_Bond_is {F : Nat} {ps : List GBond} {m : GBond → Option Bool} {h : GBond → Bool} (hF : 134217728 ≤ F) (hl : ps.length ≤ 16777216) (hm : ∀ x, x ∈ ps → m x = some (h x)) :
    slices_ContainsFunc_Bond F ps m = some (ps.any h) := by
  unfold slices_ContainsFunc_Bond
  rw [bind_of (slices_IndexFunc_Bond_is hF hl hm), find_any]

def inB (n lo hi : Int) : Bool := decide (lo ≤ n) && decide (n ≤ hi)
theorem inB_true {n lo hi : Int} : inB n lo hi = true ↔ lo ≤ n ∧ n ≤ hi := by unfold inB; simp
theorem inB_false {n lo hi : Int} (h : ¬ (lo ≤ n ∧ n ≤ hi)) : inB n lo hi = false := by
  cases e : inB n lo hi with
  | false => rfl
  | true => exact absurd (inB_true.1 e) h
theorem specIn_is {F : Nat} {n lo hi : Int} : spec_l01In F n lo hi = some (inB n lo hi) := by
  simp only [spec_l01In, cond_and, Option.bind_some]; rfl
theorem within_is {F : Nat} {n lo hi : Int} : impl_within F n lo hi = some (inB n lo hi) := by
  simp only [impl_within, cond_and, Option.bind_some]; rfl


/-! ### Sums of the algebra -/
def tms (a b : Int) : Int := bif (a == (-1000000000000000)) || (b == (-1000000000000000)) then (-1000000000000000) else IntKind.i64.wrap (a + b)
theorem specTimes_is {F : Nat} {a b : Int} : spec_l01Times F a b = some (tms a b) := by
  unfold spec_l01Times tms
  cases (a == (-1000000000000000)) <;> cases (b == (-1000000000000000)) <;> rfl
theorem implTimes_is {F : Nat} {a b : Int} : impl_times F a b = some (tms a b) := by
  unfold impl_times tms
  cases (a == (-1000000000000000)) <;> cases (b == (-1000000000000000)) <;> rfl
/-- the sum of the products -/
def dotv (c x : List Int) (n : Nat) : Int := (List.range n).foldl (fun acc i => max acc (tms (c.getD i 0) (x.getD i 0))) (-1000000000000000)

def applyv (a : List (List Int)) (x : List Int) : List Int := a.map fun row => dotv row x row.length
theorem specApply_is {F : Nat} {a : List (List Int)} {x : List Int} (hF : 134217728 ≤ F) (ha : a.length ≤ 1048576) (hx : x.length ≤ 1048576) (hr : ∀ row, row ∈ a → row.length = x.length) : spec_l02Apply F a x = some (applyv a x) := by
  unfold spec_l02Apply
  rw [grow_loop (ps := a) (g := fun row => [dotv row x row.length]) (L := spec_l02Apply_L4 F a x) (by simp) ?_ ?_ (by omega)]
  · rw [Option.bind_some, flatMap_one]; rfl
  · intro n xs k row hk hrow hxl
    have hlen := hr row (List.mem_of_getElem? hrow)
    have inner : spec_l02Apply_L5 F a x (k : Int) F (-1000000000000000) 0 = some (dotv row x row.length) := by
      rw [hlen]
      refine fold_loop (len := x.length) (f := fun acc i => max acc (tms (row.getD i 0) (x.getD i 0))) (L := spec_l02Apply_L5 F a x (k : Int)) ?_ ?_ (by omega)
      · intro n s j hj
        simp only [spec_l02Apply_L5, bdT (show (j : Int) < (x.length : Int) by omega), idx_nat, hrow, getD_of hj, getD_of (show j < row.length by omega), Option.bind_some, specTimes_is, wrN (show j ≤ 67108864 by omega)]
      · intro n s
        simp only [spec_l02Apply_L5, bdF (show ¬ (x.length : Int) < (x.length : Int) by omega)]
    simp only [spec_l02Apply_L4, bdT (show (k : Int) < (a.length : Int) by omega), inner, Option.bind_some, app_le (show xs.length + [dotv row x row.length].length ≤ 67108864 by simp only [List.length_singleton]; omega), wrN (show k ≤ 67108864 by omega)]
  · intro n xs
    simp only [spec_l02Apply_L4, bdF (show ¬ (a.length : Int) < (a.length : Int) by omega)]
theorem implApply_is {F : Nat} {a : List (List Int)} {x : List Int} (hF : 134217728 ≤ F) (ha : a.length ≤ 1048576) (hx : x.length ≤ 1048576) (hr : ∀ row, row ∈ a → row.length = x.length) : impl_timesVector F a x = some (applyv a x) := by
  unfold impl_timesVector
  rw [mk_nat _ (by omega)]
  simp only [Option.bind_some]
  rw [fill_loop (ps := a) (f := fun row => dotv row x row.length) (L := impl_timesVector_L4 F a x) ?_ ?_ (by simp) (by omega)]
  · rfl
  · intro n xs k row hk hrow hl
    have hlen := hr row (List.mem_of_getElem? hrow)
    have hk' : k < xs.length := by omega
    have hq : xs[k]? = some xs[k] := List.getElem?_eq_getElem hk'
    have inner : impl_timesVector_L5 F x (k : Int) row F (xs.set k (-1000000000000000)) 0 = some (xs.set k (dotv row x row.length)) := by
      refine for0 (L := impl_timesVector_L5 F x (k : Int) row) (len := row.length) (fun j t => t = xs.set k ((List.range j).foldl (fun acc i => max acc (tms (row.getD i 0) (x.getD i 0))) (-1000000000000000))) (R := fun r => r = some (xs.set k (dotv row x row.length))) ?_ ?_ rfl (by omega)
      · rintro n j t hj rfl
        refine .inl ⟨_, ?_, rfl⟩
        simp only [impl_timesVector_L5, bdT (show (j : Int) < (row.length : Int) by omega), idx_nat, set_here hk', getD_of hj, getD_of (show j < x.length by omega), Option.bind_some, implTimes_is, upd_nat _ (show k < (xs.set k ((List.range j).foldl (fun acc i => max acc (tms (row.getD i 0) (x.getD i 0))) (-1000000000000000))).length by rw [List.length_set]; exact hk'), List.set_set, wrN (show j ≤ 67108864 by omega), List.range_succ, List.foldl_append, List.foldl_cons, List.foldl_nil]
      · rintro n t rfl
        simp only [impl_timesVector_L5, bdF (show ¬ (row.length : Int) < (row.length : Int) by omega)]; rfl
    simp only [impl_timesVector_L4, bdT (show (k : Int) < (a.length : Int) by omega), idx_nat, hrow, hq, Option.bind_some, upd_nat _ hk', inner, wrN (show k ≤ 67108864 by omega)]
  · intro n xs
    simp only [impl_timesVector_L4, bdF (show ¬ (a.length : Int) < (a.length : Int) by omega)]

/-! ### Matrices by their entries -/
def tabM (m n : Nat) (f : Nat → Nat → Int) : List (List Int) := (List.range m).map fun i => (List.range n).map fun j => f i j
theorem tabM_len (m n : Nat) (f : Nat → Nat → Int) : (tabM m n f).length = m := by unfold tabM; simp
theorem tabM_row {m n i : Nat} {f : Nat → Nat → Int} (h : i < m) : (tabM m n f)[i]? = some ((List.range n).map fun j => f i j) := by
  unfold tabM; rw [List.getElem?_map, List.getElem?_range h]; rfl
theorem tabM_rows {m n : Nat} {f : Nat → Nat → Int} : ∀ r, r ∈ tabM m n f → r.length = n := by
  intro r hr
  unfold tabM at hr
  rw [List.mem_map] at hr
  obtain ⟨i, _, rfl⟩ := hr
  simp
theorem tabM_of {m n : Nat} {f : Nat → Nat → Int} {t : List (List Int)} (hl : t.length = m) (h : ∀ i, i < m → t[i]? = some ((List.range n).map fun j => f i j)) : t = tabM m n f := by
  apply List.ext_getElem?; intro q
  by_cases hq : q < m
  · rw [h q hq, tabM_row hq]
  · rw [List.getElem?_eq_none (by omega), List.getElem?_eq_none (by rw [tabM_len]; omega)]
theorem row_of {n : Nat} {f : Nat → Int} {r : List Int} (hl : r.length = n) (h : ∀ j, j < n → r[j]? = some (f j)) : r = (List.range n).map f := by
  apply List.ext_getElem?; intro q
  by_cases hq : q < n
  · rw [h q hq, List.getElem?_map, List.getElem?_range hq]; rfl
  · rw [List.getElem?_eq_none (by omega), List.getElem?_eq_none (by simp; omega)]

theorem byRow {F n i : Nat} {en : Int → Int → Option Int} {f : Nat → Int} {ms : List (List Int)} {q : List Int} (hF : 134217728 ≤ F) (hn : n ≤ 1048576) (hen : ∀ j, j < n → en (i : Int) (j : Int) = some (f j)) (hq : ms[i]? = some q) (hql : q.length = n) :
    impl_matrixBy_L5 F en (i : Int) q F ms 0 = some (ms.set i ((List.range n).map f)) := by
  have him : i < ms.length := (List.getElem?_eq_some_iff.1 hq).1
  refine for0 (L := impl_matrixBy_L5 F en (i : Int) q) (len := q.length) (fun k t => ∃ r, t = ms.set i r ∧ r.length = n ∧ ∀ j, j < k → r[j]? = some (f j)) (R := fun o => o = some (ms.set i ((List.range n).map f))) ?_ ?_ ⟨q, (set_same hq).symm, hql, fun j hj => by omega⟩ (by omega)
  · rintro m k t hk ⟨r, rfl, hrl, h1⟩
    have hkr : k < r.length := by omega
    refine .inl ⟨ms.set i (r.set k (f k)), ?_, r.set k (f k), rfl, by rw [List.length_set]; exact hrl, fun j hj => ?_⟩
    · simp only [impl_matrixBy_L5, bdT (show (k : Int) < (q.length : Int) by omega), idx_nat, set_here him, hen k (by omega), getD_of hkr, Option.bind_some, upd_nat _ hkr, upd_nat _ (show i < (ms.set i r).length by rw [List.length_set]; exact him), List.set_set, wrN (show k ≤ 67108864 by omega)]
    · by_cases e : j = k
      · subst e; exact set_here hkr
      · rw [set_keep e]; exact h1 j (by omega)
  · rintro m t ⟨r, rfl, hrl, h1⟩
    simp only [impl_matrixBy_L5, bdF (show ¬ (q.length : Int) < (q.length : Int) by omega)]
    rw [row_of hrl (fun j hj => h1 j (by omega))]
theorem matrixBy_is {F m n : Nat} {en : Int → Int → Option Int} {f : Nat → Nat → Int} (hF : 134217728 ≤ F) (hm : m ≤ 1048576) (hn : n ≤ 1048576) (hen : ∀ i j, i < m → j < n → en (i : Int) (j : Int) = some (f i j)) : impl_matrixBy F (m : Int) (n : Int) en = some (tabM m n f) := by
  unfold impl_matrixBy
  rw [mk_nat _ (by omega)]
  simp only [Option.bind_some]
  have H := for0 (L := impl_matrixBy_L4 F (n : Int) en (List.replicate m [])) (len := m) (fun k t => t.length = m ∧ ∀ i, i < k → t[i]? = some ((List.range n).map fun j => f i j)) (R := fun o => o = some (tabM m n f)) (s := List.replicate m []) (n := F) ?_ ?_ ⟨by simp, fun i hi => by omega⟩ (by omega)
  · rw [H]; rfl
  · rintro q k t hk ⟨hl, h1⟩
    have hkt : k < t.length := by omega
    have hmk : mk (n : Int) (0 : Int) = some (List.replicate n 0) := mk_nat _ (by omega)
    have ht : t[k]? = some t[k] := List.getElem?_eq_getElem hkt
    have hrow := byRow (F := F) (n := n) (i := k) (en := en) (f := fun j => f k j) (ms := t.set k (List.replicate n 0)) (q := List.replicate n 0) hF hn (fun j hj => hen k j hk hj) (set_here hkt) (by simp)
    refine .inl ⟨t.set k ((List.range n).map fun j => f k j), ?_, by rw [List.length_set]; exact hl, fun i hi => ?_⟩
    · rw [List.set_set] at hrow
      simp only [impl_matrixBy_L4, List.length_replicate, bdT (show (k : Int) < (m : Int) by omega), hmk, idx_nat, ht, Option.bind_some, upd_nat _ hkt, set_here hkt, hrow, wrN (show k ≤ 67108864 by omega)]
    · by_cases e : i = k
      · subst e; exact set_here hkt
      · rw [set_keep e]; exact h1 i (by omega)
  · rintro q t ⟨hl, h1⟩
    simp only [impl_matrixBy_L4, List.length_replicate, bdF (show ¬ (m : Int) < (m : Int) by omega)]
    rw [tabM_of hl h1]

theorem specBotM_is {F m n : Nat} (hF : 134217728 ≤ F) (hm : m ≤ 1048576) (hn : n ≤ 1048576) : spec_l02Bottom F (m : Int) (n : Int) = some (tabM m n fun _ _ => (-1000000000000000)) := by
  unfold spec_l02Bottom
  rw [tab_loop (len := m) (f := fun _ => (List.range n).map fun _ => (-1000000000000000)) (L := spec_l02Bottom_L4 F (m : Int) (n : Int)) ?_ ?_ (by omega)]
  · rfl
  · intro k xs j hj hx
    have inner : spec_l02Bottom_L5 F (n : Int) F [] 0 = some ((List.range n).map fun _ => (-1000000000000000)) := by
      refine tab_loop (len := n) (f := fun _ => (-1000000000000000)) (L := spec_l02Bottom_L5 F (n : Int)) ?_ ?_ (by omega)
      · intro k xs j hj hx
        simp only [spec_l02Bottom_L5, bdT (show (j : Int) < (n : Int) by omega), app_le (show xs.length + [(-1000000000000000 : Int)].length ≤ 67108864 by simp only [List.length_singleton]; omega), Option.bind_some, wrN (show j ≤ 67108864 by omega)]
      · intro k xs _
        simp only [spec_l02Bottom_L5, bdF (show ¬ (n : Int) < (n : Int) by omega)]
    simp only [spec_l02Bottom_L4, bdT (show (j : Int) < (m : Int) by omega), inner, app_le (show xs.length + [(List.range n).map fun _ => (-1000000000000000 : Int)].length ≤ 67108864 by simp only [List.length_singleton]; omega), Option.bind_some, wrN (show j ≤ 67108864 by omega)]
  · intro k xs _
    simp only [spec_l02Bottom_L4, bdF (show ¬ (m : Int) < (m : Int) by omega)]

def unitM (n : Nat) : List (List Int) := tabM n n fun i j => if i = j then 0 else (-1000000000000000)
theorem specUnit_is {F n : Nat} (hF : 134217728 ≤ F) (hn : n ≤ 1048576) : spec_l02Unit F (n : Int) = some (unitM n) := by
  unfold spec_l02Unit
  rw [bind_of (specBotM_is hF hn hn)]
  have H := for0 (L := spec_l02Unit_L1 F (n : Int)) (len := n) (fun k t => t.length = n ∧ (∀ i, i < k → t[i]? = some ((List.range n).map fun j => if i = j then 0 else (-1000000000000000))) ∧ ∀ i, k ≤ i → i < n → t[i]? = some ((List.range n).map fun _ => (-1000000000000000))) (R := fun o => o = some (unitM n)) (s := tabM n n fun _ _ => (-1000000000000000)) (n := F) ?_ ?_ ⟨tabM_len _ _ _, fun i hi => by omega, fun i _ hi => tabM_row hi⟩ (by omega)
  · rw [H]; rfl
  · rintro q k t hk ⟨hl, h1, h2⟩
    have hkt : k < t.length := by omega
    have hrow := h2 k (Nat.le_refl _) hk
    have hc : ((List.range n).map fun _ => (-1000000000000000 : Int))[k]? = some (-1000000000000000) := by rw [List.getElem?_map, List.getElem?_range hk]; rfl
    refine .inl ⟨t.set k (((List.range n).map fun _ => (-1000000000000000 : Int)).set k 0), ?_, by rw [List.length_set]; exact hl, fun i hi => ?_, fun i hi hin => ?_⟩
    · simp only [spec_l02Unit_L1, bdT (show (k : Int) < (n : Int) by omega), idx_nat, hrow, hc, Option.bind_some, upd_nat _ (show k < ((List.range n).map fun _ => (-1000000000000000 : Int)).length by simpa using hk), upd_nat _ hkt, wrN (show k ≤ 67108864 by omega)]
    · by_cases e : i = k
      · subst e
        rw [set_here hkt]
        refine congrArg some (row_of (by simp) (fun j hj => ?_))
        by_cases e2 : j = i
        · subst e2; rw [set_here (by simpa using hj), if_pos rfl]
        · rw [set_keep e2, List.getElem?_map, List.getElem?_range hj, if_neg (Ne.symm e2)]; rfl
      · rw [set_keep e]; exact h1 i (by omega)
    · rw [set_keep (by omega)]; exact h2 i (by omega) hin
  · rintro q t ⟨hl, h1, _⟩
    simp only [spec_l02Unit_L1, bdF (show ¬ (n : Int) < (n : Int) by omega)]
    rw [tabM_of hl h1]; rfl
theorem implUnit_is {F n : Nat} (hF : 134217728 ≤ F) (hn : n ≤ 1048576) : impl_unitMatrix F (n : Int) = some (unitM n) := by
  unfold impl_unitMatrix
  rw [matrixBy_is (f := fun i j => if i = j then 0 else (-1000000000000000)) hF hn hn (fun i j _ _ => ?_)]
  · rfl
  · show impl_unitMatrix_c1 F (i : Int) (j : Int) = _
    unfold impl_unitMatrix_c1
    by_cases e : i = j
    · subst e; rw [beq_self_eq_true, if_pos rfl]; rfl
    · rw [beq_false_of_ne (show (i : Int) ≠ (j : Int) by omega), if_neg e]; rfl

/-! ### Products -/
def dotM (a b : List (List Int)) (i j : Nat) (k : Nat) : Int := (List.range k).foldl (fun acc q => max acc (tms ((a.getD i []).getD q 0) ((b.getD q []).getD j 0))) (-1000000000000000)
theorem dotM_succ (a b : List (List Int)) (i j k : Nat) : dotM a b i j (k + 1) = max (dotM a b i j k) (tms ((a.getD i []).getD k 0) ((b.getD k []).getD j 0)) := by
  unfold dotM; rw [List.range_succ, List.foldl_append]; rfl
def mulM (a b : List (List Int)) (n : Nat) : List (List Int) := tabM a.length n fun i j => dotM a b i j b.length
theorem rowG {t : List (List Int)} {k : Nat} (h : k < t.length) : t[k]? = some (t.getD k []) := by
  rw [List.getD_eq_getElem?_getD, List.getElem?_eq_getElem h]; rfl
theorem specMulCell {F n i j : Nat} {a b ms : List (List Int)} {row : List Int} (hF : 134217728 ≤ F) (hb : b.length ≤ 1048576) (ha : ∀ r, r ∈ a → r.length = b.length) (hbr : ∀ r, r ∈ b → r.length = n) (hi : i < a.length) (hj : j < n) (hm : ms[i]? = some row) (hrl : row.length = n) (hc : row[j]? = some (-1000000000000000)) :
    spec_l02Multiply_L21 F a b (i : Int) (j : Int) F ms 0 = some (ms.set i (row.set j (dotM a b i j b.length))) := by
  have him : i < ms.length := (List.getElem?_eq_some_iff.1 hm).1
  refine for0 (L := spec_l02Multiply_L21 F a b (i : Int) (j : Int)) (len := b.length) (fun k t => t = ms.set i (row.set j (dotM a b i j k))) (R := fun o => o = some (ms.set i (row.set j (dotM a b i j b.length)))) ?_ ?_ ?_ (by omega)
  · rintro q k t hk rfl
    have hjr : j < row.length := by omega
    have har := rowG hi
    have hal := ha _ (List.mem_of_getElem? har)
    have hbk := rowG hk
    have hbl := hbr _ (List.mem_of_getElem? hbk)
    refine .inl ⟨_, ?_, rfl⟩
    simp only [spec_l02Multiply_L21, bdT (show (k : Int) < (b.length : Int) by omega), idx_nat, set_here him, set_here hjr, har, hbk, getD_of (show k < (a.getD i []).length by omega), getD_of (show j < (b.getD k []).length by omega), Option.bind_some, specTimes_is, upd_nat _ (show j < (row.set j (dotM a b i j k)).length by rw [List.length_set]; exact hjr), upd_nat _ (show i < (ms.set i (row.set j (dotM a b i j k))).length by rw [List.length_set]; exact him), List.set_set, dotM_succ, wrN (show k ≤ 67108864 by omega)]
  · rintro q t rfl
    simp only [spec_l02Multiply_L21, bdF (show ¬ (b.length : Int) < (b.length : Int) by omega)]
  · show ms = ms.set i (row.set j (-1000000000000000))
    rw [set_same hc, set_same hm]
theorem specMulRow {F n i : Nat} {a b ms : List (List Int)} {row : List Int} (hF : 134217728 ≤ F) (hb0 : 0 < b.length) (hb : b.length ≤ 1048576) (hn : n ≤ 1048576) (ha : ∀ r, r ∈ a → r.length = b.length) (hbr : ∀ r, r ∈ b → r.length = n) (hi : i < a.length) (hm : ms[i]? = some row) (hrl : row.length = n) (hc : ∀ j, j < n → row[j]? = some (-1000000000000000)) :
    spec_l02Multiply_L20 F a b (i : Int) F ms 0 = some (ms.set i ((List.range n).map fun j => dotM a b i j b.length)) := by
  have him : i < ms.length := (List.getElem?_eq_some_iff.1 hm).1
  have h0 : idx b 0 = some (b.getD 0 []) := (idx_nat b 0).trans (rowG hb0)
  have hl0 : (b.getD 0 []).length = n := hbr _ (List.mem_of_getElem? (rowG hb0))
  refine for0 (L := spec_l02Multiply_L20 F a b (i : Int)) (len := n) (fun k t => ∃ r, t = ms.set i r ∧ r.length = n ∧ (∀ j, j < k → r[j]? = some (dotM a b i j b.length)) ∧ ∀ j, k ≤ j → j < n → r[j]? = some (-1000000000000000)) (R := fun o => o = some (ms.set i ((List.range n).map fun j => dotM a b i j b.length))) ?_ ?_ ⟨row, (set_same hm).symm, hrl, fun j hj => by omega, fun j _ hj => hc j hj⟩ (by omega)
  · rintro q k t hk ⟨r, rfl, hl, h1, h2⟩
    have hkr : k < r.length := by omega
    have hcell := specMulCell (F := F) (ms := ms.set i r) hF hb ha hbr hi hk (set_here him) hl (h2 k (Nat.le_refl _) hk)
    rw [List.set_set] at hcell
    refine .inl ⟨ms.set i (r.set k (dotM a b i k b.length)), ?_, r.set k (dotM a b i k b.length), rfl, by rw [List.length_set]; exact hl, fun j hj => ?_, fun j hj hjn => ?_⟩
    · simp only [spec_l02Multiply_L20, h0, Option.bind_some, bdT (show (k : Int) < ((b.getD 0 []).length : Int) by omega), hcell, wrN (show k ≤ 67108864 by omega)]
    · by_cases e : j = k
      · subst e; exact set_here hkr
      · rw [set_keep e]; exact h1 j (by omega)
    · rw [set_keep (by omega)]; exact h2 j (by omega) hjn
  · rintro q t ⟨r, rfl, hl, h1, _⟩
    simp only [spec_l02Multiply_L20, h0, Option.bind_some, bdF (show ¬ (n : Int) < ((b.getD 0 []).length : Int) by omega)]
    rw [row_of hl h1]
theorem specMul_is {F n : Nat} {a b : List (List Int)} (hF : 134217728 ≤ F) (hal : a.length ≤ 1048576) (hb0 : 0 < b.length) (hb : b.length ≤ 1048576) (hn : n ≤ 1048576) (ha : ∀ r, r ∈ a → r.length = b.length) (hbr : ∀ r, r ∈ b → r.length = n) : spec_l02Multiply F a b = some (mulM a b n) := by
  have h0 : idx b 0 = some (b.getD 0 []) := (idx_nat b 0).trans (rowG hb0)
  have hl0 : (b.getD 0 []).length = n := hbr _ (List.mem_of_getElem? (rowG hb0))
  unfold spec_l02Multiply
  rw [bind_of h0, hl0, bind_of (specBotM_is hF hal hn)]
  have H := for0 (L := spec_l02Multiply_L16 F a b) (len := a.length) (fun k t => t.length = a.length ∧ (∀ i, i < k → t[i]? = some ((List.range n).map fun j => dotM a b i j b.length)) ∧ ∀ i, k ≤ i → i < a.length → t[i]? = some ((List.range n).map fun _ => (-1000000000000000))) (R := fun o => o = some (mulM a b n)) (s := tabM a.length n fun _ _ => (-1000000000000000)) (n := F) ?_ ?_ ⟨tabM_len _ _ _, fun i hi => by omega, fun i _ hi => tabM_row hi⟩ (by omega)
  · rw [H]; rfl
  · rintro q k t hk ⟨hl, h1, h2⟩
    have hkt : k < t.length := by omega
    have hrow := specMulRow (F := F) (ms := t) hF hb0 hb hn ha hbr hk (h2 k (Nat.le_refl _) hk) (by simp) (fun j hj => by rw [List.getElem?_map, List.getElem?_range hj]; rfl)
    refine .inl ⟨t.set k ((List.range n).map fun j => dotM a b k j b.length), ?_, by rw [List.length_set]; exact hl, fun i hi => ?_, fun i hi hin => ?_⟩
    · simp only [spec_l02Multiply_L16, bdT (show (k : Int) < (a.length : Int) by omega), hrow, Option.bind_some, wrN (show k ≤ 67108864 by omega)]
    · by_cases e : i = k
      · subst e; exact set_here hkt
      · rw [set_keep e]; exact h1 i (by omega)
    · rw [set_keep (by omega)]; exact h2 i (by omega) hin
  · rintro q t ⟨hl, h1, _⟩
    simp only [spec_l02Multiply_L16, bdF (show ¬ (a.length : Int) < (a.length : Int) by omega)]
    rw [tabM_of hl h1]; rfl
theorem mulM_len (a b : List (List Int)) (n : Nat) : (mulM a b n).length = a.length := tabM_len _ _ _
theorem mulM_rows {a b : List (List Int)} {n : Nat} : ∀ r, r ∈ mulM a b n → r.length = n := tabM_rows

/-! ### Sums of matrices, by the reference -/
def addv (a b : List Int) : List Int := (List.range a.length).map fun i => max (a.getD i 0) (b.getD i 0)
theorem addv_len (a b : List Int) : (addv a b).length = a.length := by unfold addv; simp
def addm (a b : List (List Int)) : List (List Int) := (List.range a.length).map fun i => addv (a.getD i []) (b.getD i [])
theorem specOwn_is {F : Nat} {x : List Int} (hx : x.length ≤ 1048576) : spec_l01Own F x = some x := by
  unfold spec_l01Own
  rw [app_le (by simp only [List.length_nil]; omega)]; rfl
theorem specOwnM_is {F : Nat} {a : List (List Int)} (hF : 134217728 ≤ F) (ha : a.length ≤ 1048576) (hr : ∀ row, row ∈ a → row.length ≤ 1048576) : spec_l02Own F a = some a := by
  unfold spec_l02Own
  rw [grow_loop (ps := a) (g := fun r => [r]) (L := spec_l02Own_L1 F a) (by simp) ?_ ?_ (by omega)]
  · rw [Option.bind_some, flatMap_one, List.map_id']
  · intro n xs k v hk hv hl
    simp only [spec_l02Own_L1, bdT (show (k : Int) < (a.length : Int) by omega), idx_nat, hv, Option.bind_some, specOwn_is (hr v (List.mem_of_getElem? hv)), app_le (show xs.length + [v].length ≤ 67108864 by simp only [List.length_singleton]; omega), wrN (show k ≤ 67108864 by omega)]
  · intro n xs
    simp only [spec_l02Own_L1, bdF (show ¬ (a.length : Int) < (a.length : Int) by omega)]
theorem addv_of {r a b : List Int} (hl : r.length = a.length) (h : ∀ q, q < a.length → r[q]? = some (max (a.getD q 0) (b.getD q 0))) : r = addv a b := by
  apply List.ext_getElem?; intro q
  by_cases hq : q < a.length
  · rw [h q hq]; unfold addv; rw [List.getElem?_map, List.getElem?_range hq]; rfl
  · rw [List.getElem?_eq_none (by omega), List.getElem?_eq_none (by rw [addv_len]; omega)]
theorem specAddRow {F : Nat} {b ms : List (List Int)} {i : Nat} {row rb : List Int} (hF : 134217728 ≤ F) (hi : ms[i]? = some row) (hb : b[i]? = some rb) (hl : row.length ≤ 1048576) (hlb : row.length ≤ rb.length) :
    spec_l02Add_L5 F b (i : Int) F ms 0 = some (ms.set i (addv row rb)) := by
  have him : i < ms.length := (List.getElem?_eq_some_iff.1 hi).1
  refine for0 (L := spec_l02Add_L5 F b (i : Int)) (len := row.length) (fun j t => ∃ r, t = ms.set i r ∧ r.length = row.length ∧ (∀ q, q < j → r[q]? = some (max (row.getD q 0) (rb.getD q 0))) ∧ ∀ q, j ≤ q → r[q]? = row[q]?) (R := fun o => o = some (ms.set i (addv row rb))) ?_ ?_ ⟨row, (set_same hi).symm, rfl, by intro q hq; omega, fun _ _ => rfl⟩ (by omega)
  · rintro n j t hj ⟨r, rfl, hrl, h1, h2⟩
    have hjr : j < r.length := by omega
    have hrj : r[j]? = some (row.getD j 0) := by rw [h2 j (Nat.le_refl _), getD_of hj]
    refine .inl ⟨ms.set i (r.set j (max (row.getD j 0) (rb.getD j 0))), ?_, r.set j (max (row.getD j 0) (rb.getD j 0)), rfl, by rw [List.length_set]; exact hrl, ?_, ?_⟩
    · simp only [spec_l02Add_L5, idx_nat, set_here him, hb, hrj, getD_of (show j < rb.length by omega), Option.bind_some, bdT (show (j : Int) < (r.length : Int) by omega), upd_nat _ hjr, upd_nat _ (show i < (ms.set i r).length by rw [List.length_set]; exact him), List.set_set, wrN (show j ≤ 67108864 by omega)]
    · intro q hq
      by_cases e : q = j
      · subst e; exact set_here hjr
      · rw [set_keep e]; exact h1 q (by omega)
    · intro q hq
      rw [set_keep (by omega)]; exact h2 q (by omega)
  · rintro n t ⟨r, rfl, hrl, h1, _⟩
    simp only [spec_l02Add_L5, idx_nat, set_here him, Option.bind_some, bdF (show ¬ (row.length : Int) < (r.length : Int) by omega)]
    rw [addv_of hrl h1]
theorem specAdd_is {F : Nat} {a b : List (List Int)} (hF : 134217728 ≤ F) (ha : a.length ≤ 1048576) (hr : ∀ row, row ∈ a → row.length ≤ 1048576) (hab : b.length = a.length) (hrb : ∀ i, i < a.length → (a.getD i []).length ≤ (b.getD i []).length) : spec_l02Add F a b = some (addm a b) := by
  unfold spec_l02Add
  rw [bind_of (specOwnM_is hF ha hr)]
  have D : ∀ {m : List (List Int)} {i : Nat}, i < m.length → m[i]? = some (m.getD i []) := fun h => by rw [List.getD_eq_getElem?_getD, List.getElem?_eq_getElem h]; rfl
  have H := for0 (L := spec_l02Add_L4 F b) (len := a.length) (fun j t => t.length = a.length ∧ (∀ q, q < j → t[q]? = some (addv (a.getD q []) (b.getD q []))) ∧ ∀ q, j ≤ q → t[q]? = a[q]?) (R := fun o => o = some (addm a b)) (s := a) (n := F) ?_ ?_ ⟨rfl, by intro q hq; omega, fun _ _ => rfl⟩ (by omega)
  · rw [H]; rfl
  · rintro n j t hj ⟨hl, h1, h2⟩
    have hjt : j < t.length := by omega
    have hrow : t[j]? = some (a.getD j []) := by rw [h2 j (Nat.le_refl _), D hj]
    refine .inl ⟨t.set j (addv (a.getD j []) (b.getD j [])), ?_, by rw [List.length_set]; exact hl, ?_, ?_⟩
    · simp only [spec_l02Add_L4, bdT (show (j : Int) < (t.length : Int) by omega), specAddRow hF hrow (D (show j < b.length by omega)) (hr _ (List.mem_of_getElem? (D hj))) (hrb j hj), Option.bind_some, wrN (show j ≤ 67108864 by omega)]
    · intro q hq
      by_cases e : q = j
      · subst e; exact set_here hjt
      · rw [set_keep e]; exact h1 q (by omega)
    · intro q hq
      rw [set_keep (by omega)]; exact h2 q (by omega)
  · rintro n t ⟨hl, h1, _⟩
    simp only [spec_l02Add_L4, bdF (show ¬ (a.length : Int) < (t.length : Int) by omega)]
    refine congrArg some ?_
    apply List.ext_getElem?; intro q
    by_cases hq : q < a.length
    · rw [h1 q hq]; unfold addm; rw [List.getElem?_map, List.getElem?_range hq]; rfl
    · rw [List.getElem?_eq_none (by omega), List.getElem?_eq_none (by unfold addm; simp; omega)]

theorem addm_len (a b : List (List Int)) : (addm a b).length = a.length := by unfold addm; simp
theorem addm_rows {a b : List (List Int)} {n : Nat} (ha : ∀ r, r ∈ a → r.length = n) : ∀ r, r ∈ addm a b → r.length = n := by
  intro r hr
  unfold addm at hr
  rw [List.mem_map] at hr
  obtain ⟨i, hi, rfl⟩ := hr
  rw [addv_len]
  have hi' : i < a.length := by simpa using hi
  have e : a[i]? = some (a.getD i []) := by rw [List.getD_eq_getElem?_getD, List.getElem?_eq_getElem hi']; rfl
  exact ha _ (List.mem_of_getElem? e)
theorem implAdd_is {F n : Nat} {a b : List (List Int)} (hF : 134217728 ≤ F) (ha0 : 0 < a.length) (hal : a.length ≤ 1048576) (hn : n ≤ 1048576) (hab : b.length = a.length) (ha : ∀ r, r ∈ a → r.length = n) (hb : ∀ r, r ∈ b → r.length = n) : impl_addMatrices F a b = some (addm a b) := by
  have G : ∀ {t : List (List Int)} {k : Nat}, k < t.length → t[k]? = some (t.getD k []) := fun h => by rw [List.getD_eq_getElem?_getD, List.getElem?_eq_getElem h]; rfl
  have h0 : idx a 0 = some (a.getD 0 []) := (idx_nat a 0).trans (G ha0)
  have hl0 : (a.getD 0 []).length = n := ha _ (List.mem_of_getElem? (G ha0))
  unfold impl_addMatrices
  rw [bind_of h0, hl0, matrixBy_is (f := fun i j => max ((a.getD i []).getD j 0) ((b.getD i []).getD j 0)) hF hal hn (fun i j hi hj => ?_)]
  · simp only [Option.bind_some]
    refine congrArg some ?_
    unfold tabM addm
    apply List.map_congr_left
    intro i hi
    have hi' : i < a.length := by simpa using hi
    unfold addv
    rw [ha _ (List.mem_of_getElem? (G hi'))]
  · show impl_addMatrices_c1 F (i : Int) (j : Int) a b = _
    have har := G hi
    have hbr := G (t := b) (k := i) (by omega)
    have l1 := ha _ (List.mem_of_getElem? har)
    have l2 := hb _ (List.mem_of_getElem? hbr)
    simp only [impl_addMatrices_c1, idx_nat, har, hbr, getD_of (show j < (a.getD i []).length by omega), getD_of (show j < (b.getD i []).length by omega), Option.bind_some]

/-! ### Tables by their entries -/
theorem tabM_get {m n i j : Nat} {f : Nat → Nat → Int} (hi : i < m) (hj : j < n) : ((tabM m n f).getD i []).getD j 0 = f i j := by
  rw [List.getD_eq_getElem?_getD, List.getD_eq_getElem?_getD, tabM_row hi, Option.getD_some, List.getElem?_map, List.getElem?_range hj]; rfl
theorem tabM_congr {m n : Nat} {f g : Nat → Nat → Int} (h : ∀ i j, i < m → j < n → f i j = g i j) : tabM m n f = tabM m n g := by
  unfold tabM
  apply List.map_congr_left
  intro i hi
  apply List.map_congr_left
  intro j hj
  exact h i j (by simpa using hi) (by simpa using hj)
theorem tabM_at {n i : Nat} {f : Nat → Int} (h : i < n) : ((List.range n).map f)[i]? = some (f i) := by
  rw [List.getElem?_map, List.getElem?_range h]; rfl
theorem tabM_set {m n i j : Nat} {f : Nat → Nat → Int} {v : Int} (hi : i < m) (hj : j < n) : (tabM m n f).set i (((List.range n).map fun j => f i j).set j v) = tabM m n fun a b => if a = i ∧ b = j then v else f a b := by
  refine tabM_of (by rw [List.length_set, tabM_len]) (fun a ha => ?_)
  by_cases e : a = i
  · subst e
    rw [set_here (by rw [tabM_len]; exact ha)]
    refine congrArg some (row_of (by simp) (fun b hb => ?_))
    by_cases e2 : b = j
    · subst e2
      rw [set_here (by simpa using hb), if_pos ⟨rfl, rfl⟩]
    · rw [set_keep e2, tabM_at hb, if_neg (by omega)]
  · rw [set_keep e, tabM_row ha]
    refine congrArg some ?_
    apply List.map_congr_left
    intro b _
    rw [if_neg (by omega)]
theorem tabM_self {m n : Nat} {a : List (List Int)} (hl : a.length = m) (hr : ∀ r, r ∈ a → r.length = n) : a = tabM m n fun i j => (a.getD i []).getD j 0 := by
  refine tabM_of hl (fun i hi => ?_)
  have e : a[i]? = some (a.getD i []) := by rw [List.getD_eq_getElem?_getD, List.getElem?_eq_getElem (by omega)]; rfl
  rw [e]
  exact congrArg some (row_of (hr _ (List.mem_of_getElem? e)) (fun j hj => getD_of (by rw [hr _ (List.mem_of_getElem? e)]; exact hj)))
theorem tabM_inj {m n : Nat} {f g : Nat → Nat → Int} (h : tabM m n f = tabM m n g) {i j : Nat} (hi : i < m) (hj : j < n) : f i j = g i j := by
  rw [← tabM_get (f := f) hi hj, h, tabM_get hi hj]

/-! ### Tables of arcs -/
def arcT {α : Type} (t f : α → Nat) (w : α → Int) : List α → Nat → Nat → Int
  | l => fun i j => l.foldl (fun acc x => if t x = i ∧ f x = j then max acc (w x) else acc) (-1000000000000000)
theorem arcT_snoc {α : Type} (t f : α → Nat) (w : α → Int) (l : List α) (x : α) (i j : Nat) : arcT t f w (l ++ [x]) i j = if i = t x ∧ j = f x then max (arcT t f w l (t x) (f x)) (w x) else arcT t f w l i j := by
  unfold arcT
  rw [List.foldl_append]
  simp only [List.foldl_cons, List.foldl_nil]
  by_cases h : t x = i ∧ f x = j
  · obtain ⟨rfl, rfl⟩ := h
    rw [if_pos ⟨rfl, rfl⟩]
  · rw [if_neg h, if_neg (by omega)]
theorem arcT_le {α : Type} {t f : α → Nat} {w : α → Int} : ∀ (l : List α) (a0 : Int) (i j : Nat), a0 ≤ l.foldl (fun acc x => if t x = i ∧ f x = j then max acc (w x) else acc) a0
  | [], a0, _, _ => Int.le_refl _
  | x :: l, a0, i, j => by
    rw [List.foldl_cons]
    by_cases h : t x = i ∧ f x = j
    · rw [if_pos h]; exact Int.le_trans (by omega) (arcT_le l _ i j)
    · rw [if_neg h]; exact arcT_le l a0 i j
theorem arcT_ge' {α : Type} {t f : α → Nat} {w : α → Int} : ∀ (l : List α) (a0 : Int) (x : α), x ∈ l → w x ≤ l.foldl (fun acc y => if t y = t x ∧ f y = f x then max acc (w y) else acc) a0
  | [], _, x, h => by cases h
  | y :: l, a0, x, h => by
    rw [List.foldl_cons]
    rcases List.mem_cons.1 h with rfl | h
    · rw [if_pos ⟨rfl, rfl⟩]; exact Int.le_trans (by omega) (arcT_le l _ _ _)
    · exact arcT_ge' l _ x h
theorem arcT_ge {α : Type} {t f : α → Nat} {w : α → Int} {l : List α} {x : α} (h : x ∈ l) : w x ≤ arcT t f w l (t x) (f x) := arcT_ge' l _ x h
theorem arcT_cases' {α : Type} {t f : α → Nat} {w : α → Int} (i j : Nat) : ∀ (l : List α) (a0 : Int), l.foldl (fun acc x => if t x = i ∧ f x = j then max acc (w x) else acc) a0 = a0 ∨ ∃ x, x ∈ l ∧ t x = i ∧ f x = j ∧ l.foldl (fun acc x => if t x = i ∧ f x = j then max acc (w x) else acc) a0 = w x
  | [], a0 => .inl rfl
  | y :: l, a0 => by
    rw [List.foldl_cons]
    by_cases h : t y = i ∧ f y = j
    · rw [if_pos h]
      rcases arcT_cases' i j l (max a0 (w y)) with h1 | ⟨x, h1, h2, h3, h4⟩
      · by_cases h5 : w y ≤ a0
        · left; rw [h1]; omega
        · right; exact ⟨y, by simp, h.1, h.2, by rw [h1]; omega⟩
      · right; exact ⟨x, by simp [h1], h2, h3, h4⟩
    · rw [if_neg h]
      rcases arcT_cases' i j l a0 with h1 | ⟨x, h1, h2, h3, h4⟩
      · exact .inl h1
      · right; exact ⟨x, by simp [h1], h2, h3, h4⟩
theorem arcT_cases {α : Type} {t f : α → Nat} {w : α → Int} (l : List α) (i j : Nat) : arcT t f w l i j = -1000000000000000 ∨ ∃ x, x ∈ l ∧ t x = i ∧ f x = j ∧ arcT t f w l i j = w x := arcT_cases' i j l _
theorem arcT_ok {α : Type} {t f : α → Nat} {w : α → Int} {l : List α} (h : ∀ x, x ∈ l → -1000000 ≤ w x ∧ w x ≤ 1000000) (n : Nat) : TabOk (arcT t f w l) n := fun i j _ _ => by
  rcases arcT_cases (t := t) (f := f) (w := w) l i j with e | ⟨x, hx, _, _, e⟩
  · exact .inl e
  · rw [e]; exact .inr (h x hx)
/-- a loop that lays arcs into a table -/
theorem arc_loop {α : Type} {t f : α → Nat} {w : α → Int} {ps : List α} {n : Nat} {L : Nat → List (List Int) → Int → Option (List (List Int))}
    (hL : ∀ m k x h, k < ps.length → ps[k]? = some x → L (m + 1) (tabM n n h) (k : Int) = L m (tabM n n fun i j => if i = t x ∧ j = f x then max (h (t x) (f x)) (w x) else h i j) ((k + 1 : Nat) : Int))
    (hE : ∀ m h, L (m + 1) (tabM n n h) (ps.length : Int) = some (tabM n n h)) {F : Nat} (hn : ps.length < F) : L F (tabM n n fun _ _ => (-1000000000000000)) 0 = some (tabM n n (arcT t f w ps)) := by
  refine for0 (L := L) (len := ps.length) (fun k ms => ms = tabM n n (arcT t f w (ps.take k))) (R := fun o => o = some (tabM n n (arcT t f w ps))) ?_ ?_ rfl hn
  · rintro m k ms hk rfl
    have hx : ps[k]? = some ps[k] := List.getElem?_eq_getElem hk
    refine .inl ⟨_, hL m k ps[k] _ hk hx, tabM_congr fun i j _ _ => ?_⟩
    rw [List.take_add_one, hx]
    exact (arcT_snoc t f w (ps.take k) ps[k] i j).symm
  · rintro m ms rfl
    rw [hE m, List.take_length]
theorem implBotM_is {F m n : Nat} (hF : 134217728 ≤ F) (hm : m ≤ 1048576) (hn : n ≤ 1048576) : impl_bottomMatrix F (m : Int) (n : Int) = some (tabM m n fun _ _ => (-1000000000000000)) := by
  unfold impl_bottomMatrix
  rw [matrixBy_is (f := fun _ _ => (-1000000000000000)) hF hm hn (fun i j _ _ => rfl)]; rfl

/-! ### The star, both ways -/
theorem tms_ta {M K a b : Int} (ha : Okw M a) (hb : Okw K b) (hM : M ≤ 10000000000) (hK : K ≤ 10000000000) : tms a b = ta a b := by
  unfold tms ta
  unfold Okw at ha hb
  by_cases h1 : a = -1000000000000000
  · subst h1; rw [if_pos (.inl rfl)]; rfl
  · by_cases h2 : b = -1000000000000000
    · subst h2; rw [if_pos (.inr rfl), beq_self_eq_true, Bool.or_true]; rfl
    · rw [if_neg (by omega), beq_false_of_ne h1, beq_false_of_ne h2]
      exact wr (by omega) (by omega)
theorem mulM_tab {n : Nat} {f g : Nat → Nat → Int} {M K : Int} (hf : ∀ i j, i < n → j < n → Okw M (f i j)) (hg : ∀ i j, i < n → j < n → Okw K (g i j)) (hM : M ≤ 10000000000) (hK : K ≤ 10000000000) : mulM (tabM n n f) (tabM n n g) n = tabM n n fun i j => mx n fun q => ta (f i q) (g q j) := by
  unfold mulM
  rw [tabM_len, tabM_len]
  refine tabM_congr fun i j hi hj => ?_
  have : ∀ k, k ≤ n → dotM (tabM n n f) (tabM n n g) i j k = mx k fun q => ta (f i q) (g q j) := by
    intro k
    induction k with
    | zero => intro _; rfl
    | succ k ih =>
      intro hk
      rw [dotM_succ, mx_succ, ih (by omega), tabM_get hi (show k < n by omega), tabM_get (show k < n by omega) hj, tms_ta (hf i k hi (by omega)) (hg k j (by omega) hj) hM hK]
  exact this n (Nat.le_refl _)
theorem addm_tab {n : Nat} {f g : Nat → Nat → Int} : addm (tabM n n f) (tabM n n g) = tabM n n fun i j => max (f i j) (g i j) := by
  refine tabM_of (by rw [addm_len, tabM_len]) (fun i hi => ?_)
  unfold addm
  rw [List.getElem?_map, tabM_len, List.getElem?_range hi]
  refine congrArg some (row_of ?_ (fun j hj => ?_))
  · rw [addv_len, List.getD_eq_getElem?_getD, tabM_row hi]; simp
  · unfold addv
    have hl : ((tabM n n f).getD i []).length = n := by rw [List.getD_eq_getElem?_getD, tabM_row hi]; simp
    show ((List.range ((tabM n n f).getD i []).length).map fun q => max (((tabM n n f).getD i []).getD q 0) (((tabM n n g).getD i []).getD q 0))[j]? = _
    rw [hl, tabM_at hj, tabM_get hi hj, tabM_get hi hj]
theorem unitM_tab (n : Nat) : unitM n = tabM n n un := rfl
theorem rows_tab {n : Nat} {f : Nat → Nat → Int} (hn : n ≤ 10) : ∀ r, r ∈ tabM n n f → r.length ≤ 1048576 := fun r hr => by rw [tabM_rows r hr]; omega
theorem getD_tab {n i : Nat} {f : Nat → Nat → Int} (hi : i < n) : ((tabM n n f).getD i []).length = n := by
  rw [List.getD_eq_getElem?_getD, tabM_row hi]; simp

theorem specSame1_is {F : Nat} {a b : List Int} (hF : 134217728 ≤ F) (hl : a.length ≤ 1048576) : ∃ q, spec_l01Same F a b = some q ∧ (q = true ↔ a = b) := by
  unfold spec_l01Same
  by_cases h : a.length = b.length
  · rw [bF (neF (show (a.length : Int) = (b.length : Int) by omega))]
    rw [all_loop (ps := List.range a.length) (g := fun k => decide (a.getD k 0 = b.getD k 0)) (r := false) (L := spec_l01Same_L1 F a b) (n := F) ?_ ?_ (by rw [List.length_range]; omega)]
    · refine ⟨(List.range a.length).all fun k => decide (a.getD k 0 = b.getD k 0), by cases (List.range a.length).all fun k => decide (a.getD k 0 = b.getD k 0) <;> rfl, ?_⟩
      rw [List.all_eq_true]
      constructor
      · intro H
        apply List.ext_getElem?; intro k
        by_cases hk : k < a.length
        · rw [getD_of hk, getD_of (show k < b.length by omega), of_decide_eq_true (H k (by simpa using hk))]
        · rw [List.getElem?_eq_none (by omega), List.getElem?_eq_none (by omega)]
      · rintro rfl k _
        exact decide_eq_true rfl
    · intro n k x hk hx
      rw [List.length_range] at hk
      have e : x = k := by rw [List.getElem?_range hk] at hx; cases hx; rfl
      subst e
      simp only [spec_l01Same_L1, bdT (show (x : Int) < (a.length : Int) by omega), idx_nat, getD_of hk, getD_of (show x < b.length by omega), Option.bind_some, wrN (show x ≤ 67108864 by omega)]
      by_cases e : a.getD x 0 = b.getD x 0
      · rw [e, bdT rfl, bF (neF rfl)]
      · rw [bdF e, bT (neT e)]
    · intro n
      rw [List.length_range]
      simp only [spec_l01Same_L1, bdF (show ¬ (a.length : Int) < (a.length : Int) by omega)]
  · rw [bT (neT (show (a.length : Int) ≠ (b.length : Int) by omega))]
    exact ⟨false, rfl, ⟨fun h => (by cases h), fun e => absurd (congrArg List.length e) h⟩⟩
theorem specSame_is {F n : Nat} {f g : Nat → Nat → Int} (hF : 134217728 ≤ F) (hn : n ≤ 10) : ∃ q, spec_l02Same F (tabM n n f) (tabM n n g) = some q ∧ (q = true ↔ ∀ i j, i < n → j < n → f i j = g i j) := by
  unfold spec_l02Same
  rw [tabM_len, tabM_len, bF (neF rfl)]
  rw [all_loop (ps := List.range n) (g := fun k => decide ((List.range n).map (f k) = (List.range n).map (g k))) (r := false) (L := spec_l02Same_L1 F (tabM n n f) (tabM n n g)) (n := F) ?_ ?_ (by rw [List.length_range]; omega)]
  · refine ⟨(List.range n).all fun k => decide ((List.range n).map (f k) = (List.range n).map (g k)), by cases (List.range n).all fun k => decide ((List.range n).map (f k) = (List.range n).map (g k)) <;> rfl, ?_⟩
    rw [List.all_eq_true]
    constructor
    · intro H i j hi hj
      have h1 := of_decide_eq_true (H i (by simpa using hi))
      have h2 := congrArg (fun l => l[j]?) h1
      simp only [tabM_at hj] at h2
      exact Option.some.inj h2
    · intro H i hi
      refine decide_eq_true (List.map_congr_left fun j hj => ?_)
      exact H i j (by simpa using hi) (by simpa using hj)
  · intro m k x hk hx
    rw [List.length_range] at hk
    have e : x = k := by rw [List.getElem?_range hk] at hx; cases hx; rfl
    subst e
    obtain ⟨q, h1, h2⟩ := specSame1_is (F := F) (a := (List.range n).map fun j => f x j) (b := (List.range n).map fun j => g x j) hF (by simp; omega)
    simp only [spec_l02Same_L1, tabM_len, bdT (show (x : Int) < (n : Int) by omega), idx_nat, tabM_row hk, Option.bind_some, h1, wrN (show x ≤ 67108864 by omega)]
    cases hq : q with
    | true => rw [bdT (h2.1 hq)]; rfl
    | false =>
      rw [bdF (fun e => by rw [h2.2 e] at hq; cases hq)]; rfl
  · intro m
    rw [List.length_range]
    simp only [spec_l02Same_L1, tabM_len, bdF (show ¬ (n : Int) < (n : Int) by omega)]

theorem specStar_is {F n : Nat} {f : Nat → Nat → Int} (hF : 134217728 ≤ F) (h1 : 1 ≤ n) (hn : n ≤ 10) (hf : TabOk f n) : ∃ q, spec_l03Star F (tabM n n f) = some (tabM n n (WW f n n), q) ∧ (q = true ↔ Stab f n) := by
  have step : ∀ k, k ≤ n → (spec_l02Unit F (n : Int)).bind (fun r99 => (spec_l02Multiply F (tabM n n f) (tabM n n (WW f n k))).bind fun r106 => spec_l02Add F r99 r106) = some (tabM n n (WW f n (k + 1))) := by
    intro k hk
    rw [specUnit_is hF (show n ≤ 1048576 by omega), Option.bind_some, specMul_is (n := n) hF (by rw [tabM_len]; omega) (by rw [tabM_len]; omega) (by rw [tabM_len]; omega) (by omega) (fun r hr => by rw [tabM_len]; exact tabM_rows r hr) tabM_rows, Option.bind_some,
      mulM_tab (M := 1000000) (K := 10000000) hf (fun i j hi hj => ok_up (WW_ok hf k hi hj) (by omega)) (by omega) (by omega), unitM_tab,
      specAdd_is hF (by rw [tabM_len]; omega) (rows_tab hn) (by rw [tabM_len, tabM_len]) (fun i hi => by rw [tabM_len] at hi; rw [getD_tab hi, getD_tab hi]; omega), addm_tab]
    rfl
  have step3 : ∀ (k : Nat), k ≤ n → ∀ {β : Type} (g : List (List Int) → Option β), ((spec_l02Unit F (n : Int)).bind fun r99 => ((spec_l02Multiply F (tabM n n f) (tabM n n (WW f n k))).bind fun r106 => ((spec_l02Add F r99 r106).bind fun r113 => g r113))) = g (tabM n n (WW f n (k + 1))) := by
    intro k hk β g
    have := step k hk
    have h2 : ((spec_l02Unit F (n : Int)).bind fun r99 => ((spec_l02Multiply F (tabM n n f) (tabM n n (WW f n k))).bind fun r106 => ((spec_l02Add F r99 r106).bind fun r113 => g r113))) = ((spec_l02Unit F (n : Int)).bind (fun r99 => (spec_l02Multiply F (tabM n n f) (tabM n n (WW f n k))).bind fun r106 => spec_l02Add F r99 r106)).bind g := by
      rw [Option.bind_assoc]
      refine congrArg _ (funext fun x => ?_)
      rw [Option.bind_assoc]
    rw [h2, this]; rfl
  have H : spec_l03Star_L1 F (tabM n n f) F (tabM n n un) 0 = some (tabM n n (WW f n n)) := by
    refine for0 (L := spec_l03Star_L1 F (tabM n n f)) (len := n) (fun k ms => ms = tabM n n (WW f n k)) (R := fun o => o = some (tabM n n (WW f n n))) ?_ ?_ rfl (by omega)
    · rintro m k ms hk rfl
      refine .inl ⟨_, ?_, rfl⟩
      simp only [spec_l03Star_L1, tabM_len, bdT (show (k : Int) < (n : Int) by omega), wrN (show k ≤ 67108864 by omega)]
      exact step3 k (by omega) _
    · rintro m ms rfl
      simp only [spec_l03Star_L1, tabM_len, bdF (show ¬ (n : Int) < (n : Int) by omega)]
  obtain ⟨q, hq1, hq2⟩ := specSame_is (F := F) (n := n) (f := WW f n (n + 1)) (g := WW f n n) hF hn
  refine ⟨q, ?_, hq2⟩
  unfold spec_l03Star
  rw [tabM_len, specUnit_is hF (show n ≤ 1048576 by omega), Option.bind_some, unitM_tab, H, Option.bind_some]
  have e := step3 n (Nat.le_refl _) (fun r134 => (spec_l02Same F r134 (tabM n n (WW f n n))).bind fun r141 => some (tabM n n (WW f n n), r141))
  rw [specUnit_is hF (show n ≤ 1048576 by omega), Option.bind_some, unitM_tab] at e
  rw [Option.bind_some, e, hq1]; rfl

theorem starCells {F n k i : Nat} {f : Nat → Nat → Int} {ms : List (List Int)} (hF : 134217728 ≤ F) (hn : n ≤ 10) (hf : TabOk f n) (hms : ms.length = n) (hk : k < n) (hi : i < n) (h0 : fw f k k k = 0) {h : Nat → Nat → Int} (hh : ∀ a b, a < n → b < n → h a b = if a < i then fw f (k + 1) a b else fw f k a b) :
    impl_starOf_L21 F (k : Int) ms (i : Int) F (tabM n n h) 0 = some (tabM n n fun a b => if a < i + 1 then fw f (k + 1) a b else fw f k a b) := by
  have ok : ∀ {i j : Nat}, i < n → j < n → Okw 10000000000 (fw f k i j) := fun hi hj => ok_up (fw_ok hf k (by omega) hi hj) (by have := bdw_le (show k ≤ 11 by omega); omega)
  refine for0 (L := impl_starOf_L21 F (k : Int) ms (i : Int)) (len := n) (fun j t => ∃ H : Nat → Nat → Int, t = tabM n n H ∧ ∀ a b, a < n → b < n → H a b = if a < i ∨ (a = i ∧ b < j) then fw f (k + 1) a b else fw f k a b) (R := fun o => o = some (tabM n n fun a b => if a < i + 1 then fw f (k + 1) a b else fw f k a b)) ?_ ?_ ?_ (by omega)
  · rintro m j t hj ⟨H, rfl, hH⟩
    have e1 : H i j = fw f k i j := by rw [hH i j hi hj]; exact if_neg (by omega)
    have e2 : H i k = fw f k i k := by
      rw [hH i k hi hk]
      by_cases c : i < i ∨ (i = i ∧ k < j)
      · rw [if_pos c]; exact fw_col hf (by omega) h0 hi hk
      · rw [if_neg c]
    have e3 : H k j = fw f k k j := by
      rw [hH k j hk hj]
      by_cases c : k < i ∨ (k = i ∧ j < j)
      · rw [if_pos c]; exact fw_row hf (by omega) h0 hj hk
      · rw [if_neg c]
    refine .inl ⟨_, ?_, fun a b => if a = i ∧ b = j then max (fw f k i j) (ta (fw f k i k) (fw f k k j)) else H a b, rfl, fun a b ha hb => ?_⟩
    · simp only [impl_starOf_L21, hms, bdT (show (j : Int) < (n : Int) by omega), idx_nat, tabM_row hi, tabM_row hk, tabM_at hj, tabM_at hk, e1, e2, e3, Option.bind_some, implTimes_is, tms_ta (ok hi hk) (ok hk hj) (Int.le_refl _) (Int.le_refl _), upd_nat _ (show j < ((List.range n).map fun b => H i b).length by simpa using hj), upd_nat _ (show i < (tabM n n H).length by rw [tabM_len]; exact hi), wrN (show j ≤ 67108864 by omega), tabM_set hi hj]
    · show (if a = i ∧ b = j then max (fw f k i j) (ta (fw f k i k) (fw f k k j)) else H a b) = _
      by_cases c : a = i ∧ b = j
      · rw [if_pos c, if_pos (by omega), c.1, c.2]; rfl
      · rw [if_neg c, hH a b ha hb]
        by_cases c2 : a < i ∨ (a = i ∧ b < j)
        · rw [if_pos c2, if_pos (by omega)]
        · rw [if_neg c2, if_neg (by omega)]
  · rintro m t ⟨H, rfl, hH⟩
    simp only [impl_starOf_L21, hms, bdF (show ¬ (n : Int) < (n : Int) by omega)]
    refine congrArg some (tabM_congr fun a b ha hb => ?_)
    rw [hH a b ha hb]
    by_cases c : a < i + 1
    · rw [if_pos c, if_pos (by omega)]
    · rw [if_neg c, if_neg (by omega)]
  · refine ⟨h, rfl, fun a b ha hb => ?_⟩
    rw [hh a b ha hb]
    by_cases c : a < i
    · rw [if_pos c, if_pos (.inl c)]
    · rw [if_neg c, if_neg (by omega)]
theorem starRound {F n k : Nat} {f : Nat → Nat → Int} {ms : List (List Int)} (hF : 134217728 ≤ F) (hn : n ≤ 10) (hf : TabOk f n) (hms : ms.length = n) (hk : k < n) (h0 : fw f k k k = 0) :
    impl_starOf_L20 F ms (k : Int) F (tabM n n (fw f k)) 0 = some (tabM n n (fw f (k + 1))) := by
  refine for0 (L := impl_starOf_L20 F ms (k : Int)) (len := n) (fun i t => t = tabM n n fun a b => if a < i then fw f (k + 1) a b else fw f k a b) (R := fun o => o = some (tabM n n (fw f (k + 1)))) ?_ ?_ ?_ (by omega)
  · rintro m i t hi rfl
    refine .inl ⟨_, ?_, rfl⟩
    simp only [impl_starOf_L20, hms, bdT (show (i : Int) < (n : Int) by omega), starCells (F := F) hF hn hf (tabM_len n n _) hk hi h0 (fun _ _ _ _ => rfl), Option.bind_some, wrN (show i ≤ 67108864 by omega)]
  · rintro m t rfl
    simp only [impl_starOf_L20, hms, bdF (show ¬ (n : Int) < (n : Int) by omega)]
    refine congrArg some (tabM_congr fun a b ha _ => ?_)
    rw [if_pos ha]
  · refine tabM_congr fun a b _ _ => ?_
    rw [if_neg (by omega)]
theorem implStar_is {F n : Nat} {f : Nat → Nat → Int} (hF : 134217728 ≤ F) (h1 : 1 ≤ n) (hn : n ≤ 10) (hf : TabOk f n) : (FwOk f n ∧ impl_starOf F (tabM n n f) = some (tabM n n (fw f n), true)) ∨ (¬ FwOk f n ∧ impl_starOf F (tabM n n f) = some ([], false)) := by
  unfold impl_starOf
  rw [tabM_len, implUnit_is hF (show n ≤ 1048576 by omega), Option.bind_some, unitM_tab, implAdd_is (n := n) hF (by rw [tabM_len]; omega) (by rw [tabM_len]; omega) (by omega) (by rw [tabM_len, tabM_len]) tabM_rows tabM_rows, Option.bind_some, addm_tab]
  have H := for0 (L := impl_starOf_L16 F (tabM n n (fw f 0))) (len := n) (fun k t => t = tabM n n (fw f k)) (R := fun o => (¬ FwOk f n ∧ o = some (.inl ([], false))) ∨ o = some (.inr (tabM n n (fw f n)))) (s := tabM n n (fw f 0)) (n := F) ?_ ?_ rfl (by omega)
  · have e0 : (tabM n n fun i j => max (f i j) (un i j)) = tabM n n (fw f 0) := rfl
    rw [e0]
    rcases H with ⟨h2, h3⟩ | h3
    · right
      exact ⟨h2, by rw [h3]; rfl⟩
    · rw [h3]
      simp only [Option.bind_some]
      rw [all_loop (ps := List.range n) (g := fun k => decide (fw f n k k ≤ 0)) (r := (([] : List (List Int)), false)) (L := impl_starOf_L22 F (tabM n n (fw f n))) (n := F) ?_ ?_ (by rw [List.length_range]; omega)]
      · by_cases c : FwOk f n
        · left
          refine ⟨c, ?_⟩
          rw [show ((List.range n).all fun k => decide (fw f n k k ≤ 0)) = true from List.all_eq_true.2 fun k hk => decide_eq_true (c k (by simpa using hk))]
          rfl
        · right
          refine ⟨c, ?_⟩
          rw [show ((List.range n).all fun k => decide (fw f n k k ≤ 0)) = false from ?_]
          · rfl
          · apply Classical.byContradiction
            intro hne
            rw [Bool.not_eq_false, List.all_eq_true] at hne
            exact c fun k hk => of_decide_eq_true (hne k (by simpa using hk))
      · intro m k x hk hx
        rw [List.length_range] at hk
        have e : x = k := by rw [List.getElem?_range hk] at hx; cases hx; rfl
        subst e
        simp only [impl_starOf_L22, tabM_len, bdT (show (x : Int) < (n : Int) by omega), idx_nat, tabM_row hk, tabM_at hk, Option.bind_some, wrN (show x ≤ 67108864 by omega)]
        by_cases c : fw f n x x ≤ 0
        · rw [bdT c, bdF (by omega)]
        · rw [bdF c, bdT (by omega)]
      · intro m
        rw [List.length_range]
        simp only [impl_starOf_L22, tabM_len, bdF (show ¬ (n : Int) < (n : Int) by omega)]
  · rintro m k t hk rfl
    by_cases c : 0 < fw f k k k
    · refine .inr (.inl ⟨fun h => ?_, ?_⟩)
      · have := fwok_step hf h k hk; omega
      · simp only [impl_starOf_L16, tabM_len, bdT (show (k : Int) < (n : Int) by omega), idx_nat, tabM_row hk, tabM_at hk, Option.bind_some, bdT c]
    · have h0 : fw f k k k = 0 := by have := fw_diag hf k k; omega
      refine .inl ⟨_, ?_, rfl⟩
      simp only [impl_starOf_L16, tabM_len, bdT (show (k : Int) < (n : Int) by omega), idx_nat, tabM_row hk, tabM_at hk, Option.bind_some, bdF c, starRound (F := F) hF hn hf (tabM_len n n _) hk h0, wrN (show k ≤ 67108864 by omega)]
  · rintro m t rfl
    refine .inr ?_
    simp only [impl_starOf_L16, tabM_len, bdF (show ¬ (n : Int) < (n : Int) by omega)]
/-- both stars: there is none, or it is one table -/
theorem stars_is {F n : Nat} {f : Nat → Nat → Int} (hF : 134217728 ≤ F) (h1 : 1 ≤ n) (hn : n ≤ 10) (hf : TabOk f n) :
    (FwOk f n ∧ impl_starOf F (tabM n n f) = some (tabM n n (fw f n), true) ∧ spec_l03Star F (tabM n n f) = some (tabM n n (fw f n), true)) ∨ (¬ FwOk f n ∧ impl_starOf F (tabM n n f) = some ([], false) ∧ ∃ z, spec_l03Star F (tabM n n f) = some (z, false)) := by
  obtain ⟨q, hq, hq2⟩ := specStar_is (F := F) hF h1 hn hf
  rw [stab_iff hf (by omega), ← fwok_iff hf (by omega)] at hq2
  rcases implStar_is (F := F) hF h1 hn hf with ⟨h, h2⟩ | ⟨h, h2⟩
  · refine .inl ⟨h, h2, ?_⟩
    rw [hq, hq2.2 h]
    exact congrArg (fun t => some (t, true)) (tabM_congr fun i j hi hj => (star_eq hf (by omega) h hi hj).symm)
  · refine .inr ⟨h, h2, tabM n n (WW f n n), ?_⟩
    rw [hq]
    cases hqq : q with
    | true => exact absurd (hq2.1 hqq) h
    | false => rfl

/-! ### Tasks -/
def winB (w : GWindow) : Bool := !decide (w.Low < 0) && (!decide (1000000 < w.High) && !decide (w.High < w.Low))
def bondB (e : Int) (b : GBond) : Bool := inB b.From 0 e && (inB b.To 0 e && inB b.Least (-1000000) 1000000)
def taskB (ws : List GWindow) (bs : List GBond) : Bool := inB ws.length 1 10 && (!decide ((30 : Int) < bs.length) && (ws.all winB && bs.all (bondB (IntKind.i64.wrap ((ws.length : Int) - 1)))))
theorem specTask_is {F : Nat} {ws : List GWindow} {bs : List GBond} (hF : 134217728 ≤ F) (h0 : ws.length ≤ 1048576) (h1 : bs.length ≤ 1048576) : spec_IsTask F ws bs = some (taskB ws bs) := by
  unfold spec_IsTask taskB
  simp only [specIn_is, Option.bind_some]
  rw [all_loop (ps := ws) (g := winB) (r := false) (L := spec_IsTask_L1 F ws) ?_ ?_ (by omega), all_loop (ps := bs) (g := bondB (IntKind.i64.wrap ((ws.length : Int) - 1))) (r := false) (L := spec_IsTask_L2 F ws bs) ?_ ?_ (by omega)]
  · cases inB (ws.length : Int) 1 10 <;> cases decide ((30 : Int) < bs.length) <;> cases ws.all winB <;> cases bs.all (bondB (IntKind.i64.wrap ((ws.length : Int) - 1))) <;> rfl
  · intro n k x hk hx
    simp only [spec_IsTask_L2, bdT (show (k : Int) < (bs.length : Int) by omega), idx_nat, hx, Option.bind_some, specIn_is, spec_l01Finite, bondB, wrN (show k ≤ 67108864 by omega)]
    cases inB x.From 0 (IntKind.i64.wrap ((ws.length : Int) - 1)) <;> cases inB x.To 0 (IntKind.i64.wrap ((ws.length : Int) - 1)) <;> cases inB x.Least (-1000000) 1000000 <;> rfl
  · intro n
    simp only [spec_IsTask_L2, bdF (show ¬ (bs.length : Int) < (bs.length : Int) by omega)]
  · intro n k x hk hx
    simp only [spec_IsTask_L1, bdT (show (k : Int) < (ws.length : Int) by omega), idx_nat, hx, Option.bind_some, winB, wrN (show k ≤ 67108864 by omega)]
    cases decide (x.Low < 0) <;> cases decide (1000000 < x.High) <;> cases decide (x.High < x.Low) <;> rfl
  · intro n
    simp only [spec_IsTask_L1, bdF (show ¬ (ws.length : Int) < (ws.length : Int) by omega)]
theorem implTask_is {F : Nat} {ws : List GWindow} {bs : List GBond} (hF : 134217728 ≤ F) (h0 : ws.length ≤ 1048576) (h1 : bs.length ≤ 1048576) : impl_IsTask F ws bs = some (taskB ws bs) := by
  unfold impl_IsTask taskB
  simp only [within_is, Option.bind_some]
  rw [all_loop (ps := ws) (g := winB) (r := false) (L := impl_IsTask_L1 F ws) ?_ ?_ (by omega), slices_ContainsFunc_Bond_is (h := fun b => !bondB (IntKind.i64.wrap ((ws.length : Int) - 1)) b) hF (show bs.length ≤ 16777216 by omega) (fun x _ => ?_), any_not]
  · cases inB (ws.length : Int) 1 10 <;> cases decide ((30 : Int) < bs.length) <;> cases ws.all winB <;> cases bs.all (bondB (IntKind.i64.wrap ((ws.length : Int) - 1))) <;> rfl
  · show impl_IsTask_c1 F x _ = _
    simp only [impl_IsTask_c1, within_is, impl_isFinite, Option.bind_some, bondB]
    cases inB x.From 0 (IntKind.i64.wrap ((ws.length : Int) - 1)) <;> cases inB x.To 0 (IntKind.i64.wrap ((ws.length : Int) - 1)) <;> cases inB x.Least (-1000000) 1000000 <;> rfl
  · intro n k x hk hx
    simp only [impl_IsTask_L1, bdT (show (k : Int) < (ws.length : Int) by omega), idx_nat, hx, Option.bind_some, winB, wrN (show k ≤ 67108864 by omega)]
    cases decide (x.Low < 0) <;> cases decide (1000000 < x.High) <;> cases decide (x.High < x.Low) <;> rfl
  · intro n
    simp only [impl_IsTask_L1, bdF (show ¬ (ws.length : Int) < (ws.length : Int) by omega)]
theorem taskB_true {ws : List GWindow} {bs : List GBond} (h : taskB ws bs = true) : 1 ≤ ws.length ∧ ws.length ≤ 10 ∧ bs.length ≤ 30 ∧ (∀ w, w ∈ ws → 0 ≤ w.Low ∧ w.Low ≤ w.High ∧ w.High ≤ 1000000) ∧ ∀ b, b ∈ bs → 0 ≤ b.From ∧ b.From < ws.length ∧ 0 ≤ b.To ∧ b.To < ws.length ∧ -1000000 ≤ b.Least ∧ b.Least ≤ 1000000 := by
  unfold taskB at h
  simp only [Bool.and_eq_true, inB_true, List.all_eq_true, Bool.not_eq_true', decide_eq_false_iff_not] at h
  obtain ⟨⟨h1, h2⟩, h3, h4, h5⟩ := h
  refine ⟨by omega, by omega, by omega, fun w hw => ?_, fun b hb => ?_⟩
  · have := h4 w hw
    unfold winB at this
    simp only [Bool.and_eq_true, Bool.not_eq_true', decide_eq_false_iff_not] at this
    omega
  · have := h5 b hb
    rw [wr (show -9223372036854775808 ≤ (ws.length : Int) - 1 by omega) (by omega)] at this
    unfold bondB at this
    simp only [Bool.and_eq_true, inB_true] at this
    omega

/-! ### Bonds as arcs -/
def bnT (b : GBond) : Nat := b.To.toNat
def bnF (b : GBond) : Nat := b.From.toNat
def bT' (bs : List GBond) : Nat → Nat → Int := arcT bnT bnF GBond.Least bs
theorem bn_at {ws : List GWindow} {bs : List GBond} (h : taskB ws bs = true) {b : GBond} (hb : b ∈ bs) : b.To = (bnT b : Int) ∧ b.From = (bnF b : Int) ∧ bnT b < ws.length ∧ bnF b < ws.length := by
  obtain ⟨_, _, _, _, h5⟩ := taskB_true h
  have := h5 b hb
  unfold bnT bnF
  omega
theorem bT_ok {ws : List GWindow} {bs : List GBond} (h : taskB ws bs = true) (n : Nat) : TabOk (bT' bs) n := arcT_ok (fun x hx => by
  obtain ⟨_, _, _, _, h5⟩ := taskB_true h
  have := h5 x hx
  omega) n
theorem specBonds_is {F : Nat} {ws : List GWindow} {bs : List GBond} (hF : 134217728 ≤ F) (h : taskB ws bs = true) : spec_l23Matrix F (ws.length : Int) bs = some (tabM ws.length ws.length (bT' bs)) := by
  obtain ⟨e1, e2, e3, _, _⟩ := taskB_true h
  unfold spec_l23Matrix
  rw [specBotM_is (F := F) hF (by omega) (by omega), Option.bind_some, arc_loop (t := bnT) (f := bnF) (w := GBond.Least) (ps := bs) (L := spec_l23Matrix_L1 F bs) ?_ ?_ (by omega)]
  · rfl
  · intro m k p hm hk hp
    obtain ⟨a1, a2, a3, a4⟩ := bn_at h (List.mem_of_getElem? hp)
    simp only [spec_l23Matrix_L1, bdT (show (k : Int) < (bs.length : Int) by omega), idx_nat, hp, Option.bind_some]
    rw [a1, a2]
    simp only [idx_nat, tabM_row a3, tabM_at a4, Option.bind_some, upd_nat _ (show bnF p < ((List.range ws.length).map fun j => hm (bnT p) j).length by simpa using a4), upd_nat _ (show bnT p < (tabM ws.length ws.length hm).length by rw [tabM_len]; exact a3), wrN (show k ≤ 67108864 by omega), tabM_set a3 a4]
  · intro m hm
    simp only [spec_l23Matrix_L1, bdF (show ¬ (bs.length : Int) < (bs.length : Int) by omega)]
theorem implBonds_is {F : Nat} {ws : List GWindow} {bs : List GBond} (hF : 134217728 ≤ F) (h : taskB ws bs = true) : impl_bondMatrix F ws bs = some (tabM ws.length ws.length (bT' bs)) := by
  obtain ⟨e1, e2, e3, _, _⟩ := taskB_true h
  unfold impl_bondMatrix
  rw [implBotM_is (F := F) hF (by omega) (by omega), Option.bind_some, arc_loop (t := bnT) (f := bnF) (w := GBond.Least) (ps := bs) (L := impl_bondMatrix_L1 F bs) ?_ ?_ (by omega)]
  · rfl
  · intro m k p hm hk hp
    obtain ⟨a1, a2, a3, a4⟩ := bn_at h (List.mem_of_getElem? hp)
    simp only [impl_bondMatrix_L1, bdT (show (k : Int) < (bs.length : Int) by omega), idx_nat, hp, Option.bind_some]
    rw [a1, a2]
    simp only [idx_nat, tabM_row a3, tabM_at a4, Option.bind_some, upd_nat _ (show bnF p < ((List.range ws.length).map fun j => hm (bnT p) j).length by simpa using a4), upd_nat _ (show bnT p < (tabM ws.length ws.length hm).length by rw [tabM_len]; exact a3), wrN (show k ≤ 67108864 by omega), tabM_set a3 a4]
  · intro m hm
    simp only [impl_bondMatrix_L1, bdF (show ¬ (bs.length : Int) < (bs.length : Int) by omega)]

/-! ### Tables on vectors -/
theorem applyv_tab {n : Nat} {T : Nat → Nat → Int} {x : List Int} {M K : Int} (hT : ∀ i j, i < n → j < n → Okw M (T i j)) (hx : ∀ q, q < n → Okw K (x.getD q 0)) (hM : M ≤ 10000000000) (hK : K ≤ 10000000000) : applyv (tabM n n T) x = (List.range n).map fun i => mx n fun q => ta (T i q) (x.getD q 0) := by
  unfold applyv tabM
  rw [List.map_map]
  apply List.map_congr_left
  intro i hi
  have hi' : i < n := by simpa using hi
  show dotv ((List.range n).map fun j => T i j) x ((List.range n).map fun j => T i j).length = _
  rw [List.length_map, List.length_range]
  have : ∀ k, k ≤ n → (List.range k).foldl (fun acc q => max acc (tms (((List.range n).map fun j => T i j).getD q 0) (x.getD q 0))) (-1000000000000000) = mx k fun q => ta (T i q) (x.getD q 0) := by
    intro k
    induction k with
    | zero => intro _; rfl
    | succ k ih =>
      intro hk
      rw [List.range_succ, List.foldl_append, ih (by omega), mx_succ]
      show max _ (tms (((List.range n).map fun j => T i j).getD k 0) (x.getD k 0)) = _
      rw [List.getD_eq_getElem?_getD, tabM_at (show k < n by omega), Option.getD_some, tms_ta (hT i k hi' (by omega)) (hx k (by omega)) hM hK]
  exact this n (Nat.le_refl _)

/-! ### Greatest sub-solutions -/
theorem sub_cell {F n j : Nat} {T : Nat → Nat → Int} {b : List Int} {M : Int} (hF : 134217728 ≤ F) (hn : n ≤ 10) (hj : j < n) (hT : ∀ i j, i < n → j < n → Okw M (T i j)) (hM : M ≤ 10000000000) (hM0 : 0 ≤ M) (hb : b.length = n) (hbv : ∀ q, q < n → -10000000000 ≤ b.getD q 0 ∧ b.getD q 0 ≤ 10000000000) :
    spec_l08Sub_L5 F (tabM n n T) b (j : Int) F 0 false 0 = some (bif (List.range n).all (fun q => decide (T q j = -1000000000000000)) then 0 else - mx n fun q => ta (T q j) (- b.getD q 0)) := by
  refine for0 (L := fun m (s : Int × Bool) i => spec_l08Sub_L5 F (tabM n n T) b (j : Int) m s.1 s.2 i) (len := n) (fun k s => (s = (0, false) ∧ (∀ q, q < k → T q j = -1000000000000000)) ∨ (s = (- mx k fun q => ta (T q j) (- b.getD q 0), true) ∧ mx k (fun q => ta (T q j) (- b.getD q 0)) ≠ -1000000000000000 ∧ ∃ q, q < n ∧ T q j ≠ -1000000000000000)) (R := fun o => o = some (bif (List.range n).all (fun q => decide (T q j = -1000000000000000)) then 0 else - mx n fun q => ta (T q j) (- b.getD q 0))) (s := (0, false)) ?_ ?_ (.inl ⟨rfl, fun q hq => by omega⟩) (by omega)
  · intro m k s hk hI
    have hb1 := hbv k hk
    have hTk := hT k j hk hj
    have hmx : Okw 20000000000 (mx k fun q => ta (T q j) (- b.getD q 0)) := mx_ok fun q hq => ok_up (ta_ok (hT q j (by omega) hj) (show Okw 10000000000 (- b.getD q 0) by have := hbv q (by omega); exact .inr (by omega))) (by omega)
    have c0 : (b.getD k 0 != (-1000000000000000)) = true := neT (by omega)
    by_cases e : T k j = -1000000000000000
    · have S : spec_l08Sub_L5 F (tabM n n T) b (j : Int) (m + 1) s.1 s.2 (k : Int) = spec_l08Sub_L5 F (tabM n n T) b (j : Int) m s.1 s.2 ((k + 1 : Nat) : Int) := by
        simp only [spec_l08Sub_L5, tabM_len, bdT (show (k : Int) < (n : Int) by omega), idx_nat, tabM_row hk, tabM_at hj, Option.bind_some, e, beq_self_eq_true, cond_true, wrN (show k ≤ 67108864 by omega)]
      refine .inl ⟨s, S, ?_⟩
      rcases hI with ⟨h1, h2⟩ | ⟨h1, h2, h3⟩
      · refine .inl ⟨h1, fun q hq => ?_⟩
        by_cases e2 : q = k
        · subst e2; exact e
        · exact h2 q (by omega)
      · refine .inr ⟨?_, ?_, h3⟩
        · rw [h1, mx_succ, e, ta_botl]
          have := mx_bot (fun q => ta (T q j) (- b.getD q 0)) k
          rw [show max (mx k fun q => ta (T q j) (- b.getD q 0)) (-1000000000000000) = mx k fun q => ta (T q j) (- b.getD q 0) by omega]
        · rw [mx_succ, e, ta_botl]
          have := mx_bot (fun q => ta (T q j) (- b.getD q 0)) k
          rw [show max (mx k fun q => ta (T q j) (- b.getD q 0)) (-1000000000000000) = mx k fun q => ta (T q j) (- b.getD q 0) by omega]
          exact h2
    · unfold Okw at hTk
      have hta : ta (T k j) (- b.getD k 0) = T k j + - b.getD k 0 := ta_fin e (by omega)
      have hw : IntKind.i64.wrap (b.getD k 0 - T k j) = b.getD k 0 - T k j := wr (by omega) (by omega)
      have S : spec_l08Sub_L5 F (tabM n n T) b (j : Int) (m + 1) s.1 s.2 (k : Int) = bif (!s.2 || decide (b.getD k 0 - T k j < s.1)) then spec_l08Sub_L5 F (tabM n n T) b (j : Int) m (b.getD k 0 - T k j) true ((k + 1 : Nat) : Int) else spec_l08Sub_L5 F (tabM n n T) b (j : Int) m s.1 s.2 ((k + 1 : Nat) : Int) := by
        simp only [spec_l08Sub_L5, tabM_len, bdT (show (k : Int) < (n : Int) by omega), idx_nat, tabM_row hk, tabM_at hj, Option.bind_some, beq_false_of_ne e, cond_false, getD_of (show k < b.length by omega), c0, cond_true, hw, wrN (show k ≤ 67108864 by omega)]
        cases s.2 with
        | false => rfl
        | true => cases decide (b.getD k 0 - T k j < s.1) <;> rfl
      rw [S]
      rcases hI with ⟨h1, h2⟩ | ⟨h1, h2, h3⟩
      · have hk0 : mx k (fun q => ta (T q j) (- b.getD q 0)) = -1000000000000000 := by
          rcases mx_cases (fun q => ta (T q j) (- b.getD q 0)) k with h | ⟨q, hq, h⟩
          · exact h
          · rw [h, h2 q hq, ta_botl]
        refine .inl ⟨(b.getD k 0 - T k j, true), by rw [h1]; rfl, .inr ⟨?_, ?_, k, hk, e⟩⟩
        · rw [mx_succ, hk0, hta, show max (-1000000000000000) (T k j + - b.getD k 0) = T k j + - b.getD k 0 by omega]
          exact congrArg (fun z => (z, true)) (by omega)
        · rw [mx_succ, hk0, hta]; omega
      · unfold Okw at hmx
        by_cases c : b.getD k 0 - T k j < s.1
        · refine .inl ⟨(b.getD k 0 - T k j, true), by rw [dT c, Bool.or_true]; rfl, .inr ⟨?_, ?_, h3⟩⟩
          · rw [h1] at c
            simp only at c
            rw [mx_succ, hta, show max (mx k fun q => ta (T q j) (- b.getD q 0)) (T k j + - b.getD k 0) = T k j + - b.getD k 0 by omega]
            exact congrArg (fun z => (z, true)) (by omega)
          · rw [mx_succ, hta]; omega
        · refine .inl ⟨s, by rw [dF c, h1]; rfl, .inr ⟨?_, ?_, h3⟩⟩
          · rw [h1] at c ⊢
            simp only at c
            rw [mx_succ, hta, show max (mx k fun q => ta (T q j) (- b.getD q 0)) (T k j + - b.getD k 0) = mx k fun q => ta (T q j) (- b.getD q 0) by omega]
          · rw [mx_succ, hta]; omega
  · intro m s hI
    simp only [spec_l08Sub_L5, tabM_len, bdF (show ¬ (n : Int) < (n : Int) by omega)]
    rcases hI with ⟨h1, h2⟩ | ⟨h1, h2, q, hq, h3⟩
    · rw [show ((List.range n).all fun q => decide (T q j = -1000000000000000)) = true from List.all_eq_true.2 fun q hq => decide_eq_true (h2 q (by simpa using hq)), h1]; rfl
    · rw [show ((List.range n).all fun q => decide (T q j = -1000000000000000)) = false from by
        rw [List.all_eq_false]; exact ⟨q, by simpa using hq, by simpa using h3⟩, h1]; rfl
/-- all columns hold something -/
theorem specSub_is {F n : Nat} {T : Nat → Nat → Int} {b : List Int} {M : Int} (hF : 134217728 ≤ F) (h1 : 1 ≤ n) (hn : n ≤ 10) (hT : ∀ i j, i < n → j < n → Okw M (T i j)) (hM : M ≤ 10000000000) (hM0 : 0 ≤ M) (hd : ∀ i, i < n → T i i ≠ -1000000000000000) (hb : b.length = n) (hbv : ∀ q, q < n → -10000000000 ≤ b.getD q 0 ∧ b.getD q 0 ≤ 10000000000) :
    spec_l08Sub F (tabM n n T) b = some ((List.range n).map fun j => - mx n fun q => ta (T q j) (- b.getD q 0)) := by
  unfold spec_l08Sub
  rw [tab_loop (len := n) (f := fun j => - mx n fun q => ta (T q j) (- b.getD q 0)) (L := spec_l08Sub_L4 F (tabM n n T) b) ?_ ?_ (by omega)]
  · rfl
  · intro m xs j hj hx
    have h0 : idx (tabM n n T) 0 = some ((List.range n).map fun q => T 0 q) := (idx_nat _ 0).trans (tabM_row (by omega))
    have c := sub_cell (F := F) (b := b) hF hn hj hT hM hM0 hb hbv
    rw [show ((List.range n).all fun q => decide (T q j = -1000000000000000)) = false from by
        rw [List.all_eq_false]; exact ⟨j, by simpa using hj, by simpa using hd j hj⟩] at c
    simp only [spec_l08Sub_L4, h0, Option.bind_some, List.length_map, List.length_range, bdT (show (j : Int) < (n : Int) by omega), c, cond_false, app_le (show xs.length + [- mx n fun q => ta (T q j) (- b.getD q 0)].length ≤ 67108864 by simp only [List.length_singleton]; omega), wrN (show j ≤ 67108864 by omega)]
  · intro m xs _
    have h0 : idx (tabM n n T) 0 = some ((List.range n).map fun q => T 0 q) := (idx_nat _ 0).trans (tabM_row (by omega))
    simp only [spec_l08Sub_L4, h0, Option.bind_some, List.length_map, List.length_range, bdF (show ¬ (n : Int) < (n : Int) by omega)]

theorem implTrans_is {F n : Nat} {T : Nat → Nat → Int} (hF : 134217728 ≤ F) (h1 : 1 ≤ n) (hn : n ≤ 10) : impl_transposed F (tabM n n T) = some (tabM n n fun i j => T j i) := by
  unfold impl_transposed
  have h0 : idx (tabM n n T) 0 = some ((List.range n).map fun q => T 0 q) := (idx_nat _ 0).trans (tabM_row (by omega))
  rw [h0, Option.bind_some, List.length_map, List.length_range, tabM_len, matrixBy_is (f := fun i j => T j i) hF (by omega) (by omega) (fun i j hi hj => ?_)]
  · rfl
  · show impl_transposed_c1 F (i : Int) (j : Int) (tabM n n T) = _
    simp only [impl_transposed_c1, idx_nat, tabM_row hj, tabM_at hi, Option.bind_some]

/-! ### The least and the greatest solution of a task -/
theorem lows_is {F : Nat} {ws : List GWindow} (hF : 134217728 ≤ F) (hw : ws.length ≤ 1048576) : spec_l23Solve_L1 F ws F [] [] 0 = some (ws.map GWindow.Low, ws.map GWindow.High) := by
  refine for0 (L := fun m (s : List Int × List Int) i => spec_l23Solve_L1 F ws m s.1 s.2 i) (len := ws.length) (fun k s => s = ((ws.take k).map GWindow.Low, (ws.take k).map GWindow.High)) (R := fun o => o = some (ws.map GWindow.Low, ws.map GWindow.High)) (s := ([], [])) ?_ ?_ rfl (by omega)
  · rintro m k s hk rfl
    have hx : ws[k]? = some ws[k] := List.getElem?_eq_getElem hk
    refine .inl ⟨_, ?_, rfl⟩
    have l1 : ((ws.take k).map GWindow.Low).length + [ws[k].Low].length ≤ 67108864 := by simp; omega
    have l2 : ((ws.take k).map GWindow.High).length + [ws[k].High].length ≤ 67108864 := by simp; omega
    simp only [spec_l23Solve_L1, bdT (show (k : Int) < (ws.length : Int) by omega), idx_nat, hx, Option.bind_some, app_le l1, app_le l2, wrN (show k ≤ 67108864 by omega), List.take_add_one, Option.toList_some, List.map_append, List.map_cons, List.map_nil]
  · rintro m s rfl
    simp only [spec_l23Solve_L1, bdF (show ¬ (ws.length : Int) < (ws.length : Int) by omega), List.take_length]
theorem ilows_is {F : Nat} {ws : List GWindow} (hF : 134217728 ≤ F) (hw : ws.length ≤ 1048576) : impl_solveTask_L1 F ws F [] [] 0 = some (ws.map GWindow.Low, ws.map fun w => IntKind.i64.wrap (0 - w.High)) := by
  refine for0 (L := fun m (s : List Int × List Int) i => impl_solveTask_L1 F ws m s.1 s.2 i) (len := ws.length) (fun k s => s = ((ws.take k).map GWindow.Low, (ws.take k).map fun w => IntKind.i64.wrap (0 - w.High))) (R := fun o => o = some (ws.map GWindow.Low, ws.map fun w => IntKind.i64.wrap (0 - w.High))) (s := ([], [])) ?_ ?_ rfl (by omega)
  · rintro m k s hk rfl
    have hx : ws[k]? = some ws[k] := List.getElem?_eq_getElem hk
    refine .inl ⟨_, ?_, rfl⟩
    have l1 : ((ws.take k).map GWindow.Low).length + [ws[k].Low].length ≤ 67108864 := by simp; omega
    have l2 : ((ws.take k).map fun w => IntKind.i64.wrap (0 - w.High)).length + [IntKind.i64.wrap (0 - ws[k].High)].length ≤ 67108864 := by simp; omega
    simp only [impl_solveTask_L1, bdT (show (k : Int) < (ws.length : Int) by omega), idx_nat, hx, Option.bind_some, app_le l1, app_le l2, wrN (show k ≤ 67108864 by omega), List.take_add_one, Option.toList_some, List.map_append, List.map_cons, List.map_nil]
  · rintro m s rfl
    simp only [impl_solveTask_L1, bdF (show ¬ (ws.length : Int) < (ws.length : Int) by omega), List.take_length]
/-- the check behind -/
theorem solveCheck_is {F n : Nat} {lo hi x : List Int} (hF : 134217728 ≤ F) (hn : n ≤ 10) (h1 : lo.length = n) (h2 : hi.length = n) (h3 : x.length = n) : spec_l23Solve_L2 F lo hi x F 0 = some (bif (List.range n).all (fun k => !(decide (x.getD k 0 < lo.getD k 0) || decide (hi.getD k 0 < x.getD k 0))) then .inr () else .inl []) := by
  refine all_loop (ps := List.range n) (g := fun k => !(decide (x.getD k 0 < lo.getD k 0) || decide (hi.getD k 0 < x.getD k 0))) (r := ([] : List Int)) (L := spec_l23Solve_L2 F lo hi x) (n := F) ?_ ?_ (by rw [List.length_range]; omega)
  · intro m k y hk hy
    rw [List.length_range] at hk
    have e : y = k := by rw [List.getElem?_range hk] at hy; cases hy; rfl
    subst e
    simp only [spec_l23Solve_L2, bdT (show (y : Int) < (x.length : Int) by omega), idx_nat, getD_of (show y < x.length by omega), getD_of (show y < lo.length by omega), getD_of (show y < hi.length by omega), Option.bind_some, wrN (show y ≤ 67108864 by omega)]
    cases decide (x.getD y 0 < lo.getD y 0) <;> cases decide (hi.getD y 0 < x.getD y 0) <;> rfl
  · intro m
    rw [List.length_range]
    simp only [spec_l23Solve_L2, bdF (show ¬ (n : Int) < (x.length : Int) by omega)]
theorem isolve_is {F n : Nat} {ws : List GWindow} {es ls : List Int} (hF : 134217728 ≤ F) (hn : n ≤ 10) (h1 : ws.length = n) (h2 : es.length = n) (h3 : ls.length = n) :
    impl_solveTask_L2 F ws es F ls 0 = some (bif (List.range n).all (fun k => !decide ((ws.map GWindow.High).getD k 0 < es.getD k 0)) then .inr (ls.map fun a => IntKind.i64.wrap (0 - a)) else .inl ([], [], 4)) := by
  refine for0 (L := impl_solveTask_L2 F ws es) (len := n) (fun k t => t.length = n ∧ (∀ q, q < k → t[q]? = (ls[q]?).map fun a => IntKind.i64.wrap (0 - a)) ∧ (∀ q, k ≤ q → t[q]? = ls[q]?) ∧ ∀ q, q < k → decide ((ws.map GWindow.High).getD q 0 < es.getD q 0) = false) (R := fun o => o = some (bif (List.range n).all (fun k => !decide ((ws.map GWindow.High).getD k 0 < es.getD k 0)) then .inr (ls.map fun a => IntKind.i64.wrap (0 - a)) else .inl ([], [], 4))) ?_ ?_ ⟨h3, fun q hq => by omega, fun _ _ => rfl, fun q hq => by omega⟩ (by omega)
  · rintro m k t hk ⟨hl, hA, hB, hC⟩
    have hw : ws[k]? = some ws[k] := List.getElem?_eq_getElem (by omega)
    have hwh : (ws.map GWindow.High).getD k 0 = ws[k].High := by
      rw [List.getD_eq_getElem?_getD, List.getElem?_map, hw]; rfl
    have ht : t[k]? = some (ls.getD k 0) := by rw [hB k (Nat.le_refl _), getD_of (show k < ls.length by omega)]
    have S : impl_solveTask_L2 F ws es (m + 1) t (k : Int) = bif decide (ws[k].High < es.getD k 0) then some (.inl ([], [], 4)) else impl_solveTask_L2 F ws es m (t.set k (IntKind.i64.wrap (0 - ls.getD k 0))) ((k + 1 : Nat) : Int) := by
      simp only [impl_solveTask_L2, bdT (show (k : Int) < (ws.length : Int) by omega), idx_nat, hw, ht, Option.bind_some, upd_nat _ (show k < t.length by omega), getD_of (show k < es.length by omega), wrN (show k ≤ 67108864 by omega)]
    cases hd : decide (ws[k].High < es.getD k 0) with
    | true =>
      refine .inr ?_
      rw [S, hd, show ((List.range n).all fun k => !decide ((ws.map GWindow.High).getD k 0 < es.getD k 0)) = false from ?_]
      · rfl
      · rw [List.all_eq_false]
        refine ⟨k, by simpa using hk, ?_⟩
        rw [hwh, hd]; decide
    | false =>
      refine .inl ⟨_, by rw [S, hd]; rfl, by rw [List.length_set]; exact hl, fun q hq => ?_, fun q hq => ?_, fun q hq => ?_⟩
      · by_cases e : q = k
        · subst e
          rw [set_here (by omega), getD_of (show q < ls.length by omega)]; rfl
        · rw [set_keep e]; exact hA q (by omega)
      · rw [set_keep (by omega)]; exact hB q (by omega)
      · by_cases e : q = k
        · subst e; rw [hwh]; exact hd
        · exact hC q (by omega)
  · rintro m t ⟨hl, hA, _, hC⟩
    simp only [impl_solveTask_L2, bdF (show ¬ (n : Int) < (ws.length : Int) by omega)]
    rw [show ((List.range n).all fun k => !decide ((ws.map GWindow.High).getD k 0 < es.getD k 0)) = true from List.all_eq_true.2 fun k hk => by rw [hC k (by simpa using hk)]; rfl]
    exact congrArg (fun z : List Int => (some (Sum.inr z) : Option (Sum (List Int × List Int × Int) (List Int)))) (fill_map (by omega) (fun i hi => hA i (by omega)))
theorem solve_is {F : Nat} {ws : List GWindow} {bs : List GBond} (hF : 134217728 ≤ F) (h : taskB ws bs = true) :
    (∃ es ls, es.length = ws.length ∧ ls.length = ws.length ∧ impl_solveTask F ws bs = some (es, ls, 0) ∧ spec_l23Solve F ws bs true = some es ∧ spec_l23Solve F ws bs false = some ls) ∨
    (impl_solveTask F ws bs = some ([], [], 4) ∧ spec_l23Solve F ws bs true = some [] ∧ spec_l23Solve F ws bs false = some []) := by
  obtain ⟨n1, n10, b30, hw, _⟩ := taskB_true h
  unfold impl_solveTask spec_l23Solve
  rw [implTask_is hF (by omega) (by omega)]
  simp only [h, Bool.not_true, cond_false, Option.bind_some, implBonds_is hF h, specBonds_is hF h]
  have hk := bT_ok h ws.length
  rcases stars_is (F := F) hF n1 n10 hk with ⟨hok, h2, h3⟩ | ⟨_, h2, z, h3⟩
  · rw [h2, h3]
    simp only [Option.bind_some, Bool.not_true, cond_false, Bool.not_false, cond_true, lows_is (F := F) (ws := ws) hF (by omega), ilows_is (F := F) (ws := ws) hF (by omega)]
    generalize hT : fw (bT' bs) ws.length = T
    have okT : ∀ i j, i < ws.length → j < ws.length → Okw 10000000000 (T i j) := fun i j hi hj => by
      rw [← hT]; exact ok_up (fw_ok hk ws.length (Nat.le_refl _) hi hj) (by have := bdw_le (show ws.length ≤ 11 by omega); omega)
    have diag : ∀ i, i < ws.length → T i i = 0 := fun i hi => by
      rw [← hT]; have a1 := fw_diag hk ws.length i; have a2 := hok i hi; omega
    have hwk : ∀ k, k < ws.length → 0 ≤ (ws.map GWindow.Low).getD k 0 ∧ (ws.map GWindow.Low).getD k 0 ≤ (ws.map GWindow.High).getD k 0 ∧ (ws.map GWindow.High).getD k 0 ≤ 1000000 ∧ (ws.map fun w => IntKind.i64.wrap (0 - w.High)).getD k 0 = - (ws.map GWindow.High).getD k 0 := fun k hk => by
      have e : ws[k]? = some ws[k] := List.getElem?_eq_getElem hk
      have := hw ws[k] (List.getElem_mem hk)
      simp only [List.getD_eq_getElem?_getD, List.getElem?_map, e, Option.map_some, Option.getD_some]
      refine ⟨this.1, this.2.1, this.2.2, ?_⟩
      rw [wr (by omega) (by omega)]; omega
    generalize hlo : ws.map GWindow.Low = lo at hwk ⊢
    generalize hhi : ws.map GWindow.High = hi at hwk
    generalize hnh : (ws.map fun w => IntKind.i64.wrap (0 - w.High)) = nh at hwk ⊢
    have llo : lo.length = ws.length := by rw [← hlo]; simp
    have lhi : hi.length = ws.length := by rw [← hhi]; simp
    have lnh : nh.length = ws.length := by rw [← hnh]; simp
    have rowsT : ∀ (x : List Int), x.length = ws.length → ∀ (S : Nat → Nat → Int), ∀ row, row ∈ tabM ws.length ws.length S → row.length = x.length := fun x hx S row hrow => by rw [tabM_rows row hrow, hx]
    have A1 := specApply_is (F := F) (a := tabM ws.length ws.length T) (x := lo) hF (by rw [tabM_len]; omega) (by omega) (rowsT lo llo T)
    have A2 := implApply_is (F := F) (a := tabM ws.length ws.length T) (x := lo) hF (by rw [tabM_len]; omega) (by omega) (rowsT lo llo T)
    have A3 := implApply_is (F := F) (a := tabM ws.length ws.length fun i j => T j i) (x := nh) hF (by rw [tabM_len]; omega) (by omega) (rowsT nh lnh _)
    have V1 := applyv_tab (x := lo) (K := 1000000) okT (fun q hq => .inr (by have := hwk q hq; omega)) (by omega) (by omega)
    have V3 := applyv_tab (T := fun i j => T j i) (x := nh) (K := 1000000) (fun i j hi hj => okT j i hj hi) (fun q hq => .inr (by have := hwk q hq; omega)) (by omega) (by omega)
    have S1 := specSub_is (F := F) (b := hi) hF n1 n10 okT (by omega) (by omega) (fun i hi => by rw [diag i hi]; decide) lhi (fun q hq => by have := hwk q hq; omega)
    rw [V1] at A1 A2
    rw [V3] at A3
    rw [A1, A2, implTrans_is hF n1 n10]
    simp only [Option.bind_some, A3, S1]
    generalize hE : (fun i => mx ws.length fun q => ta (T i q) (lo.getD q 0)) = E
    have hL' : ((List.range ws.length).map fun i => mx ws.length fun q => ta (T q i) (nh.getD q 0)) = (List.range ws.length).map fun i => mx ws.length fun q => ta (T q i) (- hi.getD q 0) := by
      apply List.map_congr_left
      intro i _
      exact mx_congr fun q hq => by rw [(hwk q hq).2.2.2]
    rw [hL', solveCheck_is hF n10 llo lhi (by simp), solveCheck_is hF n10 llo lhi (by simp), isolve_is (n := ws.length) hF n10 rfl (by simp) (by simp), hhi]
    have gE : ∀ k, k < ws.length → ((List.range ws.length).map E).getD k 0 = mx ws.length fun q => ta (T k q) (lo.getD q 0) := fun k hk => by
      rw [List.getD_eq_getElem?_getD, tabM_at hk, ← hE]; rfl
    have gL : ∀ k, k < ws.length → ((List.range ws.length).map fun j => - mx ws.length fun q => ta (T q j) (- hi.getD q 0)).getD k 0 = - mx ws.length fun q => ta (T q k) (- hi.getD q 0) := fun k hk => by
      rw [List.getD_eq_getElem?_getD, tabM_at hk]; rfl
    -- what each check says
    have low1 : ∀ k, k < ws.length → lo.getD k 0 ≤ mx ws.length fun q => ta (T k q) (lo.getD q 0) := fun k hk => by
      have h1 := mx_ge (g := fun q => ta (T k q) (lo.getD q 0)) hk
      simp only [diag k hk] at h1
      rw [ta_fin (by decide) (by have := hwk k hk; omega)] at h1
      omega
    have hig1 : ∀ k, k < ws.length → - mx ws.length (fun q => ta (T q k) (- hi.getD q 0)) ≤ hi.getD k 0 := fun k hk => by
      have h1 := mx_ge (g := fun q => ta (T q k) (- hi.getD q 0)) hk
      simp only [diag k hk] at h1
      rw [ta_fin (by decide) (by have := hwk k hk; omega)] at h1
      omega
    have okL : ∀ k, k < ws.length → Okw 10001000000 (mx ws.length fun q => ta (T q k) (- hi.getD q 0)) := fun k hk => mx_ok fun q hq => ok_up (ta_ok (okT q k hq hk) (show Okw 1000000 (- hi.getD q 0) by have := hwk q hq; exact .inr (by omega))) (by omega)
    have iff : (∃ k, k < ws.length ∧ hi.getD k 0 < mx ws.length fun q => ta (T k q) (lo.getD q 0)) ↔ ∃ k, k < ws.length ∧ - mx ws.length (fun q => ta (T q k) (- hi.getD q 0)) < lo.getD k 0 := by
      constructor
      · rintro ⟨k, hk, h1⟩
        rcases mx_cases (fun q => ta (T k q) (lo.getD q 0)) ws.length with e | ⟨q, hq, e⟩
        · rw [e] at h1; have := hwk k hk; omega
        · rw [e] at h1
          have k1 := hwk k hk
          have k2 := hwk q hq
          have hne : T k q ≠ -1000000000000000 := fun e2 => by rw [e2, ta_botl] at h1; omega
          rw [ta_fin hne (by omega)] at h1
          refine ⟨q, hq, ?_⟩
          have h2 := mx_ge (g := fun i => ta (T i q) (- hi.getD i 0)) hk
          rw [ta_fin hne (by omega)] at h2
          omega
      · rintro ⟨k, hk, h1⟩
        have k1 := hwk k hk
        rcases mx_cases (fun q => ta (T q k) (- hi.getD q 0)) ws.length with e | ⟨q, hq, e⟩
        · have := hig1 k hk; rw [e] at this; omega
        · rw [e] at h1
          have k2 := hwk q hq
          have hne : T q k ≠ -1000000000000000 := fun e2 => by
            have := hig1 k hk; rw [e, e2, ta_botl] at this; omega
          rw [ta_fin hne (by omega)] at h1
          refine ⟨q, hq, ?_⟩
          have h2 := mx_ge (g := fun i => ta (T q i) (lo.getD i 0)) hk
          rw [ta_fin hne (by omega)] at h2
          omega
    by_cases c : ∃ k, k < ws.length ∧ hi.getD k 0 < mx ws.length fun q => ta (T k q) (lo.getD q 0)
    · right
      obtain ⟨k2, hk2, c2⟩ := iff.1 c
      obtain ⟨k1, hk1, c1⟩ := c
      rw [show ((List.range ws.length).all fun k => !decide (hi.getD k 0 < ((List.range ws.length).map E).getD k 0)) = false from by
          rw [List.all_eq_false]; exact ⟨k1, by simpa using hk1, by rw [gE k1 hk1, dT c1]; decide⟩,
        show ((List.range ws.length).all fun k => !(decide (((List.range ws.length).map E).getD k 0 < lo.getD k 0) || decide (hi.getD k 0 < ((List.range ws.length).map E).getD k 0))) = false from by
          rw [List.all_eq_false]; exact ⟨k1, by simpa using hk1, by rw [gE k1 hk1, dT c1, Bool.or_true]; decide⟩,
        show ((List.range ws.length).all fun k => !(decide (((List.range ws.length).map fun j => - mx ws.length fun q => ta (T q j) (- hi.getD q 0)).getD k 0 < lo.getD k 0) || decide (hi.getD k 0 < ((List.range ws.length).map fun j => - mx ws.length fun q => ta (T q j) (- hi.getD q 0)).getD k 0))) = false from by
          rw [List.all_eq_false]; exact ⟨k2, by simpa using hk2, by rw [gL k2 hk2, dT c2, Bool.true_or]; decide⟩]
      exact ⟨rfl, rfl, rfl⟩
    · left
      have c' : ¬ ∃ k, k < ws.length ∧ - mx ws.length (fun q => ta (T q k) (- hi.getD q 0)) < lo.getD k 0 := fun h => c (iff.2 h)
      rw [show ((List.range ws.length).all fun k => !decide (hi.getD k 0 < ((List.range ws.length).map E).getD k 0)) = true from
          List.all_eq_true.2 fun k hk => by
            have hk' : k < ws.length := by simpa using hk
            rw [gE k hk', dF (fun h => c ⟨k, hk', h⟩)]; rfl,
        show ((List.range ws.length).all fun k => !(decide (((List.range ws.length).map E).getD k 0 < lo.getD k 0) || decide (hi.getD k 0 < ((List.range ws.length).map E).getD k 0))) = true from
          List.all_eq_true.2 fun k hk => by
            have hk' : k < ws.length := by simpa using hk
            have := low1 k hk'
            rw [gE k hk', dF (fun h => c ⟨k, hk', h⟩), dF (by omega)]; rfl,
        show ((List.range ws.length).all fun k => !(decide (((List.range ws.length).map fun j => - mx ws.length fun q => ta (T q j) (- hi.getD q 0)).getD k 0 < lo.getD k 0) || decide (hi.getD k 0 < ((List.range ws.length).map fun j => - mx ws.length fun q => ta (T q j) (- hi.getD q 0)).getD k 0))) = true from
          List.all_eq_true.2 fun k hk => by
            have hk' : k < ws.length := by simpa using hk
            have := hig1 k hk'
            rw [gL k hk', dF (fun h => c' ⟨k, hk', h⟩), dF (by omega)]; rfl]
      refine ⟨(List.range ws.length).map E, (List.range ws.length).map fun j => - mx ws.length fun q => ta (T q j) (- hi.getD q 0), by simp, by simp, ?_, rfl, rfl⟩
      simp only [Option.bind_some, cond_true, List.map_map]
      refine congrArg (fun z => some ((List.range ws.length).map E, z, (0 : Int))) ?_
      apply List.map_congr_left
      intro k hk
      have := okL k (by simpa using hk)
      have h2 := hig1 k (by simpa using hk)
      have h3 := hwk k (by simpa using hk)
      unfold Okw at this
      show IntKind.i64.wrap (0 - mx ws.length fun q => ta (T q k) (- hi.getD q 0)) = - mx ws.length fun q => ta (T q k) (- hi.getD q 0)
      rw [wr (by omega) (by omega)]; omega
  · right
    rw [h2, h3]
    exact ⟨rfl, rfl, rfl⟩

end Go.Proofs.Ytmijmamolmoheaa
