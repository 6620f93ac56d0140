/- Plain lemmas about the small functions of the laws. -/
import Derived.Test.YtebmlphobgaboabLatestModels
import Derived.Test.YtebmlphobgaboabBf
namespace Go.Proofs.Ytebmlphobgaboab

theorem slices_IndexFunc_Place_is {F : Nat} {ps : List GPlace} {m : GPlace → Option Bool} {h : GPlace → Bool} (hF : 134217728 ≤ F) (hl : ps.length ≤ 16777216) (hm : ∀ x, x ∈ ps → m x = some (h x)) :
    slices_IndexFunc_Place F ps m = some (firstAt (ps.findIdx? h)) := by
  unfold slices_IndexFunc_Place
  rw [find_loop (ps := ps) (h := h) (v := fun k => (k : Int)) (L := slices_IndexFunc_Place_L1 F ps m) ?_ ?_ (by omega)]
  · cases ps.findIdx? h <;> rfl
  · intro n k x hk hx
    simp only [slices_IndexFunc_Place_L1, bdT (show (k : Int) < (ps.length : Int) by omega), idx_nat, hx, Option.bind_some, hm x (List.mem_of_getElem? hx), wrN (show k ≤ 67108864 by omega)]
  · intro n
    simp only [slices_IndexFunc_Place_L1, bdF (show ¬ (ps.length : Int) < (ps.length : Int) by omega)]
theorem slices_ContainsFunc_Place_is {F : Nat} {ps : List GPlace} {m : GPlace → Option Bool} {h : GPlace → Bool} (hF : 134217728 ≤ F) (hl : ps.length ≤ 16777216) (hm : ∀ x, x ∈ ps → m x = some (h x)) :
    slices_ContainsFunc_Place F ps m = some (ps.any h) := by
  unfold slices_ContainsFunc_Place
  rw [bind_of (slices_IndexFunc_Place_is hF hl hm), find_any]

theorem slices_IndexFunc_sint64_is {F : Nat} {ps : List (List Int)} {m : (List Int) → Option Bool} {h : (List Int) → Bool} (hF : 134217728 ≤ F) (hl : ps.length ≤ 16777216) (hm : ∀ x, x ∈ ps → m x = some (h x)) :
    slices_IndexFunc_sint64 F ps m = some (firstAt (ps.findIdx? h)) := by
  unfold slices_IndexFunc_sint64
  rw [find_loop (ps := ps) (h := h) (v := fun k => (k : Int)) (L := slices_IndexFunc_sint64_L1 F ps m) ?_ ?_ (by omega)]
  · cases ps.findIdx? h <;> rfl
  · intro n k x hk hx
    simp only [slices_IndexFunc_sint64_L1, bdT (show (k : Int) < (ps.length : Int) by omega), idx_nat, hx, Option.bind_some, hm x (List.mem_of_getElem? hx), wrN (show k ≤ 67108864 by omega)]
  · intro n
    simp only [slices_IndexFunc_sint64_L1, bdF (show ¬ (ps.length : Int) < (ps.length : Int) by omega)]
theorem slices_ContainsFunc_sint64_is {F : Nat} {ps : List (List Int)} {m : (List Int) → Option Bool} {h : (List Int) → Bool} (hF : 134217728 ≤ F) (hl : ps.length ≤ 16777216) (hm : ∀ x, x ∈ ps → m x = some (h x)) :
    slices_ContainsFunc_sint64 F ps m = some (ps.any h) := by
  unfold slices_ContainsFunc_sint64
  rw [bind_of (slices_IndexFunc_sint64_is hF hl hm), find_any]

/-! ### What comes to an end -/
def Tot {α : Type} (P : α → Prop) (o : Option α) : Prop := ∃ x, o = some x ∧ P x

theorem Tot.pure {α : Type} {P : α → Prop} {x : α} (h : P x) : Tot P (some x) := ⟨x, rfl, h⟩

theorem Tot.bind {α β : Type} {P : α → Prop} {Q : β → Prop} {o : Option α} {f : α → Option β} (h : Tot P o) (k : ∀ x, P x → Tot Q (f x)) : Tot Q (o.bind f) := by
  obtain ⟨x, rfl, hx⟩ := h; exact k x hx

theorem Tot.cond {α : Type} {P : α → Prop} {b : Bool} {x y : Option α} (h1 : b = true → Tot P x) (h2 : b = false → Tot P y) : Tot P (bif b then x else y) := by
  cases b
  · exact h2 rfl
  · exact h1 rfl

theorem Tot.mono {α : Type} {P Q : α → Prop} {o : Option α} (h : Tot P o) (k : ∀ x, P x → Q x) : Tot Q o := by
  obtain ⟨x, e, hx⟩ := h; exact ⟨x, e, k x hx⟩

theorem app_tot {α : Type} {xs ys : List α} (h : xs.length + ys.length ≤ 67108864) : Tot (fun zs => zs = xs ++ ys) (app xs ys) := ⟨_, app_le h, rfl⟩

theorem idx_tot {α : Type} {xs : List α} {i : Int} (h0 : 0 ≤ i) (h1 : i < (xs.length : Int)) : Tot (fun x => x ∈ xs) (idx xs i) := ⟨_, idx_int h0 h1, List.getElem_mem _⟩

theorem upd_tot {α : Type} {xs : List α} {i : Int} {x : α} (h0 : 0 ≤ i) (h1 : i < (xs.length : Int)) : Tot (fun ys => ys.length = xs.length) (upd xs i x) := ⟨_, upd_int x h0 h1, List.length_set⟩

/-- how many numbers stand in the first i rows -/
def offR (rows : List (List Int)) (i : Nat) : Nat := ((rows.take i).map List.length).sum

theorem offR_zero (rows : List (List Int)) : offR rows 0 = 0 := rfl

theorem offR_succ {rows : List (List Int)} {i : Nat} {row : List Int} (h : rows[i]? = some row) : offR rows (i + 1) = offR rows i + row.length := by
  unfold offR
  rw [List.take_add_one, h]; simp

theorem offR_mono (rows : List (List Int)) (i : Nat) : offR rows i ≤ offR rows (i + 1) := by
  unfold offR
  rw [List.take_add_one, List.map_append, List.sum_append]; omega

theorem offR_le {rows : List (List Int)} {i j : Nat} (h : i ≤ j) : offR rows i ≤ offR rows j := by
  induction j with
  | zero => obtain rfl : i = 0 := by omega
            exact Nat.le_refl _
  | succ j ih =>
    by_cases e : i = j + 1
    · subst e; exact Nat.le_refl _
    · exact Nat.le_trans (ih (by omega)) (offR_mono rows j)


theorem rows_le {rows : List (List Int)} {N : Nat} (hr : offR rows rows.length ≤ N) : ∀ row, row ∈ rows → row.length ≤ N := by
  intro row hm
  obtain ⟨i, hi, rfl⟩ := List.getElem_of_mem hm
  have h1 := offR_succ (List.getElem?_eq_getElem hi)
  have h2 := offR_le (rows := rows) (show i + 1 ≤ rows.length by omega)
  omega

/-! ### Slices of matrices -/
def wtM (m : List (List Int)) : Nat := m.length + offR m m.length

def offW (ms : List (List (List Int))) (i : Nat) : Nat := ((ms.take i).map wtM).sum

def offD (ms : List (List (List Int))) (i : Nat) : Nat := ((ms.take i).map fun m => offR m m.length).sum

theorem offW_succ {ms : List (List (List Int))} {i : Nat} {m : List (List Int)} (h : ms[i]? = some m) : offW ms (i + 1) = offW ms i + wtM m := by
  unfold offW
  rw [List.take_add_one, h]; simp

theorem offD_succ {ms : List (List (List Int))} {i : Nat} {m : List (List Int)} (h : ms[i]? = some m) : offD ms (i + 1) = offD ms i + offR m m.length := by
  unfold offD
  rw [List.take_add_one, h]; simp

theorem offD_le (ms : List (List (List Int))) : ∀ i, offD ms i ≤ offW ms i
  | 0 => Nat.le_refl _
  | i + 1 => by
    have := offD_le ms i
    cases h : ms[i]? with
    | none =>
      have e1 : offW ms (i + 1) = offW ms i := by unfold offW; rw [List.take_add_one, h]; simp
      have e2 : offD ms (i + 1) = offD ms i := by unfold offD; rw [List.take_add_one, h]; simp
      omega
    | some m =>
      rw [offW_succ h, offD_succ h]
      unfold wtM; omega

def inB (n lo hi : Int) : Bool := decide (lo ≤ n) && decide (n ≤ hi)

theorem inB_true {n lo hi : Int} : inB n lo hi = true ↔ lo ≤ n ∧ n ≤ hi := by unfold inB; simp

theorem specIn_is {F : Nat} {n lo hi : Int} : spec_l01In F n lo hi = some (inB n lo hi) := by
  simp only [spec_l01In, cond_and, Option.bind_some]; rfl

theorem within_is {F : Nat} {n lo hi : Int} : impl_within F n lo hi = some (inB n lo hi) := by
  simp only [impl_within, cond_and, Option.bind_some]; rfl


theorem implAllWithin_is {F : Nat} {xs : List Int} {lo hi : Int} (hF : 134217728 ≤ F) (hl : xs.length ≤ 1048576) : impl_allWithin F xs lo hi = some (xs.all fun x => inB x lo hi) := by
  unfold impl_allWithin
  rw [all_loop (ps := xs) (g := fun x => inB x lo hi) (r := false) (L := impl_allWithin_L1 F xs lo hi) ?_ ?_ (by omega)]
  · cases (xs.all fun x => inB x lo hi) <;> rfl
  · intro n k x hk hx
    simp only [impl_allWithin_L1, bdT (show (k : Int) < (xs.length : Int) by omega), idx_nat, hx, Option.bind_some, within_is, condn, wrN (show k ≤ 67108864 by omega)]
  · intro n
    simp only [impl_allWithin_L1, bdF (show ¬ (xs.length : Int) < (xs.length : Int) by omega)]

/-! ### Values and vectors -/
def valB (a : Int) : Bool := (a == (-1000000000000000)) || inB a (-1000000) 1000000

/-! ### Sums of the algebra -/
/-! ### Lists of finite numbers -/
def vecB (x : List Int) : Bool := inB x.length 1 10 && x.all valB

def firstL (a : List (List Int)) : Int := ((a.getD 0 []).length : Int)

def matB (a : List (List Int)) : Bool := inB a.length 1 10 && a.all (fun row => vecB row && ((row.length : Int) == firstL a))

def squareB (a : List (List Int)) : Bool := matB a && ((a.length : Int) == firstL a)

/-! ### Matrices by their entries -/
def tabM (m n : Nat) (f : Nat → Nat → Int) : List (List Int) := (List.range m).map fun i => (List.range n).map fun j => f i j

theorem tabM_len (m n : Nat) (f : Nat → Nat → Int) : (tabM m n f).length = m := by unfold tabM; simp

theorem tabM_row {m n i : Nat} {f : Nat → Nat → Int} (h : i < m) : (tabM m n f)[i]? = some ((List.range n).map fun j => f i j) := by
  unfold tabM; rw [List.getElem?_map, List.getElem?_range h]; rfl

theorem tabM_of {m n : Nat} {f : Nat → Nat → Int} {t : List (List Int)} (hl : t.length = m) (h : ∀ i, i < m → t[i]? = some ((List.range n).map fun j => f i j)) : t = tabM m n f := by
  apply List.ext_getElem?; intro q
  by_cases hq : q < m
  · rw [h q hq, tabM_row hq]
  · rw [List.getElem?_eq_none (by omega), List.getElem?_eq_none (by rw [tabM_len]; omega)]

theorem row_of {n : Nat} {f : Nat → Int} {r : List Int} (hl : r.length = n) (h : ∀ j, j < n → r[j]? = some (f j)) : r = (List.range n).map f := by
  apply List.ext_getElem?; intro q
  by_cases hq : q < n
  · rw [h q hq, List.getElem?_map, List.getElem?_range hq]; rfl
  · rw [List.getElem?_eq_none (by omega), List.getElem?_eq_none (by simp; omega)]

theorem byRow {F n i : Nat} {en : Int → Int → Option Int} {f : Nat → Int} {ms : List (List Int)} {q : List Int} (hF : 134217728 ≤ F) (hn : n ≤ 1048576) (hen : ∀ j, j < n → en (i : Int) (j : Int) = some (f j)) (hq : ms[i]? = some q) (hql : q.length = n) :
    impl_matrixBy_L5 F en (i : Int) q F ms 0 = some (ms.set i ((List.range n).map f)) := by
  have him : i < ms.length := (List.getElem?_eq_some_iff.1 hq).1
  refine for0 (L := impl_matrixBy_L5 F en (i : Int) q) (len := q.length) (fun k t => ∃ r, t = ms.set i r ∧ r.length = n ∧ ∀ j, j < k → r[j]? = some (f j)) (R := fun o => o = some (ms.set i ((List.range n).map f))) ?_ ?_ ⟨q, (set_same hq).symm, hql, fun j hj => by omega⟩ (by omega)
  · rintro m k t hk ⟨r, rfl, hrl, h1⟩
    have hkr : k < r.length := by omega
    refine .inl ⟨ms.set i (r.set k (f k)), ?_, r.set k (f k), rfl, by rw [List.length_set]; exact hrl, fun j hj => ?_⟩
    · simp only [impl_matrixBy_L5, bdT (show (k : Int) < (q.length : Int) by omega), idx_nat, set_here him, hen k (by omega), getD_of hkr, Option.bind_some, upd_nat _ hkr, upd_nat _ (show i < (ms.set i r).length by rw [List.length_set]; exact him), List.set_set, wrN (show k ≤ 67108864 by omega)]
    · by_cases e : j = k
      · subst e; exact set_here hkr
      · rw [set_keep e]; exact h1 j (by omega)
  · rintro m t ⟨r, rfl, hrl, h1⟩
    simp only [impl_matrixBy_L5, bdF (show ¬ (q.length : Int) < (q.length : Int) by omega)]
    rw [row_of hrl (fun j hj => h1 j (by omega))]

theorem matrixBy_is {F m n : Nat} {en : Int → Int → Option Int} {f : Nat → Nat → Int} (hF : 134217728 ≤ F) (hm : m ≤ 1048576) (hn : n ≤ 1048576) (hen : ∀ i j, i < m → j < n → en (i : Int) (j : Int) = some (f i j)) : impl_matrixBy F (m : Int) (n : Int) en = some (tabM m n f) := by
  unfold impl_matrixBy
  rw [mk_nat _ (by omega)]
  simp only [Option.bind_some]
  have H := for0 (L := impl_matrixBy_L4 F (n : Int) en (List.replicate m [])) (len := m) (fun k t => t.length = m ∧ ∀ i, i < k → t[i]? = some ((List.range n).map fun j => f i j)) (R := fun o => o = some (tabM m n f)) (s := List.replicate m []) (n := F) ?_ ?_ ⟨by simp, fun i hi => by omega⟩ (by omega)
  · rw [H]; rfl
  · rintro q k t hk ⟨hl, h1⟩
    have hkt : k < t.length := by omega
    have hmk : mk (n : Int) (0 : Int) = some (List.replicate n 0) := mk_nat _ (by omega)
    have ht : t[k]? = some t[k] := List.getElem?_eq_getElem hkt
    have hrow := byRow (F := F) (n := n) (i := k) (en := en) (f := fun j => f k j) (ms := t.set k (List.replicate n 0)) (q := List.replicate n 0) hF hn (fun j hj => hen k j hk hj) (set_here hkt) (by simp)
    refine .inl ⟨t.set k ((List.range n).map fun j => f k j), ?_, by rw [List.length_set]; exact hl, fun i hi => ?_⟩
    · rw [List.set_set] at hrow
      simp only [impl_matrixBy_L4, List.length_replicate, bdT (show (k : Int) < (m : Int) by omega), hmk, idx_nat, ht, Option.bind_some, upd_nat _ hkt, set_here hkt, hrow, wrN (show k ≤ 67108864 by omega)]
    · by_cases e : i = k
      · subst e; exact set_here hkt
      · rw [set_keep e]; exact h1 i (by omega)
  · rintro q t ⟨hl, h1⟩
    simp only [impl_matrixBy_L4, List.length_replicate, bdF (show ¬ (m : Int) < (m : Int) by omega)]
    rw [tabM_of hl h1]

theorem specBotM_is {F m n : Nat} (hF : 134217728 ≤ F) (hm : m ≤ 1048576) (hn : n ≤ 1048576) : spec_l02Bottom F (m : Int) (n : Int) = some (tabM m n fun _ _ => (-1000000000000000)) := by
  unfold spec_l02Bottom
  rw [tab_loop (len := m) (f := fun _ => (List.range n).map fun _ => (-1000000000000000)) (L := spec_l02Bottom_L4 F (m : Int) (n : Int)) ?_ ?_ (by omega)]
  · rfl
  · intro k xs j hj hx
    have inner : spec_l02Bottom_L5 F (n : Int) F [] 0 = some ((List.range n).map fun _ => (-1000000000000000)) := by
      refine tab_loop (len := n) (f := fun _ => (-1000000000000000)) (L := spec_l02Bottom_L5 F (n : Int)) ?_ ?_ (by omega)
      · intro k xs j hj hx
        simp only [spec_l02Bottom_L5, bdT (show (j : Int) < (n : Int) by omega), app_le (show xs.length + [(-1000000000000000 : Int)].length ≤ 67108864 by simp only [List.length_singleton]; omega), Option.bind_some, wrN (show j ≤ 67108864 by omega)]
      · intro k xs _
        simp only [spec_l02Bottom_L5, bdF (show ¬ (n : Int) < (n : Int) by omega)]
    simp only [spec_l02Bottom_L4, bdT (show (j : Int) < (m : Int) by omega), inner, app_le (show xs.length + [(List.range n).map fun _ => (-1000000000000000 : Int)].length ≤ 67108864 by simp only [List.length_singleton]; omega), Option.bind_some, wrN (show j ≤ 67108864 by omega)]
  · intro k xs _
    simp only [spec_l02Bottom_L4, bdF (show ¬ (m : Int) < (m : Int) by omega)]

/-! ### Products -/
/-! ### Modes -/
def firstN (ms : List (List (List Int))) : Int := ((ms.getD 0 []).length : Int)

def modesB (ms : List (List (List Int))) : Bool := inB ms.length 1 4 && ms.all fun m => squareB m && ((m.length : Int) == firstN ms)

/-- all matrices are squares of one size -/
theorem modesB_true {ms : List (List (List Int))} (h : modesB ms = true) : ∃ n : Nat, (ms.getD 0 []).length = n ∧ 1 ≤ n ∧ n ≤ 10 ∧ 1 ≤ ms.length ∧ ms.length ≤ 4 ∧ ∀ m, m ∈ ms → m.length = n ∧ ∀ row, row ∈ m → row.length = n := by
  unfold modesB at h
  rw [Bool.and_eq_true, inB_true, List.all_eq_true] at h
  have hm : ms.getD 0 [] ∈ ms := by
    rw [List.getD_eq_getElem?_getD, List.getElem?_eq_getElem (show 0 < ms.length by omega)]; exact List.getElem_mem _
  have sq : ∀ m, squareB m = true → 1 ≤ m.length ∧ m.length ≤ 10 ∧ ∀ row, row ∈ m → row.length = m.length := by
    intro m hs
    unfold squareB matB at hs
    simp only [Bool.and_eq_true, inB_true, beq_iff_eq, List.all_eq_true] at hs
    refine ⟨by omega, by omega, fun row hrow => ?_⟩
    have := (hs.1.2 row hrow).2
    omega
  have h0 := h.2 _ hm
  rw [Bool.and_eq_true] at h0
  obtain ⟨a1, a2, _⟩ := sq _ h0.1
  refine ⟨_, rfl, a1, a2, by omega, by omega, fun m hmm => ?_⟩
  have h2 := h.2 m hmm
  rw [Bool.and_eq_true, beq_iff_eq] at h2
  unfold firstN at h2
  obtain ⟨_, _, b3⟩ := sq _ h2.1
  exact ⟨by omega, fun row hrow => by rw [b3 row hrow]; omega⟩

/-! ### Words -/
theorem specWithin_is {F : Nat} {xs : List Int} {most lo hi : Int} (hF : 134217728 ≤ F) (hl : xs.length ≤ 1048576) : spec_l01Within F xs most lo hi = some ((xs.all fun x => inB x lo hi) && decide ((xs.length : Int) ≤ most)) := by
  unfold spec_l01Within
  rw [all_loop (ps := xs) (g := fun x => inB x lo hi) (r := false) (L := spec_l01Within_L1 F xs lo hi) ?_ ?_ (by omega)]
  · cases xs.all (fun x => inB x lo hi) <;> rfl
  · intro n k x hk hx
    simp only [spec_l01Within_L1, bdT (show (k : Int) < (xs.length : Int) by omega), idx_nat, hx, Option.bind_some, specIn_is, condn, wrN (show k ≤ 67108864 by omega)]
  · intro n
    simp only [spec_l01Within_L1, bdF (show ¬ (xs.length : Int) < (xs.length : Int) by omega)]

/-! ### Shifted vectors, sums of matrices -/
/-! ### Sums of matrices -/
/-! ### Sums of matrices, by the reference -/
theorem specOwn_is {F : Nat} {x : List Int} (hx : x.length ≤ 1048576) : spec_l01Own F x = some x := by
  unfold spec_l01Own
  rw [app_le (by simp only [List.length_nil]; omega)]; rfl

theorem specOwnM_is {F : Nat} {a : List (List Int)} (hF : 134217728 ≤ F) (ha : a.length ≤ 1048576) (hr : ∀ row, row ∈ a → row.length ≤ 1048576) : spec_l02Own F a = some a := by
  unfold spec_l02Own
  rw [grow_loop (ps := a) (g := fun r => [r]) (L := spec_l02Own_L1 F a) (by simp) ?_ ?_ (by omega)]
  · rw [Option.bind_some, flatMap_one, List.map_id']
  · intro n xs k v hk hv hl
    simp only [spec_l02Own_L1, bdT (show (k : Int) < (a.length : Int) by omega), idx_nat, hv, Option.bind_some, specOwn_is (hr v (List.mem_of_getElem? hv)), app_le (show xs.length + [v].length ≤ 67108864 by simp only [List.length_singleton]; omega), wrN (show k ≤ 67108864 by omega)]
  · intro n xs
    simp only [spec_l02Own_L1, bdF (show ¬ (a.length : Int) < (a.length : Int) by omega)]

/-! ### Tables by their entries -/
theorem tabM_at {n i : Nat} {f : Nat → Int} (h : i < n) : ((List.range n).map f)[i]? = some (f i) := by
  rw [List.getElem?_map, List.getElem?_range h]; rfl

/-! ### Tables of arcs -/
def arcT {α : Type} (t f : α → Nat) (w : α → Int) : List α → Nat → Nat → Int
  | l => fun i j => l.foldl (fun acc x => if t x = i ∧ f x = j then max acc (w x) else acc) (-1000000000000000)

theorem arcT_le {α : Type} {t f : α → Nat} {w : α → Int} : ∀ (l : List α) (a0 : Int) (i j : Nat), a0 ≤ l.foldl (fun acc x => if t x = i ∧ f x = j then max acc (w x) else acc) a0
  | [], a0, _, _ => Int.le_refl _
  | x :: l, a0, i, j => by
    rw [List.foldl_cons]
    by_cases h : t x = i ∧ f x = j
    · rw [if_pos h]; exact Int.le_trans (by omega) (arcT_le l _ i j)
    · rw [if_neg h]; exact arcT_le l a0 i j

theorem arcT_ge' {α : Type} {t f : α → Nat} {w : α → Int} : ∀ (l : List α) (a0 : Int) (x : α), x ∈ l → w x ≤ l.foldl (fun acc y => if t y = t x ∧ f y = f x then max acc (w y) else acc) a0
  | [], _, x, h => by cases h
  | y :: l, a0, x, h => by
    rw [List.foldl_cons]
    rcases List.mem_cons.1 h with rfl | h
    · rw [if_pos ⟨rfl, rfl⟩]; exact Int.le_trans (by omega) (arcT_le l _ _ _)
    · exact arcT_ge' l _ x h

theorem arcT_ge {α : Type} {t f : α → Nat} {w : α → Int} {l : List α} {x : α} (h : x ∈ l) : w x ≤ arcT t f w l (t x) (f x) := arcT_ge' l _ x h

theorem arcT_cases' {α : Type} {t f : α → Nat} {w : α → Int} (i j : Nat) : ∀ (l : List α) (a0 : Int), l.foldl (fun acc x => if t x = i ∧ f x = j then max acc (w x) else acc) a0 = a0 ∨ ∃ x, x ∈ l ∧ t x = i ∧ f x = j ∧ l.foldl (fun acc x => if t x = i ∧ f x = j then max acc (w x) else acc) a0 = w x
  | [], a0 => .inl rfl
  | y :: l, a0 => by
    rw [List.foldl_cons]
    by_cases h : t y = i ∧ f y = j
    · rw [if_pos h]
      rcases arcT_cases' i j l (max a0 (w y)) with h1 | ⟨x, h1, h2, h3, h4⟩
      · by_cases h5 : w y ≤ a0
        · left; rw [h1]; omega
        · right; exact ⟨y, by simp, h.1, h.2, by rw [h1]; omega⟩
      · right; exact ⟨x, by simp [h1], h2, h3, h4⟩
    · rw [if_neg h]
      rcases arcT_cases' i j l a0 with h1 | ⟨x, h1, h2, h3, h4⟩
      · exact .inl h1
      · right; exact ⟨x, by simp [h1], h2, h3, h4⟩

theorem arcT_cases {α : Type} {t f : α → Nat} {w : α → Int} (l : List α) (i j : Nat) : arcT t f w l i j = -1000000000000000 ∨ ∃ x, x ∈ l ∧ t x = i ∧ f x = j ∧ arcT t f w l i j = w x := arcT_cases' i j l _

/-! ### The star, both ways -/
theorem implCloneM_is {F : Nat} {a : List (List Int)} (hF : 134217728 ≤ F) (ha : a.length ≤ 1048576) (hr : ∀ row, row ∈ a → row.length ≤ 1048576) : impl_cloneMatrix F a = some a := by
  unfold impl_cloneMatrix
  rw [mk_nat _ (by omega)]
  simp only [Option.bind_some]
  rw [fill_loop (ps := a) (f := fun r => r) (L := impl_cloneMatrix_L1 F a) ?_ ?_ (by simp) (by omega), List.map_id']; rfl
  · intro n xs k x hk hx hl
    have hk' : k < xs.length := by omega
    have hq : xs[k]? = some xs[k] := List.getElem?_eq_getElem hk'
    have hcl : slices_Clone_int64 F x = some x := by
      unfold slices_Clone_int64
      rw [app_le (by have := hr x (List.mem_of_getElem? hx); simp only [List.length_nil]; omega)]; rfl
    simp only [impl_cloneMatrix_L1, bdT (show (k : Int) < (a.length : Int) by omega), idx_nat, hx, hq, Option.bind_some, hcl, upd_nat _ hk', wrN (show k ≤ 67108864 by omega)]
  · intro n xs
    simp only [impl_cloneMatrix_L1, bdF (show ¬ (a.length : Int) < (a.length : Int) by omega)]

/-! ### Runs of a system -/
def ir : Option (List Int × List Int) → Sum (List Int × List Int × Int) (List Int × List Int)
  | none => .inl ([], [], 3)
  | some p => .inr p

def placeB (e : Int) (p : GPlace) : Bool := inB p.From 0 e && (inB p.To 0 e && (inB p.Delay 0 1000 && inB p.Tokens 0 5))

def graphB (g : GEventGraph) : Bool := g.Places.all (placeB (IntKind.i64.wrap (g.Events - 1))) && (inB g.Events 1 10 && decide ((g.Places.length : Int) ≤ 30))


theorem specPlace_is {F : Nat} {p : GPlace} {n : Int} : spec_l11Place F p n = some (placeB (IntKind.i64.wrap (n - 1)) p) := by
  simp only [spec_l11Place, specIn_is, Option.bind_some, cond_and]; rfl

theorem implPlace_is {F : Nat} {g : GEventGraph} {p : GPlace} : impl_isPlace F g p = some (placeB (IntKind.i64.wrap (g.Events - 1)) p) := by
  simp only [impl_isPlace, impl_isEvent, within_is, Option.bind_some, cond_and]; rfl


theorem specGraph_is {F : Nat} {g : GEventGraph} (hF : 134217728 ≤ F) (hl : g.Places.length ≤ 1048576) : spec_IsEventGraph F g = some (graphB g) := by
  unfold spec_IsEventGraph
  rw [all_loop (ps := g.Places) (g := placeB (IntKind.i64.wrap (g.Events - 1))) (r := false) (L := spec_IsEventGraph_L1 F g) ?_ ?_ (by omega)]
  · simp only [specIn_is, Option.bind_some, cond_and, graphB]
    cases g.Places.all (placeB (IntKind.i64.wrap (g.Events - 1))) <;> rfl
  · intro n k x hk hx
    simp only [spec_IsEventGraph_L1, bdT (show (k : Int) < (g.Places.length : Int) by omega), idx_nat, hx, Option.bind_some, specPlace_is, condn, wrN (show k ≤ 67108864 by omega)]
  · intro n
    simp only [spec_IsEventGraph_L1, bdF (show ¬ (g.Places.length : Int) < (g.Places.length : Int) by omega)]


theorem implGraph_is {F : Nat} {g : GEventGraph} (hF : 134217728 ≤ F) (hl : g.Places.length ≤ 1048576) : impl_IsEventGraph F g = some (graphB g) := by
  simp only [impl_IsEventGraph, within_is, Option.bind_some, slices_ContainsFunc_Place_is (h := fun p => !placeB (IntKind.i64.wrap (g.Events - 1)) p) hF (show g.Places.length ≤ 16777216 by omega) (fun x _ => show impl_IsEventGraph_c1 F x g = _ by simp only [impl_IsEventGraph_c1, implPlace_is, Option.bind_some]), cond_and, graphB]
  rw [any_not, Bool.not_not]
  cases g.Places.all (placeB (IntKind.i64.wrap (g.Events - 1))) <;> cases inB g.Events 1 10 <;> cases decide ((g.Places.length : Int) ≤ 30) <;> rfl


theorem graphB_true {g : GEventGraph} (h : graphB g = true) : 1 ≤ g.Events ∧ g.Events ≤ 10 ∧ g.Places.length ≤ 30 ∧ IntKind.i64.wrap (g.Events - 1) = g.Events - 1 ∧ ∀ p, p ∈ g.Places → 0 ≤ p.From ∧ p.From < g.Events ∧ 0 ≤ p.To ∧ p.To < g.Events := by
  unfold graphB at h
  simp only [Bool.and_eq_true, inB_true, decide_eq_true_eq, List.all_eq_true] at h
  obtain ⟨hp, ⟨h1, h2⟩, h3⟩ := h
  have hw : IntKind.i64.wrap (g.Events - 1) = g.Events - 1 := wr (by omega) (by omega)
  refine ⟨h1, h2, by omega, hw, fun p hm => ?_⟩
  have := hp p hm
  rw [hw] at this
  simp only [placeB, Bool.and_eq_true, inB_true] at this
  omega

theorem graphB_range {g : GEventGraph} (h : graphB g = true) : ∀ p, p ∈ g.Places → 0 ≤ p.From ∧ p.From < g.Events ∧ 0 ≤ p.To ∧ p.To < g.Events ∧ 0 ≤ p.Delay ∧ p.Delay ≤ 1000 ∧ 0 ≤ p.Tokens ∧ p.Tokens ≤ 5 := by
  have hw := (graphB_true h).2.2.2.1
  unfold graphB at h
  simp only [Bool.and_eq_true, inB_true, decide_eq_true_eq, List.all_eq_true] at h
  intro p hm
  have := h.1 p hm
  rw [hw] at this
  simp only [placeB, Bool.and_eq_true, inB_true] at this
  omega

/-! ### Weights of a graph's places at a period -/
def plT (p : GPlace) : Nat := p.To.toNat

def plF (p : GPlace) : Nat := p.From.toNat

/-- a place's weight at a period -/
def plW (r : Int) (p : GPlace) : Int := p.Delay - r * p.Tokens

theorem plW_bd {g : GEventGraph} (h : graphB g = true) {r : Int} (h0 : 0 ≤ r) (h1 : r ≤ 100000) {p : GPlace} (hp : p ∈ g.Places) : -1000000 ≤ plW r p ∧ plW r p ≤ 1000000 ∧ IntKind.i64.wrap (IntKind.i64.wrap (1 * p.Delay) - IntKind.i64.wrap (r * p.Tokens)) = plW r p := by
  have h5 := graphB_range h
  have := h5 p hp
  have h6 : 0 ≤ r * p.Tokens := Int.mul_nonneg h0 (by omega)
  have h7 : r * p.Tokens ≤ 100000 * 5 := Int.mul_le_mul h1 (by omega) (by omega) (by omega)
  unfold plW
  refine ⟨by omega, by omega, ?_⟩
  rw [wr (show -9223372036854775808 ≤ 1 * p.Delay by omega) (by omega), wr (show -9223372036854775808 ≤ r * p.Tokens by omega) (by omega), wr (by omega) (by omega)]
  omega

/-- the table of the weights -/
def wT (g : GEventGraph) (r : Int) : Nat → Nat → Int := arcT plT plF (plW r) g.Places

theorem pl_at {g : GEventGraph} (h : graphB g = true) {p : GPlace} (hp : p ∈ g.Places) : p.To = (plT p : Int) ∧ p.From = (plF p : Int) ∧ plT p < g.Events.toNat ∧ plF p < g.Events.toNat := by
  have h5 := graphB_range h
  have := h5 p hp
  unfold plT plF
  omega

/-! ### Tables on vectors -/
/-! ### The delay matrix of a token count -/
/-! ### Lists of nodes -/
def nl (o : List Nat) : List Int := o.map fun (x : Nat) => (x : Int)

theorem nl_len (o : List Nat) : (nl o).length = o.length := by unfold nl; simp

theorem nl_app (o : List Nat) (x : Nat) : nl o ++ [(x : Int)] = nl (o ++ [x]) := by unfold nl; simp

theorem nl_at (o : List Nat) (i : Nat) : (nl o)[i]? = (o[i]?).map fun (x : Nat) => (x : Int) := by unfold nl; simp

theorem nl_has (o : List Nat) (x : Nat) : ((nl o).any fun y => y == (x : Int)) = o.contains x := by
  apply Bool.eq_iff_iff.2
  simp only [nl, List.any_map, List.any_eq_true, Function.comp_apply, beq_iff_eq, List.contains_iff_mem]
  constructor
  · rintro ⟨y, hy, e⟩
    have : y = x := by omega
    exact this ▸ hy
  · intro h; exact ⟨x, h, rfl⟩

theorem specHas_is {F : Nat} {xs : List Int} {x : Int} (hF : 134217728 ≤ F) (hl : xs.length ≤ 1048576) : spec_l01Has F xs x = some (xs.any fun y => y == x) := by
  unfold spec_l01Has
  rw [all_loop (ps := xs) (g := fun y => !(y == x)) (r := true) (L := spec_l01Has_L1 F xs x) ?_ ?_ (by omega)]
  · have := any_not (g := fun y => !(y == x)) xs
    simp only [Bool.not_not] at this
    rw [this]
    cases xs.all (fun y => !(y == x)) <;> rfl
  · intro n k y hk hy
    simp only [spec_l01Has_L1, bdT (show (k : Int) < (xs.length : Int) by omega), idx_nat, hy, Option.bind_some, condn, wrN (show k ≤ 67108864 by omega)]
  · intro n
    simp only [spec_l01Has_L1, bdF (show ¬ (xs.length : Int) < (xs.length : Int) by omega)]

theorem implHas_is {F : Nat} {xs : List Int} {x : Int} (hF : 134217728 ≤ F) (hl : xs.length ≤ 1048576) : slices_Contains_int64 F xs x = some (xs.any fun y => y == x) := by
  unfold slices_Contains_int64 slices_Index_int64
  rw [find_loop (ps := xs) (h := fun y => x == y) (v := fun k => (k : Int)) (L := slices_Index_int64_L1 F xs x) ?_ ?_ (by omega)]
  · have e : (xs.any fun y => y == x) = decide ((0 : Int) ≤ firstAt (xs.findIdx? fun y => x == y)) := by
      rw [find_any]
      congr 1; funext y
      by_cases h : x = y
      · subst h; rfl
      · rw [beq_false_of_ne h, beq_false_of_ne (Ne.symm h)]
    rw [e]
    cases xs.findIdx? fun y => x == y <;> rfl
  · intro n k y hk hy
    simp only [slices_Index_int64_L1, bdT (show (k : Int) < (xs.length : Int) by omega), idx_nat, hy, Option.bind_some, wrN (show k ≤ 67108864 by omega)]
  · intro n
    simp only [slices_Index_int64_L1, bdF (show ¬ (xs.length : Int) < (xs.length : Int) by omega)]

/-! ### Liveness -/
def mat0 (E : Nat → Nat → Bool) (n : Nat) : List (List Int) := (List.range n).map fun v => (List.range n).map fun u => bif E u v then 0 else (-1000000000000000)

theorem mat0_row {E : Nat → Nat → Bool} {n v : Nat} (hv : v < n) : (mat0 E n)[v]? = some ((List.range n).map fun u => bif E u v then 0 else (-1000000000000000)) := by
  unfold mat0; rw [List.getElem?_map, List.getElem?_range hv]; rfl

theorem map_range_set {α : Type} (f : Nat → α) (n i : Nat) (y : α) : ((List.range n).map f).set i y = (List.range n).map fun j => if j = i then y else f j := by
  apply List.ext_getElem?; intro q
  by_cases hq : q < n
  · by_cases e : q = i
    · subst e
      rw [set_here (by simpa using hq), List.getElem?_map, List.getElem?_range hq]; simp
    · rw [set_keep e, List.getElem?_map, List.getElem?_map, List.getElem?_range hq]; simp [e]
  · rw [List.getElem?_eq_none (by simp; omega), List.getElem?_eq_none (by simp; omega)]

theorem mat0_set {E : Nat → Nat → Bool} {n u v : Nat} : (mat0 E n).set v (((List.range n).map fun u' => bif E u' v then (0 : Int) else (-1000000000000000)).set u 0) = mat0 (fun u' v' => E u' v' || (v' == v && u' == u)) n := by
  unfold mat0
  rw [map_range_set, map_range_set]
  apply List.map_congr_left; intro v' _
  by_cases hv : v' = v
  · subst hv
    rw [if_pos rfl]
    apply List.map_congr_left; intro u' _
    by_cases hu : u' = u
    · subst hu; simp
    · rw [if_neg hu]; simp only [beq_false_of_ne hu, Bool.and_false, Bool.or_false]
  · rw [if_neg hv]
    apply List.map_congr_left; intro u' _
    simp only [beq_false_of_ne hv, Bool.false_and, Bool.or_false]

/-- the free places' relation -/
def eP (ps : List GPlace) (u v : Nat) : Bool := ps.any fun p => p.Tokens == 0 && (p.To == (v : Int) && p.From == (u : Int))

theorem specBottom_is {F m n : Nat} (hF : 134217728 ≤ F) (hm : m ≤ 1048576) (hn : n ≤ 1048576) : spec_l02Bottom F (m : Int) (n : Int) = some ((List.range m).map fun _ => (List.range n).map fun _ => (-1000000000000000)) := by
  unfold spec_l02Bottom
  rw [tab_loop (len := m) (f := fun _ => (List.range n).map fun _ => (-1000000000000000)) (L := spec_l02Bottom_L4 F (m : Int) (n : Int)) ?_ ?_ (by omega)]
  · rfl
  · intro k xs j hj hx
    have inner : spec_l02Bottom_L5 F (n : Int) F [] 0 = some ((List.range n).map fun _ => (-1000000000000000)) := by
      refine tab_loop (len := n) (f := fun _ => (-1000000000000000)) (L := spec_l02Bottom_L5 F (n : Int)) ?_ ?_ (by omega)
      · intro k xs j hj hx
        simp only [spec_l02Bottom_L5, bdT (show (j : Int) < (n : Int) by omega), app_le (show xs.length + [(-1000000000000000 : Int)].length ≤ 67108864 by simp only [List.length_singleton]; omega), Option.bind_some, wrN (show j ≤ 67108864 by omega)]
      · intro k xs _
        simp only [spec_l02Bottom_L5, bdF (show ¬ (n : Int) < (n : Int) by omega)]
    simp only [spec_l02Bottom_L4, bdT (show (j : Int) < (m : Int) by omega), inner, app_le (show xs.length + [(List.range n).map fun _ => (-1000000000000000 : Int)].length ≤ 67108864 by simp only [List.length_singleton]; omega), Option.bind_some, wrN (show j ≤ 67108864 by omega)]
  · intro k xs _
    simp only [spec_l02Bottom_L4, bdF (show ¬ (m : Int) < (m : Int) by omega)]

structure GOk (g : GEventGraph) (n : Nat) : Prop where
  ev : g.Events = (n : Int)
  n1 : 1 ≤ n
  n10 : n ≤ 10
  len : g.Places.length ≤ 30
  at' : ∀ p, p ∈ g.Places → ∃ u v : Nat, p.From = (u : Int) ∧ p.To = (v : Int) ∧ u < n ∧ v < n

theorem GOk.of {g : GEventGraph} (h : graphB g = true) : GOk g g.Events.toNat := by
  obtain ⟨h1, h2, h3, _, h4⟩ := graphB_true h
  exact ⟨by omega, by omega, by omega, h3, fun p hp => ⟨p.From.toNat, p.To.toNat, by have := h4 p hp; omega, by have := h4 p hp; omega, by have := h4 p hp; omega, by have := h4 p hp; omega⟩⟩

theorem GOk.edge {g : GEventGraph} {n : Nat} (h : GOk g n) : ∀ u v, eP g.Places u v = true → u < n ∧ v < n := by
  intro u v he
  unfold eP at he
  rw [List.any_eq_true] at he
  obtain ⟨p, hp, hq⟩ := he
  simp only [Bool.and_eq_true, beq_iff_eq] at hq
  obtain ⟨u', v', h1, h2, h3, h4⟩ := h.at' p hp
  omega

theorem specFree_is {F n : Nat} {g : GEventGraph} (hF : 134217728 ≤ F) (h : GOk g n) : spec_l12Free F g = some (mat0 (eP g.Places) n) := by
  unfold spec_l12Free
  have h10 := h.n10
  rw [h.ev, bind_of (specBottom_is hF (by omega) (by omega))]
  have hlen := h.len
  have H := for0 (L := spec_l12Free_L1 F g) (len := g.Places.length) (fun k ms => ms = mat0 (eP (g.Places.take k)) n) (R := fun o => o = some (mat0 (eP g.Places) n)) (s := (List.range n).map fun _ => (List.range n).map fun _ => (-1000000000000000)) (n := F) ?_ ?_ ?_ (by omega)
  · rw [H]; rfl
  · rintro f k ms hk rfl
    have hp : g.Places[k]? = some g.Places[k] := List.getElem?_eq_getElem hk
    obtain ⟨u, v, h1, h2, h3, h4⟩ := h.at' g.Places[k] (List.getElem_mem hk)
    have hstep : ∀ u' v', eP (g.Places.take (k + 1)) u' v' = (eP (g.Places.take k) u' v' || (g.Places[k].Tokens == 0 && (v' == v && u' == u))) := by
      intro u' v'
      unfold eP
      rw [List.take_add_one, hp, List.any_append]
      have e1 : ((v : Int) == (v' : Int)) = (v' == v) := Bool.eq_iff_iff.2 (by simp only [beq_iff_eq]; omega)
      have e2 : ((u : Int) == (u' : Int)) = (u' == u) := Bool.eq_iff_iff.2 (by simp only [beq_iff_eq]; omega)
      simp [h1, h2, e1, e2]
    by_cases ht : g.Places[k].Tokens = 0
    · refine .inl ⟨mat0 (eP (g.Places.take (k + 1))) n, ?_, rfl⟩
      have hrow := mat0_row (E := eP (g.Places.take k)) h4
      have hcell : ((List.range n).map fun u' => bif eP (g.Places.take k) u' v then (0 : Int) else (-1000000000000000))[u]? = some (bif eP (g.Places.take k) u v then (0 : Int) else (-1000000000000000)) := by rw [List.getElem?_map, List.getElem?_range h3]; rfl
      have e : mat0 (eP (g.Places.take (k + 1))) n = mat0 (fun u' v' => eP (g.Places.take k) u' v' || (v' == v && u' == u)) n := by
        congr 1; funext u' v'; rw [hstep, ht]; simp
      rw [e, ← mat0_set]
      simp only [spec_l12Free_L1, bdT (show (k : Int) < (g.Places.length : Int) by omega), idx_nat, hp, Option.bind_some, bT (show (g.Places[k].Tokens == 0) = true by rw [ht]; rfl), h1, h2, hrow, hcell, upd_nat _ (show u < ((List.range n).map fun u' => bif eP (g.Places.take k) u' v then (0 : Int) else (-1000000000000000)).length by simpa using h3), upd_nat _ (show v < (mat0 (eP (g.Places.take k)) n).length by unfold mat0; simpa using h4), wrN (show k ≤ 67108864 by omega)]
    · refine .inl ⟨mat0 (eP (g.Places.take (k + 1))) n, ?_, rfl⟩
      have e : mat0 (eP (g.Places.take (k + 1))) n = mat0 (eP (g.Places.take k)) n := by
        congr 1; funext u' v'; rw [hstep, beq_false_of_ne ht]; simp
      rw [e]
      simp only [spec_l12Free_L1, bdT (show (k : Int) < (g.Places.length : Int) by omega), idx_nat, hp, Option.bind_some, bF (beq_false_of_ne ht), wrN (show k ≤ 67108864 by omega)]
  · rintro f ms rfl
    rw [List.take_length]
    simp only [spec_l12Free_L1, bdF (show ¬ (g.Places.length : Int) < (g.Places.length : Int) by omega)]
  · unfold mat0 eP; simp


/-- a written cycle that goes on from a path -/
def Ext (E : Nat → Nat → Bool) (n f : Nat) (p : List Nat) (l : Nat) (q : List Nat) : Prop := (∀ x, x ∈ q → f < x ∧ x < n) ∧ (p ++ q).Nodup ∧ Chain E l q f

theorem grow_is {F n : Nat} {E : Nat → Nat → Bool} (hF : 134217728 ≤ F) (hn : n ≤ 1000) : ∀ (k : Nat) (p : List Nat) (f l : Nat), p[0]? = some f → p[p.length - 1]? = some l → p.Nodup → (∀ x, x ∈ p → x < n) → n + 1 ≤ k + p.length →
    ∃ r, spec_l03Grow_rec F k (mat0 E n) (nl p) 0 (-1) = some r ∧ (r ≠ [] ↔ ∃ q, Ext E n f p l q) := by
  intro k
  induction k with
  | zero =>
    intro p f l _ _ hd hl hk
    have := nodup_le n p hd hl
    omega
  | succ k ih =>
    intro p f l hf hl hd hlt hk
    have hp0 : 0 < p.length := (List.getElem?_eq_some_iff.1 hf).1
    have hpn := nodup_le n p hd hlt
    have hfn : f < n := hlt f (List.mem_of_getElem? hf)
    have hln : l < n := hlt l (List.mem_of_getElem? hl)
    have i1 : idx (nl p) 0 = some (f : Int) := by
      rw [show (0 : Int) = ((0 : Nat) : Int) from rfl, idx_nat, nl_at, hf]; rfl
    have i2 : idx (nl p) (IntKind.i64.wrap (((nl p).length : Int) - 1)) = some (l : Int) := by
      rw [nl_len, wr (by omega) (by omega), show (p.length : Int) - 1 = ((p.length - 1 : Nat) : Int) by omega, idx_nat, nl_at, hl]; rfl
    have cell : ∀ v, v < n → idx (mat0 E n) (v : Int) = some ((List.range n).map fun u => bif E u v then 0 else (-1000000000000000)) := fun v hv => by rw [idx_nat, mat0_row hv]
    have cel2 : ∀ v, idx ((List.range n).map fun u => bif E u v then (0 : Int) else (-1000000000000000)) (l : Int) = some (bif E l v then 0 else (-1000000000000000)) := fun v => by
      rw [idx_nat, List.getElem?_map, List.getElem?_range hln]; rfl
    unfold spec_l03Grow_rec
    simp only [i1, i2, cell f hfn, cel2, Option.bind_some]
    cases hE : E l f with
    | true =>
      refine ⟨nl p, rfl, ⟨fun _ => ⟨[], (fun x hx => (by cases hx)), by simpa using hd, hE⟩, fun _ e => ?_⟩⟩
      have := congrArg List.length e
      rw [nl_len] at this; simp at this; subst this; simp at hp0
    | false =>
      have H := for_ind (L := fun m (_ : Unit) i => spec_l03Grow_L1 F (mat0 E n) (nl p) 0 (-1) (l : Int) (spec_l03Grow_rec F k) m i) n
        (fun j _ => f < j ∧ ∀ v q, f < v → v < j → E l v = true → v ∉ p → ¬ Ext E n f (p ++ [v]) v q)
        (fun o => (∃ r, r ≠ [] ∧ o = some (.inl r) ∧ ∃ q, Ext E n f p l q) ∨ (o = some (.inr ()) ∧ ¬ ∃ q, Ext E n f p l q)) ?_ ?_ (n - (f + 1)) (f + 1) () F (by omega) ⟨by omega, fun v q h1 h2 => by omega⟩ (by omega)
      · have hw : IntKind.i64.wrap ((f : Int) + 1) = ((f + 1 : Nat) : Int) := wrN (by omega)
        have hc : ((-1000000000000000 : Int) != (-1000000000000000)) = false := rfl
        simp only [cond_false, hc, Option.bind_some, hw]
        rcases H with ⟨r, h1, h2, h3⟩ | ⟨h2, h3⟩
        · exact ⟨r, by simp only [h2, Option.bind_some], ⟨fun _ => h3, fun _ => h1⟩⟩
        · exact ⟨[], by simp only [h2, Option.bind_some], ⟨fun h => absurd rfl h, fun h => absurd h h3⟩⟩
      · rintro m j _ hj ⟨hfj, hI⟩
        have hown : spec_l01Own F (nl p) = some (nl p) := by
          unfold spec_l01Own
          rw [app_le (by rw [nl_len]; simp only [List.length_nil]; omega)]; rfl
        have happ : app (nl p) [(j : Int)] = some (nl (p ++ [j])) := by
          rw [app_le (by rw [nl_len]; simp only [List.length_singleton]; omega), nl_app]
        have hwj : IntKind.i64.wrap ((j : Int) + 1) = ((j + 1 : Nat) : Int) := wrN (by omega)
        have hml : ((mat0 E n).length : Int) = (n : Int) := by unfold mat0; simp
        cases hEj : E l j with
        | false =>
          refine .inl ⟨(), ?_, by omega, fun v q h1 h2 h3 h4 => ?_⟩
          · have hc : ((-1000000000000000 : Int) == (-1000000000000000)) = true := rfl
            simp only [spec_l03Grow_L1, hml, bdT (show (j : Int) < (n : Int) by omega), cell j hj, cel2, hEj, Option.bind_some, cond_false, hc, cond_true, hwj]
          · by_cases e : v = j
            · subst e; rw [hEj] at h3; cases h3
            · exact hI v q h1 (by omega) h3 h4
        | true =>
          have hc : ((0 : Int) == (-1000000000000000)) = false := rfl
          cases hpj : p.contains j with
          | true =>
            refine .inl ⟨(), ?_, by omega, fun v q h1 h2 h3 h4 => ?_⟩
            · simp only [spec_l03Grow_L1, hml, bdT (show (j : Int) < (n : Int) by omega), cell j hj, cel2, hEj, Option.bind_some, cond_true, hc, cond_false, specHas_is (F := F) (xs := nl p) (x := (j : Int)) hF (by rw [nl_len]; omega), nl_has, hpj, hwj]
            · by_cases e : v = j
              · subst e; exact absurd (by simpa using hpj) h4
              · exact hI v q h1 (by omega) h3 h4
          | false =>
            have hjp : j ∉ p := by simpa using hpj
            obtain ⟨r, hr, hriff⟩ := ih (p ++ [j]) f j (by rw [List.getElem?_append_left hp0]; exact hf) (by simp) (by
                rw [List.nodup_append]
                refine ⟨hd, by simp, fun a ha b hb e => ?_⟩
                simp only [List.mem_singleton] at hb
                exact hjp (by rw [← hb, ← e]; exact ha)) (fun x hx => by
                rcases List.mem_append.1 hx with hx | hx
                · exact hlt x hx
                · simp only [List.mem_singleton] at hx; omega) (by rw [List.length_append, List.length_singleton]; omega)
            have hw0 : IntKind.i64.wrap ((0 : Int) + 0) = 0 := rfl
            have S : spec_l03Grow_L1 F (mat0 E n) (nl p) 0 (-1) (l : Int) (spec_l03Grow_rec F k) (m + 1) (j : Int) = bif decide (0 < (r.length : Int)) then some (.inl r) else spec_l03Grow_L1 F (mat0 E n) (nl p) 0 (-1) (l : Int) (spec_l03Grow_rec F k) m ((j + 1 : Nat) : Int) := by
              simp only [spec_l03Grow_L1, hml, bdT (show (j : Int) < (n : Int) by omega), cell j hj, cel2, hEj, Option.bind_some, cond_true, hc, cond_false, specHas_is (F := F) (xs := nl p) (x := (j : Int)) hF (by rw [nl_len]; omega), nl_has, hpj, hown, happ, hw0, hr, hwj]
              cases decide (0 < (r.length : Int)) <;> rfl
            by_cases hre : r = []
            · refine .inl ⟨(), ?_, by omega, fun v q h1 h2 h3 h4 => ?_⟩
              · simp only [S, hre, List.length_nil, bdF (show ¬ (0 : Int) < ((0 : Nat) : Int) by omega)]
              · by_cases e : v = j
                · subst e
                  intro hx
                  exact (hriff.2 ⟨q, hx⟩) hre
                · exact hI v q h1 (by omega) h3 h4
            · refine .inr (.inl ⟨r, hre, ?_, ?_⟩)
              · have : 0 < r.length := List.length_pos_iff.2 hre
                simp only [S, bdT (show (0 : Int) < (r.length : Int) by omega)]
              · obtain ⟨q, h1, h2, h3⟩ := hriff.1 hre
                refine ⟨j :: q, fun x hx => ?_, by simpa using h2, hEj, h3⟩
                rcases List.mem_cons.1 hx with rfl | hx
                · exact ⟨hfj, hj⟩
                · exact h1 x hx
      · rintro m _ ⟨_, hI⟩
        refine .inr ⟨?_, ?_⟩
        · have hml : ((mat0 E n).length : Int) = (n : Int) := by unfold mat0; simp
          simp only [spec_l03Grow_L1, hml, bdF (show ¬ (n : Int) < (n : Int) by omega)]
        · rintro ⟨q, h1, h2, h3⟩
          cases q with
          | nil => rw [show Chain E l [] f = (E l f = true) from rfl, hE] at h3; cases h3
          | cons v q =>
            have hv := h1 v (by simp)
            refine hI v q hv.1 hv.2 h3.1 (fun hm => ?_) ⟨fun x hx => h1 x (by simp [hx]), by simpa using h2, h3.2⟩
            rw [List.nodup_append] at h2
            exact h2.2.2 v hm v (by simp) rfl

theorem specOver_is {F n : Nat} {E : Nat → Nat → Bool} (hF : 134217728 ≤ F) (hn : n ≤ 1000) : ∃ r, spec_l03Over F (mat0 E n) (-1) = some r ∧ (r ≠ [] ↔ ∃ v q, v < n ∧ Cyc E n v q) := by
  unfold spec_l03Over
  have hml : ((mat0 E n).length : Int) = (n : Int) := by unfold mat0; simp
  have H := for0 (L := fun m (_ : Unit) i => spec_l03Over_L1 F (mat0 E n) (-1) m i) (len := n) (fun j _ => ∀ v q, v < j → ¬ Cyc E n v q)
    (R := fun o => (∃ r, r ≠ [] ∧ o = some (.inl r) ∧ ∃ v q, v < n ∧ Cyc E n v q) ∨ (o = some (.inr ()) ∧ ¬ ∃ v q, v < n ∧ Cyc E n v q)) (s := ()) (n := F) ?_ ?_ (fun v q h => by omega) (by omega)
  · rcases H with ⟨r, h1, h2, h3⟩ | ⟨h2, h3⟩
    · exact ⟨r, by simp only [h2, Option.bind_some], ⟨fun _ => h3, fun _ => h1⟩⟩
    · exact ⟨[], by simp only [h2, Option.bind_some], ⟨fun h => absurd rfl h, fun h => absurd h h3⟩⟩
  · intro m j _ hj hI
    obtain ⟨r, hr, hriff⟩ := grow_is (F := F) (E := E) hF hn F [j] j j rfl rfl (by simp) (fun x hx => by simp only [List.mem_singleton] at hx; omega) (by simp only [List.length_singleton]; omega)
    have hgr : spec_l03Grow F (mat0 E n) [(j : Int)] 0 (-1) = some r := hr
    have hext : ∀ q, Ext E n j [j] j q ↔ Cyc E n j q := fun q => Iff.rfl
    by_cases hre : r = []
    · refine .inl ⟨(), ?_, fun v q hv hc => ?_⟩
      · simp only [spec_l03Over_L1, hml, bdT (show (j : Int) < (n : Int) by omega), hgr, Option.bind_some, hre, List.length_nil, bdF (show ¬ (0 : Int) < ((0 : Nat) : Int) by omega), wrN (show j ≤ 67108864 by omega)]
      · by_cases e : v = j
        · subst e
          exact (hriff.2 ⟨q, (hext q).2 hc⟩) hre
        · exact hI v q (by omega) hc
    · refine .inr (.inl ⟨r, hre, ?_, ?_⟩)
      · have : 0 < r.length := List.length_pos_iff.2 hre
        simp only [spec_l03Over_L1, hml, bdT (show (j : Int) < (n : Int) by omega), hgr, Option.bind_some, bdT (show (0 : Int) < (r.length : Int) by omega)]
      · obtain ⟨q, hq⟩ := hriff.1 hre
        exact ⟨j, q, hj, (hext q).1 hq⟩
  · intro m _ hI
    refine .inr ⟨?_, ?_⟩
    · simp only [spec_l03Over_L1, hml, bdF (show ¬ (n : Int) < (n : Int) by omega)]
    · rintro ⟨v, q, hv, hc⟩
      exact hI v q hv hc

/-- is the firing order complete -/
def liveB (g : GEventGraph) (n : Nat) : Bool := (fire (eP g.Places) n n []).isSome

theorem specDead_is {F n : Nat} {g : GEventGraph} (hF : 134217728 ≤ F) (h : GOk g n) : ∃ r, spec_l12Dead F g = some r ∧ decide (0 < (r.length : Int)) = !liveB g n := by
  have h10 := h.n10
  obtain ⟨r, h1, h2⟩ := specOver_is (F := F) (E := eP g.Places) (n := n) hF (by omega)
  refine ⟨r, by unfold spec_l12Dead; rw [bind_of (specFree_is hF h), h1]; rfl, ?_⟩
  unfold liveB
  cases hf : fire (eP g.Places) n n [] with
  | some o =>
    have : r = [] := Classical.byContradiction fun hr => by
      obtain ⟨v, q, _, hc⟩ := h2.1 hr
      exact fire_free h.edge hf hc
    subst this; rfl
  | none =>
    have hr : r ≠ [] := h2.2 (fire_stuck h.edge n [] (OrderOk.nil _ _) (by simp) hf)
    have : 0 < r.length := List.length_pos_iff.2 hr
    simp; exact this


theorem ready_is {g : GEventGraph} {n : Nat} (h : GOk g n) {o : List Nat} {e : Nat} : (!(g.Places.any fun p => p.To == (e : Int) && (p.Tokens == 0 && !((nl o).any fun y => y == p.From)))) = (List.range n).all fun u => !eP g.Places u e || o.contains u := by
  apply Bool.eq_iff_iff.2
  rw [Bool.not_eq_true', List.any_eq_false, List.all_eq_true]
  constructor
  · intro H u hu
    cases he : eP g.Places u e with
    | false => rfl
    | true =>
      unfold eP at he
      rw [List.any_eq_true] at he
      obtain ⟨p, hp, hq⟩ := he
      simp only [Bool.and_eq_true, beq_iff_eq] at hq
      have := H p hp
      rw [hq.1, hq.2.1, hq.2.2, nl_has] at this
      simpa using this
  · intro H p hp hc
    simp only [Bool.and_eq_true, beq_iff_eq, Bool.not_eq_true'] at hc
    obtain ⟨u, v, h1, h2, h3, h4⟩ := h.at' p hp
    have := H u (by simpa using h3)
    rw [h1, nl_has] at hc
    rw [Bool.or_eq_true] at this
    rcases this with h5 | h5
    · have : eP g.Places u e = true := by
        unfold eP
        rw [List.any_eq_true]
        exact ⟨p, hp, by simp only [Bool.and_eq_true, beq_iff_eq]; exact ⟨hc.2.1, hc.1, h1⟩⟩
      rw [this] at h5; cases h5
    · rw [h5] at hc; simp at hc

def nextI : Option Nat → Int
  | some e => (e : Int)
  | none => -1

theorem orderRound {F n : Nat} {g : GEventGraph} (hF : 134217728 ≤ F) (h : GOk g n) {o : List Nat} (ho : o.length ≤ n) :
    impl_firingOrder_L5 F g (nl o) F (-1) 0 = some (nextI (nextOf (eP g.Places) n o)) := by
  have h10 := h.n10
  have hl := h.len
  refine for0 (L := impl_firingOrder_L5 F g (nl o)) (len := n) (fun k s => (s = -1 ∧ ∀ e, e < k → readyB (eP g.Places) n o e = false) ∨ ∃ e : Nat, s = (e : Int) ∧ nextOf (eP g.Places) n o = some e) (R := fun r => r = some (nextI (nextOf (eP g.Places) n o))) ?_ ?_ (.inl ⟨rfl, fun e he => by omega⟩) (by omega)
  · rintro m k s hk (⟨rfl, hI⟩ | ⟨e, rfl, he⟩)
    · have hc : slices_ContainsFunc_Place F g.Places (fun x0 => impl_firingOrder_c1 F x0 (k : Int) (nl o)) = some (g.Places.any fun p => p.To == (k : Int) && (p.Tokens == 0 && !((nl o).any fun y => y == p.From))) := by
        refine slices_ContainsFunc_Place_is hF (by omega) (fun p _ => ?_)
        simp only [impl_firingOrder_c1, implHas_is (F := F) (xs := nl o) (x := p.From) hF (by rw [nl_len]; omega), Option.bind_some]
        cases (p.To == (k : Int)) <;> cases (p.Tokens == 0) <;> rfl
      have S : impl_firingOrder_L5 F g (nl o) (m + 1) (-1) (k : Int) = bif readyB (eP g.Places) n o k then impl_firingOrder_L5 F g (nl o) m (k : Int) ((k + 1 : Nat) : Int) else impl_firingOrder_L5 F g (nl o) m (-1) ((k + 1 : Nat) : Int) := by
        have hlt : decide ((k : Int) < g.Events) = true := by rw [h.ev]; exact decide_eq_true (by omega)
        simp only [impl_firingOrder_L5, hlt, cond_true, Option.bind_some, implHas_is (F := F) (xs := nl o) (x := (k : Int)) hF (by rw [nl_len]; omega), nl_has, hc, ready_is h, wrN (show k ≤ 67108864 by omega), show decide ((-1 : Int) < 0) = true from rfl]
        unfold readyB
        cases o.contains k <;> cases ((List.range n).all fun u => !eP g.Places u k || o.contains u) <;> rfl
      cases hr : readyB (eP g.Places) n o k with
      | true =>
        refine .inl ⟨(k : Int), by rw [S, hr]; rfl, .inr ⟨k, rfl, ?_⟩⟩
        unfold nextOf
        rw [List.find?_eq_some_iff_getElem]
        refine ⟨hr, k, by simpa using hk, by simp, fun j hj => ?_⟩
        simp [hI j hj]
      | false =>
        refine .inl ⟨-1, by rw [S, hr]; rfl, .inl ⟨rfl, fun e he => ?_⟩⟩
        by_cases e2 : e = k
        · subst e2; exact hr
        · exact hI e (by omega)
    · refine .inr ?_
      rw [he]
      have : decide ((e : Int) < 0) = false := decide_eq_false (by omega)
      simp only [impl_firingOrder_L5, this]
      cases decide ((k : Int) < g.Events) <;> rfl
  · rintro m s (⟨rfl, hI⟩ | ⟨e, rfl, he⟩)
    · have hno : nextOf (eP g.Places) n o = none := by
        unfold nextOf
        rw [List.find?_eq_none]
        intro x hx
        rw [hI x (by simpa using hx)]; decide
      rw [hno]
      have hlt : decide ((n : Int) < g.Events) = false := by rw [h.ev]; exact decide_eq_false (by omega)
      simp only [impl_firingOrder_L5, hlt, cond_false, Option.bind_some, nextI]
    · rw [he]
      have hlt : decide ((n : Int) < g.Events) = false := by rw [h.ev]; exact decide_eq_false (by omega)
      simp only [impl_firingOrder_L5, hlt, cond_false, Option.bind_some, nextI]

theorem orderLoop {F n : Nat} {g : GEventGraph} (hF : 134217728 ≤ F) (h : GOk g n) : ∀ (k : Nat) (o : List Nat) (m : Nat), o.length + k = n → k < m →
    impl_firingOrder_L4 F g m (nl o) = some (match fire (eP g.Places) n k o with | some o' => .inr (nl o') | none => .inl ([], false)) := by
  have h10 := h.n10
  intro k
  induction k with
  | zero =>
    intro o m ho hm
    obtain ⟨m, rfl⟩ : ∃ m', m = m' + 1 := ⟨m - 1, by omega⟩
    have : decide (((nl o).length : Int) < g.Events) = false := by rw [h.ev, nl_len]; exact decide_eq_false (by omega)
    simp only [impl_firingOrder_L4, this, cond_false, fire]
  | succ k ih =>
    intro o m ho hm
    obtain ⟨m, rfl⟩ : ∃ m', m = m' + 1 := ⟨m - 1, by omega⟩
    have : decide (((nl o).length : Int) < g.Events) = true := by rw [h.ev, nl_len]; exact decide_eq_true (by omega)
    simp only [impl_firingOrder_L4, this, cond_true, orderRound hF h (show o.length ≤ n by omega), Option.bind_some, fire]
    cases hx : nextOf (eP g.Places) n o with
    | none => rfl
    | some e =>
      have he : decide ((e : Int) < 0) = false := decide_eq_false (by omega)
      have happ : app (nl o) [(e : Int)] = some (nl (o ++ [e])) := by
        rw [app_le (by rw [nl_len]; simp only [List.length_singleton]; omega), nl_app]
      simp only [nextI, happ, Option.bind_some]
      exact ih (o ++ [e]) m (by rw [List.length_append, List.length_singleton]; omega) (by omega)

theorem implOrder_is {F n : Nat} {g : GEventGraph} (hF : 134217728 ≤ F) (h : GOk g n) : impl_firingOrder F g = some (match fire (eP g.Places) n n [] with | some o => (nl o, true) | none => ([], false)) := by
  have h10 := h.n10
  unfold impl_firingOrder
  have := orderLoop hF h n [] F (by simp) (by omega)
  rw [show nl [] = [] from rfl] at this
  rw [this]
  cases fire (eP g.Places) n n [] <;> rfl

theorem implLive_is {F n : Nat} {g : GEventGraph} (hF : 134217728 ≤ F) (h : GOk g n) : impl_isLive F g = some (liveB g n) := by
  unfold impl_isLive liveB
  rw [bind_of (implOrder_is hF h)]
  cases fire (eP g.Places) n n [] <;> rfl

/-! ### Squares as tables -/
/-! ### Searches for cycles -/
theorem nl_first {p : List Nat} (h : p ≠ []) : idx (nl p) 0 = some (headN p : Int) := by
  cases p with
  | nil => exact absurd rfl h
  | cons x p => rw [show (0 : Int) = ((0 : Nat) : Int) from rfl, idx_nat, nl_at]; rfl

theorem nl_last {p : List Nat} (h : p ≠ []) (hl : p.length ≤ 1000) : idx (nl p) (IntKind.i64.wrap (((nl p).length : Int) - 1)) = some (lastN p : Int) := by
  have h0 := List.length_pos_iff.2 h
  rw [nl_len, wr (by omega) (by omega), show ((p.length : Int) - 1) = ((p.length - 1 : Nat) : Int) by omega, idx_nat, nl_at]
  unfold lastN
  rw [List.getLastD_eq_getLast?, List.getLast?_eq_getElem?]
  cases hp : p[p.length - 1]? with
  | none => rw [List.getElem?_eq_none_iff] at hp; omega
  | some x => rfl

theorem first_lt {n : Nat} {p : List Nat} (h : p ≠ []) (hp : ∀ x, x ∈ p → x < n) : headN p < n := by
  cases p with
  | nil => exact absurd rfl h
  | cons x p => exact hp x (by simp)

theorem last_mem {p : List Nat} (h : p ≠ []) : lastN p ∈ p := by
  unfold lastN
  rw [List.getLastD_eq_getLast?, List.getLast?_eq_some_getLast h]
  exact List.getLast_mem h

/-- a path of a search -/
structure PathOk (f : Nat → Nat → Int) (n : Nat) (p : List Nat) : Prop where
  ne : p ≠ []
  nodup : p.Nodup
  lt : ∀ x, x ∈ p → x < n
  w0 : -1000000 * (p.length : Int) ≤ pathw f p
  w1 : pathw f p ≤ 1000000 * (p.length : Int)

theorem PathOk.one (f : Nat → Nat → Int) {n v : Nat} (h : v < n) : PathOk f n [v] := ⟨by simp, by simp, fun x hx => by simp at hx; omega, by show _ ≤ (0 : Int); simp, by show (0 : Int) ≤ _; simp⟩

theorem PathOk.next {f : Nat → Nat → Int} {n v : Nat} {p : List Nat} (hf : TabOk f n) (h : PathOk f n p) (hv : v < n) (hc : candW f p v = true) : PathOk f n (p ++ [v]) ∧ pathw f (p ++ [v]) = pathw f p + f v (lastN p) ∧ f v (lastN p) ≠ -1000000000000000 := by
  unfold candW at hc
  rw [Bool.and_eq_true, Bool.and_eq_true] at hc
  have hnv : v ∉ p := by simpa using hc.2
  have ha := arcB_true.1 hc.1.2
  have hb := hf v (lastN p) hv (h.lt _ (last_mem h.ne))
  have e := pathw_snoc f v h.ne
  have h0 := h.w0
  have h1 := h.w1
  unfold Okw at hb
  refine ⟨⟨by simp, ?_, fun x hx => ?_, ?_, ?_⟩, e, ha⟩
  · rw [List.nodup_append]
    refine ⟨h.nodup, by simp, fun x hx y hy => ?_⟩
    simp only [List.mem_singleton] at hy
    subst hy
    exact fun e => hnv (e ▸ hx)
  · rcases List.mem_append.1 hx with hx | hx
    · exact h.lt x hx
    · simp only [List.mem_singleton] at hx; subst hx; exact hv
  · rw [e, List.length_append, List.length_singleton]; omega
  · rw [e, List.length_append, List.length_singleton]; omega

theorem specGrow_is {F n : Nat} {f : Nat → Nat → Int} {over : Int} (hF : 134217728 ≤ F) (hn : n ≤ 10) (hf : TabOk f n) : ∀ (k : Nat) (p : List Nat), PathOk f n p → n + 2 ≤ p.length + k →
    spec_l03Grow_rec F k (tabM n n f) (nl p) (pathw f p) over = some ((gdfs (accG f fun w => decide (over < w)) (candW f) n k p).elim [] nl) := by
  intro k
  induction k with
  | zero => intro p hp hk; have := nodup_le n p hp.nodup hp.lt; omega
  | succ k ih =>
    intro p hp hk
    have hpl := nodup_le n p hp.nodup hp.lt
    have hfl := first_lt hp.ne hp.lt
    have hll := hp.lt _ (last_mem hp.ne)
    have hcl := hf (headN p) (lastN p) hfl hll
    have h0 := hp.w0
    have h1 := hp.w1
    have hacc : (bif (f (headN p) (lastN p) != (-1000000000000000)) then some (decide (over < IntKind.i64.wrap (pathw f p + f (headN p) (lastN p)))) else some false) = some (accG f (fun w => decide (over < w)) p) := by
      unfold accG arcB
      by_cases e : f (headN p) (lastN p) = -1000000000000000
      · rw [bF (neF e), dF (by simpa using e), Bool.false_and]
      · unfold Okw at hcl
        rw [bT (neT e), dT e, Bool.true_and, wr (by omega) (by omega)]
    unfold spec_l03Grow_rec gdfs
    simp only [nl_first hp.ne, nl_last hp.ne (by omega), Option.bind_some, idx_nat, tabM_row hfl, tabM_at hll, hacc]
    cases ha : accG f (fun w => decide (over < w)) p with
    | true => rfl
    | false =>
      simp only [cond_false, Bool.false_eq_true, if_false]
      have hw1 : IntKind.i64.wrap ((headN p : Int) + 1) = ((headN p + 1 : Nat) : Int) := wrN (by omega)
      rw [hw1]
      have H := for_ind (L := fun m (_ : Unit) i => spec_l03Grow_L1 F (tabM n n f) (nl p) (pathw f p) over (lastN p : Int) (spec_l03Grow_rec F k) m i) n
        (fun j _ => headN p < j ∧ ∀ v, v < j → (if candW f p v = true then gdfs (accG f fun w => decide (over < w)) (candW f) n k (p ++ [v]) else none) = none)
        (fun o => (∃ r, r ≠ [] ∧ o = some (.inl (nl r)) ∧ ((List.range n).findSome? fun v => if candW f p v = true then gdfs (accG f fun w => decide (over < w)) (candW f) n k (p ++ [v]) else none) = some r) ∨ (o = some (.inr ()) ∧ ((List.range n).findSome? fun v => if candW f p v = true then gdfs (accG f fun w => decide (over < w)) (candW f) n k (p ++ [v]) else none) = none)) ?_ ?_ (n - (headN p + 1)) (headN p + 1) () F (by omega) ⟨by omega, fun v hv => ?_⟩ (by omega)
      · rcases H with ⟨r, h2, h3, h4⟩ | ⟨h3, h4⟩
        · simp only [h3, h4, Option.bind_some, Option.elim_some]
        · simp only [h3, h4, Option.bind_some, Option.elim_none]
      · rintro m j _ hj ⟨hfj, hI⟩
        have hcj := hf j (lastN p) hj hll
        have hown : spec_l01Own F (nl p) = some (nl p) := by
          unfold spec_l01Own
          rw [app_le (by rw [nl_len]; simp only [List.length_nil]; omega)]; rfl
        have happ : app (nl p) [(j : Int)] = some (nl (p ++ [j])) := by
          rw [app_le (by rw [nl_len]; simp only [List.length_singleton]; omega), nl_app]
        have hwj : IntKind.i64.wrap ((j : Int) + 1) = ((j + 1 : Nat) : Int) := wrN (by omega)
        cases hc : candW f p j with
        | false =>
          refine .inl ⟨(), ?_, by omega, fun v hv => ?_⟩
          · by_cases e : f j (lastN p) = -1000000000000000
            · simp only [spec_l03Grow_L1, tabM_len, bdT (show (j : Int) < (n : Int) by omega), idx_nat, tabM_row hj, tabM_at hll, Option.bind_some, e, beq_self_eq_true, cond_true, hwj]
            · have hpj : p.contains j = true := by
                unfold candW arcB at hc
                rw [dT hfj, dT e, Bool.true_and, Bool.true_and, Bool.not_eq_false'] at hc
                exact hc
              simp only [spec_l03Grow_L1, tabM_len, bdT (show (j : Int) < (n : Int) by omega), idx_nat, tabM_row hj, tabM_at hll, Option.bind_some, beq_false_of_ne e, cond_false, specHas_is (F := F) (xs := nl p) (x := (j : Int)) hF (by rw [nl_len]; omega), nl_has, hpj, cond_true, hwj]
          · by_cases e : v = j
            · subst e; rw [hc]; rfl
            · exact hI v (by omega)
        | true =>
          obtain ⟨hp', hpw, hne⟩ := hp.next hf hj hc
          have hpj : p.contains j = false := by
            unfold candW at hc
            rw [Bool.and_eq_true, Bool.not_eq_true'] at hc
            exact hc.2
          have hw2 : IntKind.i64.wrap (pathw f p + f j (lastN p)) = pathw f (p ++ [j]) := by
            unfold Okw at hcj
            rw [hpw, wr (by omega) (by omega)]
          have hr := ih (p ++ [j]) hp' (by rw [List.length_append, List.length_singleton]; omega)
          have S : spec_l03Grow_L1 F (tabM n n f) (nl p) (pathw f p) over (lastN p : Int) (spec_l03Grow_rec F k) (m + 1) (j : Int) = bif decide (0 < (((gdfs (accG f fun w => decide (over < w)) (candW f) n k (p ++ [j])).elim [] nl).length : Int)) then some (.inl ((gdfs (accG f fun w => decide (over < w)) (candW f) n k (p ++ [j])).elim [] nl)) else spec_l03Grow_L1 F (tabM n n f) (nl p) (pathw f p) over (lastN p : Int) (spec_l03Grow_rec F k) m ((j + 1 : Nat) : Int) := by
            simp only [spec_l03Grow_L1, tabM_len, bdT (show (j : Int) < (n : Int) by omega), idx_nat, tabM_row hj, tabM_at hll, Option.bind_some, beq_false_of_ne hne, cond_false, specHas_is (F := F) (xs := nl p) (x := (j : Int)) hF (by rw [nl_len]; omega), nl_has, hpj, hown, happ, hw2, hr, hwj]
            cases decide (0 < (((gdfs (accG f fun w => decide (over < w)) (candW f) n k (p ++ [j])).elim [] nl).length : Int)) <;> rfl
          cases hg : gdfs (accG f fun w => decide (over < w)) (candW f) n k (p ++ [j]) with
          | none =>
            refine .inl ⟨(), ?_, by omega, fun v hv => ?_⟩
            · rw [S, hg]; rfl
            · by_cases e : v = j
              · subst e; rw [if_pos hc]; exact hg
              · exact hI v (by omega)
          | some r =>
            obtain ⟨_, q, hrq, _⟩ := gdfs_some hg
            have hne' : r ≠ [] := by rw [hrq]; simp
            have hlen := List.length_pos_iff.2 hne'
            refine .inr (.inl ⟨r, hne', ?_, fs_some hI (by rw [if_pos hc]; exact hg) hj⟩)
            rw [S, hg]
            show (bif decide (0 < ((nl r).length : Int)) then _ else _) = _
            rw [nl_len, bdT (by omega)]; rfl
      · rintro m _ ⟨_, hI⟩
        refine .inr ⟨?_, fs_none hI⟩
        simp only [spec_l03Grow_L1, tabM_len, bdF (show ¬ (n : Int) < (n : Int) by omega)]
      · have : candW f p v = false := by
          unfold candW
          rw [dF (by omega), Bool.false_and, Bool.false_and]
        rw [this]; rfl

theorem specOverT_is {F n : Nat} {f : Nat → Nat → Int} {over : Int} (hF : 134217728 ≤ F) (hn : n ≤ 10) (hf : TabOk f n) : spec_l03Over F (tabM n n f) over = some ((firstCyc f n (fun w => decide (over < w)) F).elim [] nl) := by
  unfold spec_l03Over
  have H := for0 (L := fun m (_ : Unit) i => spec_l03Over_L1 F (tabM n n f) over m i) (len := n) (fun j _ => ∀ v, v < j → gdfs (accG f fun w => decide (over < w)) (candW f) n F [v] = none)
    (R := fun o => (∃ r, o = some (.inl (nl r)) ∧ firstCyc f n (fun w => decide (over < w)) F = some r) ∨ (o = some (.inr ()) ∧ firstCyc f n (fun w => decide (over < w)) F = none)) (s := ()) (n := F) ?_ ?_ (fun v h => by omega) (by omega)
  · rcases H with ⟨r, h1, h2⟩ | ⟨h1, h2⟩
    · simp only [h1, h2, Option.bind_some, Option.elim_some]
    · simp only [h1, h2, Option.bind_some, Option.elim_none]
  · intro m j _ hj hI
    have hr : spec_l03Grow F (tabM n n f) [(j : Int)] 0 over = some ((gdfs (accG f fun w => decide (over < w)) (candW f) n F [j]).elim [] nl) := specGrow_is (F := F) hF hn hf F [j] (PathOk.one f hj) (by simp only [List.length_singleton]; omega)
    have S : spec_l03Over_L1 F (tabM n n f) over (m + 1) (j : Int) = bif decide (0 < (((gdfs (accG f fun w => decide (over < w)) (candW f) n F [j]).elim [] nl).length : Int)) then some (.inl ((gdfs (accG f fun w => decide (over < w)) (candW f) n F [j]).elim [] nl)) else spec_l03Over_L1 F (tabM n n f) over m ((j + 1 : Nat) : Int) := by
      simp only [spec_l03Over_L1, tabM_len, bdT (show (j : Int) < (n : Int) by omega), hr, Option.bind_some, wrN (show j ≤ 67108864 by omega)]
    cases hg : gdfs (accG f fun w => decide (over < w)) (candW f) n F [j] with
    | none =>
      refine .inl ⟨(), ?_, fun v hv => ?_⟩
      · rw [S, hg]; rfl
      · by_cases e : v = j
        · subst e; exact hg
        · exact hI v (by omega)
    | some r =>
      obtain ⟨_, q, hrq, _⟩ := gdfs_some hg
      have hlen := List.length_pos_iff.2 (show r ≠ [] by rw [hrq]; simp)
      refine .inr (.inl ⟨r, ?_, fs_some hI hg hj⟩)
      rw [S, hg]
      show (bif decide (0 < ((nl r).length : Int)) then _ else _) = _
      rw [nl_len, bdT (by omega)]; rfl
  · intro m _ hI
    refine .inr ⟨?_, fs_none hI⟩
    simp only [spec_l03Over_L1, tabM_len, bdF (show ¬ (n : Int) < (n : Int) by omega)]

/-! ### Positive cycles, by the program -/
/-! ### The program's search for a better circuit -/
def tb (n : Nat) (x : Nat → Int) : List Int := (List.range n).map x

theorem wT_arcs {g : GEventGraph} (h : graphB g = true) {r : Int} (h0 : 0 ≤ r) (h1 : r ≤ 100000) : Arcs (wT g r) g.Events.toNat plT plF (plW r) g.Places :=
  ⟨fun _p hp => ⟨(pl_at h hp).2.2.1, (pl_at h hp).2.2.2⟩, fun _p hp => ⟨(plW_bd h h0 h1 hp).1, (plW_bd h h0 h1 hp).2.1⟩, fun _p hp => arcT_ge hp, fun i j => arcT_cases g.Places i j⟩

/-! ### Circuits of places -/
def pcs (g : GEventGraph) (i : Nat) : GPlace := (g.Places[i]?).getD ⟨0, 0, 0, 0⟩

def cF (g : GEventGraph) (i : Nat) : Nat := plF (pcs g i)

def cT (g : GEventGraph) (i : Nat) : Nat := plT (pcs g i)

def sumD (g : GEventGraph) (p : List Nat) : Int := (p.map fun i => (pcs g i).Delay).sum

def sumM (g : GEventGraph) (p : List Nat) : Int := (p.map fun i => (pcs g i).Tokens).sum

theorem sumD_app (g : GEventGraph) (p q : List Nat) : sumD g (p ++ q) = sumD g p + sumD g q := by unfold sumD; rw [List.map_append, List.sum_append]

theorem sumM_app (g : GEventGraph) (p q : List Nat) : sumM g (p ++ q) = sumM g p + sumM g q := by unfold sumM; rw [List.map_append, List.sum_append]

theorem sumD_one (g : GEventGraph) (v : Nat) : sumD g [v] = (pcs g v).Delay := by unfold sumD; simp

theorem sumM_one (g : GEventGraph) (v : Nat) : sumM g [v] = (pcs g v).Tokens := by unfold sumM; simp

def closedC (g : GEventGraph) (p : List Nat) : Bool := decide (cT g (lastN p) = cF g (headN p))

def visC (g : GEventGraph) (p : List Nat) (e : Nat) : Bool := p.any fun i => decide (cF g i = e) || decide (cT g i = e)

def accC (g : GEventGraph) (good : Int → Int → Bool) (p : List Nat) : Bool := closedC g p && good (sumD g p) (sumM g p)

def candC (g : GEventGraph) (p : List Nat) (v : Nat) : Bool := !closedC g p && (decide (cF g v = cT g (lastN p)) && (decide (cF g (headN p) ≤ cT g v) && (decide (cT g v = cF g (headN p)) || !visC g p (cT g v))))

theorem candC_true {g : GEventGraph} {p : List Nat} {v : Nat} : candC g p v = true ↔ closedC g p = false ∧ cF g v = cT g (lastN p) ∧ cF g (headN p) ≤ cT g v ∧ (cT g v = cF g (headN p) ∨ visC g p (cT g v) = false) := by
  unfold candC
  simp only [Bool.and_eq_true, Bool.not_eq_true', decide_eq_true_eq, Bool.or_eq_true]

structure CircOk (g : GEventGraph) (p : List Nat) : Prop where
  ne : p ≠ []
  lt : ∀ x, x ∈ p → x < g.Places.length
  nodup : (p.map (cT g)).Nodup
  op : closedC g p = false → cF g (headN p) ∉ p.map (cT g)

theorem CircOk.one {g : GEventGraph} {i : Nat} (hi : i < g.Places.length) : CircOk g [i] :=
  ⟨by simp, fun x hx => by simp only [List.mem_singleton] at hx; subst hx; exact hi, by simp, fun hc hm => by
    have e : lastN [i] = i := rfl
    have e2 : headN [i] = i := rfl
    unfold closedC at hc
    rw [e, e2] at hc
    rw [e2] at hm
    simp only [List.map_cons, List.map_nil, List.mem_singleton] at hm
    rw [hm] at hc; simp at hc⟩

theorem CircOk.next {g : GEventGraph} {p : List Nat} {v : Nat} (hp : CircOk g p) (hv : v < g.Places.length) (hc : candC g p v = true) : CircOk g (p ++ [v]) := by
  obtain ⟨h1, h2, h3, h4⟩ := candC_true.1 hc
  have hop := hp.op h1
  have hnm : cT g v ∉ p.map (cT g) := by
    rcases h4 with h4 | h4
    · rw [h4]; exact hop
    · intro hm
      obtain ⟨i, hi, e⟩ := List.mem_map.1 hm
      unfold visC at h4
      rw [List.any_eq_false] at h4
      exact h4 i hi (by rw [decide_eq_true e, Bool.or_true])
  refine ⟨by simp, fun x hx => ?_, ?_, fun hcl hm => ?_⟩
  · rcases List.mem_append.1 hx with hx | hx
    · exact hp.lt x hx
    · simp only [List.mem_singleton] at hx; subst hx; exact hv
  · rw [List.map_append, List.nodup_append]
    refine ⟨hp.nodup, by simp, fun x hx y hy => ?_⟩
    simp only [List.map_cons, List.map_nil, List.mem_singleton] at hy
    subst hy
    exact fun e => hnm (e ▸ hx)
  · unfold closedC at hcl
    rw [lastN_snoc, headN_snoc hp.ne] at hcl
    rw [headN_snoc hp.ne, List.map_append] at hm
    rcases List.mem_append.1 hm with hm | hm
    · exact hop hm
    · simp only [List.map_cons, List.map_nil, List.mem_singleton] at hm
      rw [hm] at hcl; simp at hcl

def firstC (g : GEventGraph) (good : Int → Int → Bool) (K : Nat) : Option (List Nat) := (List.range g.Places.length).findSome? fun i => if cF g i ≤ cT g i then gdfs (accC g good) (candC g) g.Places.length K [i] else none

theorem wT_place {g : GEventGraph} {r : Int} (h : graphB g = true) (h0 : 0 ≤ r) (h1 : r ≤ 100000) {u v : Nat} (ha : wT g r v u ≠ -1000000000000000) : ∃ i, i < g.Places.length ∧ cT g i = v ∧ cF g i = u ∧ (pcs g i).Delay - r * (pcs g i).Tokens = wT g r v u := by
  rcases (wT_arcs h h0 h1).cs v u with e | ⟨p, hp, h2, h3, h4⟩
  · exact absurd e ha
  · obtain ⟨i, hi, rfl⟩ := List.getElem_of_mem hp
    have e : pcs g i = g.Places[i] := by unfold pcs; rw [List.getElem?_eq_getElem hi]; rfl
    exact ⟨i, hi, by unfold cT; rw [e]; exact h2, by unfold cF; rw [e]; exact h3, by rw [e, h4]; rfl⟩

theorem chain_steps {g : GEventGraph} {r : Int} (h : graphB g = true) (h0 : 0 ≤ r) (h1 : r ≤ 100000) {f : Nat} : ∀ (q p : List Nat) (l : Nat) (V : List Nat), p ≠ [] → cT g (lastN p) = l → l ≠ f → cF g (headN p) = f → l ∈ V → (∀ e, e ∉ V → visC g p e = false) → (∀ x, x ∈ q → f < x ∧ x ∉ V) → q.Nodup → Chain (arcB (wT g r)) l q f →
    ∃ ps, Steps (candC g) p ps ∧ closedC g (p ++ ps) = true ∧ (∀ x, x ∈ ps → x < g.Places.length) ∧ sumD g (p ++ ps) - r * sumM g (p ++ ps) = sumD g p - r * sumM g p + cw (wT g r) l q f ∧ ps.length ≤ q.length + 1 := by
  intro q
  induction q with
  | nil =>
    intro p l V hne hl hlf hf _ _ _ _ hc
    obtain ⟨i, hi, i1, i2, i3⟩ := wT_place h h0 h1 (arcB_true.1 hc)
    have hcl : closedC g p = false := by unfold closedC; rw [hl, hf]; exact decide_eq_false hlf
    refine ⟨[i], ⟨candC_true.2 ⟨hcl, by rw [i2, hl], by rw [i1, hf]; exact Nat.le_refl _, .inl (by rw [i1, hf])⟩, trivial⟩, ?_, fun x hx => ?_, ?_, by simp⟩
    · unfold closedC; rw [lastN_snoc, headN_snoc hne, i1, hf]; simp
    · simp only [List.mem_singleton] at hx; subst hx; exact hi
    · rw [sumD_app, sumM_app, sumD_one, sumM_one, Int.mul_add]
      show _ = _ + wT g r f l
      rw [← i3]; omega
  | cons v q ih =>
    intro p l V hne hl hlf hf hlV hvis hq hnd hc
    obtain ⟨i, hi, i1, i2, i3⟩ := wT_place h h0 h1 (arcB_true.1 hc.1)
    have hcl : closedC g p = false := by unfold closedC; rw [hl, hf]; exact decide_eq_false hlf
    obtain ⟨hv1, hv2⟩ := hq v (by simp)
    have hcand : candC g p i = true := candC_true.2 ⟨hcl, by rw [i2, hl], by rw [i1, hf]; omega, .inr (by rw [i1]; exact hvis v hv2)⟩
    rw [List.nodup_cons] at hnd
    obtain ⟨ps, s1, s2, s3, s4, s5⟩ := ih (p ++ [i]) v (v :: V) (by simp) (by rw [lastN_snoc, i1]) (by omega) (by rw [headN_snoc hne, hf]) (by simp) (fun e he => by
        rw [List.mem_cons, not_or] at he
        unfold visC
        rw [List.any_append]
        have := hvis e he.2
        unfold visC at this
        rw [this]
        simp only [List.any_cons, List.any_nil, i1, i2, Bool.or_false, Bool.false_or, Bool.or_eq_false_iff, decide_eq_false_iff_not]
        exact ⟨fun e2 => he.2 (e2 ▸ hlV), fun e2 => he.1 e2.symm⟩) (fun x hx => ⟨(hq x (by simp [hx])).1, fun hm => by
        rcases List.mem_cons.1 hm with rfl | hm
        · exact hnd.1 hx
        · exact (hq x (by simp [hx])).2 hm⟩) hnd.2 hc.2
    refine ⟨i :: ps, ⟨hcand, s1⟩, ?_, fun x hx => ?_, ?_, by simp only [List.length_cons]; omega⟩
    · rw [show p ++ i :: ps = (p ++ [i]) ++ ps by simp]; exact s2
    · rcases List.mem_cons.1 hx with rfl | hx
      · exact hi
      · exact s3 x hx
    · rw [show p ++ i :: ps = (p ++ [i]) ++ ps by simp, s4, sumD_app, sumM_app, sumD_one, sumM_one, Int.mul_add]
      show _ = _ + (wT g r v l + cw (wT g r) v q f)
      rw [← i3]; omega

theorem firstC_none {g : GEventGraph} {r : Int} {K : Nat} (h : graphB g = true) (h0 : 0 ≤ r) (h1 : r ≤ 100000) (hK : 100 ≤ K) (hp : PosCyc (wT g r) g.Events.toNat) : firstC g (fun d m => decide (0 < d - r * m)) K ≠ none := by
  intro hn
  obtain ⟨e1, e2, e3, _, _⟩ := graphB_true h
  obtain ⟨v, q, hv, ⟨q1, q2, q3⟩, hw⟩ := hp
  have hql := nodup_le g.Events.toNat q (List.nodup_cons.1 q2).2 (fun x hx => (q1 x hx).2)
  cases q with
  | nil =>
    obtain ⟨i, hi, i1, i2, i3⟩ := wT_place h h0 h1 (arcB_true.1 q3)
    have h2 := List.findSome?_eq_none_iff.1 hn i (by simpa using hi)
    rw [if_pos (by omega)] at h2
    have h3 := gdfs_none (q := []) h2 (by simp; omega) trivial (fun x hx => (by cases hx))
    rw [List.append_nil] at h3
    have hw' : 0 < wT g r v v := hw
    have hc : closedC g [i] = true := decide_eq_true (show cT g i = cF g i by rw [i1, i2])
    unfold accC at h3
    rw [hc, Bool.true_and] at h3
    have h3 : decide (0 < sumD g [i] - r * sumM g [i]) = false := h3
    rw [sumD_one, sumM_one, i3, dT hw'] at h3
    cases h3
  | cons u q =>
    obtain ⟨i, hi, i1, i2, i3⟩ := wT_place h h0 h1 (arcB_true.1 q3.1)
    have hu := q1 u (by simp)
    have h2 := List.findSome?_eq_none_iff.1 hn i (by simpa using hi)
    rw [if_pos (by omega)] at h2
    have q2' := List.nodup_cons.1 (List.nodup_cons.1 q2).2
    obtain ⟨ps, s1, s2, s3, s4, s5⟩ := chain_steps (g := g) (r := r) h h0 h1 (f := v) q [i] u [u, v] (by simp) i1 (by omega) i2 (by simp) (fun e he => by
        unfold visC
        simp only [List.mem_cons, List.not_mem_nil, or_false, not_or] at he
        simp only [List.any_cons, List.any_nil, i1, i2, Bool.or_false, Bool.or_eq_false_iff, decide_eq_false_iff_not]
        omega) (fun x hx => ⟨(q1 x (by simp [hx])).1, fun hm => by
        simp only [List.mem_cons, List.not_mem_nil, or_false] at hm
        rcases hm with rfl | rfl
        · exact q2'.1 hx
        · have := (q1 x (by simp [hx])).1; omega⟩) q2'.2 q3.2
    have h3 := gdfs_none (q := ps) h2 (by simp only [List.length_cons] at hql; omega) s1 s3
    unfold accC at h3
    have hw' : 0 < wT g r u v + cw (wT g r) u q v := hw
    rw [s2, Bool.true_and] at h3
    have h3 : decide (0 < sumD g ([i] ++ ps) - r * sumM g ([i] ++ ps)) = false := h3
    rw [s4, sumD_one, sumM_one, i3, dT hw'] at h3
    cases h3

/-! ### The program's search for a circuit -/
/-! ### The reference's order -/
theorem specReady_is {F n e : Nat} {g : GEventGraph} {o : List Nat} (hF : 134217728 ≤ F) (h : GOk g n) (ho : o.length ≤ n) (he : e < n) : spec_l12Order_L21 F g (mat0 (eP g.Places) n) (nl o) (e : Int) F (!o.contains e) 0 = some (readyB (eP g.Places) n o e) := by
  have h10 := h.n10
  have H := for0 (L := fun m (s : Bool) i => spec_l12Order_L21 F g (mat0 (eP g.Places) n) (nl o) (e : Int) m s i) (len := n) (fun k s => s = (!o.contains e && (List.range k).all fun u => !eP g.Places u e || o.contains u)) (R := fun r => r = some (readyB (eP g.Places) n o e)) (s := !o.contains e) (n := F) ?_ ?_ (by simp) (by omega)
  · exact H
  · rintro m k s hk rfl
    refine .inl ⟨_, ?_, rfl⟩
    have hlt : decide ((k : Int) < g.Events) = true := by rw [h.ev]; exact decide_eq_true (by omega)
    have hcell : idx ((List.range n).map fun u => bif eP g.Places u e then (0 : Int) else (-1000000000000000)) (k : Int) = some (bif eP g.Places k e then 0 else (-1000000000000000)) := by rw [idx_nat, List.getElem?_map, List.getElem?_range hk]; rfl
    simp only [spec_l12Order_L21, hlt, cond_true, idx_nat, mat0_row he, Option.bind_some]
    rw [← idx_nat, hcell]
    simp only [Option.bind_some, specHas_is (F := F) (xs := nl o) (x := (k : Int)) hF (by rw [nl_len]; omega), nl_has, wrN (show k ≤ 67108864 by omega), List.range_succ, List.all_append, List.all_cons, List.all_nil, Bool.and_true]
    cases o.contains e <;> cases ((List.range k).all fun u => !eP g.Places u e || o.contains u) <;> cases eP g.Places k e <;> cases o.contains k <;> rfl
  · rintro m s rfl
    have hlt : decide ((n : Int) < g.Events) = false := by rw [h.ev]; exact decide_eq_false (by omega)
    simp only [spec_l12Order_L21, hlt, cond_false]; rfl

theorem specRound_is {F n : Nat} {g : GEventGraph} {o : List Nat} (hF : 134217728 ≤ F) (h : GOk g n) (ho : o.length ≤ n) : spec_l12Order_L20 F g (mat0 (eP g.Places) n) (nl o) F 0 = some (nl (match nextOf (eP g.Places) n o with | some e => o ++ [e] | none => o)) := by
  have h10 := h.n10
  have H := for0 (L := fun m (_ : Unit) i => spec_l12Order_L20 F g (mat0 (eP g.Places) n) (nl o) m i) (len := n) (fun k _ => ∀ e, e < k → readyB (eP g.Places) n o e = false) (R := fun r => r = some (nl (match nextOf (eP g.Places) n o with | some e => o ++ [e] | none => o))) (s := ()) (n := F) ?_ ?_ (fun e he => by omega) (by omega)
  · exact H
  · intro m k _ hk hI
    have hlt : decide ((k : Int) < g.Events) = true := by rw [h.ev]; exact decide_eq_true (by omega)
    have S : spec_l12Order_L20 F g (mat0 (eP g.Places) n) (nl o) (m + 1) (k : Int) = bif readyB (eP g.Places) n o k then (app (nl o) [(k : Int)]).bind fun xs => some xs else spec_l12Order_L20 F g (mat0 (eP g.Places) n) (nl o) m ((k + 1 : Nat) : Int) := by
      simp only [spec_l12Order_L20, hlt, cond_true, specHas_is (F := F) (xs := nl o) (x := (k : Int)) hF (by rw [nl_len]; omega), nl_has, Option.bind_some, specReady_is hF h ho hk, wrN (show k ≤ 67108864 by omega)]
    cases hr : readyB (eP g.Places) n o k with
    | false =>
      refine .inl ⟨(), by simp only [S, hr, cond_false], fun e he => ?_⟩
      by_cases e2 : e = k
      · subst e2; exact hr
      · exact hI e (by omega)
    | true =>
      refine .inr ?_
      have hn : nextOf (eP g.Places) n o = some k := by
        unfold nextOf
        rw [List.find?_eq_some_iff_getElem]
        exact ⟨hr, k, by simpa using hk, by simp, fun j hj => by simp [hI j hj]⟩
      have happ : app (nl o) [(k : Int)] = some (nl (o ++ [k])) := by
        rw [app_le (by rw [nl_len]; simp only [List.length_singleton]; omega), nl_app]
      simp only [S, hr, cond_true, happ, Option.bind_some, hn]
  · intro m _ hI
    have hno : nextOf (eP g.Places) n o = none := by
      unfold nextOf
      rw [List.find?_eq_none]
      intro x hx
      rw [hI x (by simpa using hx)]; decide
    have hlt : decide ((n : Int) < g.Events) = false := by rw [h.ev]; exact decide_eq_false (by omega)
    simp only [spec_l12Order_L20, hlt, cond_false, hno]

theorem specOrderLoop {F n : Nat} {g : GEventGraph} (hF : 134217728 ≤ F) (h : GOk g n) : ∀ (k : Nat) (o o' : List Nat) (m : Nat), o.length + k = n → k < m → fire (eP g.Places) n k o = some o' → spec_l12Order_L16 F g (mat0 (eP g.Places) n) m (nl o) = some (nl o') := by
  have h10 := h.n10
  intro k
  induction k with
  | zero =>
    intro o o' m ho hm hf
    obtain ⟨m, rfl⟩ : ∃ m', m = m' + 1 := ⟨m - 1, by omega⟩
    unfold fire at hf
    cases hf
    have : decide (((nl o).length : Int) < g.Events) = false := by rw [h.ev, nl_len]; exact decide_eq_false (by omega)
    simp only [spec_l12Order_L16, this, cond_false]
  | succ k ih =>
    intro o o' m ho hm hf
    obtain ⟨m, rfl⟩ : ∃ m', m = m' + 1 := ⟨m - 1, by omega⟩
    have : decide (((nl o).length : Int) < g.Events) = true := by rw [h.ev, nl_len]; exact decide_eq_true (by omega)
    unfold fire at hf
    cases hx : nextOf (eP g.Places) n o with
    | none => rw [hx] at hf; cases hf
    | some e =>
      rw [hx] at hf
      simp only [spec_l12Order_L16, this, cond_true, specRound_is hF h (show o.length ≤ n by omega), Option.bind_some, hx]
      exact ih (o ++ [e]) o' m (by rw [List.length_append, List.length_singleton]; omega) (by omega) hf

theorem specOrder_is {F n : Nat} {g : GEventGraph} (hF : 134217728 ≤ F) (h : GOk g n) {o : List Nat} (ho : fire (eP g.Places) n n [] = some o) : spec_l12Order F g = some (nl o) := by
  have h10 := h.n10
  unfold spec_l12Order
  have := specOrderLoop hF h n [] o F (by simp) (by omega) ho
  rw [show nl [] = [] from rfl] at this
  rw [bind_of (specFree_is hF h), this]; rfl

/-! ### Tables row by row -/
def plD (g : GEventGraph) (i : Nat) : GPlace := g.Places.getD i ⟨0, 0, 0, 0⟩

theorem plD_of {g : GEventGraph} {k : Nat} (h : k < g.Places.length) : g.Places[k]? = some (plD g k) := by
  unfold plD; rw [List.getD_eq_getElem?_getD, List.getElem?_eq_getElem h]; rfl

theorem foldl_len {α : Type} {f : List Int → α → List Int} (hf : ∀ xs a, (f xs a).length = xs.length) : ∀ (l : List α) (xs : List Int), (l.foldl f xs).length = xs.length
  | [], _ => rfl
  | a :: l, xs => by rw [List.foldl_cons, foldl_len hf l, hf]

/-- the parts of a table that is under way -/
structure DOk (g : GEventGraph) (n : Nat) (pre : List (List Int)) (xs : List Int) : Prop where
  rws : ∀ r, r ∈ pre → r.length = n
  row : xs.length = n
  le : pre.length ≤ 50

theorem DOk.at' {g : GEventGraph} {n : Nat} {pre : List (List Int)} {xs : List Int} (h : DOk g n pre xs) {m : Nat} (hm : m ≤ pre.length) : (pre ++ [xs])[m]? = some ((pre ++ [xs]).getD m []) ∧ ((pre ++ [xs]).getD m []).length = n := by
  have hl : m < (pre ++ [xs]).length := by simp; omega
  have e : (pre ++ [xs])[m]? = some ((pre ++ [xs]).getD m []) := by rw [List.getD_eq_getElem?_getD, List.getElem?_eq_getElem hl]; rfl
  refine ⟨e, ?_⟩
  rcases List.mem_append.1 (List.mem_of_getElem? e) with h1 | h1
  · exact h.rws _ h1
  · simp only [List.mem_singleton] at h1; rw [h1]; exact h.row

theorem getN {xs : List Int} {i : Int} {u n : Nat} (h : i = (u : Int)) (hu : u < n) (hx : xs.length = n) : idx xs i = some (xs.getD i.toNat 0) := by
  subst h; rw [idx_nat, Int.toNat_natCast, getD_of (by omega)]

theorem upd_last {pre : List (List Int)} {xs ys : List Int} : upd (pre ++ [xs]) (pre.length : Int) ys = some (pre ++ [ys]) := by
  rw [upd_nat _ (by simp)]; simp

structure PlOk (g : GEventGraph) (n : Nat) (i : Nat) : Prop where
  from' : ∃ u : Nat, (plD g i).From = (u : Int) ∧ u < n
  to' : ∃ v : Nat, (plD g i).To = (v : Int) ∧ v < n
  tok : ∃ w : Nat, (plD g i).Tokens = (w : Int) ∧ w ≤ 5

theorem graphB_tok {g : GEventGraph} (h : graphB g = true) : ∀ p, p ∈ g.Places → 0 ≤ p.Tokens ∧ p.Tokens ≤ 5 ∧ 0 ≤ p.Delay ∧ p.Delay ≤ 1000 := by
  intro p hp
  unfold graphB at h
  simp only [Bool.and_eq_true, List.all_eq_true] at h
  have := h.1 p hp
  simp only [placeB, Bool.and_eq_true, inB_true] at this
  omega

theorem PlOk.of {g : GEventGraph} (h : graphB g = true) {i : Nat} (hi : i < g.Places.length) : PlOk g g.Events.toNat i := by
  have hm : plD g i ∈ g.Places := List.mem_of_getElem? (plD_of hi)
  obtain ⟨u, v, h1, h2, h3, h4⟩ := (GOk.of h).at' _ hm
  have := graphB_tok h _ hm
  exact ⟨⟨u, h1, h3⟩, ⟨v, h2, h4⟩, ⟨(plD g i).Tokens.toNat, by omega, by omega⟩⟩


theorem foldl_range {S : Type} {f : S → Nat → S} {o : List Nat} {s : S} {k : Nat} (hk : k < o.length) : (o.take (k + 1)).foldl f s = f ((o.take k).foldl f s) (o.getD k 0) := by
  have : o[k]? = some (o.getD k 0) := by rw [List.getD_eq_getElem?_getD, List.getElem?_eq_getElem hk]; rfl
  rw [List.take_add_one, this, List.foldl_append]; rfl

def zeros (g : GEventGraph) : List Int := List.replicate g.Events.toNat 0

/-! ### The table of the firing times -/
def tstep (g : GEventGraph) (pre : List (List Int)) (e : Nat) (xs : List Int) (i : Nat) : List Int :=
  bif (plD g i).To == (e : Int) && decide ((plD g i).Tokens ≤ (pre.length : Int)) then xs.set e (max (xs.getD e 0) (IntKind.i64.wrap (((pre ++ [xs]).getD (pre.length - (plD g i).Tokens.toNat) []).getD (plD g i).From.toNat 0 + (plD g i).Delay))) else xs

def tevent (g : GEventGraph) (pre : List (List Int)) (xs : List Int) (e : Nat) : List Int := (List.range g.Places.length).foldl (tstep g pre e) xs

theorem tstep_len (g : GEventGraph) (pre : List (List Int)) (e : Nat) (xs : List Int) (i : Nat) : (tstep g pre e xs i).length = xs.length := by
  unfold tstep
  cases ((plD g i).To == (e : Int) && decide ((plD g i).Tokens ≤ (pre.length : Int))) <;> simp

theorem tevent_len (g : GEventGraph) (pre : List (List Int)) (xs : List Int) (e : Nat) : (tevent g pre xs e).length = xs.length := foldl_len (tstep_len g pre e) _ _

theorem specTInner {F : Nat} {g : GEventGraph} {pre ms0 : List (List Int)} {xs : List Int} {r3 : List Int} {e j : Nat} (hF : 134217728 ≤ F) (hg : graphB g = true) (h : DOk g g.Events.toNat pre xs) (hms : ms0.length = pre.length) (hr : r3[j]? = some (e : Int)) :
    spec_l13Times_L21 F g r3 ms0 ((pre.length : Int) + 1) (j : Int) F (pre ++ [xs]) 0 xs = some (pre ++ [tevent g pre xs e], tevent g pre xs e) := by
  have hG := GOk.of hg
  have hlen := hG.len
  have hle := h.le
  have H := for0 (L := fun m (s : List (List Int) × List Int) i => spec_l13Times_L21 F g r3 ms0 ((pre.length : Int) + 1) (j : Int) m s.1 i s.2) (len := g.Places.length)
    (fun k s => s = (pre ++ [(List.range k).foldl (tstep g pre e) xs], (List.range k).foldl (tstep g pre e) xs)) (R := fun o => o = some (pre ++ [tevent g pre xs e], tevent g pre xs e)) (s := (pre ++ [xs], xs)) (n := F) ?_ ?_ rfl (by omega)
  · exact H
  · rintro m k s hk rfl
    have hys : ((List.range k).foldl (tstep g pre e) xs).length = g.Events.toNat := by rw [foldl_len (tstep_len g pre e)]; exact h.row
    generalize hyd : (List.range k).foldl (tstep g pre e) xs = ys at hys
    have hD : DOk g g.Events.toNat pre ys := ⟨h.rws, hys, h.le⟩
    obtain ⟨⟨u, hu, hun⟩, ⟨v, hv, hvn⟩, ⟨w, hw, hw5⟩⟩ := PlOk.of hg hk
    have hstep : (List.range (k + 1)).foldl (tstep g pre e) xs = tstep g pre e ys k := by rw [List.range_succ, List.foldl_append, hyd]; rfl
    refine .inl ⟨(pre ++ [tstep g pre e ys k], tstep g pre e ys k), ?_, by rw [hstep]⟩
    have hwr : IntKind.i64.wrap ((pre.length : Int) + 1 - (plD g k).Tokens) = (pre.length : Int) + 1 - w := by rw [hw]; exact wr (by omega) (by omega)
    simp only [spec_l13Times_L21, bdT (show (k : Int) < (g.Places.length : Int) by omega), idx_nat, plD_of hk, hr, Option.bind_some, hwr, wrN (show k ≤ 67108864 by omega)]
    by_cases hto : (plD g k).To = (e : Int)
    · rw [bT (show ((plD g k).To == (e : Int)) = true by rw [hto, beq_self_eq_true])]
      by_cases htk : w ≤ pre.length
      · rw [decide_eq_true (show (1 : Int) ≤ (pre.length : Int) + 1 - (w : Int) by omega)]
        have hve : v = e := by omega
        subst hve
        have hw2 : IntKind.i64.wrap ((pre.length : Int) + 1 - (w : Int) - 1) = ((pre.length - w : Nat) : Int) := by rw [wr (by omega) (by omega)]; omega
        obtain ⟨ha, hb⟩ := hD.at' (m := pre.length - w) (by omega)
        have hx := getN (xs := ys) hv hvn hys
        have hrow := getN (xs := (pre ++ [ys]).getD (pre.length - w) []) hu hun hb
        have htn : (plD g k).To.toNat = v := by rw [hv]; rfl
        have hupd : ∀ y, upd ys (plD g k).To y = some (ys.set v y) := fun y => by rw [hv, upd_nat _ (by omega)]
        have hms' : (ms0.length : Int) = (pre.length : Int) := by omega
        simp only [Option.bind_some, cond_true, hx, hw2, idx_nat, ha, hrow, hupd, hms', upd_last, htn]
        unfold tstep
        rw [hv, beq_self_eq_true, hw, decide_eq_true (show (w : Int) ≤ (pre.length : Int) by omega)]
        simp only [Bool.and_self, cond_true, Int.toNat_natCast]
      · rw [decide_eq_false (show ¬ (1 : Int) ≤ (pre.length : Int) + 1 - (w : Int) by omega)]
        simp only [Option.bind_some, cond_false]
        unfold tstep
        rw [hw, decide_eq_false (show ¬ (w : Int) ≤ (pre.length : Int) by omega), Bool.and_false]; rfl
    · rw [bF (beq_false_of_ne hto)]
      simp only [Option.bind_some, cond_false]
      unfold tstep
      rw [beq_false_of_ne hto, Bool.false_and]; rfl
  · rintro m s rfl
    simp only [spec_l13Times_L21, bdF (show ¬ (g.Places.length : Int) < (g.Places.length : Int) by omega)]; rfl

theorem last_at {pre : List (List Int)} {xs : List Int} : (pre ++ [xs])[pre.length]? = some xs := by simp

theorem implTInner {F : Nat} {g : GEventGraph} {pre : List (List Int)} {xs : List Int} {e : Nat} (hF : 134217728 ≤ F) (hg : graphB g = true) (h : DOk g g.Events.toNat pre xs) (he : e < g.Events.toNat) :
    impl_firingTimes_L21 F g (pre.length : Int) (e : Int) F (pre ++ [xs]) 0 = some (pre ++ [tevent g pre xs e]) := by
  have hG := GOk.of hg
  have hlen := hG.len
  have hle := h.le
  have H := for0 (L := fun m (s : List (List Int)) i => impl_firingTimes_L21 F g (pre.length : Int) (e : Int) m s i) (len := g.Places.length)
    (fun k s => s = pre ++ [(List.range k).foldl (tstep g pre e) xs]) (R := fun o => o = some (pre ++ [tevent g pre xs e])) (s := pre ++ [xs]) (n := F) ?_ ?_ rfl (by omega)
  · exact H
  · rintro m k s hk rfl
    have hys : ((List.range k).foldl (tstep g pre e) xs).length = g.Events.toNat := by rw [foldl_len (tstep_len g pre e)]; exact h.row
    generalize hyd : (List.range k).foldl (tstep g pre e) xs = ys at hys
    have hD : DOk g g.Events.toNat pre ys := ⟨h.rws, hys, h.le⟩
    obtain ⟨⟨u, hu, hun⟩, ⟨v, hv, hvn⟩, ⟨w, hw, hw5⟩⟩ := PlOk.of hg hk
    have hstep : (List.range (k + 1)).foldl (tstep g pre e) xs = tstep g pre e ys k := by rw [List.range_succ, List.foldl_append, hyd]; rfl
    refine .inl ⟨pre ++ [tstep g pre e ys k], ?_, by rw [hstep]⟩
    simp only [impl_firingTimes_L21, bdT (show (k : Int) < (g.Places.length : Int) by omega), idx_nat, plD_of hk, Option.bind_some, wrN (show k ≤ 67108864 by omega)]
    by_cases hto : (plD g k).To = (e : Int)
    · by_cases htk : w ≤ pre.length
      · have hd : decide ((plD g k).Tokens ≤ (pre.length : Int)) = true := by rw [hw]; exact decide_eq_true (by omega)
        have hw2 : IntKind.i64.wrap ((pre.length : Int) - (plD g k).Tokens) = ((pre.length - w : Nat) : Int) := by rw [hw, wr (by omega) (by omega)]; omega
        obtain ⟨ha, hb⟩ := hD.at' (m := pre.length - w) (by omega)
        have hrow := getN (xs := (pre ++ [ys]).getD (pre.length - w) []) hu hun hb
        have hx : ys[e]? = some (ys.getD e 0) := getD_of (by omega)
        rw [hto, beq_self_eq_true]
        simp only [cond_true, Option.bind_some, hd, hx, hw2, idx_nat, last_at, ha, hrow, upd_nat _ (show e < ys.length by omega), upd_last]
        unfold tstep
        rw [hto, beq_self_eq_true, hd, hw]
        simp only [Bool.and_self, cond_true, Int.toNat_natCast]
      · have hd : decide ((plD g k).Tokens ≤ (pre.length : Int)) = false := by rw [hw]; exact decide_eq_false (by omega)
        rw [hto, beq_self_eq_true]
        simp only [cond_true, Option.bind_some, hd, cond_false]
        unfold tstep
        rw [hd, Bool.and_false]; rfl
    · rw [beq_false_of_ne hto]
      simp only [cond_false, Option.bind_some]
      unfold tstep
      rw [beq_false_of_ne hto, Bool.false_and]; rfl
  · rintro m s rfl
    simp only [impl_firingTimes_L21, bdF (show ¬ (g.Places.length : Int) < (g.Places.length : Int) by omega)]; rfl

def tround (g : GEventGraph) (o : List Nat) (pre : List (List Int)) (xs : List Int) : List Int := o.foldl (tevent g pre) xs

theorem tround_len (g : GEventGraph) (o : List Nat) (pre : List (List Int)) (xs : List Int) : (tround g o pre xs).length = xs.length := foldl_len (tevent_len g pre) _ _

theorem specTEvents {F : Nat} {g : GEventGraph} {o : List Nat} {pre ms0 : List (List Int)} {xs : List Int} (hF : 134217728 ≤ F) (hg : graphB g = true) (h : DOk g g.Events.toNat pre xs) (hms : ms0.length = pre.length) (hol : o.length ≤ 10) :
    spec_l13Times_L20 F g (nl o) ms0 ((pre.length : Int) + 1) F (pre ++ [xs]) 0 xs = some (pre ++ [tround g o pre xs]) := by
  have H := for0 (L := fun m (s : List (List Int) × List Int) i => spec_l13Times_L20 F g (nl o) ms0 ((pre.length : Int) + 1) m s.1 i s.2) (len := o.length)
    (fun k s => s = (pre ++ [(o.take k).foldl (tevent g pre) xs], (o.take k).foldl (tevent g pre) xs)) (R := fun q => q = some (pre ++ [tround g o pre xs])) (s := (pre ++ [xs], xs)) (n := F) ?_ ?_ rfl (by omega)
  · exact H
  · rintro m k s hk rfl
    have hys : ((o.take k).foldl (tevent g pre) xs).length = g.Events.toNat := by rw [foldl_len (tevent_len g pre)]; exact h.row
    have hD : DOk g g.Events.toNat pre ((o.take k).foldl (tevent g pre) xs) := ⟨h.rws, hys, h.le⟩
    have hok : o[k]? = some (o.getD k 0) := by rw [List.getD_eq_getElem?_getD, List.getElem?_eq_getElem hk]; rfl
    have hr : (nl o)[k]? = some ((o.getD k 0 : Nat) : Int) := by rw [nl_at, hok]; rfl
    refine .inl ⟨_, ?_, rfl⟩
    simp only [spec_l13Times_L20, nl_len, bdT (show (k : Int) < (o.length : Int) by omega), specTInner hF hg hD hms hr, Option.bind_some, wrN (show k ≤ 67108864 by omega), foldl_range hk]
  · rintro m s rfl
    simp only [spec_l13Times_L20, nl_len, bdF (show ¬ (o.length : Int) < (o.length : Int) by omega), List.take_length]; rfl

theorem implTEvents {F : Nat} {g : GEventGraph} {o : List Nat} {b : Bool} {pre : List (List Int)} {xs : List Int} (hF : 134217728 ≤ F) (hg : graphB g = true) (h : DOk g g.Events.toNat pre xs) (ho : ∀ x, x ∈ o → x < g.Events.toNat) (hol : o.length ≤ 10) :
    impl_firingTimes_L20 F g (nl o, b) (pre.length : Int) F (pre ++ [xs]) 0 = some (pre ++ [tround g o pre xs]) := by
  have H := for0 (L := fun m (s : List (List Int)) i => impl_firingTimes_L20 F g (nl o, b) (pre.length : Int) m s i) (len := o.length)
    (fun k s => s = pre ++ [(o.take k).foldl (tevent g pre) xs]) (R := fun q => q = some (pre ++ [tround g o pre xs])) (s := pre ++ [xs]) (n := F) ?_ ?_ rfl (by omega)
  · exact H
  · rintro m k s hk rfl
    have hys : ((o.take k).foldl (tevent g pre) xs).length = g.Events.toNat := by rw [foldl_len (tevent_len g pre)]; exact h.row
    have hD : DOk g g.Events.toNat pre ((o.take k).foldl (tevent g pre) xs) := ⟨h.rws, hys, h.le⟩
    have hok : o[k]? = some (o.getD k 0) := by rw [List.getD_eq_getElem?_getD, List.getElem?_eq_getElem hk]; rfl
    have hr : (nl o)[k]? = some ((o.getD k 0 : Nat) : Int) := by rw [nl_at, hok]; rfl
    refine .inl ⟨_, ?_, rfl⟩
    simp only [impl_firingTimes_L20, nl_len, bdT (show (k : Int) < (o.length : Int) by omega), idx_nat, hr, implTInner hF hg hD (ho _ (List.mem_of_getElem? hok)), Option.bind_some, wrN (show k ≤ 67108864 by omega), foldl_range hk]
  · rintro m s rfl
    simp only [impl_firingTimes_L20, nl_len, bdF (show ¬ (o.length : Int) < (o.length : Int) by omega), List.take_length]; rfl

def ttab (g : GEventGraph) (o : List Nat) (xs : List Int) : Nat → List (List Int)
  | 0 => []
  | k + 1 => ttab g o xs k ++ [tround g o (ttab g o xs k) xs]

theorem ttab_len (g : GEventGraph) (o : List Nat) (xs : List Int) : ∀ k, (ttab g o xs k).length = k
  | 0 => rfl
  | k + 1 => by unfold ttab; rw [List.length_append, ttab_len g o xs k]; rfl

theorem ttab_rows {g : GEventGraph} {o : List Nat} {xs : List Int} (hd : xs.length = g.Events.toNat) : ∀ k r, r ∈ ttab g o xs k → r.length = g.Events.toNat
  | 0, r, h => by cases h
  | k + 1, r, h => by
    unfold ttab at h
    rcases List.mem_append.1 h with h | h
    · exact ttab_rows hd k r h
    · simp only [List.mem_singleton] at h
      rw [h, tround_len]; exact hd

theorem specTimes13_is {F n : Nat} {g : GEventGraph} {o : List Nat} {xs : List Int} (hF : 134217728 ≤ F) (hg : graphB g = true) (ho : fire (eP g.Places) g.Events.toNat g.Events.toNat [] = some o) (hd : xs.length = g.Events.toNat) (hn : n ≤ 50) : spec_l13Times F g (n : Int) xs = some (ttab g o xs n) := by
  have hG := GOk.of hg
  have h10 := hG.n10
  obtain ⟨hok, hol⟩ := fire_ok hG.edge _ [] o (OrderOk.nil _ _) ho
  have hol' : o.length ≤ 10 := by simp at hol; omega
  unfold spec_l13Times
  rw [bind_of (specOrder_is hF hG ho)]
  have H := for_ind (L := fun m (s : List (List Int)) i => spec_l13Times_L16 F g (n : Int) xs (nl o) m s (i + 1)) n (fun k s => s = ttab g o xs k) (fun q => q = some (ttab g o xs n)) ?_ ?_ n 0 [] F (by omega) rfl (by omega)
  · rw [show (((0 : Nat) : Int) + 1) = 1 from rfl] at H; rw [H]; rfl
  · rintro m k s hk rfl
    refine .inl ⟨_, ?_, rfl⟩
    have hown : spec_l01Own F xs = some xs := by
      unfold spec_l01Own
      rw [app_le (by simp only [List.length_nil]; omega)]; rfl
    have hlen := ttab_len g o xs k
    have hD : DOk g g.Events.toNat (ttab g o xs k) xs := ⟨ttab_rows hd k, hd, by omega⟩
    have happ : app (ttab g o xs k) [xs] = some (ttab g o xs k ++ [xs]) := app_le (by simp only [List.length_singleton]; omega)
    have hev2 := specTEvents (F := F) (ms0 := ttab g o xs k) hF hg hD rfl hol'
    rw [hlen] at hev2
    simp only [spec_l13Times_L16, bdT (show (k : Int) + 1 ≤ (n : Int) by omega), hown, happ, Option.bind_some, hev2, wr (show -9223372036854775808 ≤ (k : Int) + 1 + 1 by omega) (by omega)]
    rfl
  · rintro m s rfl
    simp only [spec_l13Times_L16, bdF (show ¬ (n : Int) + 1 ≤ (n : Int) by omega)]

theorem implTimes13_is {F n : Nat} {g : GEventGraph} {o : List Nat} {xs : List Int} (hF : 134217728 ≤ F) (hg : graphB g = true) (ho : fire (eP g.Places) g.Events.toNat g.Events.toNat [] = some o) (hd : xs.length = g.Events.toNat) (hn : n ≤ 50) : impl_firingTimes F g (n : Int) xs = some (ttab g o xs n) := by
  have hG := GOk.of hg
  have h10 := hG.n10
  obtain ⟨hok, hol⟩ := fire_ok hG.edge _ [] o (OrderOk.nil _ _) ho
  have hol' : o.length ≤ 10 := by simp at hol; omega
  unfold impl_firingTimes
  rw [bind_of (implOrder_is hF hG), ho]
  simp only
  have H := for0 (L := fun m (s : List (List Int)) i => impl_firingTimes_L16 F g (n : Int) xs (nl o, true) m s i) (len := n) (fun k s => s = ttab g o xs k) (R := fun q => q = some (ttab g o xs n)) (s := []) (n := F) ?_ ?_ rfl (by omega)
  · rw [H]; rfl
  · rintro m k s hk rfl
    refine .inl ⟨_, ?_, rfl⟩
    have hcl : slices_Clone_int64 F xs = some xs := by
      unfold slices_Clone_int64
      rw [app_le (by simp only [List.length_nil]; omega)]; rfl
    have hlen := ttab_len g o xs k
    have hD : DOk g g.Events.toNat (ttab g o xs k) xs := ⟨ttab_rows hd k, hd, by omega⟩
    have happ : app (ttab g o xs k) [xs] = some (ttab g o xs k ++ [xs]) := app_le (by simp only [List.length_singleton]; omega)
    have hev2 := implTEvents (F := F) (b := true) hF hg hD hok.lt hol'
    rw [hlen] at hev2
    simp only [impl_firingTimes_L16, bdT (show (k : Int) < (n : Int) by omega), hcl, happ, Option.bind_some, hev2, wrN (show k ≤ 67108864 by omega)]
    rfl
  · rintro m s rfl
    simp only [impl_firingTimes_L16, bdF (show ¬ (n : Int) < (n : Int) by omega)]

def rowB (g : GEventGraph) (xs : List Int) : Bool := ((xs.length : Int) == g.Events) && xs.all fun x => inB x 0 1000000

def dueB (g : GEventGraph) (due : List (List Int)) : Bool := due.all (rowB g) && decide ((due.length : Int) ≤ 50)

theorem implDue_is {F : Nat} {g : GEventGraph} {due : List (List Int)} (hF : 134217728 ≤ F) (hl : due.length ≤ 1048576) (hr : ∀ row, row ∈ due → row.length ≤ 1048576) : impl_isTimeTable F g due = some (dueB g due) := by
  have hc : slices_ContainsFunc_sint64 F due (fun x0 => impl_isTimeTable_c1 F x0 g) = some (due.any fun r => !rowB g r) := by
    refine slices_ContainsFunc_sint64_is hF (by omega) (fun r hm => ?_)
    simp only [impl_isTimeTable_c1, implAllWithin_is hF (hr r hm), Option.bind_some, bne, rowB]
    cases ((r.length : Int) == g.Events) <;> cases (r.all fun x => inB x 0 1000000) <;> rfl
  unfold impl_isTimeTable dueB
  rw [hc, any_not]
  simp only [Option.bind_some]
  cases decide ((due.length : Int) ≤ 50) <;> cases due.all (rowB g) <;> rfl

theorem specDue_is {F : Nat} {g : GEventGraph} {due : List (List Int)} (hF : 134217728 ≤ F) (hg : graphB g = true) (hl : due.length ≤ 1048576) (hr : ∀ row, row ∈ due → row.length ≤ 1048576) : spec_l22Due F g due = some (dueB g due) := by
  have h10 := (graphB_true hg).2.1
  unfold spec_l22Due
  rw [all_loop (ps := due) (g := rowB g) (r := false) (L := spec_l22Due_L1 F g due) ?_ ?_ (by omega)]
  · unfold dueB; cases due.all (rowB g) <;> rfl
  · intro n k row hk hrow
    simp only [spec_l22Due_L1, bdT (show (k : Int) < (due.length : Int) by omega), idx_nat, hrow, Option.bind_some, specWithin_is hF (hr row (List.mem_of_getElem? hrow)), wrN (show k ≤ 67108864 by omega), bne, rowB]
    cases he : ((row.length : Int) == g.Events) with
    | false => rfl
    | true =>
      rw [beq_iff_eq] at he
      rw [decide_eq_true (show (row.length : Int) ≤ 10 by omega)]
      cases (row.all fun x => inB x 0 1000000) <;> rfl
  · intro n
    simp only [spec_l22Due_L1, bdF (show ¬ (due.length : Int) < (due.length : Int) by omega)]

theorem specDueTot {F : Nat} {g : GEventGraph} {due : List (List Int)} (hF : 134217728 ≤ F) (hl : due.length ≤ 1048576) (hr : ∀ row, row ∈ due → row.length ≤ 1048576) : ∃ b, spec_l22Due F g due = some b := by
  unfold spec_l22Due
  rw [all_loop (ps := due) (g := fun r => ((r.length : Int) == g.Events) && ((r.all fun x => inB x 0 1000000) && decide ((r.length : Int) ≤ 10))) (r := false) (L := spec_l22Due_L1 F g due) ?_ ?_ (by omega)]
  · cases (due.all fun r => ((r.length : Int) == g.Events) && ((r.all fun x => inB x 0 1000000) && decide ((r.length : Int) ≤ 10))) <;> exact ⟨_, rfl⟩
  · intro n k row hk hrow
    simp only [spec_l22Due_L1, bdT (show (k : Int) < (due.length : Int) by omega), idx_nat, hrow, Option.bind_some, specWithin_is hF (hr row (List.mem_of_getElem? hrow)), wrN (show k ≤ 67108864 by omega), bne]
    cases ((row.length : Int) == g.Events) <;> cases (row.all fun x => inB x 0 1000000) <;> cases decide ((row.length : Int) ≤ 10) <;> rfl
  · intro n
    simp only [spec_l22Due_L1, bdF (show ¬ (due.length : Int) < (due.length : Int) by omega)]

def dueCode (g : GEventGraph) (due : List (List Int)) : Int := bif !graphB g then 1 else bif !dueB g due then 2 else bif !liveB g g.Events.toNat then 5 else 0

theorem specDueCode_is {F : Nat} {g : GEventGraph} {due : List (List Int)} (hF : 134217728 ≤ F) (hP : g.Places.length ≤ 1048576) (hl : due.length ≤ 1048576) (hr : ∀ row, row ∈ due → row.length ≤ 1048576) : ((spec_l22Due F g due).bind fun r => spec_l13Code F g r) = some (dueCode g due) := by
  unfold spec_l13Code spec_l12Live dueCode
  rw [specGraph_is hF hP]
  cases hg : graphB g with
  | false =>
    obtain ⟨b, hb⟩ := specDueTot (g := g) hF hl hr
    rw [hb]; rfl
  | true =>
    obtain ⟨r, hr1, hr2⟩ := specDead_is hF (GOk.of hg)
    simp only [specDue_is hF hg hl hr, Option.bind_some, Bool.not_true, cond_false, hr1, hr2]
    cases dueB g due <;> cases liveB g g.Events.toNat <;> rfl

theorem implDueCode_is {F : Nat} {g : GEventGraph} {due : List (List Int)} (hF : 134217728 ≤ F) (hP : g.Places.length ≤ 1048576) (hl : due.length ≤ 1048576) (hr : ∀ row, row ∈ due → row.length ≤ 1048576) : impl_checkDue F g due = some (dueCode g due) := by
  unfold impl_checkDue dueCode
  rw [bind_of (implGraph_is hF hP)]
  cases hg : graphB g with
  | false => rfl
  | true =>
    simp only [Bool.not_true, cond_false, implDue_is hF hl hr, Option.bind_some, implLive_is hF (GOk.of hg)]
    cases dueB g due <;> cases liveB g g.Events.toNat <;> rfl

theorem dueCode_zero {g : GEventGraph} {due : List (List Int)} (h : dueCode g due = 0) : graphB g = true ∧ dueB g due = true ∧ ∃ o, fire (eP g.Places) g.Events.toNat g.Events.toNat [] = some o := by
  unfold dueCode at h
  have : graphB g = true ∧ dueB g due = true ∧ liveB g g.Events.toNat = true := by
    revert h
    cases graphB g <;> cases dueB g due <;> cases liveB g g.Events.toNat <;> simp
  refine ⟨this.1, this.2.1, ?_⟩
  have h3 := this.2.2
  unfold liveB at h3
  exact Option.isSome_iff_exists.1 h3

theorem dueB_true {g : GEventGraph} {due : List (List Int)} (hg : graphB g = true) (h : dueB g due = true) : due.length ≤ 50 ∧ ∀ r, r ∈ due → r.length = g.Events.toNat ∧ ∀ x, x ∈ r → 0 ≤ x ∧ x ≤ 1000000 := by
  have h1 := (graphB_true hg).1
  unfold dueB rowB at h
  simp only [Bool.and_eq_true, List.all_eq_true, beq_iff_eq, decide_eq_true_eq, inB_true] at h
  refine ⟨by omega, fun r hr => ?_⟩
  have := h.1 r hr
  exact ⟨by omega, this.2⟩

/-! ### The table of the latest times -/
def lstep (g : GEventGraph) (n k e : Nat) (ms : List (List Int)) (i : Nat) : List (List Int) :=
  bif (plD g i).From == (e : Int) && decide ((k : Int) + (plD g i).Tokens < (n : Int)) then ms.set k ((ms.getD k []).set e (min ((ms.getD k []).getD e 0) (IntKind.i64.wrap ((ms.getD (k + (plD g i).Tokens.toNat) []).getD (plD g i).To.toNat 0 - (plD g i).Delay)))) else ms

def levent (g : GEventGraph) (n k : Nat) (ms : List (List Int)) (e : Nat) : List (List Int) := (List.range g.Places.length).foldl (lstep g n k e) ms

def lround (g : GEventGraph) (n : Nat) (o : List Nat) (ms : List (List Int)) (k : Nat) : List (List Int) := o.reverse.foldl (levent g n k) ms

def ltab (g : GEventGraph) (n : Nat) (o : List Nat) (ms : List (List Int)) : List (List Int) := (List.range n).reverse.foldl (lround g n o) ms

structure LOk (g : GEventGraph) (n : Nat) (ms : List (List Int)) : Prop where
  len : ms.length = n
  rws : ∀ r, r ∈ ms → r.length = g.Events.toNat

theorem LOk.at' {g : GEventGraph} {n : Nat} {ms : List (List Int)} (h : LOk g n ms) {m : Nat} (hm : m < n) : ms[m]? = some (ms.getD m []) ∧ (ms.getD m []).length = g.Events.toNat := by
  have hl : m < ms.length := by rw [h.len]; exact hm
  have e : ms[m]? = some (ms.getD m []) := by rw [List.getD_eq_getElem?_getD, List.getElem?_eq_getElem hl]; rfl
  exact ⟨e, h.rws _ (List.mem_of_getElem? e)⟩

theorem LOk.step {g : GEventGraph} {n k e : Nat} {ms : List (List Int)} (h : LOk g n ms) (hk : k < n) (i : Nat) : LOk g n (lstep g n k e ms i) := by
  unfold lstep
  cases ((plD g i).From == (e : Int) && decide ((k : Int) + (plD g i).Tokens < (n : Int))) with
  | false => exact h
  | true =>
    refine ⟨by rw [cond_true, List.length_set]; exact h.len, fun r hr => ?_⟩
    rw [cond_true] at hr
    rcases List.mem_or_eq_of_mem_set hr with h1 | h1
    · exact h.rws r h1
    · rw [h1, List.length_set]; exact (h.at' hk).2

theorem LOk.fold {α : Type} {g : GEventGraph} {n : Nat} {f : List (List Int) → α → List (List Int)} (hf : ∀ ms a, LOk g n ms → LOk g n (f ms a)) : ∀ (l : List α) {ms : List (List Int)}, LOk g n ms → LOk g n (l.foldl f ms)
  | [], _, h => h
  | a :: l, _, h => by rw [List.foldl_cons]; exact LOk.fold hf l (hf _ a h)

theorem LOk.event {g : GEventGraph} {n k : Nat} {ms : List (List Int)} (h : LOk g n ms) (hk : k < n) (e : Nat) : LOk g n (levent g n k ms e) := LOk.fold (fun _ i h => h.step hk i) _ h

theorem LOk.round {g : GEventGraph} {n k : Nat} {o : List Nat} {ms : List (List Int)} (h : LOk g n ms) (hk : k < n) : LOk g n (lround g n o ms k) := LOk.fold (fun _ e h => h.event hk e) _ h

theorem LOk.down {g : GEventGraph} {n : Nat} {o : List Nat} : ∀ (m : Nat) {ms : List (List Int)}, m ≤ n → LOk g n ms → LOk g n ((List.range m).reverse.foldl (lround g n o) ms)
  | 0, _, _, h => h
  | m + 1, _, hm, h => by
    rw [List.range_succ, List.reverse_append]
    exact LOk.down m (by omega) (h.round (by omega))

theorem LOk.tab {g : GEventGraph} {n : Nat} {o : List Nat} {ms : List (List Int)} (h : LOk g n ms) : LOk g n (ltab g n o ms) := h.down n (Nat.le_refl _)

theorem revE_snd (xs : List Int) : (revE xs).map (·.2) = xs.reverse := by
  unfold revE
  rw [List.map_map, List.map_reverse]
  congr 1
  apply List.ext_getElem? ; intro i
  rw [List.getElem?_map]
  by_cases h : i < xs.length
  · rw [List.getElem?_range h, List.getElem?_eq_getElem h]
    show some (xs.getD i 0) = some xs[i]
    rw [List.getD_eq_getElem?_getD, List.getElem?_eq_getElem h]; rfl
  · rw [List.getElem?_eq_none (by simpa using h), List.getElem?_eq_none (by omega)]; rfl

theorem implLInner {F n k e : Nat} {g : GEventGraph} {due ms : List (List Int)} {x : Int × Int} (hF : 134217728 ≤ F) (hg : graphB g = true) (h : LOk g n ms) (hd : due.length = n) (hn : n ≤ 50) (hk : k < n) (he : e < g.Events.toNat) (hx : x.2 = (e : Int)) :
    impl_latestTimes_L17 F g due (k : Int) x F ms 0 = some (levent g n k ms e) := by
  have hlen := (GOk.of hg).len
  refine for0 (L := impl_latestTimes_L17 F g due (k : Int) x) (len := g.Places.length) (fun j s => s = (List.range j).foldl (lstep g n k e) ms) (R := fun o => o = some (levent g n k ms e)) ?_ ?_ rfl (by omega)
  · rintro m j s hj rfl
    have hO : LOk g n ((List.range j).foldl (lstep g n k e) ms) := LOk.fold (fun _ i h => h.step hk i) _ h
    have hstep : (List.range (j + 1)).foldl (lstep g n k e) ms = lstep g n k e ((List.range j).foldl (lstep g n k e) ms) j := by rw [List.range_succ, List.foldl_append]; rfl
    refine .inl ⟨_, ?_, hstep.symm⟩
    generalize (List.range j).foldl (lstep g n k e) ms = ys at hO
    obtain ⟨⟨u, hu, hun⟩, ⟨v, hv, hvn⟩, ⟨w, hw, hw5⟩⟩ := PlOk.of hg hj
    have hwr : IntKind.i64.wrap ((k : Int) + (plD g j).Tokens) = ((k + w : Nat) : Int) := by rw [hw, wr (by omega) (by omega)]; omega
    obtain ⟨ha, hb⟩ := hO.at' hk
    have hrow := getN (xs := ys.getD k []) hx he hb
    simp only [impl_latestTimes_L17, bdT (show (j : Int) < (g.Places.length : Int) by omega), idx_nat, plD_of hj, Option.bind_some, hwr, hx, hd, wrN (show j ≤ 67108864 by omega)]
    unfold lstep
    rw [hw]
    by_cases hfr : (plD g j).From = (e : Int)
    · rw [hfr, beq_self_eq_true]
      by_cases htk : k + w < n
      · obtain ⟨ha2, hb2⟩ := hO.at' htk
        have hto := getN (xs := ys.getD (k + w) []) hv hvn hb2
        have hel : e < (ys.getD k []).length := by rw [hb]; exact he
        have hkl : k < ys.length := by rw [hO.len]; exact hk
        rw [dT (show ((k + w : Nat) : Int) < (n : Int) by omega), dT (show (k : Int) + (w : Int) < (n : Int) by omega)]
        rw [hx] at hrow
        rw [idx_nat] at hrow
        simp only [cond_true, Option.bind_some, ha, hrow, ha2, hto, upd_nat _ hel, upd_nat _ hkl, Bool.and_self, Int.toNat_natCast]
      · rw [dF (show ¬ ((k + w : Nat) : Int) < (n : Int) by omega), dF (show ¬ (k : Int) + (w : Int) < (n : Int) by omega), Bool.and_false]
        rfl
    · rw [beq_false_of_ne hfr, Bool.false_and]
      rfl
  · rintro m s rfl
    simp only [impl_latestTimes_L17, bdF (show ¬ (g.Places.length : Int) < (g.Places.length : Int) by omega)]; rfl

theorem implLEvents {F n k : Nat} {g : GEventGraph} {due : List (List Int)} (hF : 134217728 ≤ F) (hg : graphB g = true) (hd : due.length = n) (hn : n ≤ 50) (hk : k < n) : ∀ (ys : List (Int × Int)) (es : List Nat) {ms : List (List Int)}, ys.map (·.2) = nl es → (∀ e, e ∈ es → e < g.Events.toNat) → LOk g n ms →
    impl_latestTimes_R16 F g due (k : Int) ys ms = some (es.foldl (levent g n k) ms)
  | [], es, ms, h, _, _ => by
    cases es with
    | nil => rfl
    | cons e es => cases h
  | x :: ys, es, ms, h, he, hO => by
    cases es with
    | nil => cases h
    | cons e es =>
      have h1 : x.2 = (e : Int) := (List.cons.inj h).1
      have h2 : ys.map (·.2) = nl es := (List.cons.inj h).2
      unfold impl_latestTimes_R16
      rw [implLInner hF hg hO hd hn hk (he e (by simp)) h1, Option.bind_some, implLEvents hF hg hd hn hk ys es h2 (fun e' h' => he e' (by simp [h'])) (hO.event hk e)]
      rfl

theorem implLRounds {F n : Nat} {g : GEventGraph} {due : List (List Int)} {o : List Nat} {b : Bool} (hF : 134217728 ≤ F) (hg : graphB g = true) (hd : due.length = n) (hn : n ≤ 50) (ho : ∀ e, e ∈ o → e < g.Events.toNat) : ∀ (m fuel : Nat) {ms : List (List Int)}, m ≤ n → m < fuel → LOk g n ms →
    impl_latestTimes_L13 F g due (nl o, b) fuel ms ((m : Int) - 1) = some ((List.range m).reverse.foldl (lround g n o) ms) := by
  intro m
  induction m with
  | zero =>
    intro fuel ms _ hf _
    obtain ⟨fuel, rfl⟩ : ∃ q, fuel = q + 1 := ⟨fuel - 1, by omega⟩
    simp only [impl_latestTimes_L13, bdF (show ¬ 0 ≤ ((0 : Nat) : Int) - 1 by omega)]; rfl
  | succ m ih =>
    intro fuel ms hm hf hO
    obtain ⟨fuel, rfl⟩ : ∃ q, fuel = q + 1 := ⟨fuel - 1, by omega⟩
    have e1 : ((m + 1 : Nat) : Int) - 1 = (m : Int) := by omega
    have hR : impl_latestTimes_R16 F g due (m : Int) (revE (nl o)) ms = some (lround g n o ms m) := implLEvents (k := m) hF hg hd hn (by omega) (revE (nl o)) o.reverse (ms := ms) (by rw [revE_snd]; unfold nl; rw [List.map_reverse]) (fun e he => ho e (by simpa using he)) hO
    rw [e1]
    simp only [impl_latestTimes_L13, bdT (show 0 ≤ (m : Int) by omega), hR, Option.bind_some]
    rw [wr (show -9223372036854775808 ≤ (m : Int) - 1 by omega) (by omega), ih fuel (by omega) (by omega) (hO.round (o := o) (show m < n by omega)), List.range_succ, List.reverse_append]
    rfl

theorem implLatest_is {F : Nat} {g : GEventGraph} {due : List (List Int)} {o : List Nat} (hF : 134217728 ≤ F) (hg : graphB g = true) (hO : LOk g due.length due) (hn : due.length ≤ 50) (ho : fire (eP g.Places) g.Events.toNat g.Events.toNat [] = some o) (hol : ∀ e, e ∈ o → e < g.Events.toNat) :
    impl_latestTimes F g due = some (ltab g due.length o due) := by
  obtain ⟨e1, e2, _⟩ := graphB_true hg
  unfold impl_latestTimes
  rw [implOrder_is hF (GOk.of hg), ho, Option.bind_some, implCloneM_is hF (by omega) (fun r hr => by rw [hO.rws r hr]; omega), Option.bind_some, wr (show -9223372036854775808 ≤ (due.length : Int) - 1 by omega) (by omega), implLRounds hF hg rfl hn hol due.length F (Nat.le_refl _) (by omega) hO]
  rfl

theorem specLInner {F n k e j : Nat} {g : GEventGraph} {due ms : List (List Int)} {o : List Nat} (hF : 134217728 ≤ F) (hg : graphB g = true) (h : LOk g n ms) (hd : due.length = n) (hn : n ≤ 50) (hk : k < n) (he : e < g.Events.toNat) (hx : o[j]? = some e) :
    spec_l22Latest_L21 F g due (nl o) ((k + 1 : Nat) : Int) (j : Int) F ms 0 = some (levent g n k ms e) := by
  have hlen := (GOk.of hg).len
  refine for0 (L := spec_l22Latest_L21 F g due (nl o) ((k + 1 : Nat) : Int) (j : Int)) (len := g.Places.length) (fun j s => s = (List.range j).foldl (lstep g n k e) ms) (R := fun o => o = some (levent g n k ms e)) ?_ ?_ rfl (by omega)
  · rintro m i s hi rfl
    have hO : LOk g n ((List.range i).foldl (lstep g n k e) ms) := LOk.fold (fun _ i h => h.step hk i) _ h
    have hstep : (List.range (i + 1)).foldl (lstep g n k e) ms = lstep g n k e ((List.range i).foldl (lstep g n k e) ms) i := by rw [List.range_succ, List.foldl_append]; rfl
    refine .inl ⟨_, ?_, hstep.symm⟩
    generalize (List.range i).foldl (lstep g n k e) ms = ys at hO
    obtain ⟨⟨u, hu, hun⟩, ⟨v, hv, hvn⟩, ⟨w, hw, hw5⟩⟩ := PlOk.of hg hi
    have hwr : IntKind.i64.wrap (((k + 1 : Nat) : Int) + (plD g i).Tokens) = ((k + 1 + w : Nat) : Int) := by rw [hw, wr (by omega) (by omega)]; omega
    have hwk : IntKind.i64.wrap (((k + 1 : Nat) : Int) - 1) = (k : Int) := by rw [wr (by omega) (by omega)]; omega
    have hwk2 : IntKind.i64.wrap (((k + 1 + w : Nat) : Int) - 1) = ((k + w : Nat) : Int) := by rw [wr (by omega) (by omega)]; omega
    obtain ⟨ha, hb⟩ := hO.at' hk
    simp only [spec_l22Latest_L21, bdT (show (i : Int) < (g.Places.length : Int) by omega), idx_nat, plD_of hi, Option.bind_some, nl_at, hx, Option.map_some, hwr, hd, wrN (show i ≤ 67108864 by omega)]
    unfold lstep
    rw [hw]
    by_cases hfr : (plD g i).From = (e : Int)
    · have hrow := getN (xs := ys.getD k []) hfr he hb
      rw [show (plD g i).From.toNat = e by rw [hfr]; rfl] at hrow
      have hupd : ∀ y, upd (ys.getD k []) (plD g i).From y = some ((ys.getD k []).set e y) := fun y => by rw [hfr, upd_nat _ (by omega)]
      rw [show ((plD g i).From == (e : Int)) = true by rw [hfr, beq_self_eq_true]]
      by_cases htk : k + w < n
      · obtain ⟨ha2, hb2⟩ := hO.at' htk
        have hto := getN (xs := ys.getD (k + w) []) hv hvn hb2
        have hkl : k < ys.length := by rw [hO.len]; exact hk
        rw [dT (show ((k + 1 + w : Nat) : Int) ≤ (n : Int) by omega), dT (show (k : Int) + (w : Int) < (n : Int) by omega)]
        simp only [cond_true, Option.bind_some, hwk, hwk2, idx_nat, ha, hrow, ha2, hto, hupd, upd_nat _ hkl, Bool.and_self, Int.toNat_natCast]
      · rw [dF (show ¬ ((k + 1 + w : Nat) : Int) ≤ (n : Int) by omega), dF (show ¬ (k : Int) + (w : Int) < (n : Int) by omega), Bool.and_false]
        rfl
    · rw [beq_false_of_ne hfr, Bool.false_and]
      rfl
  · rintro m s rfl
    simp only [spec_l22Latest_L21, bdF (show ¬ (g.Places.length : Int) < (g.Places.length : Int) by omega)]; rfl

theorem specLEvents {F n k : Nat} {g : GEventGraph} {due : List (List Int)} {o : List Nat} (hF : 134217728 ≤ F) (hg : graphB g = true) (hd : due.length = n) (hn : n ≤ 50) (hk : k < n) (ho : ∀ e, e ∈ o → e < g.Events.toNat) (hol : o.length ≤ 1000) : ∀ (m fuel : Nat) {ms : List (List Int)}, m ≤ o.length → m < fuel → LOk g n ms →
    spec_l22Latest_L20 F g due (nl o) ((k + 1 : Nat) : Int) fuel ms ((m : Int) - 1) = some ((o.take m).reverse.foldl (levent g n k) ms) := by
  intro m
  induction m with
  | zero =>
    intro fuel ms _ hf _
    obtain ⟨fuel, rfl⟩ : ∃ q, fuel = q + 1 := ⟨fuel - 1, by omega⟩
    simp only [spec_l22Latest_L20, bdF (show ¬ 0 ≤ ((0 : Nat) : Int) - 1 by omega)]; rfl
  | succ m ih =>
    intro fuel ms hm hf hO
    obtain ⟨fuel, rfl⟩ : ∃ q, fuel = q + 1 := ⟨fuel - 1, by omega⟩
    have e1 : ((m + 1 : Nat) : Int) - 1 = (m : Int) := by omega
    have hx : o[m]? = some o[m] := List.getElem?_eq_getElem (by omega)
    have he := ho _ (List.getElem_mem (show m < o.length by omega))
    rw [e1]
    simp only [spec_l22Latest_L20, bdT (show 0 ≤ (m : Int) by omega), specLInner hF hg hO hd hn hk he hx, Option.bind_some]
    rw [wr (show -9223372036854775808 ≤ (m : Int) - 1 by omega) (by omega), ih fuel (by omega) (by omega) (hO.event hk _), List.take_add_one, hx, Option.toList_some, List.reverse_append]
    rfl

theorem specLRounds {F n : Nat} {g : GEventGraph} {due : List (List Int)} {o : List Nat} (hF : 134217728 ≤ F) (hg : graphB g = true) (hd : due.length = n) (hn : n ≤ 50) (ho : ∀ e, e ∈ o → e < g.Events.toNat) (hol : o.length ≤ 1000) : ∀ (m fuel : Nat) {ms : List (List Int)}, m ≤ n → m < fuel → LOk g n ms →
    spec_l22Latest_L16 F g due (nl o) fuel ms (m : Int) = some ((List.range m).reverse.foldl (lround g n o) ms) := by
  intro m
  induction m with
  | zero =>
    intro fuel ms _ hf _
    obtain ⟨fuel, rfl⟩ : ∃ q, fuel = q + 1 := ⟨fuel - 1, by omega⟩
    simp only [spec_l22Latest_L16, bdF (show ¬ 1 ≤ ((0 : Nat) : Int) by omega)]; rfl
  | succ m ih =>
    intro fuel ms hm hf hO
    obtain ⟨fuel, rfl⟩ : ∃ q, fuel = q + 1 := ⟨fuel - 1, by omega⟩
    have hR := specLEvents (k := m) hF hg hd hn (by omega) ho hol o.length F (ms := ms) (Nat.le_refl _) (by omega) hO
    rw [List.take_length] at hR
    have hR : spec_l22Latest_L20 F g due (nl o) ((m + 1 : Nat) : Int) F ms ((o.length : Int) - 1) = some (lround g n o ms m) := hR
    simp only [spec_l22Latest_L16, bdT (show 1 ≤ ((m + 1 : Nat) : Int) by omega), nl_len]
    rw [wr (show -9223372036854775808 ≤ (o.length : Int) - 1 by omega) (by omega), hR, Option.bind_some, wr (show -9223372036854775808 ≤ ((m + 1 : Nat) : Int) - 1 by omega) (by omega), show ((m + 1 : Nat) : Int) - 1 = (m : Int) by omega, ih fuel (by omega) (by omega) (hO.round (o := o) (show m < n by omega)), List.range_succ, List.reverse_append]
    rfl

theorem specLatest_is {F : Nat} {g : GEventGraph} {due : List (List Int)} {o : List Nat} (hF : 134217728 ≤ F) (hg : graphB g = true) (hO : LOk g due.length due) (hn : due.length ≤ 50) (ho : fire (eP g.Places) g.Events.toNat g.Events.toNat [] = some o) (hol : ∀ e, e ∈ o → e < g.Events.toNat) (hl : o.length ≤ 1000) :
    spec_l22Latest F g due = some (ltab g due.length o due) := by
  obtain ⟨e1, e2, _⟩ := graphB_true hg
  unfold spec_l22Latest
  rw [specOrder_is hF (GOk.of hg) ho, Option.bind_some, specOwnM_is hF (by omega) (fun r hr => by rw [hO.rws r hr]; omega), Option.bind_some, specLRounds hF hg rfl hn hol hl due.length F (Nat.le_refl _) (by omega) hO]
  rfl

/-! ### Floats -/
def fstep (T : List (List Int)) (k : Nat) (ms : List (List Int)) (j : Nat) : List (List Int) := ms.set k ((ms.getD k []).set j (IntKind.i64.wrap ((ms.getD k []).getD j 0 - (T.getD k []).getD j 0)))

def frow (T : List (List Int)) (e : Nat) (ms : List (List Int)) (k : Nat) : List (List Int) := (List.range e).foldl (fstep T k) ms

def ftab (T : List (List Int)) (e n : Nat) (ms : List (List Int)) : List (List Int) := (List.range n).foldl (frow T e) ms

theorem LOk.fstep {g : GEventGraph} {n k : Nat} {T ms : List (List Int)} (h : LOk g n ms) (hk : k < n) (j : Nat) : LOk g n (fstep T k ms j) := by
  refine ⟨by unfold Go.Proofs.Ytebmlphobgaboab.fstep; rw [List.length_set]; exact h.len, fun r hr => ?_⟩
  unfold Go.Proofs.Ytebmlphobgaboab.fstep at hr
  rcases List.mem_or_eq_of_mem_set hr with h1 | h1
  · exact h.rws r h1
  · rw [h1, List.length_set]; exact (h.at' hk).2

theorem LOk.frow {g : GEventGraph} {n k e : Nat} {T ms : List (List Int)} (h : LOk g n ms) (hk : k < n) : LOk g n (frow T e ms k) := LOk.fold (fun _ j h => h.fstep hk j) _ h

theorem LOk.foldk {g : GEventGraph} {n e : Nat} {T : List (List Int)} : ∀ (m : Nat) {ms : List (List Int)}, m ≤ n → LOk g n ms → LOk g n ((List.range m).foldl (Go.Proofs.Ytebmlphobgaboab.frow T e) ms)
  | 0, _, _, h => h
  | m + 1, _, hm, h => by
    rw [List.range_succ, List.foldl_append]
    exact (LOk.foldk m (by omega) h).frow (by omega)

theorem LOk.ftab {g : GEventGraph} {n e : Nat} {T ms : List (List Int)} (h : LOk g n ms) : LOk g n (ftab T e n ms) := h.foldk n (Nat.le_refl _)

theorem implFRow {F n k : Nat} {g : GEventGraph} {T ms : List (List Int)} (hF : 134217728 ≤ F) (hg : graphB g = true) (h : LOk g n ms) (hT : LOk g n T) (hk : k < n) :
    impl_floatsOf_L5 F (k : Int) (T.getD k []) F ms 0 = some (frow T g.Events.toNat ms k) := by
  have h10 := (GOk.of hg).n10
  obtain ⟨_, ht⟩ := hT.at' hk
  refine for0 (L := impl_floatsOf_L5 F (k : Int) (T.getD k [])) (len := g.Events.toNat) (fun j s => s = (List.range j).foldl (fstep T k) ms) (R := fun o => o = some (frow T g.Events.toNat ms k)) ?_ ?_ rfl (by omega)
  · rintro m j s hj rfl
    have hO : LOk g n ((List.range j).foldl (fstep T k) ms) := LOk.fold (fun _ i h => h.fstep hk i) _ h
    refine .inl ⟨fstep T k ((List.range j).foldl (fstep T k) ms) j, ?_, by simp only [List.range_succ, List.foldl_append, List.foldl_cons, List.foldl_nil]⟩
    generalize (List.range j).foldl (fstep T k) ms = ys at hO
    obtain ⟨ha, hb⟩ := hO.at' hk
    simp only [impl_floatsOf_L5, bdT (show (j : Int) < ((T.getD k []).length : Int) by omega), idx_nat, getD_of (show j < (T.getD k []).length by omega), ha, Option.bind_some, getD_of (show j < (ys.getD k []).length by omega), upd_nat _ (show j < (ys.getD k []).length by omega), upd_nat _ (show k < ys.length by rw [hO.len]; exact hk), wrN (show j ≤ 67108864 by omega)]
    rfl
  · rintro m s rfl
    simp only [impl_floatsOf_L5, bdF (show ¬ (g.Events.toNat : Int) < ((T.getD k []).length : Int) by omega)]; rfl

theorem implFTab {F n : Nat} {g : GEventGraph} {T ms : List (List Int)} (hF : 134217728 ≤ F) (hg : graphB g = true) (hn : n ≤ 50) (h : LOk g n ms) (hT : LOk g n T) : impl_floatsOf_L4 F T F ms 0 = some (ftab T g.Events.toNat n ms) := by
  refine for0 (L := impl_floatsOf_L4 F T) (len := n) (fun k s => s = (List.range k).foldl (frow T g.Events.toNat) ms) (R := fun o => o = some (ftab T g.Events.toNat n ms)) ?_ ?_ rfl (by omega)
  · rintro m k s hk rfl
    have hO : LOk g n ((List.range k).foldl (frow T g.Events.toNat) ms) := h.foldk k (by omega)
    refine .inl ⟨frow T g.Events.toNat ((List.range k).foldl (frow T g.Events.toNat) ms) k, ?_, by simp only [List.range_succ, List.foldl_append, List.foldl_cons, List.foldl_nil]⟩
    simp only [impl_floatsOf_L4, hT.len, bdT (show (k : Int) < (n : Int) by omega), idx_nat, (hT.at' hk).1, Option.bind_some, implFRow hF hg hO hT hk, wrN (show k ≤ 67108864 by omega)]
  · rintro m s rfl
    simp only [impl_floatsOf_L4, hT.len, bdF (show ¬ (n : Int) < (n : Int) by omega)]; rfl

theorem specFRow {F n k : Nat} {g : GEventGraph} {T ms : List (List Int)} (hF : 134217728 ≤ F) (hg : graphB g = true) (h : LOk g n ms) (hT : LOk g n T) (hk : k < n) :
    spec_l22Floats_L5 F T (k : Int) F ms 0 = some (frow T g.Events.toNat ms k) := by
  have h10 := (GOk.of hg).n10
  obtain ⟨ht0, ht⟩ := hT.at' hk
  refine for0 (L := spec_l22Floats_L5 F T (k : Int)) (len := g.Events.toNat) (fun j s => s = (List.range j).foldl (fstep T k) ms) (R := fun o => o = some (frow T g.Events.toNat ms k)) ?_ ?_ rfl (by omega)
  · rintro m j s hj rfl
    have hO : LOk g n ((List.range j).foldl (fstep T k) ms) := LOk.fold (fun _ i h => h.fstep hk i) _ h
    refine .inl ⟨fstep T k ((List.range j).foldl (fstep T k) ms) j, ?_, by simp only [List.range_succ, List.foldl_append, List.foldl_cons, List.foldl_nil]⟩
    generalize (List.range j).foldl (fstep T k) ms = ys at hO
    obtain ⟨ha, hb⟩ := hO.at' hk
    simp only [spec_l22Floats_L5, idx_nat, ha, Option.bind_some, bdT (show (j : Int) < ((ys.getD k []).length : Int) by omega), ht0, getD_of (show j < (T.getD k []).length by omega), getD_of (show j < (ys.getD k []).length by omega), upd_nat _ (show j < (ys.getD k []).length by omega), upd_nat _ (show k < ys.length by rw [hO.len]; exact hk), wrN (show j ≤ 67108864 by omega)]
    rfl
  · rintro m s rfl
    have hO : LOk g n ((List.range g.Events.toNat).foldl (fstep T k) ms) := LOk.fold (fun _ i h => h.fstep hk i) _ h
    obtain ⟨ha, hb⟩ := hO.at' hk
    simp only [spec_l22Floats_L5, idx_nat, ha, Option.bind_some, bdF (show ¬ (g.Events.toNat : Int) < ((((List.range g.Events.toNat).foldl (fstep T k) ms).getD k []).length : Int) by omega)]; rfl

theorem specFTab {F n : Nat} {g : GEventGraph} {T ms : List (List Int)} (hF : 134217728 ≤ F) (hg : graphB g = true) (hn : n ≤ 50) (h : LOk g n ms) (hT : LOk g n T) : spec_l22Floats_L4 F T F ms 0 = some (ftab T g.Events.toNat n ms) := by
  refine for0 (L := spec_l22Floats_L4 F T) (len := n) (fun k s => s = (List.range k).foldl (frow T g.Events.toNat) ms) (R := fun o => o = some (ftab T g.Events.toNat n ms)) ?_ ?_ rfl (by omega)
  · rintro m k s hk rfl
    have hO : LOk g n ((List.range k).foldl (frow T g.Events.toNat) ms) := h.foldk k (by omega)
    refine .inl ⟨frow T g.Events.toNat ((List.range k).foldl (frow T g.Events.toNat) ms) k, ?_, by simp only [List.range_succ, List.foldl_append, List.foldl_cons, List.foldl_nil]⟩
    simp only [spec_l22Floats_L4, hO.len, bdT (show (k : Int) < (n : Int) by omega), Option.bind_some, specFRow hF hg hO hT hk, wrN (show k ≤ 67108864 by omega)]
  · rintro m s rfl
    have hO : LOk g n ((List.range n).foldl (frow T g.Events.toNat) ms) := h.foldk n (Nat.le_refl _)
    simp only [spec_l22Floats_L4, hO.len, bdF (show ¬ (n : Int) < (n : Int) by omega)]; rfl

theorem implFloats_is {F : Nat} {g : GEventGraph} {due : List (List Int)} {o : List Nat} (hF : 134217728 ≤ F) (hg : graphB g = true) (hO : LOk g due.length due) (hn : due.length ≤ 50) (ho : fire (eP g.Places) g.Events.toNat g.Events.toNat [] = some o) (hol : ∀ e, e ∈ o → e < g.Events.toNat) :
    impl_floatsOf F g due = some (ftab (ttab g o (zeros g) due.length) g.Events.toNat due.length (ltab g due.length o due)) := by
  have hG := GOk.of hg
  have h10 := hG.n10
  have hmk : mk g.Events (0 : Int) = some (zeros g) := by rw [hG.ev, mk_nat _ (by omega)]; rfl
  have hz : (zeros g).length = g.Events.toNat := by unfold zeros; simp
  unfold impl_floatsOf
  simp only [implLatest_is hF hg hO hn ho hol, hmk, Option.bind_some, implTimes13_is hF hg ho hz hn, implFTab hF hg hn hO.tab ⟨ttab_len g o (zeros g) due.length, ttab_rows (g := g) (o := o) hz due.length⟩]

theorem specFloats_is {F : Nat} {g : GEventGraph} {due : List (List Int)} {o : List Nat} (hF : 134217728 ≤ F) (hg : graphB g = true) (hO : LOk g due.length due) (hn : due.length ≤ 50) (ho : fire (eP g.Places) g.Events.toNat g.Events.toNat [] = some o) (hol : ∀ e, e ∈ o → e < g.Events.toNat) (hl : o.length ≤ 1000) :
    spec_l22Floats F g due = some (ftab (ttab g o (zeros g) due.length) g.Events.toNat due.length (ltab g due.length o due)) := by
  have hG := GOk.of hg
  have h10 := hG.n10
  have hmk : mk g.Events (0 : Int) = some (zeros g) := by rw [hG.ev, mk_nat _ (by omega)]; rfl
  have hz : (zeros g).length = g.Events.toNat := by unfold zeros; simp
  unfold spec_l22Floats
  simp only [specLatest_is hF hg hO hn ho hol hl, hmk, Option.bind_some, specTimes13_is hF hg ho hz hn, specFTab hF hg hn hO.tab ⟨ttab_len g o (zeros g) due.length, ttab_rows (g := g) (o := o) hz due.length⟩]

/-! ### Firings picked out of a table -/
theorem off_rows {rows : List (List Int)} {n : Nat} (h : ∀ r, r ∈ rows → r.length = n) : ∀ k, k ≤ rows.length → offR rows k = k * n := by
  intro k
  induction k with
  | zero => intro _; rw [offR_zero]; omega
  | succ k ih =>
    intro hk
    have hr : rows[k]? = some rows[k] := List.getElem?_eq_getElem (by omega)
    rw [offR_succ hr, ih (by omega), h _ (List.mem_of_getElem? hr), Nat.succ_mul]

/-! ### Delays lie in their range -/
theorem set_getD {xs : List Int} {e i : Nat} {y : Int} : (xs.set e y).getD i 0 = if i = e ∧ i < xs.length then y else xs.getD i 0 := by
  rw [List.getD_eq_getElem?_getD, List.getD_eq_getElem?_getD]
  by_cases h : i = e
  · subst h
    by_cases hl : i < xs.length
    · rw [set_here hl, if_pos ⟨rfl, hl⟩]; rfl
    · rw [if_neg (fun hc => hl hc.2), List.getElem?_eq_none (by simp; omega), List.getElem?_eq_none (by omega)]
  · rw [set_keep h, if_neg (fun hc => h hc.1)]

theorem liveB_some {g : GEventGraph} (h : liveB g g.Events.toNat = true) : ∃ o, fire (eP g.Places) g.Events.toNat g.Events.toNat [] = some o := by
  unfold liveB at h
  exact Option.isSome_iff_exists.1 h

/-! ### When delays are settled -/
/-! ### How far a delay spreads -/
/-! ### The greatest delays -/
/-! ### Tables by blocks -/
def ent (A : List (List Int)) (i j : Nat) : Int := (A.getD i []).getD j 0

def blk (A B C : List (List Int)) (i j : Nat) : Int :=
  if i < A.length then (if j < A.length then ent A i j else -1000000000000000) else if j < A.length then ent C (i - A.length) j else ent B (i - A.length) (j - A.length)


/-! ### The best word -/
/-! ### Draws -/
structure COk (code : List Int) : Prop where
  len : code.length ≤ 4096
  byte : ∀ x, x ∈ code → 0 ≤ x ∧ x ≤ 255

structure SOk (code : List Int) (p s : Int) : Prop where
  p0 : 0 ≤ p
  p1 : p ≤ (code.length : Int)
  s0 : 0 ≤ s
  s1 : s < 2147483647

theorem next_tot {F : Nat} {code : List Int} {p s n : Int} (hc : COk code) (hs : SOk code p s) : Tot (fun r : Int × Int × Int => SOk code r.2.1 r.2.2 ∧ 0 ≤ r.1 ∧ (r.1 < n ∨ r.1 = 0)) (spec_l01Next F code p s n) := by
  obtain ⟨p0, p1, s0, s1⟩ := hs
  have hcl := hc.len
  unfold spec_l01Next
  refine Tot.cond (fun _ => Tot.pure ⟨⟨p0, p1, s0, s1⟩, Int.le_refl _, .inr rfl⟩) (fun h1 => ?_)
  have hn : ¬ n ≤ 1 := of_decide_eq_false h1
  have w1 : IntKind.i64.wrap (s * 48271) = s * 48271 := wr (by omega) (by omega)
  have w2 : IntKind.i64.wrap (s * 48271 + 59) = s * 48271 + 59 := wr (by omega) (by omega)
  have w3 : (s * 48271 + 59).tmod 2147483647 = (s * 48271 + 59) % 2147483647 := Int.tmod_eq_emod_of_nonneg (by omega)
  rw [w1, w2, w3]
  obtain ⟨u, hu⟩ : ∃ u, u = (s * 48271 + 59) % 2147483647 := ⟨_, rfl⟩
  rw [← hu]
  have u0 : 0 ≤ u := by omega
  have u1 : u < 2147483647 := by omega
  have w4 : u.tdiv 31 = u / 31 := Int.tdiv_eq_ediv_of_nonneg u0
  rw [w4, wr (show -9223372036854775808 ≤ u / 31 by omega) (by omega)]
  refine Tot.bind (P := fun r : Int × Int => 0 ≤ r.1 ∧ r.1 ≤ (code.length : Int) ∧ 0 ≤ r.2) (Tot.cond (fun hp => ?_) (fun _ => Tot.pure ⟨p0, p1, by simp only; omega⟩)) ?_
  · have hp : p < (code.length : Int) := of_decide_eq_true hp
    have w5 : IntKind.i64.wrap (p + 1) = p + 1 := wr (by omega) (by omega)
    have w6 : IntKind.i64.wrap (p + 1 - 1) = p := by rw [wr (by omega) (by omega)]; omega
    refine Tot.bind (idx_tot p0 hp) fun q hq => ?_
    have hq2 := hc.byte q hq
    have w7 : IntKind.i64.wrap q = q := wr (by omega) (by omega)
    rw [w5, w6, w7, wr (show -9223372036854775808 ≤ u / 31 + q by omega) (by omega)]
    refine Tot.bind (P := fun _ => True) (Tot.cond (fun _ => Tot.pure trivial) fun _ => Tot.pure trivial) fun b _ => ?_
    refine Tot.cond (fun _ => Tot.bind (idx_tot p0 hp) fun q2 hq2 => ?_) (fun _ => Tot.pure ⟨by simp only; omega, by simp only; omega, by simp only; omega⟩)
    have hq3 := hc.byte q2 hq2
    exact Tot.pure ⟨by simp only; omega, by simp only; omega, by simp only; rw [wr (by omega) (by omega)]; omega⟩
  · rintro ⟨p', x⟩ ⟨h1, h2, h3⟩
    simp only at h1 h2 h3 ⊢
    rw [if_neg (show ¬ n = 0 by omega)]
    refine ⟨(x.tmod n, p', u), rfl, ⟨h1, h2, u0, u1⟩, Int.tmod_nonneg n h3, .inl (Int.tmod_lt_of_pos x (by omega))⟩

theorem pick_tot {F : Nat} {code list : List Int} {p s : Int} (hc : COk code) (hs : SOk code p s) (hl : 0 < list.length) : Tot (fun r : Int × Int × Int => SOk code r.2.1 r.2.2 ∧ r.1 ∈ list) (spec_l01Pick F code p s list) := by
  unfold spec_l01Pick
  refine Tot.bind (next_tot hc hs) fun r hr => Tot.bind (idx_tot hr.2.1 (by omega)) fun q hq => Tot.pure ⟨hr.1, hq⟩

theorem from_tot {F : Nat} {code : List Int} (hF : 134217728 ≤ F) (hc : COk code) : Tot (fun r : Int × Int => SOk code r.1 r.2) (spec_l01From F code) := by
  have hcl := hc.len
  unfold spec_l01From
  refine Tot.bind (P := fun s : Int => 0 ≤ s ∧ s < 2147483647) ?_ fun s hs => Tot.pure ⟨Int.le_refl _, by simp only; omega, hs.1, hs.2⟩
  refine for0 (L := spec_l01From_L1 F code) (len := min code.length 64) (fun _ s => 0 ≤ s ∧ s < 2147483647) (R := Tot fun s => 0 ≤ s ∧ s < 2147483647) ?_ ?_ (by omega) (by omega)
  · rintro n k s hk ⟨s0, s1⟩
    have hx : code[k]? = some (code[k]'(by omega)) := List.getElem?_eq_getElem _
    have hb := hc.byte _ (List.getElem_mem (show k < code.length by omega))
    generalize code[k]'(by omega) = q at hx hb
    have w1 : IntKind.i64.wrap (s * 67) = s * 67 := wr (by omega) (by omega)
    have w2 : IntKind.i64.wrap q = q := wr (by omega) (by omega)
    have w3 : IntKind.i64.wrap (s * 67 + q) = s * 67 + q := wr (by omega) (by omega)
    have w4 : (s * 67 + q).tmod 2147483647 = (s * 67 + q) % 2147483647 := Int.tmod_eq_emod_of_nonneg (by omega)
    refine .inl ⟨(s * 67 + q) % 2147483647, ?_, by omega⟩
    simp only [spec_l01From_L1, bdT (show (k : Int) < (code.length : Int) by omega), dT (show (k : Int) < 64 by omega), Option.bind_some, cond_true, idx_nat, hx, w1, w2, w3, w4, wrN (show k ≤ 67108864 by omega)]
  · rintro n s hs
    by_cases h : code.length < 64
    · have e : min code.length 64 = code.length := by omega
      simp only [spec_l01From_L1, e, bdF (show ¬ (code.length : Int) < (code.length : Int) by omega), Option.bind_some, cond_false]
      exact Tot.pure hs
    · have e : min code.length 64 = 64 := by omega
      rw [e]
      refine ⟨s, ?_, hs⟩
      by_cases h2 : 64 < code.length
      · simp only [spec_l01From_L1, bdT (show ((64 : Nat) : Int) < (code.length : Int) by omega), dF (show ¬ ((64 : Nat) : Int) < 64 by omega), Option.bind_some, cond_false]
      · simp only [spec_l01From_L1, bdF (show ¬ ((64 : Nat) : Int) < (code.length : Int) by omega), Option.bind_some, cond_false]

theorem l11L1_tot {F : Nat} {code : List Int} {r2 : Int × Int × Int} (hc : COk code) : ∀ (n f : Nat) (p s : Int) (xs : List GPlace), n < f → xs.length + n ≤ 1000 → SOk code p s → Tot (fun r : Int × Int × List GPlace => SOk code r.1 r.2.1 ∧ r.2.2.length ≤ xs.length + n) (spec_l11Draw_L1 F code r2 f p s xs (n : Int)) := by
  intro n
  induction n with
  | zero =>
    intro f p s xs hf hx hs
    obtain ⟨f, rfl⟩ : ∃ q, f = q + 1 := ⟨f - 1, by omega⟩
    simp only [spec_l11Draw_L1, bdF (show ¬ 0 < ((0 : Nat) : Int) by omega)]
    exact Tot.pure ⟨hs, Nat.le_refl _⟩
  | succ n ih =>
    intro f p s xs hf hx hs
    obtain ⟨f, rfl⟩ : ∃ q, f = q + 1 := ⟨f - 1, by omega⟩
    simp only [spec_l11Draw_L1, bdT (show 0 < ((n + 1 : Nat) : Int) by omega)]
    refine Tot.bind (P := fun r : Int × Int × Int × Int × Int => SOk code r.1 r.2.1) (Tot.bind (next_tot hc hs) fun r1 h1 => Tot.bind (next_tot hc h1.1) fun r2 h2 => Tot.bind (next_tot hc h2.1) fun r3 h3 => Tot.pure h3.1) ?_
    rintro ⟨p1, s1, v1, v2, v3⟩ h1
    refine Tot.bind (P := fun r : Int × Int × Bool => SOk code r.1 r.2.1) (Tot.cond (fun _ => Tot.pure h1) (fun _ => Tot.bind (next_tot hc h1) fun r h => Tot.pure h.1)) ?_
    rintro ⟨p2, s2, b⟩ h2
    refine Tot.bind (P := fun r : Int × Int × Int => SOk code r.1 r.2.1) (Tot.cond (fun _ => Tot.bind (next_tot hc h2) fun r h => Tot.bind (next_tot hc h.1) fun r h => Tot.pure h.1) (fun _ => Tot.pure h2)) ?_
    rintro ⟨p3, s3, tk⟩ h3
    refine Tot.bind (next_tot hc h3) fun r h4 => ?_
    refine Tot.bind (P := fun _ => True) (Tot.cond (fun _ => Tot.pure trivial) fun _ => Tot.pure trivial) fun tk2 _ => ?_
    refine Tot.bind (app_tot (by simp; omega)) fun ys hys => ?_
    rw [wr (show -9223372036854775808 ≤ ((n + 1 : Nat) : Int) - 1 by omega) (by omega), show ((n + 1 : Nat) : Int) - 1 = (n : Int) by omega]
    have hyl : ys.length = xs.length + 1 := by rw [hys]; simp
    exact (ih f _ _ ys (by omega) (by omega) h4.1).mono fun r hr => ⟨hr.1, by have := hr.2; omega⟩

theorem l11L2_tot {F : Nat} {code : List Int} (hc : COk code) : ∀ (d k f : Nat) (p s : Int) (xs : List GPlace), k + d = 31 → d < f → xs.length + d ≤ 1000 → SOk code p s → Tot (fun r : Int × Int × List GPlace => SOk code r.1 r.2.1 ∧ r.2.2.length ≤ xs.length + d) (spec_l11Draw_L2 F code f p s xs (k : Int)) := by
  intro d
  induction d with
  | zero =>
    intro k f p s xs hk hf hx hs
    obtain ⟨f, rfl⟩ : ∃ q, f = q + 1 := ⟨f - 1, by omega⟩
    simp only [spec_l11Draw_L2]
    refine Tot.bind (next_tot hc hs) fun r h => ?_
    rw [wr (show -9223372036854775808 ≤ 22 + r.1 by omega) (by omega), bdF (by omega)]
    exact Tot.pure ⟨h.1, Nat.le_refl _⟩
  | succ d ih =>
    intro k f p s xs hk hf hx hs
    obtain ⟨f, rfl⟩ : ∃ q, f = q + 1 := ⟨f - 1, by omega⟩
    simp only [spec_l11Draw_L2]
    refine Tot.bind (next_tot hc hs) fun r h => Tot.cond (fun _ => ?_) (fun _ => Tot.pure ⟨h.1, by simp only; omega⟩)
    refine Tot.bind (app_tot (by simp; omega)) fun ys hys => ?_
    rw [wrN (show k ≤ 67108864 by omega)]
    have hyl : ys.length = xs.length + 1 := by rw [hys]; simp
    exact (ih (k + 1) f _ _ ys (by omega) (by omega) (by omega) h.1).mono fun r hr => ⟨hr.1, by have := hr.2; omega⟩

theorem l11Draw_tot {F : Nat} {code : List Int} {p s : Int} (hF : 134217728 ≤ F) (hc : COk code) (hs : SOk code p s) : Tot (fun r : GEventGraph × Int × Int => SOk code r.2.1 r.2.2 ∧ r.1.Places.length ≤ 100 ∧ 0 ≤ r.1.Events ∧ r.1.Events ≤ 11) (spec_l11Draw F code p s) := by
  unfold spec_l11Draw
  refine Tot.bind (next_tot hc hs) fun r1 h1 => Tot.bind (next_tot hc h1.1) fun r2 h2 => ?_
  have hE : IntKind.i64.wrap (1 + r1.1) = 1 + r1.1 := wr (by omega) (by omega)
  rw [hE]
  obtain ⟨m, hm⟩ : ∃ m : Nat, r2.1 = (m : Int) := ⟨r2.1.toNat, by omega⟩
  rw [hm]
  refine Tot.bind (l11L1_tot hc m F _ _ [] (by omega) (by simp; omega) h2.1) ?_
  rintro ⟨p3, s3, xs⟩ ⟨h3, hx⟩
  simp only [List.length_nil] at h3 hx ⊢
  refine Tot.bind (next_tot hc h3) fun r4 h4 => ?_
  refine Tot.cond (fun _ => Tot.bind (pick_tot hc h4.1 (by decide)) fun r5 h5 => Tot.pure ⟨h5.1, by simp only; omega, ?_⟩) fun _ => ?_
  · have := h5.2
    simp only [List.mem_cons, List.not_mem_nil, or_false] at this
    simp only
    omega
  refine Tot.cond (fun _ => ?_) fun _ => ?_
  · refine Tot.bind (P := fun r : Int × Int × List GPlace => SOk code r.1 r.2.1 ∧ r.2.2.length ≤ 60) (Tot.bind (pick_tot hc h4.1 (by simp)) fun r5 h5 => Tot.bind (pick_tot hc h5.1 (by decide)) fun r6 h6 => Tot.bind (app_tot (by simp; omega)) fun ys hys => Tot.pure ⟨h6.1, by simp only [hys, List.length_append, List.length_singleton]; omega⟩) ?_
    rintro ⟨p7, s7, ys⟩ ⟨h7, hy⟩
    exact Tot.pure ⟨h7, by simp only at hy ⊢; omega, by simp only; omega, by simp only; omega⟩
  refine Tot.cond (fun _ => ?_) fun _ => ?_
  · refine Tot.bind (pick_tot hc h4.1 (by decide)) fun r5 h5 => Tot.bind (app_tot (by simp; omega)) fun ys hys => Tot.pure ⟨h5.1, by simp only [hys, List.length_append, List.length_singleton]; omega, by simp only; omega, by simp only; omega⟩
  refine Tot.cond (fun _ => ?_) fun _ => Tot.pure ⟨h4.1, by simp only; omega, by simp only; omega, by simp only; omega⟩
  refine Tot.bind (l11L2_tot hc 31 0 F _ _ xs (by omega) (by omega) (by omega) h4.1) ?_
  rintro ⟨p7, s7, ys⟩ ⟨h7, hy⟩
  exact Tot.pure ⟨h7, by simp only at hy ⊢; omega, by simp only; omega, by simp only; omega⟩

theorem l12L1_tot {F : Nat} {code : List Int} (hc : COk code) : ∀ (d k f : Nat) (p s : Int) (xs : List GPlace), k + d = 9 → d < f → SOk code p s → Tot (fun r : Int × Int × List GPlace => SOk code r.1 r.2.1 ∧ r.2.2.length = xs.length) (spec_l12Draw_L1 F code f p s xs (k : Int)) := by
  intro d
  induction d with
  | zero =>
    intro k f p s xs hk hf hs
    obtain ⟨f, rfl⟩ : ∃ q, f = q + 1 := ⟨f - 1, by omega⟩
    simp only [spec_l12Draw_L1, dF (show ¬ (k : Int) < 9 by omega)]
    refine Tot.bind (P := fun b : Bool => b = false) (Tot.cond (fun _ => Tot.pure rfl) fun _ => Tot.pure rfl) fun b hb => ?_
    subst hb
    exact Tot.pure ⟨hs, rfl⟩
  | succ d ih =>
    intro k f p s xs hk hf hs
    obtain ⟨f, rfl⟩ : ∃ q, f = q + 1 := ⟨f - 1, by omega⟩
    simp only [spec_l12Draw_L1]
    by_cases hx : (k : Int) < (xs.length : Int)
    · rw [bdT hx, dT (show (k : Int) < 9 by omega), Option.bind_some, cond_true, wrN (show k ≤ 67108864 by omega)]
      refine Tot.bind (next_tot hc hs) fun r h => Tot.cond (fun _ => ?_) fun _ => ih (k + 1) f _ _ xs (by omega) (by omega) h.1
      refine Tot.bind (idx_tot (by omega) hx) fun q _ => Tot.bind (upd_tot (by omega) hx) fun ys hy => ?_
      exact (ih (k + 1) f _ _ ys (by omega) (by omega) h.1).mono fun r hr => ⟨hr.1, by rw [hr.2, hy]⟩
    · rw [bdF hx, Option.bind_some, cond_false]
      exact Tot.pure ⟨hs, rfl⟩

theorem l12Draw_tot {F : Nat} {code : List Int} {p s : Int} (hF : 134217728 ≤ F) (hc : COk code) (hs : SOk code p s) : Tot (fun r : GEventGraph × Int × Int => SOk code r.2.1 r.2.2 ∧ r.1.Places.length ≤ 100 ∧ 0 ≤ r.1.Events ∧ r.1.Events ≤ 11) (spec_l12Draw F code p s) := by
  unfold spec_l12Draw
  refine Tot.bind (l11Draw_tot hF hc hs) fun r h => Tot.bind (l12L1_tot hc 9 0 F _ _ _ (by omega) (by omega) h.1) ?_
  rintro ⟨p1, s1, ys⟩ ⟨h1, hy⟩
  exact Tot.pure ⟨h1, by simp only at hy ⊢; omega, h.2.2⟩

/-! ### The equations of the latest times -/
def gE (ms : List (List Int)) (k e : Nat) : Int := (ms.getD k []).getD e 0

theorem getD_set {ms : List (List Int)} {k k' : Nat} {r : List Int} : (ms.set k r).getD k' [] = if k' = k ∧ k < ms.length then r else ms.getD k' [] := by
  rw [List.getD_eq_getElem?_getD, List.getD_eq_getElem?_getD]
  by_cases h : k' = k
  · subst h
    by_cases hl : k' < ms.length
    · rw [List.getElem?_set_self hl, if_pos ⟨rfl, hl⟩]; rfl
    · rw [if_neg (fun hh => hl hh.2), List.getElem?_eq_none (by simp; omega), List.getElem?_eq_none (by omega)]
  · rw [set_keep h, if_neg (fun hh => h hh.1)]

theorem gE_ne {ms : List (List Int)} {k e k' e' : Nat} {x : Int} (h : ¬ (k' = k ∧ e' = e)) : gE (ms.set k ((ms.getD k []).set e x)) k' e' = gE ms k' e' := by
  unfold gE
  rw [getD_set]
  split
  · rename_i h2
    rw [set_getD, if_neg (fun hh => h ⟨h2.1, hh.1⟩), h2.1]
  · rfl

theorem gE_eq {ms : List (List Int)} {k e : Nat} {x : Int} (hk : k < ms.length) (he : e < (ms.getD k []).length) : gE (ms.set k ((ms.getD k []).set e x)) k e = x := by
  unfold gE
  rw [getD_set, if_pos ⟨rfl, hk⟩, set_getD, if_pos ⟨rfl, he⟩]

theorem lstep_ne {g : GEventGraph} {n k e k' e' : Nat} {ms : List (List Int)} (i : Nat) (h : ¬ (k' = k ∧ e' = e)) : gE (lstep g n k e ms i) k' e' = gE ms k' e' := by
  unfold lstep
  cases ((plD g i).From == (e : Int) && decide ((k : Int) + (plD g i).Tokens < (n : Int))) with
  | false => rfl
  | true => simp only [cond_true]; exact gE_ne h

theorem lfold_ne {g : GEventGraph} {n k e k' e' : Nat} (h : ¬ (k' = k ∧ e' = e)) : ∀ (l : List Nat) (ms : List (List Int)), gE (l.foldl (lstep g n k e) ms) k' e' = gE ms k' e'
  | [], _ => rfl
  | i :: l, ms => by rw [List.foldl_cons, lfold_ne h l, lstep_ne i h]

theorem levent_ne {g : GEventGraph} {n k e k' e' : Nat} {ms : List (List Int)} (h : ¬ (k' = k ∧ e' = e)) : gE (levent g n k ms e) k' e' = gE ms k' e' := lfold_ne h _ _

theorem levs_ne {g : GEventGraph} {n k k' e' : Nat} : ∀ (es : List Nat) (ms : List (List Int)), (k' ≠ k ∨ e' ∉ es) → gE (es.foldl (levent g n k) ms) k' e' = gE ms k' e'
  | [], _, _ => rfl
  | e :: es, ms, h => by
    rw [List.foldl_cons, levs_ne es _ (h.imp id fun h2 hh => h2 (by simp [hh])), levent_ne]
    rintro ⟨h1, h2⟩
    rcases h with h | h
    · exact h h1
    · exact h (by simp [h2])

theorem lround_ne {g : GEventGraph} {n k k' e' : Nat} {o : List Nat} {ms : List (List Int)} (h : k' ≠ k) : gE (lround g n o ms k) k' e' = gE ms k' e' := levs_ne _ _ (.inl h)

theorem ldown_ne {g : GEventGraph} {n k' e' : Nat} {o : List Nat} : ∀ (m : Nat) (ms : List (List Int)), m ≤ k' → gE ((List.range m).reverse.foldl (lround g n o) ms) k' e' = gE ms k' e'
  | 0, _, _ => rfl
  | m + 1, ms, h => by
    rw [List.range_succ, List.reverse_append]
    simp only [List.reverse_cons, List.reverse_nil, List.nil_append, List.singleton_append, List.foldl_cons]
    rw [ldown_ne m _ (by omega), lround_ne (by omega)]

/-- the least of what the places behind an event allow -/
def lmin (g : GEventGraph) (n k e : Nat) (v : Nat → Nat → Int) (acc : Int) (i : Nat) : Int :=
  bif (plD g i).From == (e : Int) && decide ((k : Int) + (plD g i).Tokens < (n : Int)) then min acc (IntKind.i64.wrap (v (k + (plD g i).Tokens.toNat) (plD g i).To.toNat - (plD g i).Delay)) else acc

theorem lmin_congr {g : GEventGraph} {n k e : Nat} {v w : Nat → Nat → Int} : ∀ (l : List Nat) (acc : Int), (∀ i, i ∈ l → (plD g i).From = (e : Int) → (k : Int) + (plD g i).Tokens < (n : Int) → v (k + (plD g i).Tokens.toNat) (plD g i).To.toNat = w (k + (plD g i).Tokens.toNat) (plD g i).To.toNat) → l.foldl (lmin g n k e v) acc = l.foldl (lmin g n k e w) acc
  | [], _, _ => rfl
  | i :: l, acc, h => by
    rw [List.foldl_cons, List.foldl_cons]
    have e1 : lmin g n k e v acc i = lmin g n k e w acc i := by
      unfold lmin
      cases hc : ((plD g i).From == (e : Int) && decide ((k : Int) + (plD g i).Tokens < (n : Int))) with
      | false => rfl
      | true =>
        rw [Bool.and_eq_true, beq_iff_eq, decide_eq_true_eq] at hc
        simp only [cond_true]
        rw [h i (by simp) hc.1 hc.2]
    rw [e1]
    exact lmin_congr l _ fun j hj => h j (by simp [hj])

theorem levent_val {g : GEventGraph} {n k e : Nat} {ms : List (List Int)} (h : LOk g n ms) (hk : k < n) (he : e < g.Events.toNat) (hself : ∀ i, i < g.Places.length → (plD g i).From = (e : Int) → (plD g i).Tokens.toNat = 0 → (plD g i).To.toNat ≠ e) :
    ∀ m, m ≤ g.Places.length → gE ((List.range m).foldl (lstep g n k e) ms) k e = (List.range m).foldl (lmin g n k e (gE ms)) (gE ms k e) := by
  intro m
  induction m with
  | zero => intro _; rfl
  | succ m ih =>
    intro hm
    rw [List.range_succ, List.foldl_append, List.foldl_append, List.foldl_cons, List.foldl_nil, List.foldl_cons, List.foldl_nil, ← ih (by omega)]
    have hO : LOk g n ((List.range m).foldl (lstep g n k e) ms) := LOk.fold (fun _ i h => h.step hk i) _ h
    have hne : ∀ k' e', ¬ (k' = k ∧ e' = e) → gE ((List.range m).foldl (lstep g n k e) ms) k' e' = gE ms k' e' := fun k' e' hh => lfold_ne hh _ _
    generalize (List.range m).foldl (lstep g n k e) ms = ys at hO hne
    obtain ⟨_, hl⟩ := hO.at' hk
    unfold lstep lmin
    cases hc : ((plD g m).From == (e : Int) && decide ((k : Int) + (plD g m).Tokens < (n : Int))) with
    | false => rfl
    | true =>
      rw [Bool.and_eq_true, beq_iff_eq, decide_eq_true_eq] at hc
      simp only [cond_true]
      rw [gE_eq (by rw [hO.len]; exact hk) (by omega), ← hne _ _ (fun hh => hself m (by omega) hc.1 (by omega) hh.2)]
      rfl

theorem topo_after {E : Nat → Nat → Bool} {o A B : List Nat} {e t : Nat} (ho : o = B ++ e :: A) (hB : e ∉ B) (ht : Topo E o) (hE : E e t = true) (hm : t ∈ o) : t ∈ A := by
  subst ho
  rcases List.mem_append.1 hm with h | h
  · exfalso
    obtain ⟨j, hj, hj2⟩ := List.getElem_of_mem h
    have := ht j t e (by rw [List.getElem?_append_left hj, List.getElem?_eq_getElem hj, hj2]) hE
    rw [List.take_append_of_le_length (by omega)] at this
    exact hB (List.mem_of_mem_take this)
  · rcases List.mem_cons.1 h with h | h
    · exfalso
      subst h
      have := ht B.length t t (by rw [List.getElem?_append_right (Nat.le_refl _), Nat.sub_self]; rfl) hE
      rw [List.take_append_of_le_length (Nat.le_refl _), List.take_length] at this
      exact hB this
    · exact h

theorem eP_of {g : GEventGraph} {i u v : Nat} (hi : i < g.Places.length) (hf : (plD g i).From = (u : Int)) (ht : (plD g i).To = (v : Int)) (h0 : (plD g i).Tokens = 0) : eP g.Places u v = true := by
  unfold eP
  rw [List.any_eq_true]
  exact ⟨plD g i, List.mem_of_getElem? (plD_of hi), by rw [hf, ht, h0]; simp⟩

theorem no_self {g : GEventGraph} {o : List Nat} (hg : graphB g = true) (ho : fire (eP g.Places) g.Events.toNat g.Events.toNat [] = some o) {i e : Nat} (hi : i < g.Places.length) (hf : (plD g i).From = (e : Int)) (h0 : (plD g i).Tokens.toNat = 0) : (plD g i).To.toNat ≠ e := by
  intro h
  obtain ⟨_, ⟨v, hv, _⟩, ⟨w, hw, _⟩⟩ := PlOk.of hg hi
  rw [hv] at h
  simp only [Int.toNat_natCast] at h
  rw [hw] at h0
  simp only [Int.toNat_natCast] at h0
  exact fire_free (GOk.of hg).edge ho (v := e) (q := []) ⟨by simp, by simp, eP_of hi hf (by rw [hv, h]) (by rw [hw, h0]; rfl)⟩

theorem lround_val {g : GEventGraph} {n k e : Nat} {o : List Nat} {ms : List (List Int)} (hg : graphB g = true) (ho : fire (eP g.Places) g.Events.toNat g.Events.toNat [] = some o) (h : LOk g n ms) (hk : k < n) (he : e < g.Events.toNat) :
    gE (lround g n o ms k) k e = (List.range g.Places.length).foldl (lmin g n k e (gE (lround g n o ms k))) (gE ms k e) := by
  obtain ⟨hok, hol⟩ := fire_ok (GOk.of hg).edge _ [] o (OrderOk.nil _ _) ho
  have hol : o.length = g.Events.toNat := by simpa using hol
  have heo := full_mem hok.nodup hok.lt hol he
  obtain ⟨A, B, hAB⟩ := List.append_of_mem (show e ∈ o.reverse by simpa using heo)
  have hnd : o.reverse.Nodup := List.pairwise_reverse.2 (hok.nodup.imp fun h => Ne.symm h)
  rw [hAB] at hnd
  have hnA : e ∉ A := fun hh => by
    have := (List.nodup_append.1 hnd).2.2
    exact this e hh e (by simp) rfl
  have hnB : e ∉ B := by
    have := (List.nodup_append.1 hnd).2.1
    exact (List.nodup_cons.1 this).1
  have hoB : o = B.reverse ++ e :: A.reverse := by
    have := congrArg List.reverse hAB
    rw [List.reverse_reverse] at this
    rw [this]; simp
  have hR : lround g n o ms k = B.foldl (levent g n k) (levent g n k (A.foldl (levent g n k) ms) e) := by
    unfold lround
    rw [hAB, List.foldl_append, List.foldl_cons]
  have hO : LOk g n (A.foldl (levent g n k) ms) := LOk.fold (fun _ e h => h.event hk e) _ h
  have hv := levent_val hO hk he (fun i hi hf h0 => no_self hg ho hi hf h0) g.Places.length (Nat.le_refl _)
  have e1 : gE (lround g n o ms k) k e = gE (levent g n k (A.foldl (levent g n k) ms) e) k e := by
    rw [hR, levs_ne _ _ (.inr hnB)]
  have e2 : gE (A.foldl (levent g n k) ms) k e = gE ms k e := levs_ne _ _ (.inr hnA)
  rw [e1]
  show gE ((List.range g.Places.length).foldl (lstep g n k e) (A.foldl (levent g n k) ms)) k e = _
  rw [hv, e2]
  refine lmin_congr _ _ fun i hi hf hc => ?_
  have hi : i < g.Places.length := by simpa using hi
  obtain ⟨_, ⟨v, hv2, hvn⟩, ⟨w, hw, _⟩⟩ := PlOk.of hg hi
  rw [hv2, hw]
  simp only [Int.toNat_natCast]
  by_cases h0 : w = 0
  · subst h0
    have hE := eP_of (u := e) hi hf hv2 (by rw [hw]; rfl)
    have hvo := full_mem hok.nodup hok.lt hol hvn
    have hA : v ∈ A.reverse := topo_after hoB (by simpa using hnB) hok.topo hE hvo
    have hA : v ∈ A := by simpa using hA
    have hve : v ≠ e := fun hh => hnA (by rw [← hh]; exact hA)
    have hvB : v ∉ B := fun hh => (List.nodup_append.1 hnd).2.2 v hA v (by simp [hh]) rfl
    rw [hR, levs_ne _ _ (.inr hvB), levent_ne (fun hh => hve hh.2)]
  · rw [hR]
    exact ((levs_ne (g := g) (n := n) B (levent g n k (A.foldl (levent g n k) ms) e) (.inl (by omega))).trans (levent_ne (fun hh => absurd hh.1 (by omega)))).symm

theorem ldown_val {g : GEventGraph} {n e : Nat} {o : List Nat} (hg : graphB g = true) (ho : fire (eP g.Places) g.Events.toNat g.Events.toNat [] = some o) (he : e < g.Events.toNat) : ∀ (m : Nat) (ms : List (List Int)), m ≤ n → LOk g n ms → ∀ k, k < m →
    gE ((List.range m).reverse.foldl (lround g n o) ms) k e = (List.range g.Places.length).foldl (lmin g n k e (gE ((List.range m).reverse.foldl (lround g n o) ms))) (gE ms k e) := by
  intro m
  induction m with
  | zero => intro ms _ _ k hk; omega
  | succ m ih =>
    intro ms hm hO k hk
    have e0 : (List.range (m + 1)).reverse.foldl (lround g n o) ms = (List.range m).reverse.foldl (lround g n o) (lround g n o ms m) := by
      rw [List.range_succ, List.reverse_append]; rfl
    rw [e0]
    by_cases h : k = m
    · subst h
      rw [ldown_ne k _ (Nat.le_refl _), lround_val hg ho hO (by omega) he]
      refine lmin_congr _ _ fun i hi hf hc => ?_
      rw [ldown_ne k _ (by omega)]
    · have := ih (lround g n o ms m) (by omega) (hO.round (by omega)) k (by omega)
      rw [lround_ne h] at this
      exact this

/-- the latest times solve their equations -/
theorem ltab_val {g : GEventGraph} {n k e : Nat} {o : List Nat} {due : List (List Int)} (hg : graphB g = true) (ho : fire (eP g.Places) g.Events.toNat g.Events.toNat [] = some o) (hO : LOk g n due) (hk : k < n) (he : e < g.Events.toNat) :
    gE (ltab g n o due) k e = (List.range g.Places.length).foldl (lmin g n k e (gE (ltab g n o due))) (gE due k e) := ldown_val hg ho he n due (Nat.le_refl _) hO k hk

theorem fstep_val {g : GEventGraph} {n k : Nat} {T ms : List (List Int)} (h : LOk g n ms) (hk : k < n) : ∀ m, m ≤ g.Events.toNat → ∀ k' j, gE ((List.range m).foldl (fstep T k) ms) k' j = if k' = k ∧ j < m then IntKind.i64.wrap (gE ms k' j - gE T k' j) else gE ms k' j := by
  intro m
  induction m with
  | zero => intro _ k' j; rw [if_neg (fun hh => absurd hh.2 (by omega))]; rfl
  | succ m ih =>
    intro hm k' j
    rw [List.range_succ, List.foldl_append, List.foldl_cons, List.foldl_nil]
    have hI := ih (by omega)
    have hO : LOk g n ((List.range m).foldl (fstep T k) ms) := LOk.fold (fun _ j h => h.fstep hk j) _ h
    generalize (List.range m).foldl (fstep T k) ms = ys at hI hO
    obtain ⟨_, hl⟩ := hO.at' hk
    unfold fstep
    by_cases hc : k' = k ∧ j = m
    · obtain ⟨rfl, rfl⟩ := hc
      rw [gE_eq (by rw [hO.len]; exact hk) (by omega), if_pos ⟨rfl, by omega⟩]
      have := hI k' j
      rw [if_neg (by omega)] at this
      show IntKind.i64.wrap (gE ys k' j - gE T k' j) = _
      rw [this]
    · rw [gE_ne hc, hI k' j]
      by_cases h2 : k' = k ∧ j < m
      · rw [if_pos h2, if_pos ⟨h2.1, by omega⟩]
      · rw [if_neg h2, if_neg (by omega)]

theorem ftab_val {g : GEventGraph} {n : Nat} {T ms : List (List Int)} (h : LOk g n ms) : ∀ m, m ≤ n → ∀ k j, gE ((List.range m).foldl (frow T g.Events.toNat) ms) k j = if k < m ∧ j < g.Events.toNat then IntKind.i64.wrap (gE ms k j - gE T k j) else gE ms k j := by
  intro m
  induction m with
  | zero => intro _ k j; rw [if_neg (fun hh => absurd hh.1 (by omega))]; rfl
  | succ m ih =>
    intro hm k j
    rw [List.range_succ, List.foldl_append, List.foldl_cons, List.foldl_nil]
    have hI := ih (by omega)
    have hO : LOk g n ((List.range m).foldl (frow T g.Events.toNat) ms) := h.foldk m (by omega)
    generalize (List.range m).foldl (frow T g.Events.toNat) ms = ys at hI hO
    unfold frow
    rw [fstep_val hO (by omega) g.Events.toNat (Nat.le_refl _) k j]
    have hIk := hI k j
    by_cases hc : k = m ∧ j < g.Events.toNat
    · rw [if_pos hc, if_pos ⟨by omega, hc.2⟩]
      rw [if_neg (by omega)] at hIk
      rw [hIk]
    · rw [if_neg hc, hIk]
      by_cases h2 : k < m ∧ j < g.Events.toNat
      · rw [if_pos h2, if_pos ⟨by omega, h2.2⟩]
      · rw [if_neg h2, if_neg (by omega)]

/-! ### The firing times, with their code -/
def fireCode (g : GEventGraph) (n : Int) : Int := bif !graphB g then 1 else bif !inB n 0 50 then 2 else bif !liveB g g.Events.toNat then 5 else 0

theorem fireCode_zero {g : GEventGraph} {n : Int} (h : fireCode g n = 0) : graphB g = true ∧ 0 ≤ n ∧ n ≤ 50 ∧ ∃ o, fire (eP g.Places) g.Events.toNat g.Events.toNat [] = some o := by
  unfold fireCode at h
  have : graphB g = true ∧ inB n 0 50 = true ∧ liveB g g.Events.toNat = true := by
    revert h
    cases graphB g <;> cases inB n 0 50 <;> cases liveB g g.Events.toNat <;> simp
  obtain ⟨a, b, c⟩ := this
  exact ⟨a, (inB_true.1 b).1, (inB_true.1 b).2, liveB_some c⟩

theorem specFCode_is {F : Nat} {g : GEventGraph} {n : Int} (hF : 134217728 ≤ F) (hP : g.Places.length ≤ 1048576) : spec_l13Code F g (inB n 0 50) = some (fireCode g n) := by
  unfold spec_l13Code spec_l12Live fireCode
  rw [specGraph_is hF hP]
  cases hg : graphB g with
  | false => rfl
  | true =>
    obtain ⟨r, hr1, hr2⟩ := specDead_is hF (GOk.of hg)
    simp only [Option.bind_some, Bool.not_true, cond_false, hr1, hr2]
    cases liveB g g.Events.toNat <;> cases inB n 0 50 <;> rfl

theorem specFiring_is {F : Nat} {g : GEventGraph} {n : Int} (hF : 134217728 ≤ F) (hP : g.Places.length ≤ 1048576) :
    (fireCode g n ≠ 0 ∧ spec_FiringTimes F g n = some ([], fireCode g n)) ∨ (fireCode g n = 0 ∧ ∃ o, fire (eP g.Places) g.Events.toNat g.Events.toNat [] = some o ∧ spec_FiringTimes F g n = some (ttab g o (zeros g) n.toNat, 0)) := by
  unfold spec_FiringTimes
  rw [specIn_is, Option.bind_some, specFCode_is hF hP, Option.bind_some]
  by_cases h : fireCode g n = 0
  · right
    obtain ⟨g1, n0, n1, o, ho⟩ := fireCode_zero h
    have hG := GOk.of g1
    have h10 := hG.n10
    have hmk : mk g.Events (0 : Int) = some (zeros g) := by rw [hG.ev, mk_nat _ (by omega)]; rfl
    have hz : (zeros g).length = g.Events.toNat := by unfold zeros; simp
    have h1 := specTimes13_is (F := F) (n := n.toNat) hF g1 ho hz (by omega)
    rw [show ((n.toNat : Nat) : Int) = n by omega] at h1
    refine ⟨h, o, ho, ?_⟩
    rw [bF (neF h), hmk, Option.bind_some, h1]; rfl
  · left
    exact ⟨h, by rw [bT (neT h)]⟩

theorem implFCode_is {F : Nat} {g : GEventGraph} {n : Int} (hF : 134217728 ≤ F) (hP : g.Places.length ≤ 1048576) : impl_checkFirings F g n = some (fireCode g n) := by
  unfold impl_checkFirings fireCode
  rw [implGraph_is hF hP, Option.bind_some]
  cases hg : graphB g with
  | false => rfl
  | true =>
    simp only [Bool.not_true, cond_false, within_is, Option.bind_some, implLive_is hF (GOk.of hg)]
    cases liveB g g.Events.toNat <;> cases inB n 0 50 <;> rfl

theorem implFiring_is {F : Nat} {g : GEventGraph} {n : Nat} {o : List Nat} (hF : 134217728 ≤ F) (hg : graphB g = true) (hn : n ≤ 50) (ho : fire (eP g.Places) g.Events.toNat g.Events.toNat [] = some o) : impl_FiringTimes F g (n : Int) = some (ttab g o (zeros g) n, 0) := by
  unfold impl_FiringTimes
  have hG := GOk.of hg
  have h10 := hG.n10
  have hc : fireCode g (n : Int) = 0 := by
    unfold fireCode
    rw [hg, inB_true.2 (show (0 : Int) ≤ (n : Int) ∧ (n : Int) ≤ 50 by omega), show liveB g g.Events.toNat = true by unfold liveB; rw [ho]; rfl]
    rfl
  have hmk : mk g.Events (0 : Int) = some (zeros g) := by rw [hG.ev, mk_nat _ (by omega)]; rfl
  have hz : (zeros g).length = g.Events.toNat := by unfold zeros; simp
  rw [implFCode_is hF (show g.Places.length ≤ 1048576 by have := hG.len; omega), Option.bind_some, bF (neF hc), hmk, Option.bind_some, implTimes13_is (F := F) hF hg ho hz hn]
  rfl

/-! ### Draws of due times -/
theorem l22L5_tot {F : Nat} {code : List Int} {E : Int} {n k : Nat} {r40 : List (List Int) × Int} (hc : COk code) (hE : E = (n : Int)) (hn : n ≤ 1000) (hr : r40.2 = 0 → ∃ row, r40.1[k]? = some row ∧ row.length = n) : ∀ (d j f : Nat) (p s : Int) (xs : List Int), j + d = n → d < f → xs.length = j → SOk code p s → Tot (fun r : Int × Int × List Int => SOk code r.1 r.2.1 ∧ r.2.2.length = n) (spec_l22Draw_L5 F code E r40 (k : Int) f p s xs (j : Int)) := by
  intro d
  induction d with
  | zero =>
    intro j f p s xs hj hf hx hs
    obtain ⟨f, rfl⟩ : ∃ q, f = q + 1 := ⟨f - 1, by omega⟩
    simp only [spec_l22Draw_L5, hE, bdF (show ¬ (j : Int) < (n : Int) by omega)]
    exact Tot.pure ⟨hs, by simp only; omega⟩
  | succ d ih =>
    intro j f p s xs hj hf hx hs
    obtain ⟨f, rfl⟩ : ∃ q, f = q + 1 := ⟨f - 1, by omega⟩
    simp only [spec_l22Draw_L5]
    rw [wrN (show j ≤ 67108864 by omega)]
    have hlt : decide ((j : Int) < E) = true := by rw [hE]; exact decide_eq_true (by omega)
    rw [hlt, cond_true]
    refine Tot.cond (fun h0 => ?_) fun _ => ?_
    · obtain ⟨row, h1, h2⟩ := hr (by simpa using h0)
      rw [idx_nat, h1, Option.bind_some]
      refine Tot.bind (idx_tot (by omega) (by omega)) fun q _ => Tot.bind (next_tot hc hs) fun r1 h3 => Tot.bind (next_tot hc h3.1) fun r2 h4 => Tot.bind (pick_tot hc h4.1 (by simp)) fun r3 h5 => Tot.bind (app_tot (by simp only [List.length_singleton]; omega)) fun ys hys => ?_
      exact ih (j + 1) f _ _ ys (by omega) (by omega) (by rw [hys]; simp; omega) h5.1
    · refine Tot.bind (next_tot hc hs) fun r1 h3 => Tot.bind (app_tot (by simp only [List.length_singleton]; omega)) fun ys hys => ?_
      exact ih (j + 1) f _ _ ys (by omega) (by omega) (by rw [hys]; simp; omega) h3.1

theorem l22L4_tot {F : Nat} {code : List Int} {E : Int} {n m : Nat} {r38 : Int × Int × Int} {r40 : List (List Int) × Int} (hF : 134217728 ≤ F) (hc : COk code) (hE : E = (n : Int)) (hn : n ≤ 1000) (hm : r38.1 = (m : Int)) (hm2 : m ≤ 1000) (hr : r40.2 = 0 → ∀ k, k < m → ∃ row, r40.1[k]? = some row ∧ row.length = n) : ∀ (d k f : Nat) (p s : Int) (ms : List (List Int)), k + d = m → d < f → ms.length = k → (∀ r, r ∈ ms → r.length = n) → SOk code p s → Tot (fun r : Int × Int × List (List Int) => SOk code r.1 r.2.1 ∧ r.2.2.length = m ∧ ∀ q, q ∈ r.2.2 → q.length = n) (spec_l22Draw_L4 F code E r38 r40 f p s ms (k : Int)) := by
  intro d
  induction d with
  | zero =>
    intro k f p s ms hk hf hl hrw hs
    obtain ⟨f, rfl⟩ : ∃ q, f = q + 1 := ⟨f - 1, by omega⟩
    simp only [spec_l22Draw_L4, hm, bdF (show ¬ (k : Int) < (m : Int) by omega)]
    exact Tot.pure ⟨hs, by simp only; omega, hrw⟩
  | succ d ih =>
    intro k f p s ms hk hf hl hrw hs
    obtain ⟨f, rfl⟩ : ∃ q, f = q + 1 := ⟨f - 1, by omega⟩
    simp only [spec_l22Draw_L4, hm, bdT (show (k : Int) < (m : Int) by omega)]
    refine Tot.bind (l22L5_tot hc hE hn (fun h => hr h k (by omega)) n 0 F p s [] (by omega) (by omega) rfl hs) ?_
    rintro ⟨p1, s1, xs⟩ ⟨h1, h2⟩
    simp only at h1 h2 ⊢
    refine Tot.bind (app_tot (by simp only [List.length_singleton]; omega)) fun ys hys => ?_
    rw [wrN (show k ≤ 67108864 by omega)]
    refine ih (k + 1) f _ _ ys (by omega) (by omega) (by rw [hys]; simp; omega) (fun r h => ?_) h1
    rw [hys, List.mem_append, List.mem_singleton] at h
    rcases h with h | h
    · exact hrw r h
    · rw [h]; exact h2

theorem l22Draw_tot {F : Nat} {code : List Int} {p s : Int} (hF : 134217728 ≤ F) (hc : COk code) (hs : SOk code p s) : Tot (fun r : (GEventGraph × List (List Int)) × Int × Int => SOk code r.2.1 r.2.2 ∧ r.1.1.Places.length ≤ 100 ∧ r.1.2.length ≤ 1000 ∧ ∀ q, q ∈ r.1.2 → q.length ≤ 1000) (spec_l22Draw F code p s) := by
  unfold spec_l22Draw
  refine Tot.bind (l11Draw_tot hF hc hs) fun r2 h2 => Tot.bind (next_tot hc h2.1) fun r9 h9 => ?_
  refine Tot.bind (P := fun r : Int × Int × Int × List GPlace => SOk code r.1 r.2.1 ∧ r.2.2.2.length ≤ 100 ∧ 0 ≤ r.2.2.1 ∧ r.2.2.1 ≤ 11) (Tot.cond (fun _ => Tot.bind (l12Draw_tot hF hc h9.1) fun r29 h29 => Tot.pure ⟨h29.1, h29.2.1, h29.2.2⟩) fun _ => Tot.pure ⟨h9.1, h2.2.1, h2.2.2⟩) ?_
  rintro ⟨p1, s1, E, ps⟩ ⟨h3, h4, h5, h6⟩
  simp only at h3 h4 h5 h6 ⊢
  refine Tot.bind (next_tot hc h3) fun r38 h38 => ?_
  have h380 := h38.2.1
  have h381 : r38.1 < 6 := by have := h38.2.2; omega
  obtain ⟨m, hm⟩ : ∃ m : Nat, r38.1 = (m : Int) := ⟨r38.1.toNat, by omega⟩
  obtain ⟨n, hn⟩ : ∃ n : Nat, E = (n : Int) := ⟨E.toNat, by omega⟩
  have hft : ∃ r40 : List (List Int) × Int, spec_FiringTimes F ⟨E, ps⟩ r38.1 = some r40 ∧ (r40.2 = 0 → ∀ k, k < m → ∃ row, r40.1[k]? = some row ∧ row.length = n) := by
    rcases specFiring_is (F := F) (g := ⟨E, ps⟩) (n := r38.1) hF (show ps.length ≤ 1048576 by omega) with ⟨h7, h8⟩ | ⟨h7, o, ho, h8⟩
    · exact ⟨_, h8, fun h => absurd h h7⟩
    · refine ⟨_, h8, fun _ k hk => ?_⟩
      have hz : (zeros (⟨E, ps⟩ : GEventGraph)).length = E.toNat := by unfold zeros; simp
      have hl := ttab_len ⟨E, ps⟩ o (zeros ⟨E, ps⟩) r38.1.toNat
      have hrw := ttab_rows (g := ⟨E, ps⟩) (o := o) hz r38.1.toNat
      have hk2 : k < (ttab ⟨E, ps⟩ o (zeros ⟨E, ps⟩) r38.1.toNat).length := by rw [hl]; omega
      refine ⟨_, List.getElem?_eq_getElem hk2, ?_⟩
      rw [hrw _ (List.getElem_mem hk2)]
      show E.toNat = n
      omega
  obtain ⟨r40, hr1, hr2⟩ := hft
  rw [hr1, Option.bind_some]
  refine Tot.bind (l22L4_tot hF hc hn (by omega) hm (by omega) hr2 m 0 F _ _ [] (by omega) (by omega) rfl (by simp) h38.1) ?_
  rintro ⟨p2, s2, ms⟩ ⟨h7, h8, h9'⟩
  simp only at h7 h8 h9' ⊢
  have hsm : ∀ q, q ∈ ms → q.length ≤ 999 := fun q hq => by rw [h9' q hq]; omega
  refine Tot.bind (P := fun r : Int × Int × List (List Int) => SOk code r.1 r.2.1 ∧ r.2.2.length ≤ 1000 ∧ ∀ q, q ∈ r.2.2 → q.length ≤ 1000) (Tot.cond (fun hl => ?_) fun _ => Tot.pure ⟨h7, by simp only; omega, fun q hq => by have := hsm q hq; omega⟩) ?_
  · have hl : 0 < (ms.length : Int) := of_decide_eq_true hl
    have hset : ∀ (ms' : List (List Int)) (r : List Int), r.length ≤ 1000 → upd ms 0 r = some ms' → ms'.length ≤ 1000 ∧ ∀ q, q ∈ ms' → q.length ≤ 1000 := fun ms' r hr hu => by
      obtain ⟨_, _, rfl⟩ := upd_some hu
      refine ⟨by rw [List.length_set]; omega, fun q hq => ?_⟩
      rcases List.mem_or_eq_of_mem_set hq with h | h
      · have := hsm q h; omega
      · rw [h]; exact hr
    have hupd : ∀ r : List Int, r.length ≤ 1000 → Tot (fun ms' : List (List Int) => ms'.length ≤ 1000 ∧ ∀ q, q ∈ ms' → q.length ≤ 1000) (upd ms 0 r) := fun r hr => by
      have := upd_int (xs := ms) r (show (0 : Int) ≤ 0 by decide) hl
      exact ⟨_, this, hset _ r hr this⟩
    refine Tot.bind (next_tot hc h7) fun r3 h10 => Tot.cond (fun _ => ?_) fun _ => Tot.cond (fun _ => ?_) fun _ => Tot.pure ⟨h10.1, by simp only; omega, fun q hq => by have := hsm q hq; omega⟩
    · refine Tot.bind (idx_tot (by decide) hl) fun q hq => Tot.bind (app_tot (by have := hsm q hq; simp only [List.length_singleton]; omega)) fun ys hys => Tot.bind (hupd ys (by have := hsm q hq; rw [hys]; simp; omega)) fun ms' h => Tot.pure ⟨h10.1, h⟩
    · refine Tot.bind (idx_tot (by decide) hl) fun q hq => Tot.cond (fun hq0 => ?_) fun _ => Tot.pure ⟨h10.1, by simp only; omega, fun q hq => by have := hsm q hq; omega⟩
      have hq0 : 0 < (q.length : Int) := of_decide_eq_true hq0
      refine Tot.bind (idx_tot (by decide) hl) fun q2 hq2 => ?_
      have e2 : 0 < q2.length := by rw [h9' q2 hq2, ← h9' q hq]; omega
      exact Tot.bind (pick_tot hc h10.1 (by simp)) fun r4 h11 => Tot.bind (idx_tot (by decide) (by omega)) fun _ _ => Tot.bind (upd_tot (by decide) (by omega)) fun ys hy => Tot.bind (hupd ys (by have := hsm q2 hq2; omega)) fun ms' h => Tot.pure ⟨h11.1, h⟩
  · rintro ⟨p3, s3, ms'⟩ ⟨h10, h11, h12⟩
    exact Tot.pure ⟨h10, h4, h11, h12⟩

end Go.Proofs.Ytebmlphobgaboab
