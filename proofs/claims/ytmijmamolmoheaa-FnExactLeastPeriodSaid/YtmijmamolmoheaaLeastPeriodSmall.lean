/- Plain lemmas about the small functions of the laws. -/
import Derived.Test.YtmijmamolmoheaaLeastPeriodModels
import Derived.Test.YtmijmamolmoheaaBf
namespace Go.Proofs.Ytmijmamolmoheaa

def toP_Place (p : LPlace) : GPlace := ⟨p.From, p.To, p.Delay, p.Tokens⟩
theorem szPlaceS_is {F : Nat} {ps : List LPlace} {left : Int} (h0 : 0 ≤ left) (h1 : left ≤ 1048576) (h : ps.length ≤ 9223372036854775807) : ∃ r, laws_szPlaceS F ps left = some r ∧ (r < 0 ∨ (0 ≤ r ∧ r + ps.length = left)) := by
  unfold laws_szPlaceS
  rw [wr (by omega) (by omega)]
  by_cases hc : left - (ps.length : Int) < 0
  · exact ⟨-1, by rw [bdT hc], .inl (by decide)⟩
  · exact ⟨left - ps.length, by rw [bdF hc], .inr ⟨by omega, by omega⟩⟩
theorem toPlaceS_is {F : Nat} {ps : List LPlace} (hF : 134217728 ≤ F) (h : ps.length ≤ 1048576) : laws_toPlaceS F ps = some (ps.map toP_Place) := by
  unfold laws_toPlaceS
  rw [mk_nat _ (by omega)]
  simp only [Option.bind_some]
  rw [fill_loop (ps := ps) (f := toP_Place) (L := laws_toPlaceS_L1 F ps) ?_ ?_ (by simp) (by omega)]; rfl
  · intro n xs k x hk hx hl
    have hk' : k < xs.length := by omega
    have hq : xs[k]? = some xs[k] := List.getElem?_eq_getElem hk'
    simp only [laws_toPlaceS_L1, bdT (show (k : Int) < (ps.length : Int) by omega), idx_nat, hx, hq, laws_toPlace, Option.bind_some, upd_nat, hk', wrN (show k ≤ 67108864 by omega), toP_Place]
  · intro n xs
    simp only [laws_toPlaceS_L1, bdF (show ¬ (ps.length : Int) < (ps.length : Int) by omega)]
theorem eqPlace_same {F : Nat} (x : GPlace) : laws_eqPlace F x x = some true := by
  simp only [laws_eqPlace, bne_self_eq_false, cond_false]
theorem eqPlaceS_same {F : Nat} {xs : List GPlace} (hF : 134217728 ≤ F) (h : xs.length ≤ 16777216) : laws_eqPlaceS F xs xs = some true := by
  unfold laws_eqPlaceS
  rw [bF (neF rfl), same_loop (L := laws_eqPlaceS_L1 F xs xs) (len := xs.length) ?_ ?_ (by omega)]; rfl
  · intro n k hk
    have hq : xs[k]? = some xs[k] := List.getElem?_eq_getElem hk
    simp only [laws_eqPlaceS_L1, bdT (show (k : Int) < (xs.length : Int) by omega), idx_nat, hq, Option.bind_some, eqPlace_same, Bool.not_true, cond_false, wrN (show k ≤ 67108864 by omega)]
  · intro n
    simp only [laws_eqPlaceS_L1, bdF (show ¬ (xs.length : Int) < (xs.length : Int) by omega)]

theorem szEventGraph_is {F : Nat} {g : LEventGraph} {left : Int} (h0 : 0 ≤ left) (h1 : left ≤ 1048576) (h : g.Places.length ≤ 9223372036854775807) : ∃ r, laws_szEventGraph F g left = some r ∧ (r < 0 ∨ (0 ≤ r ∧ r + g.Places.length = left)) := by
  obtain ⟨r, hr, h2⟩ := szPlaceS_is (F := F) h0 h1 h
  unfold laws_szEventGraph
  rw [bind_of hr]
  by_cases hc : r < 0
  · exact ⟨-1, by rw [bdT hc], .inl (by decide)⟩
  · exact ⟨r, by rw [bdF hc], h2⟩
def toP_EventGraph (g : LEventGraph) : GEventGraph := ⟨g.Events, g.Places.map toP_Place⟩
theorem toEventGraph_is {F : Nat} {g : LEventGraph} (hF : 134217728 ≤ F) (h : g.Places.length ≤ 1048576) : laws_toEventGraph F g = some (toP_EventGraph g) := by
  unfold laws_toEventGraph
  rw [bind_of (toPlaceS_is hF h)]; rfl
theorem eqEventGraph_same {F : Nat} (x : GEventGraph) (hF : 134217728 ≤ F) (h : x.Places.length ≤ 16777216) : laws_eqEventGraph F x x = some true := by
  simp only [laws_eqEventGraph, eqPlaceS_same hF h, bne_self_eq_false, cond_false, Option.bind_some, Bool.not_true]

theorem slices_IndexFunc_Place_is {F : Nat} {ps : List GPlace} {m : GPlace → Option Bool} {h : GPlace → Bool} (hF : 134217728 ≤ F) (hl : ps.length ≤ 16777216) (hm : ∀ x, x ∈ ps → m x = some (h x)) :
    slices_IndexFunc_Place F ps m = some (firstAt (ps.findIdx? h)) := by
  unfold slices_IndexFunc_Place
  rw [find_loop (ps := ps) (h := h) (v := fun k => (k : Int)) (L := slices_IndexFunc_Place_L1 F ps m) ?_ ?_ (by omega)]
  · cases ps.findIdx? h <;> rfl
  · intro n k x hk hx
    simp only [slices_IndexFunc_Place_L1, bdT (show (k : Int) < (ps.length : Int) by omega), idx_nat, hx, Option.bind_some, hm x (List.mem_of_getElem? hx), wrN (show k ≤ 67108864 by omega)]
  · intro n
    simp only [slices_IndexFunc_Place_L1, bdF (show ¬ (ps.length : Int) < (ps.length : Int) by omega)]
theorem slices_ContainsFunc_Place_is {F : Nat} {ps : List GPlace} {m : GPlace → Option Bool} {h : GPlace → Bool} (hF : 134217728 ≤ F) (hl : ps.length ≤ 16777216) (hm : ∀ x, x ∈ ps → m x = some (h x)) :
    slices_ContainsFunc_Place F ps m = some (ps.any h) := by
  unfold slices_ContainsFunc_Place
  rw [bind_of (slices_IndexFunc_Place_is hF hl hm), find_any]

/-- how many numbers stand in the first i rows -/
def offR (rows : List (List Int)) (i : Nat) : Nat := ((rows.take i).map List.length).sum

theorem offR_zero (rows : List (List Int)) : offR rows 0 = 0 := rfl

theorem offR_succ {rows : List (List Int)} {i : Nat} {row : List Int} (h : rows[i]? = some row) : offR rows (i + 1) = offR rows i + row.length := by
  unfold offR
  rw [List.take_add_one, h]; simp

theorem offR_mono (rows : List (List Int)) (i : Nat) : offR rows i ≤ offR rows (i + 1) := by
  unfold offR
  rw [List.take_add_one, List.map_append, List.sum_append]; omega

theorem offR_le {rows : List (List Int)} {i j : Nat} (h : i ≤ j) : offR rows i ≤ offR rows j := by
  induction j with
  | zero => obtain rfl : i = 0 := by omega
            exact Nat.le_refl _
  | succ j ih =>
    by_cases e : i = j + 1
    · subst e; exact Nat.le_refl _
    · exact Nat.le_trans (ih (by omega)) (offR_mono rows j)


theorem rows_le {rows : List (List Int)} {N : Nat} (hr : offR rows rows.length ≤ N) : ∀ row, row ∈ rows → row.length ≤ N := by
  intro row hm
  obtain ⟨i, hi, rfl⟩ := List.getElem_of_mem hm
  have h1 := offR_succ (List.getElem?_eq_getElem hi)
  have h2 := offR_le (rows := rows) (show i + 1 ≤ rows.length by omega)
  omega

/-! ### Slices of matrices -/
def wtM (m : List (List Int)) : Nat := m.length + offR m m.length

def offW (ms : List (List (List Int))) (i : Nat) : Nat := ((ms.take i).map wtM).sum

def offD (ms : List (List (List Int))) (i : Nat) : Nat := ((ms.take i).map fun m => offR m m.length).sum

theorem offW_zero (ms : List (List (List Int))) : offW ms 0 = 0 := rfl

theorem offW_succ {ms : List (List (List Int))} {i : Nat} {m : List (List Int)} (h : ms[i]? = some m) : offW ms (i + 1) = offW ms i + wtM m := by
  unfold offW
  rw [List.take_add_one, h]; simp

theorem offD_succ {ms : List (List (List Int))} {i : Nat} {m : List (List Int)} (h : ms[i]? = some m) : offD ms (i + 1) = offD ms i + offR m m.length := by
  unfold offD
  rw [List.take_add_one, h]; simp

theorem offW_mono (ms : List (List (List Int))) (i : Nat) : offW ms i ≤ offW ms (i + 1) := by
  unfold offW
  rw [List.take_add_one, List.map_append, List.sum_append]; omega

theorem offW_le {ms : List (List (List Int))} {i j : Nat} (h : i ≤ j) : offW ms i ≤ offW ms j := by
  induction j with
  | zero => obtain rfl : i = 0 := by omega
            exact Nat.le_refl _
  | succ j ih =>
    by_cases e : i = j + 1
    · subst e; exact Nat.le_refl _
    · exact Nat.le_trans (ih (by omega)) (offW_mono ms j)

theorem offD_le (ms : List (List (List Int))) : ∀ i, offD ms i ≤ offW ms i
  | 0 => Nat.le_refl _
  | i + 1 => by
    have := offD_le ms i
    cases h : ms[i]? with
    | none =>
      have e1 : offW ms (i + 1) = offW ms i := by unfold offW; rw [List.take_add_one, h]; simp
      have e2 : offD ms (i + 1) = offD ms i := by unfold offD; rw [List.take_add_one, h]; simp
      omega
    | some m =>
      rw [offW_succ h, offD_succ h]
      unfold wtM; omega

theorem offW_at {ms : List (List (List Int))} {i : Nat} {m : List (List Int)} (h : ms[i]? = some m) : m.length + offR m m.length ≤ offW ms ms.length := by
  have h1 := offW_succ h
  have h2 := offW_le (ms := ms) (show i + 1 ≤ ms.length from (List.getElem?_eq_some_iff.1 h).1)
  unfold wtM at h1
  omega

theorem offW_mem {ms : List (List (List Int))} {m : List (List Int)} (h : m ∈ ms) : m.length + offR m m.length ≤ offW ms ms.length := by
  obtain ⟨i, hi, rfl⟩ := List.getElem_of_mem h
  exact offW_at (List.getElem?_eq_getElem hi)

def inB (n lo hi : Int) : Bool := decide (lo ≤ n) && decide (n ≤ hi)

theorem inB_true {n lo hi : Int} : inB n lo hi = true ↔ lo ≤ n ∧ n ≤ hi := by unfold inB; simp

theorem inB_false {n lo hi : Int} (h : ¬ (lo ≤ n ∧ n ≤ hi)) : inB n lo hi = false := by
  cases e : inB n lo hi with
  | false => rfl
  | true => exact absurd (inB_true.1 e) h

theorem specIn_is {F : Nat} {n lo hi : Int} : spec_l01In F n lo hi = some (inB n lo hi) := by
  simp only [spec_l01In, cond_and, Option.bind_some]; rfl

theorem within_is {F : Nat} {n lo hi : Int} : impl_within F n lo hi = some (inB n lo hi) := by
  simp only [impl_within, cond_and, Option.bind_some]; rfl


/-! ### Values and vectors -/
def valB (a : Int) : Bool := (a == (-1000000000000000)) || inB a (-1000000) 1000000

/-! ### Sums of the algebra -/
def tms (a b : Int) : Int := bif (a == (-1000000000000000)) || (b == (-1000000000000000)) then (-1000000000000000) else IntKind.i64.wrap (a + b)

/-- the sum of the products -/
def dotv (c x : List Int) (n : Nat) : Int := (List.range n).foldl (fun acc i => max acc (tms (c.getD i 0) (x.getD i 0))) (-1000000000000000)

/-! ### Lists of finite numbers -/
theorem fin_val (x : Int) : (valB x && !(x == (-1000000000000000))) = inB x (-1000000) 1000000 := by
  unfold valB
  cases h : (x == (-1000000000000000)) with
  | false => simp
  | true =>
    rw [beq_iff_eq] at h
    subst h; rfl

def applyv (a : List (List Int)) (x : List Int) : List Int := a.map fun row => dotv row x row.length

def vecB (x : List Int) : Bool := inB x.length 1 10 && x.all valB

def firstL (a : List (List Int)) : Int := ((a.getD 0 []).length : Int)

def matB (a : List (List Int)) : Bool := inB a.length 1 10 && a.all (fun row => vecB row && ((row.length : Int) == firstL a))

theorem first_is {a : List (List Int)} (h : 0 < a.length) : idx a 0 = some (a.getD 0 []) := by
  rw [show (0 : Int) = ((0 : Nat) : Int) from rfl, idx_nat, List.getD_eq_getElem?_getD, List.getElem?_eq_getElem h]; rfl

def squareB (a : List (List Int)) : Bool := matB a && ((a.length : Int) == firstL a)

/-! ### Matrices by their entries -/
def tabM (m n : Nat) (f : Nat → Nat → Int) : List (List Int) := (List.range m).map fun i => (List.range n).map fun j => f i j

theorem tabM_len (m n : Nat) (f : Nat → Nat → Int) : (tabM m n f).length = m := by unfold tabM; simp

theorem tabM_row {m n i : Nat} {f : Nat → Nat → Int} (h : i < m) : (tabM m n f)[i]? = some ((List.range n).map fun j => f i j) := by
  unfold tabM; rw [List.getElem?_map, List.getElem?_range h]; rfl

theorem tabM_rows {m n : Nat} {f : Nat → Nat → Int} : ∀ r, r ∈ tabM m n f → r.length = n := by
  intro r hr
  unfold tabM at hr
  rw [List.mem_map] at hr
  obtain ⟨i, _, rfl⟩ := hr
  simp

theorem tabM_of {m n : Nat} {f : Nat → Nat → Int} {t : List (List Int)} (hl : t.length = m) (h : ∀ i, i < m → t[i]? = some ((List.range n).map fun j => f i j)) : t = tabM m n f := by
  apply List.ext_getElem?; intro q
  by_cases hq : q < m
  · rw [h q hq, tabM_row hq]
  · rw [List.getElem?_eq_none (by omega), List.getElem?_eq_none (by rw [tabM_len]; omega)]

theorem row_of {n : Nat} {f : Nat → Int} {r : List Int} (hl : r.length = n) (h : ∀ j, j < n → r[j]? = some (f j)) : r = (List.range n).map f := by
  apply List.ext_getElem?; intro q
  by_cases hq : q < n
  · rw [h q hq, List.getElem?_map, List.getElem?_range hq]; rfl
  · rw [List.getElem?_eq_none (by omega), List.getElem?_eq_none (by simp; omega)]

def unitM (n : Nat) : List (List Int) := tabM n n fun i j => if i = j then 0 else (-1000000000000000)

/-! ### Products -/
def dotM (a b : List (List Int)) (i j : Nat) (k : Nat) : Int := (List.range k).foldl (fun acc q => max acc (tms ((a.getD i []).getD q 0) ((b.getD q []).getD j 0))) (-1000000000000000)

theorem dotM_succ (a b : List (List Int)) (i j k : Nat) : dotM a b i j (k + 1) = max (dotM a b i j k) (tms ((a.getD i []).getD k 0) ((b.getD k []).getD j 0)) := by
  unfold dotM; rw [List.range_succ, List.foldl_append]; rfl

def mulM (a b : List (List Int)) (n : Nat) : List (List Int) := tabM a.length n fun i j => dotM a b i j b.length

theorem rowG {t : List (List Int)} {k : Nat} (h : k < t.length) : t[k]? = some (t.getD k []) := by
  rw [List.getD_eq_getElem?_getD, List.getElem?_eq_getElem h]; rfl

theorem mulM_len (a b : List (List Int)) (n : Nat) : (mulM a b n).length = a.length := tabM_len _ _ _

theorem mulM_rows {a b : List (List Int)} {n : Nat} : ∀ r, r ∈ mulM a b n → r.length = n := tabM_rows

def valsM (a : List (List Int)) : Bool := a.all fun r => r.all valB

/-! ### Modes -/
def firstN (ms : List (List (List Int))) : Int := ((ms.getD 0 []).length : Int)

def modesB (ms : List (List (List Int))) : Bool := inB ms.length 1 4 && ms.all fun m => squareB m && ((m.length : Int) == firstN ms)

theorem firstM_is {ms : List (List (List Int))} (h : 0 < ms.length) : idx ms 0 = some (ms.getD 0 []) := by
  rw [show (0 : Int) = ((0 : Nat) : Int) from rfl, idx_nat, List.getD_eq_getElem?_getD, List.getElem?_eq_getElem h]; rfl

/-- all matrices are squares of one size -/
theorem modesB_true {ms : List (List (List Int))} (h : modesB ms = true) : ∃ n : Nat, (ms.getD 0 []).length = n ∧ 1 ≤ n ∧ n ≤ 10 ∧ 1 ≤ ms.length ∧ ms.length ≤ 4 ∧ ∀ m, m ∈ ms → m.length = n ∧ ∀ row, row ∈ m → row.length = n := by
  unfold modesB at h
  rw [Bool.and_eq_true, inB_true, List.all_eq_true] at h
  have hm : ms.getD 0 [] ∈ ms := by
    rw [List.getD_eq_getElem?_getD, List.getElem?_eq_getElem (show 0 < ms.length by omega)]; exact List.getElem_mem _
  have sq : ∀ m, squareB m = true → 1 ≤ m.length ∧ m.length ≤ 10 ∧ ∀ row, row ∈ m → row.length = m.length := by
    intro m hs
    unfold squareB matB at hs
    simp only [Bool.and_eq_true, inB_true, beq_iff_eq, List.all_eq_true] at hs
    refine ⟨by omega, by omega, fun row hrow => ?_⟩
    have := (hs.1.2 row hrow).2
    omega
  have h0 := h.2 _ hm
  rw [Bool.and_eq_true] at h0
  obtain ⟨a1, a2, _⟩ := sq _ h0.1
  refine ⟨_, rfl, a1, a2, by omega, by omega, fun m hmm => ?_⟩
  have h2 := h.2 m hmm
  rw [Bool.and_eq_true, beq_iff_eq] at h2
  unfold firstN at h2
  obtain ⟨_, _, b3⟩ := sq _ h2.1
  exact ⟨by omega, fun row hrow => by rw [b3 row hrow]; omega⟩

def wordB (ms : List (List (List Int))) (w : List Int) : Bool := (w.all fun x => inB x 0 (IntKind.i64.wrap ((ms.length : Int) - 1))) && decide ((w.length : Int) ≤ 6)

theorem wordB_at {ms : List (List (List Int))} {w : List Int} (h : wordB ms w = true) (hm : 1 ≤ ms.length) (hm4 : ms.length ≤ 4) : w.length ≤ 6 ∧ ∀ k (hk : k < w.length), ∃ j : Nat, w[k] = (j : Int) ∧ j < ms.length := by
  unfold wordB at h
  simp only [Bool.and_eq_true, List.all_eq_true, inB_true, decide_eq_true_eq] at h
  refine ⟨by omega, fun k hk => ?_⟩
  have := h.1 _ (List.getElem_mem hk)
  rw [wr (by omega) (by omega)] at this
  exact ⟨(w[k]).toNat, by omega, by omega⟩

/-! ### Shifted vectors, sums of matrices -/
def shiftv (x : List Int) (g : Int) : List Int := x.map fun v => tms v g

/-! ### Sums of matrices -/
def addv (a b : List Int) : List Int := (List.range a.length).map fun i => max (a.getD i 0) (b.getD i 0)

theorem addv_len (a b : List Int) : (addv a b).length = a.length := by unfold addv; simp

def addm (a b : List (List Int)) : List (List Int) := (List.range a.length).map fun i => addv (a.getD i []) (b.getD i [])

theorem addv_of {r a b : List Int} (hl : r.length = a.length) (h : ∀ q, q < a.length → r[q]? = some (max (a.getD q 0) (b.getD q 0))) : r = addv a b := by
  apply List.ext_getElem?; intro q
  by_cases hq : q < a.length
  · rw [h q hq]; unfold addv; rw [List.getElem?_map, List.getElem?_range hq]; rfl
  · rw [List.getElem?_eq_none (by omega), List.getElem?_eq_none (by rw [addv_len]; omega)]

/-! ### Sums of matrices, by the reference -/
theorem specOwn_is {F : Nat} {x : List Int} (hx : x.length ≤ 1048576) : spec_l01Own F x = some x := by
  unfold spec_l01Own
  rw [app_le (by simp only [List.length_nil]; omega)]; rfl

theorem addm_len (a b : List (List Int)) : (addm a b).length = a.length := by unfold addm; simp

theorem addm_rows {a b : List (List Int)} {n : Nat} (ha : ∀ r, r ∈ a → r.length = n) : ∀ r, r ∈ addm a b → r.length = n := by
  intro r hr
  unfold addm at hr
  rw [List.mem_map] at hr
  obtain ⟨i, hi, rfl⟩ := hr
  rw [addv_len]
  have hi' : i < a.length := by simpa using hi
  have e : a[i]? = some (a.getD i []) := by rw [List.getD_eq_getElem?_getD, List.getElem?_eq_getElem hi']; rfl
  exact ha _ (List.mem_of_getElem? e)

/-! ### Tables by their entries -/
theorem tabM_get {m n i j : Nat} {f : Nat → Nat → Int} (hi : i < m) (hj : j < n) : ((tabM m n f).getD i []).getD j 0 = f i j := by
  rw [List.getD_eq_getElem?_getD, List.getD_eq_getElem?_getD, tabM_row hi, Option.getD_some, List.getElem?_map, List.getElem?_range hj]; rfl

theorem tabM_congr {m n : Nat} {f g : Nat → Nat → Int} (h : ∀ i j, i < m → j < n → f i j = g i j) : tabM m n f = tabM m n g := by
  unfold tabM
  apply List.map_congr_left
  intro i hi
  apply List.map_congr_left
  intro j hj
  exact h i j (by simpa using hi) (by simpa using hj)

theorem tabM_at {n i : Nat} {f : Nat → Int} (h : i < n) : ((List.range n).map f)[i]? = some (f i) := by
  rw [List.getElem?_map, List.getElem?_range h]; rfl

theorem tabM_set {m n i j : Nat} {f : Nat → Nat → Int} {v : Int} (hi : i < m) (hj : j < n) : (tabM m n f).set i (((List.range n).map fun j => f i j).set j v) = tabM m n fun a b => if a = i ∧ b = j then v else f a b := by
  refine tabM_of (by rw [List.length_set, tabM_len]) (fun a ha => ?_)
  by_cases e : a = i
  · subst e
    rw [set_here (by rw [tabM_len]; exact ha)]
    refine congrArg some (row_of (by simp) (fun b hb => ?_))
    by_cases e2 : b = j
    · subst e2
      rw [set_here (by simpa using hb), if_pos ⟨rfl, rfl⟩]
    · rw [set_keep e2, tabM_at hb, if_neg (by omega)]
  · rw [set_keep e, tabM_row ha]
    refine congrArg some ?_
    apply List.map_congr_left
    intro b _
    rw [if_neg (by omega)]

theorem tabM_self {m n : Nat} {a : List (List Int)} (hl : a.length = m) (hr : ∀ r, r ∈ a → r.length = n) : a = tabM m n fun i j => (a.getD i []).getD j 0 := by
  refine tabM_of hl (fun i hi => ?_)
  have e : a[i]? = some (a.getD i []) := by rw [List.getD_eq_getElem?_getD, List.getElem?_eq_getElem (by omega)]; rfl
  rw [e]
  exact congrArg some (row_of (hr _ (List.mem_of_getElem? e)) (fun j hj => getD_of (by rw [hr _ (List.mem_of_getElem? e)]; exact hj)))

theorem tabM_inj {m n : Nat} {f g : Nat → Nat → Int} (h : tabM m n f = tabM m n g) {i j : Nat} (hi : i < m) (hj : j < n) : f i j = g i j := by
  rw [← tabM_get (f := f) hi hj, h, tabM_get hi hj]

/-! ### Tables of arcs -/
def arcT {α : Type} (t f : α → Nat) (w : α → Int) : List α → Nat → Nat → Int
  | l => fun i j => l.foldl (fun acc x => if t x = i ∧ f x = j then max acc (w x) else acc) (-1000000000000000)

theorem arcT_snoc {α : Type} (t f : α → Nat) (w : α → Int) (l : List α) (x : α) (i j : Nat) : arcT t f w (l ++ [x]) i j = if i = t x ∧ j = f x then max (arcT t f w l (t x) (f x)) (w x) else arcT t f w l i j := by
  unfold arcT
  rw [List.foldl_append]
  simp only [List.foldl_cons, List.foldl_nil]
  by_cases h : t x = i ∧ f x = j
  · obtain ⟨rfl, rfl⟩ := h
    rw [if_pos ⟨rfl, rfl⟩]
  · rw [if_neg h, if_neg (by omega)]

theorem arcT_le {α : Type} {t f : α → Nat} {w : α → Int} : ∀ (l : List α) (a0 : Int) (i j : Nat), a0 ≤ l.foldl (fun acc x => if t x = i ∧ f x = j then max acc (w x) else acc) a0
  | [], a0, _, _ => Int.le_refl _
  | x :: l, a0, i, j => by
    rw [List.foldl_cons]
    by_cases h : t x = i ∧ f x = j
    · rw [if_pos h]; exact Int.le_trans (by omega) (arcT_le l _ i j)
    · rw [if_neg h]; exact arcT_le l a0 i j

theorem arcT_ge' {α : Type} {t f : α → Nat} {w : α → Int} : ∀ (l : List α) (a0 : Int) (x : α), x ∈ l → w x ≤ l.foldl (fun acc y => if t y = t x ∧ f y = f x then max acc (w y) else acc) a0
  | [], _, x, h => by cases h
  | y :: l, a0, x, h => by
    rw [List.foldl_cons]
    rcases List.mem_cons.1 h with rfl | h
    · rw [if_pos ⟨rfl, rfl⟩]; exact Int.le_trans (by omega) (arcT_le l _ _ _)
    · exact arcT_ge' l _ x h

theorem arcT_ge {α : Type} {t f : α → Nat} {w : α → Int} {l : List α} {x : α} (h : x ∈ l) : w x ≤ arcT t f w l (t x) (f x) := arcT_ge' l _ x h

theorem arcT_cases' {α : Type} {t f : α → Nat} {w : α → Int} (i j : Nat) : ∀ (l : List α) (a0 : Int), l.foldl (fun acc x => if t x = i ∧ f x = j then max acc (w x) else acc) a0 = a0 ∨ ∃ x, x ∈ l ∧ t x = i ∧ f x = j ∧ l.foldl (fun acc x => if t x = i ∧ f x = j then max acc (w x) else acc) a0 = w x
  | [], a0 => .inl rfl
  | y :: l, a0 => by
    rw [List.foldl_cons]
    by_cases h : t y = i ∧ f y = j
    · rw [if_pos h]
      rcases arcT_cases' i j l (max a0 (w y)) with h1 | ⟨x, h1, h2, h3, h4⟩
      · by_cases h5 : w y ≤ a0
        · left; rw [h1]; omega
        · right; exact ⟨y, by simp, h.1, h.2, by rw [h1]; omega⟩
      · right; exact ⟨x, by simp [h1], h2, h3, h4⟩
    · rw [if_neg h]
      rcases arcT_cases' i j l a0 with h1 | ⟨x, h1, h2, h3, h4⟩
      · exact .inl h1
      · right; exact ⟨x, by simp [h1], h2, h3, h4⟩

theorem arcT_cases {α : Type} {t f : α → Nat} {w : α → Int} (l : List α) (i j : Nat) : arcT t f w l i j = -1000000000000000 ∨ ∃ x, x ∈ l ∧ t x = i ∧ f x = j ∧ arcT t f w l i j = w x := arcT_cases' i j l _

theorem arcT_ok {α : Type} {t f : α → Nat} {w : α → Int} {l : List α} (h : ∀ x, x ∈ l → -1000000 ≤ w x ∧ w x ≤ 1000000) (n : Nat) : TabOk (arcT t f w l) n := fun i j _ _ => by
  rcases arcT_cases (t := t) (f := f) (w := w) l i j with e | ⟨x, hx, _, _, e⟩
  · exact .inl e
  · rw [e]; exact .inr (h x hx)

/-- a loop that lays arcs into a table -/
theorem arc_loop {α : Type} {t f : α → Nat} {w : α → Int} {ps : List α} {n : Nat} {L : Nat → List (List Int) → Int → Option (List (List Int))}
    (hL : ∀ m k x h, k < ps.length → ps[k]? = some x → L (m + 1) (tabM n n h) (k : Int) = L m (tabM n n fun i j => if i = t x ∧ j = f x then max (h (t x) (f x)) (w x) else h i j) ((k + 1 : Nat) : Int))
    (hE : ∀ m h, L (m + 1) (tabM n n h) (ps.length : Int) = some (tabM n n h)) {F : Nat} (hn : ps.length < F) : L F (tabM n n fun _ _ => (-1000000000000000)) 0 = some (tabM n n (arcT t f w ps)) := by
  refine for0 (L := L) (len := ps.length) (fun k ms => ms = tabM n n (arcT t f w (ps.take k))) (R := fun o => o = some (tabM n n (arcT t f w ps))) ?_ ?_ rfl hn
  · rintro m k ms hk rfl
    have hx : ps[k]? = some ps[k] := List.getElem?_eq_getElem hk
    refine .inl ⟨_, hL m k ps[k] _ hk hx, tabM_congr fun i j _ _ => ?_⟩
    rw [List.take_add_one, hx]
    exact (arcT_snoc t f w (ps.take k) ps[k] i j).symm
  · rintro m ms rfl
    rw [hE m, List.take_length]

/-! ### The star, both ways -/
theorem tms_ta {M K a b : Int} (ha : Okw M a) (hb : Okw K b) (hM : M ≤ 10000000000) (hK : K ≤ 10000000000) : tms a b = ta a b := by
  unfold tms ta
  unfold Okw at ha hb
  by_cases h1 : a = -1000000000000000
  · subst h1; rw [if_pos (.inl rfl)]; rfl
  · by_cases h2 : b = -1000000000000000
    · subst h2; rw [if_pos (.inr rfl), beq_self_eq_true, Bool.or_true]; rfl
    · rw [if_neg (by omega), beq_false_of_ne h1, beq_false_of_ne h2]
      exact wr (by omega) (by omega)

theorem addm_tab {n : Nat} {f g : Nat → Nat → Int} : addm (tabM n n f) (tabM n n g) = tabM n n fun i j => max (f i j) (g i j) := by
  refine tabM_of (by rw [addm_len, tabM_len]) (fun i hi => ?_)
  unfold addm
  rw [List.getElem?_map, tabM_len, List.getElem?_range hi]
  refine congrArg some (row_of ?_ (fun j hj => ?_))
  · rw [addv_len, List.getD_eq_getElem?_getD, tabM_row hi]; simp
  · unfold addv
    have hl : ((tabM n n f).getD i []).length = n := by rw [List.getD_eq_getElem?_getD, tabM_row hi]; simp
    show ((List.range ((tabM n n f).getD i []).length).map fun q => max (((tabM n n f).getD i []).getD q 0) (((tabM n n g).getD i []).getD q 0))[j]? = _
    rw [hl, tabM_at hj, tabM_get hi hj, tabM_get hi hj]

theorem unitM_tab (n : Nat) : unitM n = tabM n n un := rfl

theorem rows_tab {n : Nat} {f : Nat → Nat → Int} (hn : n ≤ 10) : ∀ r, r ∈ tabM n n f → r.length ≤ 1048576 := fun r hr => by rw [tabM_rows r hr]; omega

theorem getD_tab {n i : Nat} {f : Nat → Nat → Int} (hi : i < n) : ((tabM n n f).getD i []).length = n := by
  rw [List.getD_eq_getElem?_getD, tabM_row hi]; simp


theorem mulM_tab {n : Nat} {f g : Nat → Nat → Int} {M K : Int} (hf : ∀ i j, i < n → j < n → Okw M (f i j)) (hg : ∀ i j, i < n → j < n → Okw K (g i j)) (hM : M ≤ 10000000000) (hK : K ≤ 10000000000) : mulM (tabM n n f) (tabM n n g) n = tabM n n fun i j => mx n fun q => ta (f i q) (g q j) := by
  unfold mulM
  rw [tabM_len, tabM_len]
  refine tabM_congr fun i j hi hj => ?_
  have : ∀ k, k ≤ n → dotM (tabM n n f) (tabM n n g) i j k = mx k fun q => ta (f i q) (g q j) := by
    intro k
    induction k with
    | zero => intro _; rfl
    | succ k ih =>
      intro hk
      rw [dotM_succ, mx_succ, ih (by omega), tabM_get hi (show k < n by omega), tabM_get (show k < n by omega) hj, tms_ta (hf i k hi (by omega)) (hg k j (by omega) hj) hM hK]
  exact this n (Nat.le_refl _)

/-! ### Runs of a system -/
def sr : Option (List Int × List Int) → Sum (List Int × List Int × Bool) (List Int × List Int)
  | none => .inl ([], [], false)
  | some p => .inr p

def ir : Option (List Int × List Int) → Sum (List Int × List Int × Int) (List Int × List Int)
  | none => .inl ([], [], 3)
  | some p => .inr p

def so : Option (List Int) → Sum (List Int × Bool) (List Int)
  | none => .inl ([], false)
  | some l => .inr l

def io : Option (List Int) → Sum (List Int × Int) (List Int)
  | none => .inl ([], 3)
  | some l => .inr l

def placeB (e : Int) (p : GPlace) : Bool := inB p.From 0 e && (inB p.To 0 e && (inB p.Delay 0 1000 && inB p.Tokens 0 5))

def graphB (g : GEventGraph) : Bool := g.Places.all (placeB (IntKind.i64.wrap (g.Events - 1))) && (inB g.Events 1 10 && decide ((g.Places.length : Int) ≤ 30))


theorem specPlace_is {F : Nat} {p : GPlace} {n : Int} : spec_l11Place F p n = some (placeB (IntKind.i64.wrap (n - 1)) p) := by
  simp only [spec_l11Place, specIn_is, Option.bind_some, cond_and]; rfl

theorem implPlace_is {F : Nat} {g : GEventGraph} {p : GPlace} : impl_isPlace F g p = some (placeB (IntKind.i64.wrap (g.Events - 1)) p) := by
  simp only [impl_isPlace, impl_isEvent, within_is, Option.bind_some, cond_and]; rfl


theorem specGraph_is {F : Nat} {g : GEventGraph} (hF : 134217728 ≤ F) (hl : g.Places.length ≤ 1048576) : spec_IsEventGraph F g = some (graphB g) := by
  unfold spec_IsEventGraph
  rw [all_loop (ps := g.Places) (g := placeB (IntKind.i64.wrap (g.Events - 1))) (r := false) (L := spec_IsEventGraph_L1 F g) ?_ ?_ (by omega)]
  · simp only [specIn_is, Option.bind_some, cond_and, graphB]
    cases g.Places.all (placeB (IntKind.i64.wrap (g.Events - 1))) <;> rfl
  · intro n k x hk hx
    simp only [spec_IsEventGraph_L1, bdT (show (k : Int) < (g.Places.length : Int) by omega), idx_nat, hx, Option.bind_some, specPlace_is, condn, wrN (show k ≤ 67108864 by omega)]
  · intro n
    simp only [spec_IsEventGraph_L1, bdF (show ¬ (g.Places.length : Int) < (g.Places.length : Int) by omega)]


theorem implGraph_is {F : Nat} {g : GEventGraph} (hF : 134217728 ≤ F) (hl : g.Places.length ≤ 1048576) : impl_IsEventGraph F g = some (graphB g) := by
  simp only [impl_IsEventGraph, within_is, Option.bind_some, slices_ContainsFunc_Place_is (h := fun p => !placeB (IntKind.i64.wrap (g.Events - 1)) p) hF (show g.Places.length ≤ 16777216 by omega) (fun x _ => show impl_IsEventGraph_c1 F x g = _ by simp only [impl_IsEventGraph_c1, implPlace_is, Option.bind_some]), cond_and, graphB]
  rw [any_not, Bool.not_not]
  cases g.Places.all (placeB (IntKind.i64.wrap (g.Events - 1))) <;> cases inB g.Events 1 10 <;> cases decide ((g.Places.length : Int) ≤ 30) <;> rfl


theorem graphB_true {g : GEventGraph} (h : graphB g = true) : 1 ≤ g.Events ∧ g.Events ≤ 10 ∧ g.Places.length ≤ 30 ∧ IntKind.i64.wrap (g.Events - 1) = g.Events - 1 ∧ ∀ p, p ∈ g.Places → 0 ≤ p.From ∧ p.From < g.Events ∧ 0 ≤ p.To ∧ p.To < g.Events := by
  unfold graphB at h
  simp only [Bool.and_eq_true, inB_true, decide_eq_true_eq, List.all_eq_true] at h
  obtain ⟨hp, ⟨h1, h2⟩, h3⟩ := h
  have hw : IntKind.i64.wrap (g.Events - 1) = g.Events - 1 := wr (by omega) (by omega)
  refine ⟨h1, h2, by omega, hw, fun p hm => ?_⟩
  have := hp p hm
  rw [hw] at this
  simp only [placeB, Bool.and_eq_true, inB_true] at this
  omega

theorem graphB_range {g : GEventGraph} (h : graphB g = true) : ∀ p, p ∈ g.Places → 0 ≤ p.From ∧ p.From < g.Events ∧ 0 ≤ p.To ∧ p.To < g.Events ∧ 0 ≤ p.Delay ∧ p.Delay ≤ 1000 ∧ 0 ≤ p.Tokens ∧ p.Tokens ≤ 5 := by
  have hw := (graphB_true h).2.2.2.1
  unfold graphB at h
  simp only [Bool.and_eq_true, inB_true, decide_eq_true_eq, List.all_eq_true] at h
  intro p hm
  have := h.1 p hm
  rw [hw] at this
  simp only [placeB, Bool.and_eq_true, inB_true] at this
  omega

/-! ### Weights of a graph's places at a period -/
def plT (p : GPlace) : Nat := p.To.toNat

def plF (p : GPlace) : Nat := p.From.toNat

/-- a place's weight at a period -/
def plW (r : Int) (p : GPlace) : Int := p.Delay - r * p.Tokens

theorem plW_bd {g : GEventGraph} (h : graphB g = true) {r : Int} (h0 : 0 ≤ r) (h1 : r ≤ 100000) {p : GPlace} (hp : p ∈ g.Places) : -1000000 ≤ plW r p ∧ plW r p ≤ 1000000 ∧ IntKind.i64.wrap (IntKind.i64.wrap (1 * p.Delay) - IntKind.i64.wrap (r * p.Tokens)) = plW r p := by
  have h5 := graphB_range h
  have := h5 p hp
  have h6 : 0 ≤ r * p.Tokens := Int.mul_nonneg h0 (by omega)
  have h7 : r * p.Tokens ≤ 100000 * 5 := Int.mul_le_mul h1 (by omega) (by omega) (by omega)
  unfold plW
  refine ⟨by omega, by omega, ?_⟩
  rw [wr (show -9223372036854775808 ≤ 1 * p.Delay by omega) (by omega), wr (show -9223372036854775808 ≤ r * p.Tokens by omega) (by omega), wr (by omega) (by omega)]
  omega

/-- the table of the weights -/
def wT (g : GEventGraph) (r : Int) : Nat → Nat → Int := arcT plT plF (plW r) g.Places

theorem wT_ok {g : GEventGraph} (h : graphB g = true) {r : Int} (h0 : 0 ≤ r) (h1 : r ≤ 100000) (n : Nat) : TabOk (wT g r) n := arcT_ok (fun _x hx => ⟨(plW_bd h h0 h1 hx).1, (plW_bd h h0 h1 hx).2.1⟩) n

theorem pl_at {g : GEventGraph} (h : graphB g = true) {p : GPlace} (hp : p ∈ g.Places) : p.To = (plT p : Int) ∧ p.From = (plF p : Int) ∧ plT p < g.Events.toNat ∧ plF p < g.Events.toNat := by
  have h5 := graphB_range h
  have := h5 p hp
  unfold plT plF
  omega

/-! ### Tables on vectors -/
theorem applyv_tab {n : Nat} {T : Nat → Nat → Int} {x : List Int} {M K : Int} (hT : ∀ i j, i < n → j < n → Okw M (T i j)) (hx : ∀ q, q < n → Okw K (x.getD q 0)) (hM : M ≤ 10000000000) (hK : K ≤ 10000000000) : applyv (tabM n n T) x = (List.range n).map fun i => mx n fun q => ta (T i q) (x.getD q 0) := by
  unfold applyv tabM
  rw [List.map_map]
  apply List.map_congr_left
  intro i hi
  have hi' : i < n := by simpa using hi
  show dotv ((List.range n).map fun j => T i j) x ((List.range n).map fun j => T i j).length = _
  rw [List.length_map, List.length_range]
  have : ∀ k, k ≤ n → (List.range k).foldl (fun acc q => max acc (tms (((List.range n).map fun j => T i j).getD q 0) (x.getD q 0))) (-1000000000000000) = mx k fun q => ta (T i q) (x.getD q 0) := by
    intro k
    induction k with
    | zero => intro _; rfl
    | succ k ih =>
      intro hk
      rw [List.range_succ, List.foldl_append, ih (by omega), mx_succ]
      show max _ (tms (((List.range n).map fun j => T i j).getD k 0) (x.getD k 0)) = _
      rw [List.getD_eq_getElem?_getD, tabM_at (show k < n by omega), Option.getD_some, tms_ta (hT i k hi' (by omega)) (hx k (by omega)) hM hK]
  exact this n (Nat.le_refl _)

/-! ### The delay matrix of a token count -/
/-- the table of the delays of the places with so many tokens -/
def dM (g : GEventGraph) (m : Int) : Nat → Nat → Int := arcT plT plF (fun p => p.Delay) (g.Places.filter fun p => p.Tokens == m)

theorem dM_ok {g : GEventGraph} (h : graphB g = true) (m : Int) (n : Nat) : TabOk (dM g m) n := arcT_ok (fun x hx => by
  have := graphB_range h x (List.mem_filter.1 hx).1
  omega) n

def startsB (g : GEventGraph) (xs : List Int) : Bool := ((xs.length : Int) == g.Events) && xs.all fun x => inB x 0 1000000

theorem getI {xs : List Int} {i : Int} (h0 : 0 ≤ i) (h1 : i < (xs.length : Int)) : idx xs i = some (xs.getD i.toNat 0) := by
  rw [idx_int h0 h1, List.getD_eq_getElem?_getD, List.getElem?_eq_getElem (by omega)]; rfl

/-! ### Lists of nodes -/
def nl (o : List Nat) : List Int := o.map fun (x : Nat) => (x : Int)

theorem nl_len (o : List Nat) : (nl o).length = o.length := by unfold nl; simp

theorem nl_app (o : List Nat) (x : Nat) : nl o ++ [(x : Int)] = nl (o ++ [x]) := by unfold nl; simp

theorem nl_at (o : List Nat) (i : Nat) : (nl o)[i]? = (o[i]?).map fun (x : Nat) => (x : Int) := by unfold nl; simp

theorem nl_has (o : List Nat) (x : Nat) : ((nl o).any fun y => y == (x : Int)) = o.contains x := by
  apply Bool.eq_iff_iff.2
  simp only [nl, List.any_map, List.any_eq_true, Function.comp_apply, beq_iff_eq, List.contains_iff_mem]
  constructor
  · rintro ⟨y, hy, e⟩
    have : y = x := by omega
    exact this ▸ hy
  · intro h; exact ⟨x, h, rfl⟩

/-! ### Liveness -/
def mat0 (E : Nat → Nat → Bool) (n : Nat) : List (List Int) := (List.range n).map fun v => (List.range n).map fun u => bif E u v then 0 else (-1000000000000000)

theorem mat0_row {E : Nat → Nat → Bool} {n v : Nat} (hv : v < n) : (mat0 E n)[v]? = some ((List.range n).map fun u => bif E u v then 0 else (-1000000000000000)) := by
  unfold mat0; rw [List.getElem?_map, List.getElem?_range hv]; rfl

theorem map_range_set {α : Type} (f : Nat → α) (n i : Nat) (y : α) : ((List.range n).map f).set i y = (List.range n).map fun j => if j = i then y else f j := by
  apply List.ext_getElem?; intro q
  by_cases hq : q < n
  · by_cases e : q = i
    · subst e
      rw [set_here (by simpa using hq), List.getElem?_map, List.getElem?_range hq]; simp
    · rw [set_keep e, List.getElem?_map, List.getElem?_map, List.getElem?_range hq]; simp [e]
  · rw [List.getElem?_eq_none (by simp; omega), List.getElem?_eq_none (by simp; omega)]

theorem mat0_set {E : Nat → Nat → Bool} {n u v : Nat} : (mat0 E n).set v (((List.range n).map fun u' => bif E u' v then (0 : Int) else (-1000000000000000)).set u 0) = mat0 (fun u' v' => E u' v' || (v' == v && u' == u)) n := by
  unfold mat0
  rw [map_range_set, map_range_set]
  apply List.map_congr_left; intro v' _
  by_cases hv : v' = v
  · subst hv
    rw [if_pos rfl]
    apply List.map_congr_left; intro u' _
    by_cases hu : u' = u
    · subst hu; simp
    · rw [if_neg hu]; simp only [beq_false_of_ne hu, Bool.and_false, Bool.or_false]
  · rw [if_neg hv]
    apply List.map_congr_left; intro u' _
    simp only [beq_false_of_ne hv, Bool.false_and, Bool.or_false]

/-- the free places' relation -/
def eP (ps : List GPlace) (u v : Nat) : Bool := ps.any fun p => p.Tokens == 0 && (p.To == (v : Int) && p.From == (u : Int))

structure GOk (g : GEventGraph) (n : Nat) : Prop where
  ev : g.Events = (n : Int)
  n1 : 1 ≤ n
  n10 : n ≤ 10
  len : g.Places.length ≤ 30
  at' : ∀ p, p ∈ g.Places → ∃ u v : Nat, p.From = (u : Int) ∧ p.To = (v : Int) ∧ u < n ∧ v < n

theorem GOk.of {g : GEventGraph} (h : graphB g = true) : GOk g g.Events.toNat := by
  obtain ⟨h1, h2, h3, _, h4⟩ := graphB_true h
  exact ⟨by omega, by omega, by omega, h3, fun p hp => ⟨p.From.toNat, p.To.toNat, by have := h4 p hp; omega, by have := h4 p hp; omega, by have := h4 p hp; omega, by have := h4 p hp; omega⟩⟩

theorem GOk.edge {g : GEventGraph} {n : Nat} (h : GOk g n) : ∀ u v, eP g.Places u v = true → u < n ∧ v < n := by
  intro u v he
  unfold eP at he
  rw [List.any_eq_true] at he
  obtain ⟨p, hp, hq⟩ := he
  simp only [Bool.and_eq_true, beq_iff_eq] at hq
  obtain ⟨u', v', h1, h2, h3, h4⟩ := h.at' p hp
  omega

/-- a written cycle that goes on from a path -/
def Ext (E : Nat → Nat → Bool) (n f : Nat) (p : List Nat) (l : Nat) (q : List Nat) : Prop := (∀ x, x ∈ q → f < x ∧ x < n) ∧ (p ++ q).Nodup ∧ Chain E l q f

/-- is the firing order complete -/
def liveB (g : GEventGraph) (n : Nat) : Bool := (fire (eP g.Places) n n []).isSome

theorem ready_is {g : GEventGraph} {n : Nat} (h : GOk g n) {o : List Nat} {e : Nat} : (!(g.Places.any fun p => p.To == (e : Int) && (p.Tokens == 0 && !((nl o).any fun y => y == p.From)))) = (List.range n).all fun u => !eP g.Places u e || o.contains u := by
  apply Bool.eq_iff_iff.2
  rw [Bool.not_eq_true', List.any_eq_false, List.all_eq_true]
  constructor
  · intro H u hu
    cases he : eP g.Places u e with
    | false => rfl
    | true =>
      unfold eP at he
      rw [List.any_eq_true] at he
      obtain ⟨p, hp, hq⟩ := he
      simp only [Bool.and_eq_true, beq_iff_eq] at hq
      have := H p hp
      rw [hq.1, hq.2.1, hq.2.2, nl_has] at this
      simpa using this
  · intro H p hp hc
    simp only [Bool.and_eq_true, beq_iff_eq, Bool.not_eq_true'] at hc
    obtain ⟨u, v, h1, h2, h3, h4⟩ := h.at' p hp
    have := H u (by simpa using h3)
    rw [h1, nl_has] at hc
    rw [Bool.or_eq_true] at this
    rcases this with h5 | h5
    · have : eP g.Places u e = true := by
        unfold eP
        rw [List.any_eq_true]
        exact ⟨p, hp, by simp only [Bool.and_eq_true, beq_iff_eq]; exact ⟨hc.2.1, hc.1, h1⟩⟩
      rw [this] at h5; cases h5
    · rw [h5] at hc; simp at hc

def nextI : Option Nat → Int
  | some e => (e : Int)
  | none => -1

/-! ### Squares as tables -/
def entryOf (a : List (List Int)) (i j : Nat) : Int := (a.getD i []).getD j 0

theorem square_tab {a : List (List Int)} (h : squareB a = true) : 1 ≤ a.length ∧ a.length ≤ 10 ∧ a = tabM a.length a.length (entryOf a) ∧ TabOk (entryOf a) a.length := by
  unfold squareB at h
  rw [Bool.and_eq_true, beq_iff_eq] at h
  obtain ⟨hm, h2⟩ := h
  unfold matB at hm
  rw [Bool.and_eq_true, inB_true, List.all_eq_true] at hm
  obtain ⟨h3, h4⟩ := hm
  have hr : ∀ r, r ∈ a → r.length = a.length := fun r hr => by
    have := h4 r hr
    rw [Bool.and_eq_true, beq_iff_eq] at this
    omega
  refine ⟨by omega, by omega, tabM_self rfl hr, fun i j hi hj => ?_⟩
  have e : a[i]? = some (a.getD i []) := by rw [List.getD_eq_getElem?_getD, List.getElem?_eq_getElem hi]; rfl
  have hrow := List.mem_of_getElem? e
  have h5 := h4 _ hrow
  rw [Bool.and_eq_true] at h5
  have h6 := h5.1
  unfold vecB at h6
  rw [Bool.and_eq_true, List.all_eq_true] at h6
  have hjl : j < (a.getD i []).length := by rw [hr _ hrow]; exact hj
  have h7 := h6.2 _ (List.mem_of_getElem? (getD_of hjl))
  unfold valB at h7
  rw [Bool.or_eq_true, beq_iff_eq, inB_true] at h7
  exact h7

/-! ### Searches for cycles -/
theorem nl_first {p : List Nat} (h : p ≠ []) : idx (nl p) 0 = some (headN p : Int) := by
  cases p with
  | nil => exact absurd rfl h
  | cons x p => rw [show (0 : Int) = ((0 : Nat) : Int) from rfl, idx_nat, nl_at]; rfl

theorem nl_last {p : List Nat} (h : p ≠ []) (hl : p.length ≤ 1000) : idx (nl p) (IntKind.i64.wrap (((nl p).length : Int) - 1)) = some (lastN p : Int) := by
  have h0 := List.length_pos_iff.2 h
  rw [nl_len, wr (by omega) (by omega), show ((p.length : Int) - 1) = ((p.length - 1 : Nat) : Int) by omega, idx_nat, nl_at]
  unfold lastN
  rw [List.getLastD_eq_getLast?, List.getLast?_eq_getElem?]
  cases hp : p[p.length - 1]? with
  | none => rw [List.getElem?_eq_none_iff] at hp; omega
  | some x => rfl

theorem first_lt {n : Nat} {p : List Nat} (h : p ≠ []) (hp : ∀ x, x ∈ p → x < n) : headN p < n := by
  cases p with
  | nil => exact absurd rfl h
  | cons x p => exact hp x (by simp)

theorem last_mem {p : List Nat} (h : p ≠ []) : lastN p ∈ p := by
  unfold lastN
  rw [List.getLastD_eq_getLast?, List.getLast?_eq_some_getLast h]
  exact List.getLast_mem h

/-- a path of a search -/
structure PathOk (f : Nat → Nat → Int) (n : Nat) (p : List Nat) : Prop where
  ne : p ≠ []
  nodup : p.Nodup
  lt : ∀ x, x ∈ p → x < n
  w0 : -1000000 * (p.length : Int) ≤ pathw f p
  w1 : pathw f p ≤ 1000000 * (p.length : Int)

theorem PathOk.one (f : Nat → Nat → Int) {n v : Nat} (h : v < n) : PathOk f n [v] := ⟨by simp, by simp, fun x hx => by simp at hx; omega, by show _ ≤ (0 : Int); simp, by show (0 : Int) ≤ _; simp⟩

theorem PathOk.next {f : Nat → Nat → Int} {n v : Nat} {p : List Nat} (hf : TabOk f n) (h : PathOk f n p) (hv : v < n) (hc : candW f p v = true) : PathOk f n (p ++ [v]) ∧ pathw f (p ++ [v]) = pathw f p + f v (lastN p) ∧ f v (lastN p) ≠ -1000000000000000 := by
  unfold candW at hc
  rw [Bool.and_eq_true, Bool.and_eq_true] at hc
  have hnv : v ∉ p := by simpa using hc.2
  have ha := arcB_true.1 hc.1.2
  have hb := hf v (lastN p) hv (h.lt _ (last_mem h.ne))
  have e := pathw_snoc f v h.ne
  have h0 := h.w0
  have h1 := h.w1
  unfold Okw at hb
  refine ⟨⟨by simp, ?_, fun x hx => ?_, ?_, ?_⟩, e, ha⟩
  · rw [List.nodup_append]
    refine ⟨h.nodup, by simp, fun x hx y hy => ?_⟩
    simp only [List.mem_singleton] at hy
    subst hy
    exact fun e => hnv (e ▸ hx)
  · rcases List.mem_append.1 hx with hx | hx
    · exact h.lt x hx
    · simp only [List.mem_singleton] at hx; subst hx; exact hv
  · rw [e, List.length_append, List.length_singleton]; omega
  · rw [e, List.length_append, List.length_singleton]; omega

/-- which nodes behind the first are used -/
def UsedOk (n : Nat) (p : List Nat) (u : List Bool) : Prop := u.length = n ∧ ∀ v, v < n → headN p < v → u[v]? = some (p.contains v)

theorem gdfs_ne {acc : List Nat → Bool} {cand : List Nat → Nat → Bool} {N k v : Nat} {r : List Nat} (h : gdfs acc cand N k [v] = some r) : r ≠ [] := by
  obtain ⟨_, q, e, _⟩ := gdfs_some h
  rw [e]; simp

theorem nl_ne {p : List Nat} (h : p ≠ []) : nl p ≠ [] := by
  cases p with
  | nil => exact absurd rfl h
  | cons x p => exact List.cons_ne_nil _ _

/-! ### Positive cycles, by the program -/
theorem squareB_tab {n : Nat} {f : Nat → Nat → Int} (h1 : 1 ≤ n) (hn : n ≤ 10) (hf : TabOk f n) : squareB (tabM n n f) = true := by
  have h0 : firstL (tabM n n f) = (n : Int) := by
    unfold firstL
    rw [List.getD_eq_getElem?_getD, tabM_row (show 0 < n by omega)]; simp
  unfold squareB matB
  rw [h0, tabM_len, Bool.and_eq_true, Bool.and_eq_true, inB_true, List.all_eq_true, beq_iff_eq]
  refine ⟨⟨by omega, fun r hr => ?_⟩, rfl⟩
  have hl := tabM_rows r hr
  unfold vecB
  rw [Bool.and_eq_true, Bool.and_eq_true, inB_true, beq_iff_eq, List.all_eq_true, hl]
  refine ⟨⟨by omega, fun x hx => ?_⟩, rfl⟩
  obtain ⟨i, hi, rfl⟩ := List.getElem_of_mem hr
  rw [tabM_len] at hi
  have e : (tabM n n f)[i] = (List.range n).map fun j => f i j := by
    have := tabM_row (m := n) (n := n) (f := f) hi
    rw [List.getElem?_eq_getElem (by rw [tabM_len]; exact hi)] at this
    exact Option.some.inj this
  rw [e, List.mem_map] at hx
  obtain ⟨j, hj, rfl⟩ := hx
  have := hf i j hi (by simpa using hj)
  unfold valB
  rw [Bool.or_eq_true, beq_iff_eq, inB_true]
  exact this

/-! ### The program's search for a better circuit -/
def tb (n : Nat) (x : Nat → Int) : List Int := (List.range n).map x

theorem tb_len (n : Nat) (x : Nat → Int) : (tb n x).length = n := by unfold tb; simp

theorem tb_at {n i : Nat} {x : Nat → Int} (h : i < n) : (tb n x)[i]? = some (x i) := by unfold tb; rw [List.getElem?_map, List.getElem?_range h]; rfl

theorem tb_set (n i : Nat) (x : Nat → Int) (y : Int) : (tb n x).set i y = tb n fun j => if j = i then y else x j := by unfold tb; rw [map_range_set]

theorem tb_zero (n : Nat) : List.replicate n (0 : Int) = tb n fun _ => 0 := by
  unfold tb
  apply List.ext_getElem? ; intro i
  rw [List.getElem?_replicate, List.getElem?_map]
  by_cases h : i < n
  · rw [if_pos h, List.getElem?_range h]; rfl
  · rw [if_neg h, List.getElem?_eq_none (by simpa using h)]; rfl

theorem wT_arcs {g : GEventGraph} (h : graphB g = true) {r : Int} (h0 : 0 ≤ r) (h1 : r ≤ 100000) : Arcs (wT g r) g.Events.toNat plT plF (plW r) g.Places :=
  ⟨fun _p hp => ⟨(pl_at h hp).2.2.1, (pl_at h hp).2.2.2⟩, fun _p hp => ⟨(plW_bd h h0 h1 hp).1, (plW_bd h h0 h1 hp).2.1⟩, fun _p hp => arcT_ge hp, fun i j => arcT_cases g.Places i j⟩

/-- the places last taken -/
def ViaOk (n m : Nat) (vs : List Nat) : Prop := vs.length = n ∧ ∀ v, v ∈ vs → v < m

theorem via_set {n m : Nat} {vs : List Nat} (h : ViaOk n m vs) {k : Nat} (hk : k < m) (i : Nat) : ViaOk n m (vs.set i k) := ⟨by rw [List.length_set]; exact h.1, fun v hv => by
  rcases List.mem_or_eq_of_mem_set hv with h1 | h1
  · exact h.2 v h1
  · omega⟩

theorem nl_set (vs : List Nat) (i k : Nat) : (nl vs).set i (k : Int) = nl (vs.set i k) := by
  unfold nl; rw [List.map_set]

theorem better_round {F : Nat} {g : GEventGraph} {r : Int} (hF : 134217728 ≤ F) (h : graphB g = true) (h0 : 0 ≤ r) (h1 : r ≤ 100000) {x : Nat → Int} {M : Int} (hM : 0 ≤ M) (hM1 : M ≤ 1000000000000) (hx : ∀ i, i < g.Events.toNat → -M ≤ x i ∧ x i ≤ M) {vs : List Nat} (hv : ViaOk g.Events.toNat g.Places.length vs) :
    ∃ vs' e, impl_betterCircuit_L5 F g ⟨r, 1⟩ F (tb g.Events.toNat x) (nl vs) (-1) 0 = some (tb g.Events.toNat (rnd plT plF (plW r) x g.Places), nl vs', e) ∧ ViaOk g.Events.toNat g.Places.length vs' ∧ ((e = -1 ∧ chd plT plF (plW r) x g.Places = false) ∨ ∃ e' : Nat, e = (e' : Int) ∧ e' < g.Events.toNat ∧ chd plT plF (plW r) x g.Places = true) := by
  obtain ⟨e1, e2, e3, _, _⟩ := graphB_true h
  have hA := wT_arcs h h0 h1
  refine for0 (L := fun m (s : List Int × List Int × Int) i => impl_betterCircuit_L5 F g ⟨r, 1⟩ m s.1 s.2.1 s.2.2 i) (len := g.Places.length)
    (fun k s => s.1 = tb g.Events.toNat (rnd plT plF (plW r) x (g.Places.take k)) ∧ ∃ vs', s.2.1 = nl vs' ∧ ViaOk g.Events.toNat g.Places.length vs' ∧ ((s.2.2 = -1 ∧ chd plT plF (plW r) x (g.Places.take k) = false) ∨ ∃ e' : Nat, s.2.2 = (e' : Int) ∧ e' < g.Events.toNat ∧ chd plT plF (plW r) x (g.Places.take k) = true))
    (R := fun o => ∃ vs' e, o = some (tb g.Events.toNat (rnd plT plF (plW r) x g.Places), nl vs', e) ∧ ViaOk g.Events.toNat g.Places.length vs' ∧ ((e = -1 ∧ chd plT plF (plW r) x g.Places = false) ∨ ∃ e' : Nat, e = (e' : Int) ∧ e' < g.Events.toNat ∧ chd plT plF (plW r) x g.Places = true)) (s := (tb g.Events.toNat x, nl vs, -1)) ?_ ?_ ⟨rfl, vs, rfl, hv, .inl ⟨rfl, rfl⟩⟩ (by omega)
  · rintro m k ⟨xs, us, e⟩ hk ⟨rfl, vs', rfl, hv', he⟩
    have hp : g.Places[k]? = some g.Places[k] := List.getElem?_eq_getElem hk
    have hmem := List.getElem_mem hk
    rw [List.take_add_one, hp, Option.toList_some, rnd_snoc, chd_snoc]
    have hy := rnd_bd (t := plT) (f := plF) (w := plW r) (n := g.Events.toNat) (ps := g.Places.take k) (x := x) (M := M) (fun p hp => ⟨hA.lt p (List.mem_of_mem_take hp), hA.bd p (List.mem_of_mem_take hp)⟩) hx
    have hl : (g.Places.take k).length ≤ 30 := by rw [List.length_take]; omega
    generalize (g.Places.take k).length = l at hy hl
    generalize rnd plT plF (plW r) x (g.Places.take k) = y at hy
    generalize chd plT plF (plW r) x (g.Places.take k) = b at he
    generalize g.Places[k] = p at hp hmem
    obtain ⟨a1, a2, a3, a4⟩ := pl_at h hmem
    obtain ⟨b1, b2, a5⟩ := plW_bd h h0 h1 hmem
    have y1 := hy _ a3
    have y2 := hy _ a4
    have hw : IntKind.i64.wrap (y (plF p) + plW r p) = y (plF p) + plW r p := wr (by omega) (by omega)
    have hwk : IntKind.i64.wrap ((k : Int) + 1) = ((k + 1 : Nat) : Int) := wrN (by omega)
    by_cases hc : y (plT p) < y (plF p) + plW r p
    · refine .inl ⟨(tb g.Events.toNat (stp plT plF (plW r) y p), nl (vs'.set (plT p) k), (plT p : Int)), ?_, rfl, _, rfl, via_set hv' hk _, .inr ⟨plT p, rfl, a3, ?_⟩⟩
      · simp only [impl_betterCircuit_L5, impl_placeWeight, bdT (show (k : Int) < (g.Places.length : Int) by omega), idx_nat, hp, Option.bind_some, a5]
        rw [a1, a2]
        simp only [idx_nat, tb_at a3, tb_at a4, Option.bind_some, hw, bdT hc, upd_nat _ (show plT p < (tb g.Events.toNat y).length by rw [tb_len]; exact a3), nl_at, List.getElem?_eq_getElem (show plT p < vs'.length by rw [hv'.1]; exact a3), Option.map_some, upd_nat _ (show plT p < (nl vs').length by rw [nl_len, hv'.1]; exact a3), nl_set, tb_set, hwk]
        congr 2
        funext i
        unfold stp
        by_cases ei : i = plT p
        · rw [if_pos ei, if_pos ei]; omega
        · rw [if_neg ei, if_neg ei]
      · unfold chg; rw [decide_eq_true hc, Bool.or_true]
    · refine .inl ⟨(tb g.Events.toNat (stp plT plF (plW r) y p), nl vs', e), ?_, rfl, _, rfl, hv', ?_⟩
      · rw [stp_same (show y (plF p) + plW r p ≤ y (plT p) by omega)]
        simp only [impl_betterCircuit_L5, impl_placeWeight, bdT (show (k : Int) < (g.Places.length : Int) by omega), idx_nat, hp, Option.bind_some, a5]
        rw [a1, a2]
        simp only [idx_nat, tb_at a3, tb_at a4, Option.bind_some, hw, bdF hc, hwk]
      · have : chg plT plF (plW r) y p = false := chg_false.2 (by omega)
        rw [this, Bool.or_false]; exact he
  · rintro m ⟨xs, us, e⟩ ⟨rfl, vs', rfl, hv', he⟩
    rw [List.take_length] at he
    refine ⟨vs', e, ?_, hv', he⟩
    simp only [impl_betterCircuit_L5, bdF (show ¬ (g.Places.length : Int) < (g.Places.length : Int) by omega), List.take_length]

theorem its_small {g : GEventGraph} {r : Int} (h : graphB g = true) (h0 : 0 ≤ r) (h1 : r ≤ 100000) {x : Nat → Int} {M : Int} (hx : ∀ i, i < g.Events.toNat → -M ≤ x i ∧ x i ≤ M) : ∀ (k i : Nat), i < g.Events.toNat → -(M + 30000000 * (k : Int)) ≤ its plT plF (plW r) x g.Places k i ∧ its plT plF (plW r) x g.Places k i ≤ M + 30000000 * (k : Int) := by
  intro k
  have hA := wT_arcs h h0 h1
  obtain ⟨_, _, e3, _, _⟩ := graphB_true h
  induction k with
  | zero => intro i hi; have := hx i hi; show -(M + 30000000 * ((0 : Nat) : Int)) ≤ x i ∧ x i ≤ _; omega
  | succ k ih =>
    intro i hi
    have := rnd_bd (t := plT) (f := plF) (w := plW r) (n := g.Events.toNat) (ps := g.Places) (fun p hp => ⟨hA.lt p hp, hA.bd p hp⟩) ih i hi
    show -(M + 30000000 * ((k + 1 : Nat) : Int)) ≤ rnd plT plF (plW r) (its plT plF (plW r) x g.Places k) g.Places i ∧ rnd plT plF (plW r) (its plT plF (plW r) x g.Places k) g.Places i ≤ _
    omega

theorem better_rounds {F : Nat} {g : GEventGraph} {r : Int} (hF : 134217728 ≤ F) (h : graphB g = true) (h0 : 0 ≤ r) (h1 : r ≤ 100000) {vs : List Nat} (hv : ViaOk g.Events.toNat g.Places.length vs ∨ g.Places = []) (hvl : vs.length = g.Events.toNat) :
    (impl_betterCircuit_L4 F g ⟨r, 1⟩ F (tb g.Events.toNat fun _ => 0) (nl vs) (-1) 0 = some (.inl []) ∧ ∃ k, chd plT plF (plW r) (its plT plF (plW r) (fun _ => 0) g.Places k) g.Places = false) ∨ ∃ vs' e, impl_betterCircuit_L4 F g ⟨r, 1⟩ F (tb g.Events.toNat fun _ => 0) (nl vs) (-1) 0 = some (.inr (nl vs', ((e : Nat) : Int))) ∧ ViaOk g.Events.toNat g.Places.length vs' ∧ e < g.Events.toNat ∧ ∀ k, k ≤ g.Events.toNat → chd plT plF (plW r) (its plT plF (plW r) (fun _ => 0) g.Places k) g.Places = true := by
  obtain ⟨e1, e2, e3, _, _⟩ := graphB_true h
  have hw1 : IntKind.i64.wrap (g.Events + 1) = ((g.Events.toNat + 1 : Nat) : Int) := by rw [wr (by omega) (by omega)]; omega
  by_cases hne : g.Places = []
  · left
    have hr : impl_betterCircuit_L5 F g ⟨r, 1⟩ F (tb g.Events.toNat fun _ => 0) (nl vs) (-1) 0 = some (tb g.Events.toNat (fun _ => 0), nl vs, -1) := by
      obtain ⟨m, rfl⟩ : ∃ m, F = m + 1 := ⟨F - 1, by omega⟩
      simp only [impl_betterCircuit_L5, hne, List.length_nil, bdF (show ¬ (0 : Int) < ((0 : Nat) : Int) by omega)]
    refine ⟨?_, 0, by rw [hne]; rfl⟩
    have : ∀ m, impl_betterCircuit_L4 F g ⟨r, 1⟩ (m + 1) (tb g.Events.toNat fun _ => 0) (nl vs) (-1) 0 = some (.inl []) := fun m => by
      simp only [impl_betterCircuit_L4, hw1, bdT (show (0 : Int) < ((g.Events.toNat + 1 : Nat) : Int) by omega), hr, Option.bind_some, show decide ((-1 : Int) < 0) = true from rfl, cond_true]
    rw [show F = (F - 1) + 1 by omega] at *
    exact this _
  have hv : ViaOk g.Events.toNat g.Places.length vs := hv.elim id fun e => absurd e hne
  refine for0 (L := fun m (s : List Int × List Int × Int) i => impl_betterCircuit_L4 F g ⟨r, 1⟩ m s.1 s.2.1 s.2.2 i) (len := g.Events.toNat + 1)
    (fun k s => s.1 = tb g.Events.toNat (its plT plF (plW r) (fun _ => 0) g.Places k) ∧ (∃ vs', s.2.1 = nl vs' ∧ ViaOk g.Events.toNat g.Places.length vs') ∧ (k = 0 ∨ ∃ e' : Nat, s.2.2 = (e' : Int) ∧ e' < g.Events.toNat) ∧ ∀ j, j < k → chd plT plF (plW r) (its plT plF (plW r) (fun _ => 0) g.Places j) g.Places = true)
    (R := fun o => (o = some (.inl []) ∧ ∃ k, chd plT plF (plW r) (its plT plF (plW r) (fun _ => 0) g.Places k) g.Places = false) ∨ ∃ vs' e, o = some (.inr (nl vs', ((e : Nat) : Int))) ∧ ViaOk g.Events.toNat g.Places.length vs' ∧ e < g.Events.toNat ∧ ∀ k, k ≤ g.Events.toNat → chd plT plF (plW r) (its plT plF (plW r) (fun _ => 0) g.Places k) g.Places = true) (s := (tb g.Events.toNat fun _ => 0, nl vs, -1)) ?_ ?_ ⟨rfl, ⟨vs, rfl, hv⟩, .inl rfl, fun j hj => by omega⟩ (by omega)
  · intro m k s hk hs
    have hwk : IntKind.i64.wrap ((k : Int) + 1) = ((k + 1 : Nat) : Int) := wrN (by omega)
    have hbk : 0 + 30000000 * (k : Int) ≤ 1000000000000 := by omega
    have hlt : (k : Int) < ((g.Events.toNat + 1 : Nat) : Int) := by omega
    revert hs
    obtain ⟨xs, us, e⟩ := s
    rintro ⟨rfl, ⟨vs', rfl, hv'⟩, _, hI⟩
    have hb := its_small (r := r) h h0 h1 (x := fun _ => 0) (M := 0) (fun i _ => ⟨by omega, by omega⟩) k
    obtain ⟨vs2, e2, hr, hv2, he⟩ := better_round hF h h0 h1 (x := its plT plF (plW r) (fun _ => 0) g.Places k) (M := 0 + 30000000 * (k : Int)) (by omega) hbk hb hv'
    have S : impl_betterCircuit_L4 F g ⟨r, 1⟩ (m + 1) (tb g.Events.toNat (its plT plF (plW r) (fun _ => 0) g.Places k)) (nl vs') e (k : Int) = bif decide (e2 < 0) then some (.inl []) else impl_betterCircuit_L4 F g ⟨r, 1⟩ m (tb g.Events.toNat (its plT plF (plW r) (fun _ => 0) g.Places (k + 1))) (nl vs2) e2 ((k + 1 : Nat) : Int) := by
      simp only [impl_betterCircuit_L4, hw1, bdT hlt, hr, Option.bind_some, hwk]
      rfl
    rcases he with ⟨rfl, hc⟩ | ⟨e', rfl, he', hc⟩
    · exact .inr (.inl ⟨S.trans rfl, k, hc⟩)
    · refine .inl ⟨(tb g.Events.toNat (its plT plF (plW r) (fun _ => 0) g.Places (k + 1)), nl vs2, (e' : Int)), ?_, rfl, ⟨vs2, rfl, hv2⟩, .inr ⟨e', rfl, he'⟩, fun j hj => ?_⟩
      · exact S.trans (by rw [bdF (show ¬ (e' : Int) < 0 by omega)])
      · by_cases ej : j = k
        · subst ej; exact hc
        · exact hI j (by omega)
  · rintro m ⟨xs, us, e⟩ ⟨rfl, ⟨vs', rfl, hv'⟩, he, hI⟩
    rcases he with he | ⟨e', rfl, he'⟩
    · omega
    · refine .inr ⟨vs', e', ?_, hv', he', fun k hk => hI k (by omega)⟩
      simp only [impl_betterCircuit_L4, hw1, bdF (show ¬ ((g.Events.toNat + 1 : Nat) : Int) < ((g.Events.toNat + 1 : Nat) : Int) by omega)]

/-- one step back -/
def backN (g : GEventGraph) (vs : List Nat) (v : Nat) : Nat := plF ((g.Places[(vs[v]?).getD 0]?).getD ⟨0, 0, 0, 0⟩)

theorem back_at {g : GEventGraph} (h : graphB g = true) {vs : List Nat} (hv : ViaOk g.Events.toNat g.Places.length vs) {v : Nat} (hn : v < g.Events.toNat) : ∃ u p, vs[v]? = some u ∧ g.Places[u]? = some p ∧ p.From = (backN g vs v : Int) ∧ backN g vs v < g.Events.toNat := by
  have hl : v < vs.length := by rw [hv.1]; exact hn
  have hu := hv.2 _ (List.getElem_mem hl)
  have e1 := List.getElem?_eq_getElem hl
  have e2 := List.getElem?_eq_getElem hu
  obtain ⟨_, a2, _, a4⟩ := pl_at h (List.getElem_mem hu)
  refine ⟨_, _, e1, e2, ?_, ?_⟩
  · unfold backN; rw [e1, Option.getD_some, e2, Option.getD_some]; exact a2
  · unfold backN; rw [e1, Option.getD_some, e2, Option.getD_some]; exact a4

def itn (φ : Nat → Nat) : Nat → Nat → Nat
  | 0, v => v
  | k + 1, v => itn φ k (φ v)

theorem itn_succ (φ : Nat → Nat) : ∀ (k v : Nat), itn φ (k + 1) v = φ (itn φ k v)
  | 0, _ => rfl
  | k + 1, v => itn_succ φ k (φ v)

theorem itn_add (φ : Nat → Nat) (i : Nat) : ∀ (j v : Nat), itn φ (i + j) v = itn φ i (itn φ j v)
  | 0, _ => rfl
  | j + 1, v => itn_add φ i j (φ v)

theorem itn_lt {φ : Nat → Nat} {n : Nat} (h : ∀ v, v < n → φ v < n) : ∀ (k : Nat) {v : Nat}, v < n → itn φ k v < n
  | 0, _, hv => hv
  | k + 1, _, hv => itn_lt h k (h _ hv)

theorem itn_back {φ : Nat → Nat} {n : Nat} (h : ∀ v, v < n → φ v < n) {v : Nat} (hv : v < n) : ∃ d, d < n ∧ itn φ (d + 1) (itn φ n v) = itn φ n v := by
  obtain ⟨p, q, h1, h2, h3⟩ := pigeon_n (n := n) (c := fun t => itn φ t v) (fun t _ => itn_lt h t hv)
  have h3 : itn φ p v = itn φ q v := h3
  refine ⟨q - p - 1, by omega, ?_⟩
  rw [show q - p - 1 + 1 = q - p by omega, ← itn_add, show q - p + n = (n - p) + q by omega, itn_add, ← h3, ← itn_add, show n - p + p = n by omega]

theorem better_back {F : Nat} {g : GEventGraph} (hF : 134217728 ≤ F) (h : graphB g = true) {vs : List Nat} (hv : ViaOk g.Events.toNat g.Places.length vs) {e : Nat} (he : e < g.Events.toNat) : impl_betterCircuit_L6 F g (nl vs) F (e : Int) 0 = some ((itn (backN g vs) g.Events.toNat e : Nat) : Int) := by
  obtain ⟨e1, e2, e3, _, _⟩ := graphB_true h
  have hlt : ∀ v, v < g.Events.toNat → backN g vs v < g.Events.toNat := fun v hn => by
    obtain ⟨_, _, _, _, _, hb⟩ := back_at h hv hn
    exact hb
  refine for0 (L := impl_betterCircuit_L6 F g (nl vs)) (len := g.Events.toNat) (fun k s => s = ((itn (backN g vs) k e : Nat) : Int)) (R := fun o => o = some ((itn (backN g vs) g.Events.toNat e : Nat) : Int)) ?_ ?_ rfl (by omega)
  · rintro m k s hk rfl
    obtain ⟨u, p, h1, h2, h3, _⟩ := back_at h hv (itn_lt hlt k he)
    refine .inl ⟨_, ?_, rfl⟩
    simp only [impl_betterCircuit_L6, bdT (show (k : Int) < g.Events by omega), idx_nat, nl_at, h1, Option.map_some, Option.bind_some, h2, h3, wrN (show k ≤ 67108864 by omega), itn_succ]
  · rintro m s rfl
    simp only [impl_betterCircuit_L6, bdF (show ¬ ((g.Events.toNat : Nat) : Int) < g.Events by omega)]

theorem better_gather {F : Nat} {g : GEventGraph} (h : graphB g = true) {vs : List Nat} (hv : ViaOk g.Events.toNat g.Places.length vs) {s : Nat} : ∀ (m : Nat) {x : Nat} {xs : List Int} {fuel : Nat}, x < g.Events.toNat → itn (backN g vs) (m + 1) x = s → m < fuel → xs.length + m + 1 ≤ 1000 →
    ∃ ys, impl_betterCircuit_L7 F g (nl vs) (s : Int) fuel xs (x : Int) = some ys ∧ xs.length < ys.length ∧ ys.length ≤ xs.length + m + 1 := by
  intro m
  induction m with
  | zero =>
    intro x xs fuel hx hs hf hl
    obtain ⟨fuel, rfl⟩ : ∃ k, fuel = k + 1 := ⟨fuel - 1, by omega⟩
    obtain ⟨u, p, h1, h2, h3, _⟩ := back_at h hv hx
    have hs : backN g vs x = s := hs
    refine ⟨xs ++ [(u : Int)], ?_, by simp, by simp⟩
    simp only [impl_betterCircuit_L7, idx_nat, nl_at, h1, Option.map_some, Option.bind_some, app_le (show xs.length + [(u : Int)].length ≤ 67108864 by simp only [List.length_singleton]; omega), h2, h3, hs, beq_self_eq_true, cond_true]
  | succ m ih =>
    intro x xs fuel hx hs hf hl
    obtain ⟨fuel, rfl⟩ : ∃ k, fuel = k + 1 := ⟨fuel - 1, by omega⟩
    obtain ⟨u, p, h1, h2, h3, h4⟩ := back_at h hv hx
    by_cases hc : backN g vs x = s
    · refine ⟨xs ++ [(u : Int)], ?_, by simp, by simp⟩
      simp only [impl_betterCircuit_L7, idx_nat, nl_at, h1, Option.map_some, Option.bind_some, app_le (show xs.length + [(u : Int)].length ≤ 67108864 by simp only [List.length_singleton]; omega), h2, h3, hc, beq_self_eq_true, cond_true]
    · obtain ⟨ys, h5, h6, h7⟩ := ih (x := backN g vs x) (xs := xs ++ [(u : Int)]) (fuel := fuel) h4 hs (by omega) (by rw [List.length_append, List.length_singleton]; omega)
      rw [List.length_append, List.length_singleton] at h6 h7
      refine ⟨ys, ?_, by omega, by omega⟩
      simp only [impl_betterCircuit_L7, idx_nat, nl_at, h1, Option.map_some, Option.bind_some, app_le (show xs.length + [(u : Int)].length ≤ 67108864 by simp only [List.length_singleton]; omega), h2, h3, beq_false_of_ne (show ((backN g vs x : Nat) : Int) ≠ (s : Int) by omega), cond_false, h5]

theorem reverse_loop {F : Nat} : ∀ (m : Nat) {fuel : Nat} {xs : List Int} {i j : Int}, 0 ≤ i → j < (xs.length : Int) → -1 ≤ j → j - i ≤ (m : Int) → m < fuel → xs.length ≤ 1048576 → i ≤ 1048576 → ∃ ys, slices_Reverse_int64_L1 F fuel xs i j = some ys ∧ ys.length = xs.length := by
  intro m
  induction m with
  | zero =>
    intro fuel xs i j h0 h1 h2 h3 h4 h5 h6
    obtain ⟨fuel, rfl⟩ : ∃ k, fuel = k + 1 := ⟨fuel - 1, by omega⟩
    exact ⟨xs, by simp only [slices_Reverse_int64_L1, bdF (show ¬ i < j by omega)], rfl⟩
  | succ m ih =>
    intro fuel xs i j h0 h1 h2 h3 h4 h5 h6
    obtain ⟨fuel, rfl⟩ : ∃ k, fuel = k + 1 := ⟨fuel - 1, by omega⟩
    by_cases hc : i < j
    · obtain ⟨i', rfl⟩ : ∃ k : Nat, i = (k : Int) := ⟨i.toNat, by omega⟩
      obtain ⟨j', rfl⟩ : ∃ k : Nat, j = (k : Int) := ⟨j.toNat, by omega⟩
      have li : i' < xs.length := by omega
      have lj : j' < xs.length := by omega
      obtain ⟨ys, e1, e2⟩ := ih (fuel := fuel) (xs := (xs.set i' xs[j']).set j' xs[i']) (i := ((i' + 1 : Nat) : Int)) (j := (j' : Int) - 1) (by omega) (by rw [List.length_set, List.length_set]; omega) (by omega) (by omega) (by omega) (by rw [List.length_set, List.length_set]; omega) (by omega)
      rw [List.length_set, List.length_set] at e2
      refine ⟨ys, ?_, e2⟩
      have l2 : j' < (xs.set i' xs[j']).length := by rw [List.length_set]; exact lj
      simp only [slices_Reverse_int64_L1, bdT hc, idx_nat, List.getElem?_eq_getElem li, List.getElem?_eq_getElem lj, List.getElem?_eq_getElem l2, Option.bind_some, upd_nat _ li, upd_nat _ l2, wrN (show i' ≤ 67108864 by omega), wr (show -9223372036854775808 ≤ (j' : Int) - 1 by omega) (by omega), e1]
    · exact ⟨xs, by simp only [slices_Reverse_int64_L1, bdF hc], rfl⟩

theorem reverse_is {F : Nat} {xs : List Int} (hF : 134217728 ≤ F) (hx : xs.length ≤ 1048576) : ∃ ys, slices_Reverse_int64 F xs = some ((), ys) ∧ ys.length = xs.length := by
  obtain ⟨ys, e1, e2⟩ := reverse_loop (F := F) xs.length (fuel := F) (xs := xs) (i := 0) (j := (xs.length : Int) - 1) (by omega) (by omega) (by omega) (by omega) (by omega) hx (by omega)
  refine ⟨ys, ?_, e2⟩
  unfold slices_Reverse_int64
  rw [wr (by omega) (by omega), e1]; rfl

theorem implBetter_is {F : Nat} {g : GEventGraph} {r : Int} (hF : 134217728 ≤ F) (h : graphB g = true) (h0 : 0 ≤ r) (h1 : r ≤ 100000) : ∃ c, impl_betterCircuit F g ⟨r, 1⟩ = some c ∧ (c.isEmpty = true ↔ ¬ PosCyc (wT g r) g.Events.toNat) := by
  obtain ⟨e1, e2, e3, _, _⟩ := graphB_true h
  have hA := wT_arcs h h0 h1
  have hmk : mk g.Events (0 : Int) = some (List.replicate g.Events.toNat 0) := mk_int 0 (by omega) (by omega)
  have hnl : List.replicate g.Events.toNat (0 : Int) = nl (List.replicate g.Events.toNat 0) := by unfold nl; simp
  have hv : ViaOk g.Events.toNat g.Places.length (List.replicate g.Events.toNat 0) ∨ g.Places = [] := by
    by_cases hne : g.Places = []
    · exact .inr hne
    · refine .inl ⟨by simp, fun v hv => ?_⟩
      have := List.length_pos_iff.2 hne
      have := (List.mem_replicate.1 hv).2
      omega
  unfold impl_betterCircuit
  rw [hmk, Option.bind_some, Option.bind_some]
  rcases better_rounds hF h h0 h1 hv (by simp) with ⟨hr, k, hc⟩ | ⟨vs', e, hr, hv', he, hc⟩
  · rw [← tb_zero, ← hnl] at hr
    rw [hr]
    exact ⟨[], rfl, ⟨fun _ => rest_none hA hc, fun _ => rfl⟩⟩
  · rw [← tb_zero, ← hnl] at hr
    have hlt : ∀ v, v < g.Events.toNat → backN g vs' v < g.Events.toNat := fun v hn => by
      obtain ⟨_, _, _, _, _, hb⟩ := back_at h hv' hn
      exact hb
    obtain ⟨d, hd, hback⟩ := itn_back hlt he
    obtain ⟨ys, h4, h5, h6⟩ := better_gather (F := F) h hv' d (x := itn (backN g vs') g.Events.toNat e) (xs := []) (fuel := F) (itn_lt hlt _ he) hback (by omega) (by simp only [List.length_nil]; omega)
    simp only [List.length_nil] at h5 h6
    obtain ⟨zs, h7, h8⟩ := reverse_is (F := F) (xs := ys) hF (by omega)
    have hpos : PosCyc (wT g r) g.Events.toNat := Classical.byContradiction fun hn => by
      have := its_rest hA (by omega) ((fwok_iff hA.ok (by omega)).2 hn) (fun _ => 0)
      rw [hc _ (Nat.le_refl _)] at this
      cases this
    have hz : zs ≠ [] := fun hz => by rw [hz, List.length_nil] at h8; omega
    have hze : zs.isEmpty = false := by
      cases zs with
      | nil => exact absurd rfl hz
      | cons z zs => rfl
    refine ⟨zs, ?_, by rw [hze]; exact ⟨fun hh => Bool.noConfusion hh, fun hh => absurd hpos hh⟩⟩
    simp only [hr, Option.bind_some, better_back hF h hv' he, h4, h7]
    unfold nonE
    rw [hze]; rfl

/-! ### Circuits of places -/
def pcs (g : GEventGraph) (i : Nat) : GPlace := (g.Places[i]?).getD ⟨0, 0, 0, 0⟩

theorem pcs_at {g : GEventGraph} {i : Nat} (h : i < g.Places.length) : g.Places[i]? = some (pcs g i) := by
  unfold pcs; rw [List.getElem?_eq_getElem h]; rfl

theorem pcs_mem {g : GEventGraph} {i : Nat} (h : i < g.Places.length) : pcs g i ∈ g.Places := List.mem_of_getElem? (pcs_at h)

def cF (g : GEventGraph) (i : Nat) : Nat := plF (pcs g i)

def cT (g : GEventGraph) (i : Nat) : Nat := plT (pcs g i)

def sumD (g : GEventGraph) (p : List Nat) : Int := (p.map fun i => (pcs g i).Delay).sum

def sumM (g : GEventGraph) (p : List Nat) : Int := (p.map fun i => (pcs g i).Tokens).sum

theorem sumD_app (g : GEventGraph) (p q : List Nat) : sumD g (p ++ q) = sumD g p + sumD g q := by unfold sumD; rw [List.map_append, List.sum_append]

theorem sumM_app (g : GEventGraph) (p q : List Nat) : sumM g (p ++ q) = sumM g p + sumM g q := by unfold sumM; rw [List.map_append, List.sum_append]

theorem sumD_one (g : GEventGraph) (v : Nat) : sumD g [v] = (pcs g v).Delay := by unfold sumD; simp

theorem sumM_one (g : GEventGraph) (v : Nat) : sumM g [v] = (pcs g v).Tokens := by unfold sumM; simp

theorem sums_bd {g : GEventGraph} (h : graphB g = true) : ∀ (p : List Nat), (∀ x, x ∈ p → x < g.Places.length) → 0 ≤ sumD g p ∧ sumD g p ≤ 1000 * (p.length : Int) ∧ 0 ≤ sumM g p ∧ sumM g p ≤ 5 * (p.length : Int)
  | [], _ => by unfold sumD sumM; simp
  | x :: p, hp => by
    have h1 := sums_bd h p (fun y hy => hp y (by simp [hy]))
    have h2 := graphB_range h _ (pcs_mem (hp x (by simp)))
    have e1 : sumD g (x :: p) = (pcs g x).Delay + sumD g p := by unfold sumD; simp
    have e2 : sumM g (x :: p) = (pcs g x).Tokens + sumM g p := by unfold sumM; simp
    rw [e1, e2, List.length_cons]
    omega

theorem c_at {g : GEventGraph} (h : graphB g = true) {i : Nat} (hi : i < g.Places.length) : (pcs g i).To = (cT g i : Int) ∧ (pcs g i).From = (cF g i : Int) ∧ cT g i < g.Events.toNat ∧ cF g i < g.Events.toNat := pl_at h (pcs_mem hi)

theorem eqN (a b : Nat) : ((a : Int) == (b : Int)) = decide (a = b) := by
  by_cases e : a = b
  · subst e; simp
  · rw [beq_false_of_ne (by omega), dF e]

theorem neN (a b : Nat) : ((a : Int) != (b : Int)) = !decide (a = b) := by rw [bne, eqN]

theorem ltN (a b : Nat) : decide ((a : Int) < (b : Int)) = decide (a < b) := by
  by_cases e : a < b
  · rw [dT e, dT (by omega)]
  · rw [dF e, dF (by omega)]

def closedC (g : GEventGraph) (p : List Nat) : Bool := decide (cT g (lastN p) = cF g (headN p))

def visC (g : GEventGraph) (p : List Nat) (e : Nat) : Bool := p.any fun i => decide (cF g i = e) || decide (cT g i = e)

def accC (g : GEventGraph) (good : Int → Int → Bool) (p : List Nat) : Bool := closedC g p && good (sumD g p) (sumM g p)

def candC (g : GEventGraph) (p : List Nat) (v : Nat) : Bool := !closedC g p && (decide (cF g v = cT g (lastN p)) && (decide (cF g (headN p) ≤ cT g v) && (decide (cT g v = cF g (headN p)) || !visC g p (cT g v))))

theorem candC_true {g : GEventGraph} {p : List Nat} {v : Nat} : candC g p v = true ↔ closedC g p = false ∧ cF g v = cT g (lastN p) ∧ cF g (headN p) ≤ cT g v ∧ (cT g v = cF g (headN p) ∨ visC g p (cT g v) = false) := by
  unfold candC
  simp only [Bool.and_eq_true, Bool.not_eq_true', decide_eq_true_eq, Bool.or_eq_true]

structure CircOk (g : GEventGraph) (p : List Nat) : Prop where
  ne : p ≠ []
  lt : ∀ x, x ∈ p → x < g.Places.length
  nodup : (p.map (cT g)).Nodup
  op : closedC g p = false → cF g (headN p) ∉ p.map (cT g)

theorem CircOk.len {g : GEventGraph} (h : graphB g = true) {p : List Nat} (hp : CircOk g p) : p.length ≤ g.Events.toNat := by
  have := nodup_le g.Events.toNat _ hp.nodup (fun x hx => by
    obtain ⟨i, hi, rfl⟩ := List.mem_map.1 hx
    exact (c_at h (hp.lt i hi)).2.2.1)
  rwa [List.length_map] at this

theorem CircOk.one {g : GEventGraph} {i : Nat} (hi : i < g.Places.length) : CircOk g [i] :=
  ⟨by simp, fun x hx => by simp only [List.mem_singleton] at hx; subst hx; exact hi, by simp, fun hc hm => by
    have e : lastN [i] = i := rfl
    have e2 : headN [i] = i := rfl
    unfold closedC at hc
    rw [e, e2] at hc
    rw [e2] at hm
    simp only [List.map_cons, List.map_nil, List.mem_singleton] at hm
    rw [hm] at hc; simp at hc⟩

theorem CircOk.next {g : GEventGraph} {p : List Nat} {v : Nat} (hp : CircOk g p) (hv : v < g.Places.length) (hc : candC g p v = true) : CircOk g (p ++ [v]) := by
  obtain ⟨h1, h2, h3, h4⟩ := candC_true.1 hc
  have hop := hp.op h1
  have hnm : cT g v ∉ p.map (cT g) := by
    rcases h4 with h4 | h4
    · rw [h4]; exact hop
    · intro hm
      obtain ⟨i, hi, e⟩ := List.mem_map.1 hm
      unfold visC at h4
      rw [List.any_eq_false] at h4
      exact h4 i hi (by rw [decide_eq_true e, Bool.or_true])
  refine ⟨by simp, fun x hx => ?_, ?_, fun hcl hm => ?_⟩
  · rcases List.mem_append.1 hx with hx | hx
    · exact hp.lt x hx
    · simp only [List.mem_singleton] at hx; subst hx; exact hv
  · rw [List.map_append, List.nodup_append]
    refine ⟨hp.nodup, by simp, fun x hx y hy => ?_⟩
    simp only [List.map_cons, List.map_nil, List.mem_singleton] at hy
    subst hy
    exact fun e => hnm (e ▸ hx)
  · unfold closedC at hcl
    rw [lastN_snoc, headN_snoc hp.ne] at hcl
    rw [headN_snoc hp.ne, List.map_append] at hm
    rcases List.mem_append.1 hm with hm | hm
    · exact hop hm
    · simp only [List.map_cons, List.map_nil, List.mem_singleton] at hm
      rw [hm] at hcl; simp at hcl

theorem specSums_is {F : Nat} {g : GEventGraph} (hF : 134217728 ≤ F) (h : graphB g = true) {p : List Nat} (hp : ∀ x, x ∈ p → x < g.Places.length) (hl : p.length ≤ 1000) : spec_l15Sums F g (nl p) = some (sumD g p, sumM g p) := by
  have H := for0 (L := fun m (s : Int × Int) i => spec_l15Sums_L1 F g (nl p) m s.1 s.2 i) (len := p.length) (fun k s => s = (sumD g (p.take k), sumM g (p.take k))) (R := fun o => o = some (sumD g p, sumM g p)) (s := (0, 0)) (n := F) ?_ ?_ (by unfold sumD sumM; simp) (by omega)
  · unfold spec_l15Sums
    simp only at H
    rw [H]; rfl
  · rintro m k s hk rfl
    have hx : p[k]? = some p[k] := List.getElem?_eq_getElem hk
    have hxl := hp _ (List.getElem_mem hk)
    have hb := sums_bd h (p.take k) (fun x hx => hp x (List.mem_of_mem_take hx))
    have hb2 := graphB_range h _ (pcs_mem hxl)
    have hlt : (p.take k).length ≤ 1000 := by rw [List.length_take]; omega
    refine .inl ⟨_, ?_, rfl⟩
    rw [List.take_add_one, hx, Option.toList_some, sumD_app, sumM_app, sumD_one, sumM_one]
    simp only [spec_l15Sums_L1, nl_len, bdT (show (k : Int) < (p.length : Int) by omega), idx_nat, nl_at, hx, Option.map_some, Option.bind_some, pcs_at hxl, wrN (show k ≤ 67108864 by omega)]
    rw [wr (by omega) (by omega), wr (by omega) (by omega)]
  · rintro m s rfl
    simp only [spec_l15Sums_L1, nl_len, bdF (show ¬ (p.length : Int) < (p.length : Int) by omega), List.take_length]

theorem specVisits_is {F : Nat} {g : GEventGraph} (hF : 134217728 ≤ F) (h : graphB g = true) {p : List Nat} (hp : ∀ x, x ∈ p → x < g.Places.length) (hl : p.length ≤ 1000) (e : Nat) : spec_l15Visits F g (nl p) (e : Int) = some (visC g p e) := by
  unfold spec_l15Visits
  rw [all_loop (ps := p) (g := fun i => !(decide (cF g i = e) || decide (cT g i = e))) (r := true) (L := spec_l15Visits_L1 F g (nl p) (e : Int)) ?_ ?_ (by omega)]
  · unfold visC
    have := any_not (g := fun i => !(decide (cF g i = e) || decide (cT g i = e))) p
    simp only [Bool.not_not] at this
    rw [this]
    cases (p.all fun i => !(decide (cF g i = e) || decide (cT g i = e))) <;> rfl
  · intro m k x hk hx
    have hxl := hp _ (List.mem_of_getElem? hx)
    obtain ⟨a1, a2, _, _⟩ := c_at h hxl
    simp only [spec_l15Visits_L1, nl_len, bdT (show (k : Int) < (p.length : Int) by omega), idx_nat, nl_at, hx, Option.map_some, Option.bind_some, pcs_at hxl, a1, a2, eqN, wrN (show k ≤ 67108864 by omega)]
    cases decide (cF g x = e) <;> cases decide (cT g x = e) <;> rfl
  · intro m
    simp only [spec_l15Visits_L1, nl_len, bdF (show ¬ (p.length : Int) < (p.length : Int) by omega)]

theorem specGrowC_is {F : Nat} {g : GEventGraph} {r over : Int} (hF : 134217728 ≤ F) (h : graphB g = true) (h0 : 0 ≤ r) (h1 : r ≤ 100000) : ∀ (k : Nat) (p : List Nat), CircOk g p → g.Events.toNat + 2 ≤ p.length + k →
    spec_l15Grow_rec F k g (nl p) ⟨r, 1⟩ over = some ((gdfs (accC g fun d m => decide (over < d - r * m)) (candC g) g.Places.length k p).elim [] nl) := by
  obtain ⟨e1, e2, e3, _, _⟩ := graphB_true h
  intro k
  induction k with
  | zero => intro p hp hk; have := hp.len h; omega
  | succ k ih =>
    intro p hp hk
    have hpl := hp.len h
    have hfl := first_lt hp.ne hp.lt
    have hll := hp.lt _ (last_mem hp.ne)
    obtain ⟨f1, f2, f3, f4⟩ := c_at h hfl
    obtain ⟨l1, l2, l3, l4⟩ := c_at h hll
    unfold spec_l15Grow_rec gdfs
    simp only [nl_first hp.ne, nl_last hp.ne (by omega), Option.bind_some, idx_nat, pcs_at hfl, pcs_at hll, f2, l1, eqN]
    have hcl : decide (cT g (lastN p) = cF g (headN p)) = closedC g p := rfl
    rw [hcl]
    cases hc : closedC g p with
    | true =>
      have hb := sums_bd h p hp.lt
      have h6 : 0 ≤ r * sumM g p := Int.mul_nonneg h0 (by omega)
      have h7 : r * sumM g p ≤ 100000 * 50 := Int.mul_le_mul h1 (by omega) (by omega) (by omega)
      simp only [cond_true, specSums_is hF h hp.lt (by omega), Option.bind_some]
      rw [wr (show -9223372036854775808 ≤ 1 * sumD g p by omega) (by omega), wr (show -9223372036854775808 ≤ r * sumM g p by omega) (by omega), wr (by omega) (by omega), Int.one_mul]
      have ha : accC g (fun d m => decide (over < d - r * m)) p = decide (over < sumD g p - r * sumM g p) := by unfold accC; rw [hc, Bool.true_and]
      rw [ha]
      cases decide (over < sumD g p - r * sumM g p) with
      | true => rfl
      | false =>
        rw [fs_none (fun v hv => by
          have : candC g p v = false := by unfold candC; rw [hc]; rfl
          rw [this]; rfl)]
        rfl
    | false =>
      have ha : accC g (fun d m => decide (over < d - r * m)) p = false := by unfold accC; rw [hc, Bool.false_and]
      rw [ha]
      simp only [cond_false, Bool.false_eq_true, if_false]
      have H := for0 (L := fun m (_ : Unit) i => spec_l15Grow_L1 F g (nl p) ⟨r, 1⟩ over (pcs g (headN p)) (pcs g (lastN p)) (spec_l15Grow_rec F k) m i) (len := g.Places.length)
        (fun j _ => ∀ v, v < j → (if candC g p v = true then gdfs (accC g fun d m => decide (over < d - r * m)) (candC g) g.Places.length k (p ++ [v]) else none) = none)
        (R := fun o => (∃ q, o = some (.inl (nl q)) ∧ ((List.range g.Places.length).findSome? fun v => if candC g p v = true then gdfs (accC g fun d m => decide (over < d - r * m)) (candC g) g.Places.length k (p ++ [v]) else none) = some q) ∨ (o = some (.inr ()) ∧ ((List.range g.Places.length).findSome? fun v => if candC g p v = true then gdfs (accC g fun d m => decide (over < d - r * m)) (candC g) g.Places.length k (p ++ [v]) else none) = none)) (s := ()) (n := F) ?_ ?_ (fun v hv => by omega) (by omega)
      · rcases H with ⟨q, h3, h4⟩ | ⟨h3, h4⟩
        · simp only [h3, h4, Option.bind_some, Option.elim_some]
        · simp only [h3, h4, Option.bind_some, Option.elim_none]
      · intro m j _ hj hI
        obtain ⟨j1, j2, j3, j4⟩ := c_at h hj
        have hwj : IntKind.i64.wrap ((j : Int) + 1) = ((j + 1 : Nat) : Int) := wrN (by omega)
        have hcand : (bif ((pcs g j).From != (pcs g (lastN p)).To) then some true else (bif (decide ((pcs g j).To < (pcs g (headN p)).From)) then some true else (bif ((pcs g j).To != (pcs g (headN p)).From) then ((spec_l15Visits F g (nl p) (pcs g j).To).bind fun r1190 => some r1190) else some false))) = some (!candC g p j) := by
          rw [j1, j2, l1, f2, neN, neN, ltN, specVisits_is hF h hp.lt (by omega)]
          unfold candC
          rw [hc]
          by_cases c1 : cF g j = cT g (lastN p)
          · by_cases c2 : cT g j < cF g (headN p)
            · rw [dT c1, dT c2, dF (show ¬ cF g (headN p) ≤ cT g j by omega)]; rfl
            · rw [dT c1, dF c2, dT (show cF g (headN p) ≤ cT g j by omega)]
              by_cases c3 : cT g j = cF g (headN p)
              · rw [dT c3]; rfl
              · rw [dF c3]; cases visC g p (cT g j) <;> rfl
          · rw [dF c1]; rfl
        have S : spec_l15Grow_L1 F g (nl p) ⟨r, 1⟩ over (pcs g (headN p)) (pcs g (lastN p)) (spec_l15Grow_rec F k) (m + 1) (j : Int) = bif !candC g p j then spec_l15Grow_L1 F g (nl p) ⟨r, 1⟩ over (pcs g (headN p)) (pcs g (lastN p)) (spec_l15Grow_rec F k) m ((j + 1 : Nat) : Int) else
            (Option.bind ((Option.bind (((spec_l01Own F (nl p)).bind fun r1292 => ((app r1292 ([(j : Int)])).bind fun xs1302 => ((spec_l15Grow_rec F k g xs1302 ⟨r, 1⟩ over).bind fun r1304 => some r1304))) : Option (List Int)) fun xs1262 => (bif (decide (0 < (xs1262.length : Int))) then some (Sum.inl xs1262) else some (Sum.inr ()))) : Option (Sum (List Int) (Unit))) fun r1174 => match r1174 with | .inl x_ => some (Sum.inl x_) | .inr _ => spec_l15Grow_L1 F g (nl p) ⟨r, 1⟩ over (pcs g (headN p)) (pcs g (lastN p)) (spec_l15Grow_rec F k) m ((j + 1 : Nat) : Int)) := by
          simp only [spec_l15Grow_L1, bdT (show (j : Int) < (g.Places.length : Int) by omega), idx_nat, pcs_at hj, Option.bind_some, hcand, hwj]
          cases candC g p j <;> rfl
        show (∃ s', spec_l15Grow_L1 F g (nl p) ⟨r, 1⟩ over (pcs g (headN p)) (pcs g (lastN p)) (spec_l15Grow_rec F k) (m + 1) (j : Int) = _ ∧ _) ∨ _
        cases hcj : candC g p j with
        | false =>
          refine .inl ⟨(), ?_, fun v hv => ?_⟩
          · rw [S, hcj]; rfl
          · by_cases e : v = j
            · subst e; rw [hcj]; rfl
            · exact hI v (by omega)
        | true =>
          have hp' := hp.next hj hcj
          have hown : spec_l01Own F (nl p) = some (nl p) := by
            unfold spec_l01Own
            rw [app_le (by rw [nl_len]; simp only [List.length_nil]; omega)]; rfl
          have happ : app (nl p) [(j : Int)] = some (nl (p ++ [j])) := by
            rw [app_le (by rw [nl_len]; simp only [List.length_singleton]; omega), nl_app]
          have hr := ih (p ++ [j]) hp' (by rw [List.length_append, List.length_singleton]; omega)
          rw [hcj] at S
          simp only [Bool.not_true, cond_false, hown, happ, hr, Option.bind_some] at S
          cases hg : gdfs (accC g fun d m => decide (over < d - r * m)) (candC g) g.Places.length k (p ++ [j]) with
          | none =>
            rw [hg] at S
            refine .inl ⟨(), S.trans rfl, fun v hv => ?_⟩
            by_cases e : v = j
            · subst e; rw [if_pos hcj]; exact hg
            · exact hI v (by omega)
          | some q =>
            rw [hg] at S
            obtain ⟨_, q', hq', _⟩ := gdfs_some hg
            have hlen : 0 < (nl q).length := by rw [nl_len, hq']; simp; omega
            refine .inr (.inl ⟨q, ?_, fs_some hI (by rw [if_pos hcj]; exact hg) hj⟩)
            rw [S]
            exact (congrArg (fun o => Option.bind o _) (bdT (show (0 : Int) < ((nl q).length : Int) by omega))).trans rfl
      · intro m _ hI
        refine .inr ⟨?_, fs_none hI⟩
        simp only [spec_l15Grow_L1, bdF (show ¬ (g.Places.length : Int) < (g.Places.length : Int) by omega)]

def firstC (g : GEventGraph) (good : Int → Int → Bool) (K : Nat) : Option (List Nat) := (List.range g.Places.length).findSome? fun i => if cF g i ≤ cT g i then gdfs (accC g good) (candC g) g.Places.length K [i] else none

theorem specOverC_is {F : Nat} {g : GEventGraph} {r over : Int} (hF : 134217728 ≤ F) (h : graphB g = true) (h0 : 0 ≤ r) (h1 : r ≤ 100000) : spec_l15Over F g ⟨r, 1⟩ over = some ((firstC g (fun d m => decide (over < d - r * m)) F).elim [] nl) := by
  obtain ⟨e1, e2, e3, _, _⟩ := graphB_true h
  unfold spec_l15Over
  have H := for0 (L := fun m (_ : Unit) i => spec_l15Over_L1 F g ⟨r, 1⟩ over m i) (len := g.Places.length) (fun j _ => ∀ v, v < j → (if cF g v ≤ cT g v then gdfs (accC g fun d m => decide (over < d - r * m)) (candC g) g.Places.length F [v] else none) = none)
    (R := fun o => (∃ q, o = some (.inl (nl q)) ∧ firstC g (fun d m => decide (over < d - r * m)) F = some q) ∨ (o = some (.inr ()) ∧ firstC g (fun d m => decide (over < d - r * m)) F = none)) (s := ()) (n := F) ?_ ?_ (fun v h => by omega) (by omega)
  · rcases H with ⟨q, h2, h3⟩ | ⟨h2, h3⟩
    · simp only [h2, h3, Option.bind_some, Option.elim_some]
    · simp only [h2, h3, Option.bind_some, Option.elim_none]
  · intro m j _ hj hI
    obtain ⟨j1, j2, j3, j4⟩ := c_at h hj
    have hwj : IntKind.i64.wrap ((j : Int) + 1) = ((j + 1 : Nat) : Int) := wrN (by omega)
    have hr : spec_l15Grow F g [(j : Int)] ⟨r, 1⟩ over = some ((gdfs (accC g fun d m => decide (over < d - r * m)) (candC g) g.Places.length F [j]).elim [] nl) := specGrowC_is (F := F) hF h h0 h1 F [j] (CircOk.one hj) (by simp only [List.length_singleton]; omega)
    by_cases hc : cT g j < cF g j
    · refine .inl ⟨(), ?_, fun v hv => ?_⟩
      · simp only [spec_l15Over_L1, bdT (show (j : Int) < (g.Places.length : Int) by omega), idx_nat, pcs_at hj, Option.bind_some, j1, j2, bdT (show ((cT g j : Nat) : Int) < (cF g j : Int) by omega), hwj]
      · by_cases e : v = j
        · subst e; rw [if_neg (by omega)]
        · exact hI v (by omega)
    · have S : spec_l15Over_L1 F g ⟨r, 1⟩ over (m + 1) (j : Int) = bif decide (0 < (((gdfs (accC g fun d m => decide (over < d - r * m)) (candC g) g.Places.length F [j]).elim [] nl).length : Int)) then some (.inl ((gdfs (accC g fun d m => decide (over < d - r * m)) (candC g) g.Places.length F [j]).elim [] nl)) else spec_l15Over_L1 F g ⟨r, 1⟩ over m ((j + 1 : Nat) : Int) := by
        simp only [spec_l15Over_L1, bdT (show (j : Int) < (g.Places.length : Int) by omega), idx_nat, pcs_at hj, Option.bind_some, j1, j2, bdF (show ¬ ((cT g j : Nat) : Int) < (cF g j : Int) by omega), hr, hwj]
        cases decide (0 < (((gdfs (accC g fun d m => decide (over < d - r * m)) (candC g) g.Places.length F [j]).elim [] nl).length : Int)) <;> rfl
      cases hg : gdfs (accC g fun d m => decide (over < d - r * m)) (candC g) g.Places.length F [j] with
      | none =>
        refine .inl ⟨(), ?_, fun v hv => ?_⟩
        · rw [S, hg]; rfl
        · by_cases e : v = j
          · subst e; rw [if_pos (by omega)]; exact hg
          · exact hI v (by omega)
      | some q =>
        obtain ⟨_, q', hq', _⟩ := gdfs_some hg
        have hlen : 0 < (nl q).length := by rw [nl_len, hq']; simp
        refine .inr (.inl ⟨q, ?_, fs_some hI (by rw [if_pos (by omega)]; exact hg) hj⟩)
        rw [S, hg]
        exact bdT (by show (0 : Int) < ((nl q).length : Int); omega)
  · intro m _ hI
    refine .inr ⟨?_, fs_none hI⟩
    simp only [spec_l15Over_L1, bdF (show ¬ (g.Places.length : Int) < (g.Places.length : Int) by omega)]

theorem steps_ok {g : GEventGraph} : ∀ {q p : List Nat}, CircOk g p → Steps (candC g) p q → (∀ x, x ∈ q → x < g.Places.length) → CircOk g (p ++ q)
  | [], p, hp, _, _ => by rw [List.append_nil]; exact hp
  | v :: q, p, hp, hs, hq => by
    rw [show p ++ v :: q = (p ++ [v]) ++ q by simp]
    exact steps_ok (hp.next (hq v (by simp)) hs.1) hs.2 (fun x hx => hq x (by simp [hx]))

theorem firstC_some {g : GEventGraph} {good : Int → Int → Bool} {K : Nat} {r : List Nat} (h : firstC g good K = some r) : CircOk g r ∧ closedC g r = true ∧ good (sumD g r) (sumM g r) = true ∧ ∃ i q, r = [i] ++ q ∧ i < g.Places.length ∧ Steps (candC g) [i] q ∧ ∀ x, x ∈ q → x < g.Places.length := by
  obtain ⟨i, hi, h1⟩ := List.exists_of_findSome?_eq_some h
  have hil : i < g.Places.length := by simpa using hi
  by_cases hc : cF g i ≤ cT g i
  · rw [if_pos hc] at h1
    obtain ⟨h2, q, rfl, h3, h4⟩ := gdfs_some h1
    unfold accC at h2
    rw [Bool.and_eq_true] at h2
    exact ⟨steps_ok (CircOk.one hil) h3 h4, h2.1, h2.2, i, q, rfl, hil, h3, h4⟩
  · rw [if_neg hc] at h1; cases h1

theorem steps_pot {g : GEventGraph} {r : Int} {x : Nat → Int} (hx : ∀ p, p ∈ g.Places → x (plF p) + plW r p ≤ x (plT p)) : ∀ {q p : List Nat}, p ≠ [] → x (cF g (headN p)) + (sumD g p - r * sumM g p) ≤ x (cT g (lastN p)) → Steps (candC g) p q → (∀ y, y ∈ q → y < g.Places.length) → x (cF g (headN p)) + (sumD g (p ++ q) - r * sumM g (p ++ q)) ≤ x (cT g (lastN (p ++ q)))
  | [], p, _, h0, _, _ => by rw [List.append_nil]; exact h0
  | v :: q, p, hne, h0, hs, hq => by
    have e : p ++ v :: q = (p ++ [v]) ++ q := by simp
    obtain ⟨_, c2, _, _⟩ := candC_true.1 hs.1
    have h1 := hx _ (pcs_mem (hq v (by simp)))
    have h2 : x (cF g v) + plW r (pcs g v) ≤ x (cT g v) := h1
    have := steps_pot hx (q := q) (p := p ++ [v]) (by simp) (by
      rw [headN_snoc hne, lastN_snoc, sumD_app, sumM_app, sumD_one, sumM_one, Int.mul_add]
      unfold plW at h2
      rw [c2] at h2
      omega) hs.2 (fun y hy => hq y (by simp [hy]))
    rw [headN_snoc hne] at this
    rw [e]; exact this

theorem circ_bound {g : GEventGraph} {r : Int} (h : graphB g = true) (h0 : 0 ≤ r) (h1 : r ≤ 100000) (hn : ¬ PosCyc (wT g r) g.Events.toNat) {good : Int → Int → Bool} {K : Nat} {c : List Nat} (hc : firstC g good K = some c) : sumD g c - r * sumM g c ≤ 0 := by
  obtain ⟨e1, e2, e3, _, _⟩ := graphB_true h
  have hA := wT_arcs h h0 h1
  have hrest := its_rest hA (by omega) ((fwok_iff hA.ok (by omega)).2 hn) (fun _ => 0)
  obtain ⟨_, hx⟩ := chd_false hrest
  obtain ⟨hok, hcl, _, i, q, rfl, hi, hs, hq⟩ := firstC_some hc
  have h2 := hx _ (pcs_mem hi)
  have := steps_pot (g := g) (r := r) hx (q := q) (p := [i]) (by simp) (by
    rw [sumD_one, sumM_one]; exact h2) hs hq
  have hcl' : cT g (lastN ([i] ++ q)) = cF g (headN ([i] ++ q)) := of_decide_eq_true hcl
  have eh : headN ([i] ++ q) = headN [i] := rfl
  rw [hcl', eh] at this
  omega

theorem wT_place {g : GEventGraph} {r : Int} (h : graphB g = true) (h0 : 0 ≤ r) (h1 : r ≤ 100000) {u v : Nat} (ha : wT g r v u ≠ -1000000000000000) : ∃ i, i < g.Places.length ∧ cT g i = v ∧ cF g i = u ∧ (pcs g i).Delay - r * (pcs g i).Tokens = wT g r v u := by
  rcases (wT_arcs h h0 h1).cs v u with e | ⟨p, hp, h2, h3, h4⟩
  · exact absurd e ha
  · obtain ⟨i, hi, rfl⟩ := List.getElem_of_mem hp
    have e : pcs g i = g.Places[i] := by unfold pcs; rw [List.getElem?_eq_getElem hi]; rfl
    exact ⟨i, hi, by unfold cT; rw [e]; exact h2, by unfold cF; rw [e]; exact h3, by rw [e, h4]; rfl⟩

theorem chain_steps {g : GEventGraph} {r : Int} (h : graphB g = true) (h0 : 0 ≤ r) (h1 : r ≤ 100000) {f : Nat} : ∀ (q p : List Nat) (l : Nat) (V : List Nat), p ≠ [] → cT g (lastN p) = l → l ≠ f → cF g (headN p) = f → l ∈ V → (∀ e, e ∉ V → visC g p e = false) → (∀ x, x ∈ q → f < x ∧ x ∉ V) → q.Nodup → Chain (arcB (wT g r)) l q f →
    ∃ ps, Steps (candC g) p ps ∧ closedC g (p ++ ps) = true ∧ (∀ x, x ∈ ps → x < g.Places.length) ∧ sumD g (p ++ ps) - r * sumM g (p ++ ps) = sumD g p - r * sumM g p + cw (wT g r) l q f ∧ ps.length ≤ q.length + 1 := by
  intro q
  induction q with
  | nil =>
    intro p l V hne hl hlf hf _ _ _ _ hc
    obtain ⟨i, hi, i1, i2, i3⟩ := wT_place h h0 h1 (arcB_true.1 hc)
    have hcl : closedC g p = false := by unfold closedC; rw [hl, hf]; exact decide_eq_false hlf
    refine ⟨[i], ⟨candC_true.2 ⟨hcl, by rw [i2, hl], by rw [i1, hf]; exact Nat.le_refl _, .inl (by rw [i1, hf])⟩, trivial⟩, ?_, fun x hx => ?_, ?_, by simp⟩
    · unfold closedC; rw [lastN_snoc, headN_snoc hne, i1, hf]; simp
    · simp only [List.mem_singleton] at hx; subst hx; exact hi
    · rw [sumD_app, sumM_app, sumD_one, sumM_one, Int.mul_add]
      show _ = _ + wT g r f l
      rw [← i3]; omega
  | cons v q ih =>
    intro p l V hne hl hlf hf hlV hvis hq hnd hc
    obtain ⟨i, hi, i1, i2, i3⟩ := wT_place h h0 h1 (arcB_true.1 hc.1)
    have hcl : closedC g p = false := by unfold closedC; rw [hl, hf]; exact decide_eq_false hlf
    obtain ⟨hv1, hv2⟩ := hq v (by simp)
    have hcand : candC g p i = true := candC_true.2 ⟨hcl, by rw [i2, hl], by rw [i1, hf]; omega, .inr (by rw [i1]; exact hvis v hv2)⟩
    rw [List.nodup_cons] at hnd
    obtain ⟨ps, s1, s2, s3, s4, s5⟩ := ih (p ++ [i]) v (v :: V) (by simp) (by rw [lastN_snoc, i1]) (by omega) (by rw [headN_snoc hne, hf]) (by simp) (fun e he => by
        rw [List.mem_cons, not_or] at he
        unfold visC
        rw [List.any_append]
        have := hvis e he.2
        unfold visC at this
        rw [this]
        simp only [List.any_cons, List.any_nil, i1, i2, Bool.or_false, Bool.false_or, Bool.or_eq_false_iff, decide_eq_false_iff_not]
        exact ⟨fun e2 => he.2 (e2 ▸ hlV), fun e2 => he.1 e2.symm⟩) (fun x hx => ⟨(hq x (by simp [hx])).1, fun hm => by
        rcases List.mem_cons.1 hm with rfl | hm
        · exact hnd.1 hx
        · exact (hq x (by simp [hx])).2 hm⟩) hnd.2 hc.2
    refine ⟨i :: ps, ⟨hcand, s1⟩, ?_, fun x hx => ?_, ?_, by simp only [List.length_cons]; omega⟩
    · rw [show p ++ i :: ps = (p ++ [i]) ++ ps by simp]; exact s2
    · rcases List.mem_cons.1 hx with rfl | hx
      · exact hi
      · exact s3 x hx
    · rw [show p ++ i :: ps = (p ++ [i]) ++ ps by simp, s4, sumD_app, sumM_app, sumD_one, sumM_one, Int.mul_add]
      show _ = _ + (wT g r v l + cw (wT g r) v q f)
      rw [← i3]; omega

theorem firstC_none {g : GEventGraph} {r : Int} {K : Nat} (h : graphB g = true) (h0 : 0 ≤ r) (h1 : r ≤ 100000) (hK : 100 ≤ K) (hp : PosCyc (wT g r) g.Events.toNat) : firstC g (fun d m => decide (0 < d - r * m)) K ≠ none := by
  intro hn
  obtain ⟨e1, e2, e3, _, _⟩ := graphB_true h
  obtain ⟨v, q, hv, ⟨q1, q2, q3⟩, hw⟩ := hp
  have hql := nodup_le g.Events.toNat q (List.nodup_cons.1 q2).2 (fun x hx => (q1 x hx).2)
  cases q with
  | nil =>
    obtain ⟨i, hi, i1, i2, i3⟩ := wT_place h h0 h1 (arcB_true.1 q3)
    have h2 := List.findSome?_eq_none_iff.1 hn i (by simpa using hi)
    rw [if_pos (by omega)] at h2
    have h3 := gdfs_none (q := []) h2 (by simp; omega) trivial (fun x hx => (by cases hx))
    rw [List.append_nil] at h3
    have hw' : 0 < wT g r v v := hw
    have hc : closedC g [i] = true := decide_eq_true (show cT g i = cF g i by rw [i1, i2])
    unfold accC at h3
    rw [hc, Bool.true_and] at h3
    have h3 : decide (0 < sumD g [i] - r * sumM g [i]) = false := h3
    rw [sumD_one, sumM_one, i3, dT hw'] at h3
    cases h3
  | cons u q =>
    obtain ⟨i, hi, i1, i2, i3⟩ := wT_place h h0 h1 (arcB_true.1 q3.1)
    have hu := q1 u (by simp)
    have h2 := List.findSome?_eq_none_iff.1 hn i (by simpa using hi)
    rw [if_pos (by omega)] at h2
    have q2' := List.nodup_cons.1 (List.nodup_cons.1 q2).2
    obtain ⟨ps, s1, s2, s3, s4, s5⟩ := chain_steps (g := g) (r := r) h h0 h1 (f := v) q [i] u [u, v] (by simp) i1 (by omega) i2 (by simp) (fun e he => by
        unfold visC
        simp only [List.mem_cons, List.not_mem_nil, or_false, not_or] at he
        simp only [List.any_cons, List.any_nil, i1, i2, Bool.or_false, Bool.or_eq_false_iff, decide_eq_false_iff_not]
        omega) (fun x hx => ⟨(q1 x (by simp [hx])).1, fun hm => by
        simp only [List.mem_cons, List.not_mem_nil, or_false] at hm
        rcases hm with rfl | rfl
        · exact q2'.1 hx
        · have := (q1 x (by simp [hx])).1; omega⟩) q2'.2 q3.2
    have h3 := gdfs_none (q := ps) h2 (by simp only [List.length_cons] at hql; omega) s1 s3
    unfold accC at h3
    have hw' : 0 < wT g r u v + cw (wT g r) u q v := hw
    rw [s2, Bool.true_and] at h3
    have h3 : decide (0 < sumD g ([i] ++ ps) - r * sumM g ([i] ++ ps)) = false := h3
    rw [s4, sumD_one, sumM_one, i3, dT hw'] at h3
    cases h3

/-! ### The program's search for a circuit -/
def SeenOk (g : GEventGraph) (p : List Nat) (u : List Bool) : Prop := u.length = g.Events.toNat ∧ ∀ e, e < g.Events.toNat → u[e]? = some (visC g p e)

theorem visC_snoc (g : GEventGraph) (p : List Nat) (v e : Nat) : visC g (p ++ [v]) e = (visC g p e || (decide (cF g v = e) || decide (cT g v = e))) := by
  unfold visC; rw [List.any_append]; simp

theorem visC_last {g : GEventGraph} {p : List Nat} (h : p ≠ []) : visC g p (cT g (lastN p)) = true := by
  unfold visC
  rw [List.any_eq_true]
  exact ⟨lastN p, last_mem h, by simp⟩

theorem nl_cut {p : List Nat} {j : Nat} (hl : p.length ≤ 1000) : cutTo (nl (p ++ [j])) (IntKind.i64.wrap (((nl (p ++ [j])).length : Int) - 1)) = some (nl p) := by
  rw [nl_len, List.length_append, List.length_singleton, wr (by omega) (by omega)]
  unfold cutTo
  rw [nl_len, List.length_append, List.length_singleton, if_pos ⟨by omega, by omega⟩, show (((p.length + 1 : Nat) : Int) - 1).toNat = p.length by omega]
  unfold nl
  rw [List.map_append, List.take_left' (by simp)]

/-! ### Tables row by row -/
def plD (g : GEventGraph) (i : Nat) : GPlace := g.Places.getD i ⟨0, 0, 0, 0⟩

theorem plD_of {g : GEventGraph} {k : Nat} (h : k < g.Places.length) : g.Places[k]? = some (plD g k) := by
  unfold plD; rw [List.getD_eq_getElem?_getD, List.getElem?_eq_getElem h]; rfl

theorem foldl_len {α : Type} {f : List Int → α → List Int} (hf : ∀ xs a, (f xs a).length = xs.length) : ∀ (l : List α) (xs : List Int), (l.foldl f xs).length = xs.length
  | [], _ => rfl
  | a :: l, xs => by rw [List.foldl_cons, foldl_len hf l, hf]

/-- the parts of a table that is under way -/
structure DOk (g : GEventGraph) (n : Nat) (pre : List (List Int)) (xs : List Int) : Prop where
  rws : ∀ r, r ∈ pre → r.length = n
  row : xs.length = n
  le : pre.length ≤ 50

theorem DOk.at' {g : GEventGraph} {n : Nat} {pre : List (List Int)} {xs : List Int} (h : DOk g n pre xs) {m : Nat} (hm : m ≤ pre.length) : (pre ++ [xs])[m]? = some ((pre ++ [xs]).getD m []) ∧ ((pre ++ [xs]).getD m []).length = n := by
  have hl : m < (pre ++ [xs]).length := by simp; omega
  have e : (pre ++ [xs])[m]? = some ((pre ++ [xs]).getD m []) := by rw [List.getD_eq_getElem?_getD, List.getElem?_eq_getElem hl]; rfl
  refine ⟨e, ?_⟩
  rcases List.mem_append.1 (List.mem_of_getElem? e) with h1 | h1
  · exact h.rws _ h1
  · simp only [List.mem_singleton] at h1; rw [h1]; exact h.row

theorem getN {xs : List Int} {i : Int} {u n : Nat} (h : i = (u : Int)) (hu : u < n) (hx : xs.length = n) : idx xs i = some (xs.getD i.toNat 0) := by
  subst h; rw [idx_nat, Int.toNat_natCast, getD_of (by omega)]

theorem upd_last {pre : List (List Int)} {xs ys : List Int} : upd (pre ++ [xs]) (pre.length : Int) ys = some (pre ++ [ys]) := by
  rw [upd_nat _ (by simp)]; simp

structure PlOk (g : GEventGraph) (n : Nat) (i : Nat) : Prop where
  from' : ∃ u : Nat, (plD g i).From = (u : Int) ∧ u < n
  to' : ∃ v : Nat, (plD g i).To = (v : Int) ∧ v < n
  tok : ∃ w : Nat, (plD g i).Tokens = (w : Int) ∧ w ≤ 5

theorem graphB_tok {g : GEventGraph} (h : graphB g = true) : ∀ p, p ∈ g.Places → 0 ≤ p.Tokens ∧ p.Tokens ≤ 5 ∧ 0 ≤ p.Delay ∧ p.Delay ≤ 1000 := by
  intro p hp
  unfold graphB at h
  simp only [Bool.and_eq_true, List.all_eq_true] at h
  have := h.1 p hp
  simp only [placeB, Bool.and_eq_true, inB_true] at this
  omega

theorem PlOk.of {g : GEventGraph} (h : graphB g = true) {i : Nat} (hi : i < g.Places.length) : PlOk g g.Events.toNat i := by
  have hm : plD g i ∈ g.Places := List.mem_of_getElem? (plD_of hi)
  obtain ⟨u, v, h1, h2, h3, h4⟩ := (GOk.of h).at' _ hm
  have := graphB_tok h _ hm
  exact ⟨⟨u, h1, h3⟩, ⟨v, h2, h4⟩, ⟨(plD g i).Tokens.toNat, by omega, by omega⟩⟩


theorem foldl_range {S : Type} {f : S → Nat → S} {o : List Nat} {s : S} {k : Nat} (hk : k < o.length) : (o.take (k + 1)).foldl f s = f ((o.take k).foldl f s) (o.getD k 0) := by
  have : o[k]? = some (o.getD k 0) := by rw [List.getD_eq_getElem?_getD, List.getElem?_eq_getElem hk]; rfl
  rw [List.take_add_one, this, List.foldl_append]; rfl

def zeros (g : GEventGraph) : List Int := List.replicate g.Events.toNat 0

theorem init_len {g : GEventGraph} {ds : List Int} (hd : ds.length = g.Events.toNat) (k : Nat) : (if k = 0 then ds else zeros g).length = g.Events.toNat := by
  by_cases h : k = 0
  · rw [if_pos h]; exact hd
  · rw [if_neg h]; unfold zeros; simp

/-! ### The table of the firing times -/
def tstep (g : GEventGraph) (pre : List (List Int)) (e : Nat) (xs : List Int) (i : Nat) : List Int :=
  bif (plD g i).To == (e : Int) && decide ((plD g i).Tokens ≤ (pre.length : Int)) then xs.set e (max (xs.getD e 0) (IntKind.i64.wrap (((pre ++ [xs]).getD (pre.length - (plD g i).Tokens.toNat) []).getD (plD g i).From.toNat 0 + (plD g i).Delay))) else xs

def tevent (g : GEventGraph) (pre : List (List Int)) (xs : List Int) (e : Nat) : List Int := (List.range g.Places.length).foldl (tstep g pre e) xs

theorem tstep_len (g : GEventGraph) (pre : List (List Int)) (e : Nat) (xs : List Int) (i : Nat) : (tstep g pre e xs i).length = xs.length := by
  unfold tstep
  cases ((plD g i).To == (e : Int) && decide ((plD g i).Tokens ≤ (pre.length : Int))) <;> simp

theorem tevent_len (g : GEventGraph) (pre : List (List Int)) (xs : List Int) (e : Nat) : (tevent g pre xs e).length = xs.length := foldl_len (tstep_len g pre e) _ _

theorem last_at {pre : List (List Int)} {xs : List Int} : (pre ++ [xs])[pre.length]? = some xs := by simp

def tround (g : GEventGraph) (o : List Nat) (pre : List (List Int)) (xs : List Int) : List Int := o.foldl (tevent g pre) xs

theorem tround_len (g : GEventGraph) (o : List Nat) (pre : List (List Int)) (xs : List Int) : (tround g o pre xs).length = xs.length := foldl_len (tevent_len g pre) _ _

def ttab (g : GEventGraph) (o : List Nat) (xs : List Int) : Nat → List (List Int)
  | 0 => []
  | k + 1 => ttab g o xs k ++ [tround g o (ttab g o xs k) xs]

theorem ttab_len (g : GEventGraph) (o : List Nat) (xs : List Int) : ∀ k, (ttab g o xs k).length = k
  | 0 => rfl
  | k + 1 => by unfold ttab; rw [List.length_append, ttab_len g o xs k]; rfl

theorem ttab_rows {g : GEventGraph} {o : List Nat} {xs : List Int} (hd : xs.length = g.Events.toNat) : ∀ k r, r ∈ ttab g o xs k → r.length = g.Events.toNat
  | 0, r, h => by cases h
  | k + 1, r, h => by
    unfold ttab at h
    rcases List.mem_append.1 h with h | h
    · exact ttab_rows hd k r h
    · simp only [List.mem_singleton] at h
      rw [h, tround_len]; exact hd

def rowB (g : GEventGraph) (xs : List Int) : Bool := ((xs.length : Int) == g.Events) && xs.all fun x => inB x 0 1000000

def dueB (g : GEventGraph) (due : List (List Int)) : Bool := due.all (rowB g) && decide ((due.length : Int) ≤ 50)

def dueCode (g : GEventGraph) (due : List (List Int)) : Int := bif !graphB g then 1 else bif !dueB g due then 2 else bif !liveB g g.Events.toNat then 5 else 0

theorem dueCode_zero {g : GEventGraph} {due : List (List Int)} (h : dueCode g due = 0) : graphB g = true ∧ dueB g due = true ∧ ∃ o, fire (eP g.Places) g.Events.toNat g.Events.toNat [] = some o := by
  unfold dueCode at h
  have : graphB g = true ∧ dueB g due = true ∧ liveB g g.Events.toNat = true := by
    revert h
    cases graphB g <;> cases dueB g due <;> cases liveB g g.Events.toNat <;> simp
  refine ⟨this.1, this.2.1, ?_⟩
  have h3 := this.2.2
  unfold liveB at h3
  exact Option.isSome_iff_exists.1 h3

theorem dueB_true {g : GEventGraph} {due : List (List Int)} (hg : graphB g = true) (h : dueB g due = true) : due.length ≤ 50 ∧ ∀ r, r ∈ due → r.length = g.Events.toNat ∧ ∀ x, x ∈ r → 0 ≤ x ∧ x ≤ 1000000 := by
  have h1 := (graphB_true hg).1
  unfold dueB rowB at h
  simp only [Bool.and_eq_true, List.all_eq_true, beq_iff_eq, decide_eq_true_eq, inB_true] at h
  refine ⟨by omega, fun r hr => ?_⟩
  have := h.1 r hr
  exact ⟨by omega, this.2⟩

/-! ### Delays lie in their range -/
theorem wr_range (n : Int) : -9223372036854775808 ≤ IntKind.i64.wrap n ∧ IntKind.i64.wrap n ≤ 9223372036854775807 := by
  simp [IntKind.wrap, IntKind.bits, IntKind.signed]; omega

def allIn (xs : List Int) : Prop := ∀ i, 0 ≤ xs.getD i 0 ∧ xs.getD i 0 ≤ 1000000

theorem allIn_mem {xs : List Int} (h : allIn xs) : ∀ x, x ∈ xs → 0 ≤ x ∧ x ≤ 1000000 := by
  intro x hx
  obtain ⟨i, hi, rfl⟩ := List.getElem_of_mem hx
  have := h i
  rw [List.getD_eq_getElem?_getD, List.getElem?_eq_getElem hi] at this
  exact this

theorem allIn_of {xs : List Int} (h : ∀ x, x ∈ xs → 0 ≤ x ∧ x ≤ 1000000) : allIn xs := by
  intro i
  by_cases hi : i < xs.length
  · rw [List.getD_eq_getElem?_getD, List.getElem?_eq_getElem hi]; exact h _ (List.getElem_mem hi)
  · rw [List.getD_eq_getElem?_getD, List.getElem?_eq_none (by omega)]; simp

theorem set_getD {xs : List Int} {e i : Nat} {y : Int} : (xs.set e y).getD i 0 = if i = e ∧ i < xs.length then y else xs.getD i 0 := by
  rw [List.getD_eq_getElem?_getD, List.getD_eq_getElem?_getD]
  by_cases h : i = e
  · subst h
    by_cases hl : i < xs.length
    · rw [set_here hl, if_pos ⟨rfl, hl⟩]; rfl
    · rw [if_neg (fun hc => hl hc.2), List.getElem?_eq_none (by simp; omega), List.getElem?_eq_none (by omega)]
  · rw [set_keep h, if_neg (fun hc => h hc.1)]

theorem foldl_in {α : Type} {f : List Int → α → List Int} (l : List α) (hf : ∀ xs a, a ∈ l → allIn xs → allIn (f xs a)) : ∀ xs, allIn xs → allIn (l.foldl f xs) := by
  induction l with
  | nil => intro xs h; exact h
  | cons a l ih => intro xs h; exact ih (fun xs b hb => hf xs b (by simp [hb])) _ (hf xs a (by simp) h)

theorem rowsD {T : List (List Int)} {k : Nat} (h : k < T.length) : T[k]? = some (T.getD k []) := by
  rw [List.getD_eq_getElem?_getD, List.getElem?_eq_getElem h]; rfl

theorem liveB_some {g : GEventGraph} (h : liveB g g.Events.toNat = true) : ∃ o, fire (eP g.Places) g.Events.toNat g.Events.toNat [] = some o := by
  unfold liveB at h
  exact Option.isSome_iff_exists.1 h

theorem startsB_len {g : GEventGraph} {xs : List Int} (h : startsB g xs = true) : xs.length = g.Events.toNat ∧ allIn xs := by
  unfold startsB at h
  simp only [Bool.and_eq_true, beq_iff_eq, List.all_eq_true, inB_true] at h
  exact ⟨by omega, allIn_of h.2⟩

/-! ### When delays are settled -/
def zB (xs : List Int) : Bool := xs.all fun x => inB x 0 0

theorem sum_pos {xs : List Int} (h : ∀ x, x ∈ xs → 0 ≤ x ∧ x ≤ 1000000) : 0 ≤ xs.sum ∧ xs.sum ≤ 1000000 * (xs.length : Int) ∧ decide (0 < xs.sum) = !zB xs := by
  induction xs with
  | nil => exact ⟨by simp, by simp, rfl⟩
  | cons x xs ih =>
    obtain ⟨h1, h2, h3⟩ := ih (fun y hy => h y (by simp [hy]))
    have hx := h x (by simp)
    rw [List.sum_cons]
    refine ⟨by omega, by simp only [List.length_cons]; omega, ?_⟩
    have e : zB (x :: xs) = (inB x 0 0 && zB xs) := rfl
    rw [e]
    by_cases h0 : x = 0
    · subst h0
      rw [show inB 0 0 0 = true from rfl, Bool.true_and, ← h3]; simp
    · rw [inB_false (show ¬ ((0 : Int) ≤ x ∧ x ≤ 0) by omega), Bool.false_and]
      exact decide_eq_true (by omega)

/-- behind the last row that is not zero -/
def lsz (T : List (List Int)) : Nat → Nat
  | 0 => 0
  | k + 1 => if zB (T.getD k []) = true then lsz T k else k + 1

theorem lsz_le (T : List (List Int)) : ∀ k, lsz T k ≤ k
  | 0 => Nat.le_refl _
  | k + 1 => by
    unfold lsz
    split
    · have := lsz_le T k; omega
    · exact Nat.le_refl _

/-! ### The greatest delays -/
def wmax (xs q : List Int) : List Int := (List.range xs.length).map fun i => max (xs.getD i 0) (q.getD i 0)

theorem wmax_len (xs q : List Int) : (wmax xs q).length = xs.length := by unfold wmax; simp

theorem wmax_of {r a b : List Int} (hl : r.length = a.length) (h : ∀ q, q < a.length → r[q]? = some (max (a.getD q 0) (b.getD q 0))) : r = wmax a b := by
  apply List.ext_getElem?; intro q
  by_cases hq : q < a.length
  · rw [h q hq]; unfold wmax; rw [List.getElem?_map, List.getElem?_range hq]; rfl
  · rw [List.getElem?_eq_none (by omega), List.getElem?_eq_none (by rw [wmax_len]; omega)]

theorem wfold_len (T : List (List Int)) (xs : List Int) : (T.foldl wmax xs).length = xs.length := foldl_len wmax_len T xs

theorem foldl_takeR {S : Type} {f : S → List Int → S} {T : List (List Int)} {s : S} {k : Nat} (hk : k < T.length) : (T.take (k + 1)).foldl f s = f ((T.take k).foldl f s) (T.getD k []) := by
  have : T[k]? = some (T.getD k []) := by rw [List.getD_eq_getElem?_getD, List.getElem?_eq_getElem hk]; rfl
  rw [List.take_add_one, this, List.foldl_append]; rfl

end Go.Proofs.Ytmijmamolmoheaa
