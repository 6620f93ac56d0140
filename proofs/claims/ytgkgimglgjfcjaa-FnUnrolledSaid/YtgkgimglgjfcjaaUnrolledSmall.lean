/- Plain lemmas about the small functions of the laws. -/
import Derived.Test.YtgkgimglgjfcjaaUnrolledModels
import Derived.Test.YtgkgimglgjfcjaaBf
namespace Go.Proofs.Ytgkgimglgjfcjaa

theorem slices_IndexFunc_Place_is {F : Nat} {ps : List GPlace} {m : GPlace → Option Bool} {h : GPlace → Bool} (hF : 134217728 ≤ F) (hl : ps.length ≤ 16777216) (hm : ∀ x, x ∈ ps → m x = some (h x)) :
    slices_IndexFunc_Place F ps m = some (firstAt (ps.findIdx? h)) := by
  unfold slices_IndexFunc_Place
  rw [find_loop (ps := ps) (h := h) (v := fun k => (k : Int)) (L := slices_IndexFunc_Place_L1 F ps m) ?_ ?_ (by omega)]
  · cases ps.findIdx? h <;> rfl
  · intro n k x hk hx
    simp only [slices_IndexFunc_Place_L1, bdT (show (k : Int) < (ps.length : Int) by omega), idx_nat, hx, Option.bind_some, hm x (List.mem_of_getElem? hx), wrN (show k ≤ 67108864 by omega)]
  · intro n
    simp only [slices_IndexFunc_Place_L1, bdF (show ¬ (ps.length : Int) < (ps.length : Int) by omega)]
theorem slices_ContainsFunc_Place_is {F : Nat} {ps : List GPlace} {m : GPlace → Option Bool} {h : GPlace → Bool} (hF : 134217728 ≤ F) (hl : ps.length ≤ 16777216) (hm : ∀ x, x ∈ ps → m x = some (h x)) :
    slices_ContainsFunc_Place F ps m = some (ps.any h) := by
  unfold slices_ContainsFunc_Place
  rw [bind_of (slices_IndexFunc_Place_is hF hl hm), find_any]

/-! ### What comes to an end -/
def Tot {α : Type} (P : α → Prop) (o : Option α) : Prop := ∃ x, o = some x ∧ P x

theorem Tot.pure {α : Type} {P : α → Prop} {x : α} (h : P x) : Tot P (some x) := ⟨x, rfl, h⟩

theorem Tot.bind {α β : Type} {P : α → Prop} {Q : β → Prop} {o : Option α} {f : α → Option β} (h : Tot P o) (k : ∀ x, P x → Tot Q (f x)) : Tot Q (o.bind f) := by
  obtain ⟨x, rfl, hx⟩ := h; exact k x hx

theorem Tot.cond {α : Type} {P : α → Prop} {b : Bool} {x y : Option α} (h1 : b = true → Tot P x) (h2 : b = false → Tot P y) : Tot P (bif b then x else y) := by
  cases b
  · exact h2 rfl
  · exact h1 rfl

theorem Tot.mono {α : Type} {P Q : α → Prop} {o : Option α} (h : Tot P o) (k : ∀ x, P x → Q x) : Tot Q o := by
  obtain ⟨x, e, hx⟩ := h; exact ⟨x, e, k x hx⟩

theorem app_tot {α : Type} {xs ys : List α} (h : xs.length + ys.length ≤ 67108864) : Tot (fun zs => zs = xs ++ ys) (app xs ys) := ⟨_, app_le h, rfl⟩

theorem idx_tot {α : Type} {xs : List α} {i : Int} (h0 : 0 ≤ i) (h1 : i < (xs.length : Int)) : Tot (fun x => x ∈ xs) (idx xs i) := ⟨_, idx_int h0 h1, List.getElem_mem _⟩

theorem upd_tot {α : Type} {xs : List α} {i : Int} {x : α} (h0 : 0 ≤ i) (h1 : i < (xs.length : Int)) : Tot (fun ys => ys.length = xs.length) (upd xs i x) := ⟨_, upd_int x h0 h1, List.length_set⟩

theorem cutTo_tot {α : Type} {xs : List α} {l : Int} (h0 : 0 ≤ l) (h1 : l ≤ (xs.length : Int)) : Tot (fun ys => ys.length ≤ xs.length) (cutTo xs l) := by
  refine ⟨xs.take l.toNat, ?_, by show (xs.take l.toNat).length ≤ xs.length; rw [List.length_take]; omega⟩
  unfold cutTo; rw [if_pos ⟨h0, h1⟩]

/-- how many numbers stand in the first i rows -/
def offR (rows : List (List Int)) (i : Nat) : Nat := ((rows.take i).map List.length).sum

theorem offR_zero (rows : List (List Int)) : offR rows 0 = 0 := rfl

theorem offR_succ {rows : List (List Int)} {i : Nat} {row : List Int} (h : rows[i]? = some row) : offR rows (i + 1) = offR rows i + row.length := by
  unfold offR
  rw [List.take_add_one, h]; simp

theorem offR_mono (rows : List (List Int)) (i : Nat) : offR rows i ≤ offR rows (i + 1) := by
  unfold offR
  rw [List.take_add_one, List.map_append, List.sum_append]; omega

theorem offR_le {rows : List (List Int)} {i j : Nat} (h : i ≤ j) : offR rows i ≤ offR rows j := by
  induction j with
  | zero => obtain rfl : i = 0 := by omega
            exact Nat.le_refl _
  | succ j ih =>
    by_cases e : i = j + 1
    · subst e; exact Nat.le_refl _
    · exact Nat.le_trans (ih (by omega)) (offR_mono rows j)


theorem rows_le {rows : List (List Int)} {N : Nat} (hr : offR rows rows.length ≤ N) : ∀ row, row ∈ rows → row.length ≤ N := by
  intro row hm
  obtain ⟨i, hi, rfl⟩ := List.getElem_of_mem hm
  have h1 := offR_succ (List.getElem?_eq_getElem hi)
  have h2 := offR_le (rows := rows) (show i + 1 ≤ rows.length by omega)
  omega

/-! ### Slices of matrices -/
def wtM (m : List (List Int)) : Nat := m.length + offR m m.length

def offW (ms : List (List (List Int))) (i : Nat) : Nat := ((ms.take i).map wtM).sum

def offD (ms : List (List (List Int))) (i : Nat) : Nat := ((ms.take i).map fun m => offR m m.length).sum

theorem offW_zero (ms : List (List (List Int))) : offW ms 0 = 0 := rfl

theorem offW_succ {ms : List (List (List Int))} {i : Nat} {m : List (List Int)} (h : ms[i]? = some m) : offW ms (i + 1) = offW ms i + wtM m := by
  unfold offW
  rw [List.take_add_one, h]; simp

theorem offD_succ {ms : List (List (List Int))} {i : Nat} {m : List (List Int)} (h : ms[i]? = some m) : offD ms (i + 1) = offD ms i + offR m m.length := by
  unfold offD
  rw [List.take_add_one, h]; simp

theorem offW_mono (ms : List (List (List Int))) (i : Nat) : offW ms i ≤ offW ms (i + 1) := by
  unfold offW
  rw [List.take_add_one, List.map_append, List.sum_append]; omega

theorem offW_le {ms : List (List (List Int))} {i j : Nat} (h : i ≤ j) : offW ms i ≤ offW ms j := by
  induction j with
  | zero => obtain rfl : i = 0 := by omega
            exact Nat.le_refl _
  | succ j ih =>
    by_cases e : i = j + 1
    · subst e; exact Nat.le_refl _
    · exact Nat.le_trans (ih (by omega)) (offW_mono ms j)

theorem offD_le (ms : List (List (List Int))) : ∀ i, offD ms i ≤ offW ms i
  | 0 => Nat.le_refl _
  | i + 1 => by
    have := offD_le ms i
    cases h : ms[i]? with
    | none =>
      have e1 : offW ms (i + 1) = offW ms i := by unfold offW; rw [List.take_add_one, h]; simp
      have e2 : offD ms (i + 1) = offD ms i := by unfold offD; rw [List.take_add_one, h]; simp
      omega
    | some m =>
      rw [offW_succ h, offD_succ h]
      unfold wtM; omega

theorem offW_at {ms : List (List (List Int))} {i : Nat} {m : List (List Int)} (h : ms[i]? = some m) : m.length + offR m m.length ≤ offW ms ms.length := by
  have h1 := offW_succ h
  have h2 := offW_le (ms := ms) (show i + 1 ≤ ms.length from (List.getElem?_eq_some_iff.1 h).1)
  unfold wtM at h1
  omega

theorem offW_mem {ms : List (List (List Int))} {m : List (List Int)} (h : m ∈ ms) : m.length + offR m m.length ≤ offW ms ms.length := by
  obtain ⟨i, hi, rfl⟩ := List.getElem_of_mem h
  exact offW_at (List.getElem?_eq_getElem hi)

def inB (n lo hi : Int) : Bool := decide (lo ≤ n) && decide (n ≤ hi)

theorem inB_true {n lo hi : Int} : inB n lo hi = true ↔ lo ≤ n ∧ n ≤ hi := by unfold inB; simp

theorem inB_false {n lo hi : Int} (h : ¬ (lo ≤ n ∧ n ≤ hi)) : inB n lo hi = false := by
  cases e : inB n lo hi with
  | false => rfl
  | true => exact absurd (inB_true.1 e) h

theorem specIn_is {F : Nat} {n lo hi : Int} : spec_l01In F n lo hi = some (inB n lo hi) := by
  simp only [spec_l01In, cond_and, Option.bind_some]; rfl

theorem within_is {F : Nat} {n lo hi : Int} : impl_within F n lo hi = some (inB n lo hi) := by
  simp only [impl_within, cond_and, Option.bind_some]; rfl


/-! ### Values and vectors -/
def valB (a : Int) : Bool := (a == (-1000000000000000)) || inB a (-1000000) 1000000

/-! ### Sums of the algebra -/
def tms (a b : Int) : Int := bif (a == (-1000000000000000)) || (b == (-1000000000000000)) then (-1000000000000000) else IntKind.i64.wrap (a + b)

/-- the sum of the products -/
def dotv (c x : List Int) (n : Nat) : Int := (List.range n).foldl (fun acc i => max acc (tms (c.getD i 0) (x.getD i 0))) (-1000000000000000)

/-! ### Lists of finite numbers -/
theorem fin_val (x : Int) : (valB x && !(x == (-1000000000000000))) = inB x (-1000000) 1000000 := by
  unfold valB
  cases h : (x == (-1000000000000000)) with
  | false => simp
  | true =>
    rw [beq_iff_eq] at h
    subst h; rfl

def applyv (a : List (List Int)) (x : List Int) : List Int := a.map fun row => dotv row x row.length

def vecB (x : List Int) : Bool := inB x.length 1 10 && x.all valB

def firstL (a : List (List Int)) : Int := ((a.getD 0 []).length : Int)

def matB (a : List (List Int)) : Bool := inB a.length 1 10 && a.all (fun row => vecB row && ((row.length : Int) == firstL a))

theorem first_is {a : List (List Int)} (h : 0 < a.length) : idx a 0 = some (a.getD 0 []) := by
  rw [show (0 : Int) = ((0 : Nat) : Int) from rfl, idx_nat, List.getD_eq_getElem?_getD, List.getElem?_eq_getElem h]; rfl

def squareB (a : List (List Int)) : Bool := matB a && ((a.length : Int) == firstL a)

/-! ### Matrices by their entries -/
def tabM (m n : Nat) (f : Nat → Nat → Int) : List (List Int) := (List.range m).map fun i => (List.range n).map fun j => f i j

theorem tabM_len (m n : Nat) (f : Nat → Nat → Int) : (tabM m n f).length = m := by unfold tabM; simp

theorem tabM_row {m n i : Nat} {f : Nat → Nat → Int} (h : i < m) : (tabM m n f)[i]? = some ((List.range n).map fun j => f i j) := by
  unfold tabM; rw [List.getElem?_map, List.getElem?_range h]; rfl

theorem tabM_rows {m n : Nat} {f : Nat → Nat → Int} : ∀ r, r ∈ tabM m n f → r.length = n := by
  intro r hr
  unfold tabM at hr
  rw [List.mem_map] at hr
  obtain ⟨i, _, rfl⟩ := hr
  simp

theorem tabM_of {m n : Nat} {f : Nat → Nat → Int} {t : List (List Int)} (hl : t.length = m) (h : ∀ i, i < m → t[i]? = some ((List.range n).map fun j => f i j)) : t = tabM m n f := by
  apply List.ext_getElem?; intro q
  by_cases hq : q < m
  · rw [h q hq, tabM_row hq]
  · rw [List.getElem?_eq_none (by omega), List.getElem?_eq_none (by rw [tabM_len]; omega)]

theorem row_of {n : Nat} {f : Nat → Int} {r : List Int} (hl : r.length = n) (h : ∀ j, j < n → r[j]? = some (f j)) : r = (List.range n).map f := by
  apply List.ext_getElem?; intro q
  by_cases hq : q < n
  · rw [h q hq, List.getElem?_map, List.getElem?_range hq]; rfl
  · rw [List.getElem?_eq_none (by omega), List.getElem?_eq_none (by simp; omega)]

def unitM (n : Nat) : List (List Int) := tabM n n fun i j => if i = j then 0 else (-1000000000000000)

/-! ### Products -/
def dotM (a b : List (List Int)) (i j : Nat) (k : Nat) : Int := (List.range k).foldl (fun acc q => max acc (tms ((a.getD i []).getD q 0) ((b.getD q []).getD j 0))) (-1000000000000000)

theorem dotM_succ (a b : List (List Int)) (i j k : Nat) : dotM a b i j (k + 1) = max (dotM a b i j k) (tms ((a.getD i []).getD k 0) ((b.getD k []).getD j 0)) := by
  unfold dotM; rw [List.range_succ, List.foldl_append]; rfl

def mulM (a b : List (List Int)) (n : Nat) : List (List Int) := tabM a.length n fun i j => dotM a b i j b.length

theorem rowG {t : List (List Int)} {k : Nat} (h : k < t.length) : t[k]? = some (t.getD k []) := by
  rw [List.getD_eq_getElem?_getD, List.getElem?_eq_getElem h]; rfl

theorem mulM_len (a b : List (List Int)) (n : Nat) : (mulM a b n).length = a.length := tabM_len _ _ _

theorem mulM_rows {a b : List (List Int)} {n : Nat} : ∀ r, r ∈ mulM a b n → r.length = n := tabM_rows

def valsM (a : List (List Int)) : Bool := a.all fun r => r.all valB

/-! ### Modes -/
def firstN (ms : List (List (List Int))) : Int := ((ms.getD 0 []).length : Int)

def modesB (ms : List (List (List Int))) : Bool := inB ms.length 1 4 && ms.all fun m => squareB m && ((m.length : Int) == firstN ms)

theorem firstM_is {ms : List (List (List Int))} (h : 0 < ms.length) : idx ms 0 = some (ms.getD 0 []) := by
  rw [show (0 : Int) = ((0 : Nat) : Int) from rfl, idx_nat, List.getD_eq_getElem?_getD, List.getElem?_eq_getElem h]; rfl

/-- all matrices are squares of one size -/
theorem modesB_true {ms : List (List (List Int))} (h : modesB ms = true) : ∃ n : Nat, (ms.getD 0 []).length = n ∧ 1 ≤ n ∧ n ≤ 10 ∧ 1 ≤ ms.length ∧ ms.length ≤ 4 ∧ ∀ m, m ∈ ms → m.length = n ∧ ∀ row, row ∈ m → row.length = n := by
  unfold modesB at h
  rw [Bool.and_eq_true, inB_true, List.all_eq_true] at h
  have hm : ms.getD 0 [] ∈ ms := by
    rw [List.getD_eq_getElem?_getD, List.getElem?_eq_getElem (show 0 < ms.length by omega)]; exact List.getElem_mem _
  have sq : ∀ m, squareB m = true → 1 ≤ m.length ∧ m.length ≤ 10 ∧ ∀ row, row ∈ m → row.length = m.length := by
    intro m hs
    unfold squareB matB at hs
    simp only [Bool.and_eq_true, inB_true, beq_iff_eq, List.all_eq_true] at hs
    refine ⟨by omega, by omega, fun row hrow => ?_⟩
    have := (hs.1.2 row hrow).2
    omega
  have h0 := h.2 _ hm
  rw [Bool.and_eq_true] at h0
  obtain ⟨a1, a2, _⟩ := sq _ h0.1
  refine ⟨_, rfl, a1, a2, by omega, by omega, fun m hmm => ?_⟩
  have h2 := h.2 m hmm
  rw [Bool.and_eq_true, beq_iff_eq] at h2
  unfold firstN at h2
  obtain ⟨_, _, b3⟩ := sq _ h2.1
  exact ⟨by omega, fun row hrow => by rw [b3 row hrow]; omega⟩

def wordB (ms : List (List (List Int))) (w : List Int) : Bool := (w.all fun x => inB x 0 (IntKind.i64.wrap ((ms.length : Int) - 1))) && decide ((w.length : Int) ≤ 6)

theorem wordB_at {ms : List (List (List Int))} {w : List Int} (h : wordB ms w = true) (hm : 1 ≤ ms.length) (hm4 : ms.length ≤ 4) : w.length ≤ 6 ∧ ∀ k (hk : k < w.length), ∃ j : Nat, w[k] = (j : Int) ∧ j < ms.length := by
  unfold wordB at h
  simp only [Bool.and_eq_true, List.all_eq_true, inB_true, decide_eq_true_eq] at h
  refine ⟨by omega, fun k hk => ?_⟩
  have := h.1 _ (List.getElem_mem hk)
  rw [wr (by omega) (by omega)] at this
  exact ⟨(w[k]).toNat, by omega, by omega⟩

/-! ### Shifted vectors, sums of matrices -/
def shiftv (x : List Int) (g : Int) : List Int := x.map fun v => tms v g

/-! ### Sums of matrices -/
def addv (a b : List Int) : List Int := (List.range a.length).map fun i => max (a.getD i 0) (b.getD i 0)

theorem addv_len (a b : List Int) : (addv a b).length = a.length := by unfold addv; simp

def addm (a b : List (List Int)) : List (List Int) := (List.range a.length).map fun i => addv (a.getD i []) (b.getD i [])

theorem addv_of {r a b : List Int} (hl : r.length = a.length) (h : ∀ q, q < a.length → r[q]? = some (max (a.getD q 0) (b.getD q 0))) : r = addv a b := by
  apply List.ext_getElem?; intro q
  by_cases hq : q < a.length
  · rw [h q hq]; unfold addv; rw [List.getElem?_map, List.getElem?_range hq]; rfl
  · rw [List.getElem?_eq_none (by omega), List.getElem?_eq_none (by rw [addv_len]; omega)]

theorem addm_len (a b : List (List Int)) : (addm a b).length = a.length := by unfold addm; simp

theorem addm_rows {a b : List (List Int)} {n : Nat} (ha : ∀ r, r ∈ a → r.length = n) : ∀ r, r ∈ addm a b → r.length = n := by
  intro r hr
  unfold addm at hr
  rw [List.mem_map] at hr
  obtain ⟨i, hi, rfl⟩ := hr
  rw [addv_len]
  have hi' : i < a.length := by simpa using hi
  have e : a[i]? = some (a.getD i []) := by rw [List.getD_eq_getElem?_getD, List.getElem?_eq_getElem hi']; rfl
  exact ha _ (List.mem_of_getElem? e)

/-! ### Tables by their entries -/
theorem tabM_get {m n i j : Nat} {f : Nat → Nat → Int} (hi : i < m) (hj : j < n) : ((tabM m n f).getD i []).getD j 0 = f i j := by
  rw [List.getD_eq_getElem?_getD, List.getD_eq_getElem?_getD, tabM_row hi, Option.getD_some, List.getElem?_map, List.getElem?_range hj]; rfl

theorem tabM_congr {m n : Nat} {f g : Nat → Nat → Int} (h : ∀ i j, i < m → j < n → f i j = g i j) : tabM m n f = tabM m n g := by
  unfold tabM
  apply List.map_congr_left
  intro i hi
  apply List.map_congr_left
  intro j hj
  exact h i j (by simpa using hi) (by simpa using hj)

theorem tabM_at {n i : Nat} {f : Nat → Int} (h : i < n) : ((List.range n).map f)[i]? = some (f i) := by
  rw [List.getElem?_map, List.getElem?_range h]; rfl

theorem tabM_set {m n i j : Nat} {f : Nat → Nat → Int} {v : Int} (hi : i < m) (hj : j < n) : (tabM m n f).set i (((List.range n).map fun j => f i j).set j v) = tabM m n fun a b => if a = i ∧ b = j then v else f a b := by
  refine tabM_of (by rw [List.length_set, tabM_len]) (fun a ha => ?_)
  by_cases e : a = i
  · subst e
    rw [set_here (by rw [tabM_len]; exact ha)]
    refine congrArg some (row_of (by simp) (fun b hb => ?_))
    by_cases e2 : b = j
    · subst e2
      rw [set_here (by simpa using hb), if_pos ⟨rfl, rfl⟩]
    · rw [set_keep e2, tabM_at hb, if_neg (by omega)]
  · rw [set_keep e, tabM_row ha]
    refine congrArg some ?_
    apply List.map_congr_left
    intro b _
    rw [if_neg (by omega)]

theorem tabM_self {m n : Nat} {a : List (List Int)} (hl : a.length = m) (hr : ∀ r, r ∈ a → r.length = n) : a = tabM m n fun i j => (a.getD i []).getD j 0 := by
  refine tabM_of hl (fun i hi => ?_)
  have e : a[i]? = some (a.getD i []) := by rw [List.getD_eq_getElem?_getD, List.getElem?_eq_getElem (by omega)]; rfl
  rw [e]
  exact congrArg some (row_of (hr _ (List.mem_of_getElem? e)) (fun j hj => getD_of (by rw [hr _ (List.mem_of_getElem? e)]; exact hj)))

theorem tabM_inj {m n : Nat} {f g : Nat → Nat → Int} (h : tabM m n f = tabM m n g) {i j : Nat} (hi : i < m) (hj : j < n) : f i j = g i j := by
  rw [← tabM_get (f := f) hi hj, h, tabM_get hi hj]

/-! ### Tables of arcs -/
def arcT {α : Type} (t f : α → Nat) (w : α → Int) : List α → Nat → Nat → Int
  | l => fun i j => l.foldl (fun acc x => if t x = i ∧ f x = j then max acc (w x) else acc) (-1000000000000000)

theorem arcT_snoc {α : Type} (t f : α → Nat) (w : α → Int) (l : List α) (x : α) (i j : Nat) : arcT t f w (l ++ [x]) i j = if i = t x ∧ j = f x then max (arcT t f w l (t x) (f x)) (w x) else arcT t f w l i j := by
  unfold arcT
  rw [List.foldl_append]
  simp only [List.foldl_cons, List.foldl_nil]
  by_cases h : t x = i ∧ f x = j
  · obtain ⟨rfl, rfl⟩ := h
    rw [if_pos ⟨rfl, rfl⟩]
  · rw [if_neg h, if_neg (by omega)]

theorem arcT_le {α : Type} {t f : α → Nat} {w : α → Int} : ∀ (l : List α) (a0 : Int) (i j : Nat), a0 ≤ l.foldl (fun acc x => if t x = i ∧ f x = j then max acc (w x) else acc) a0
  | [], a0, _, _ => Int.le_refl _
  | x :: l, a0, i, j => by
    rw [List.foldl_cons]
    by_cases h : t x = i ∧ f x = j
    · rw [if_pos h]; exact Int.le_trans (by omega) (arcT_le l _ i j)
    · rw [if_neg h]; exact arcT_le l a0 i j

theorem arcT_ge' {α : Type} {t f : α → Nat} {w : α → Int} : ∀ (l : List α) (a0 : Int) (x : α), x ∈ l → w x ≤ l.foldl (fun acc y => if t y = t x ∧ f y = f x then max acc (w y) else acc) a0
  | [], _, x, h => by cases h
  | y :: l, a0, x, h => by
    rw [List.foldl_cons]
    rcases List.mem_cons.1 h with rfl | h
    · rw [if_pos ⟨rfl, rfl⟩]; exact Int.le_trans (by omega) (arcT_le l _ _ _)
    · exact arcT_ge' l _ x h

theorem arcT_ge {α : Type} {t f : α → Nat} {w : α → Int} {l : List α} {x : α} (h : x ∈ l) : w x ≤ arcT t f w l (t x) (f x) := arcT_ge' l _ x h

theorem arcT_cases' {α : Type} {t f : α → Nat} {w : α → Int} (i j : Nat) : ∀ (l : List α) (a0 : Int), l.foldl (fun acc x => if t x = i ∧ f x = j then max acc (w x) else acc) a0 = a0 ∨ ∃ x, x ∈ l ∧ t x = i ∧ f x = j ∧ l.foldl (fun acc x => if t x = i ∧ f x = j then max acc (w x) else acc) a0 = w x
  | [], a0 => .inl rfl
  | y :: l, a0 => by
    rw [List.foldl_cons]
    by_cases h : t y = i ∧ f y = j
    · rw [if_pos h]
      rcases arcT_cases' i j l (max a0 (w y)) with h1 | ⟨x, h1, h2, h3, h4⟩
      · by_cases h5 : w y ≤ a0
        · left; rw [h1]; omega
        · right; exact ⟨y, by simp, h.1, h.2, by rw [h1]; omega⟩
      · right; exact ⟨x, by simp [h1], h2, h3, h4⟩
    · rw [if_neg h]
      rcases arcT_cases' i j l a0 with h1 | ⟨x, h1, h2, h3, h4⟩
      · exact .inl h1
      · right; exact ⟨x, by simp [h1], h2, h3, h4⟩

theorem arcT_cases {α : Type} {t f : α → Nat} {w : α → Int} (l : List α) (i j : Nat) : arcT t f w l i j = -1000000000000000 ∨ ∃ x, x ∈ l ∧ t x = i ∧ f x = j ∧ arcT t f w l i j = w x := arcT_cases' i j l _

theorem arcT_ok {α : Type} {t f : α → Nat} {w : α → Int} {l : List α} (h : ∀ x, x ∈ l → -1000000 ≤ w x ∧ w x ≤ 1000000) (n : Nat) : TabOk (arcT t f w l) n := fun i j _ _ => by
  rcases arcT_cases (t := t) (f := f) (w := w) l i j with e | ⟨x, hx, _, _, e⟩
  · exact .inl e
  · rw [e]; exact .inr (h x hx)

/-- a loop that lays arcs into a table -/
theorem arc_loop {α : Type} {t f : α → Nat} {w : α → Int} {ps : List α} {n : Nat} {L : Nat → List (List Int) → Int → Option (List (List Int))}
    (hL : ∀ m k x h, k < ps.length → ps[k]? = some x → L (m + 1) (tabM n n h) (k : Int) = L m (tabM n n fun i j => if i = t x ∧ j = f x then max (h (t x) (f x)) (w x) else h i j) ((k + 1 : Nat) : Int))
    (hE : ∀ m h, L (m + 1) (tabM n n h) (ps.length : Int) = some (tabM n n h)) {F : Nat} (hn : ps.length < F) : L F (tabM n n fun _ _ => (-1000000000000000)) 0 = some (tabM n n (arcT t f w ps)) := by
  refine for0 (L := L) (len := ps.length) (fun k ms => ms = tabM n n (arcT t f w (ps.take k))) (R := fun o => o = some (tabM n n (arcT t f w ps))) ?_ ?_ rfl hn
  · rintro m k ms hk rfl
    have hx : ps[k]? = some ps[k] := List.getElem?_eq_getElem hk
    refine .inl ⟨_, hL m k ps[k] _ hk hx, tabM_congr fun i j _ _ => ?_⟩
    rw [List.take_add_one, hx]
    exact (arcT_snoc t f w (ps.take k) ps[k] i j).symm
  · rintro m ms rfl
    rw [hE m, List.take_length]

/-! ### The star, both ways -/
theorem tms_ta {M K a b : Int} (ha : Okw M a) (hb : Okw K b) (hM : M ≤ 10000000000) (hK : K ≤ 10000000000) : tms a b = ta a b := by
  unfold tms ta
  unfold Okw at ha hb
  by_cases h1 : a = -1000000000000000
  · subst h1; rw [if_pos (.inl rfl)]; rfl
  · by_cases h2 : b = -1000000000000000
    · subst h2; rw [if_pos (.inr rfl), beq_self_eq_true, Bool.or_true]; rfl
    · rw [if_neg (by omega), beq_false_of_ne h1, beq_false_of_ne h2]
      exact wr (by omega) (by omega)

theorem addm_tab {n : Nat} {f g : Nat → Nat → Int} : addm (tabM n n f) (tabM n n g) = tabM n n fun i j => max (f i j) (g i j) := by
  refine tabM_of (by rw [addm_len, tabM_len]) (fun i hi => ?_)
  unfold addm
  rw [List.getElem?_map, tabM_len, List.getElem?_range hi]
  refine congrArg some (row_of ?_ (fun j hj => ?_))
  · rw [addv_len, List.getD_eq_getElem?_getD, tabM_row hi]; simp
  · unfold addv
    have hl : ((tabM n n f).getD i []).length = n := by rw [List.getD_eq_getElem?_getD, tabM_row hi]; simp
    show ((List.range ((tabM n n f).getD i []).length).map fun q => max (((tabM n n f).getD i []).getD q 0) (((tabM n n g).getD i []).getD q 0))[j]? = _
    rw [hl, tabM_at hj, tabM_get hi hj, tabM_get hi hj]

theorem unitM_tab (n : Nat) : unitM n = tabM n n un := rfl

theorem rows_tab {n : Nat} {f : Nat → Nat → Int} (hn : n ≤ 10) : ∀ r, r ∈ tabM n n f → r.length ≤ 1048576 := fun r hr => by rw [tabM_rows r hr]; omega

theorem getD_tab {n i : Nat} {f : Nat → Nat → Int} (hi : i < n) : ((tabM n n f).getD i []).length = n := by
  rw [List.getD_eq_getElem?_getD, tabM_row hi]; simp


theorem mulM_tab {n : Nat} {f g : Nat → Nat → Int} {M K : Int} (hf : ∀ i j, i < n → j < n → Okw M (f i j)) (hg : ∀ i j, i < n → j < n → Okw K (g i j)) (hM : M ≤ 10000000000) (hK : K ≤ 10000000000) : mulM (tabM n n f) (tabM n n g) n = tabM n n fun i j => mx n fun q => ta (f i q) (g q j) := by
  unfold mulM
  rw [tabM_len, tabM_len]
  refine tabM_congr fun i j hi hj => ?_
  have : ∀ k, k ≤ n → dotM (tabM n n f) (tabM n n g) i j k = mx k fun q => ta (f i q) (g q j) := by
    intro k
    induction k with
    | zero => intro _; rfl
    | succ k ih =>
      intro hk
      rw [dotM_succ, mx_succ, ih (by omega), tabM_get hi (show k < n by omega), tabM_get (show k < n by omega) hj, tms_ta (hf i k hi (by omega)) (hg k j (by omega) hj) hM hK]
  exact this n (Nat.le_refl _)

/-! ### Runs of a system -/
def sr : Option (List Int × List Int) → Sum (List Int × List Int × Bool) (List Int × List Int)
  | none => .inl ([], [], false)
  | some p => .inr p

def ir : Option (List Int × List Int) → Sum (List Int × List Int × Int) (List Int × List Int)
  | none => .inl ([], [], 3)
  | some p => .inr p

def so : Option (List Int) → Sum (List Int × Bool) (List Int)
  | none => .inl ([], false)
  | some l => .inr l

def io : Option (List Int) → Sum (List Int × Int) (List Int)
  | none => .inl ([], 3)
  | some l => .inr l

def placeB (e : Int) (p : GPlace) : Bool := inB p.From 0 e && (inB p.To 0 e && (inB p.Delay 0 1000 && inB p.Tokens 0 5))

def graphB (g : GEventGraph) : Bool := g.Places.all (placeB (IntKind.i64.wrap (g.Events - 1))) && (inB g.Events 1 10 && decide ((g.Places.length : Int) ≤ 30))


theorem specPlace_is {F : Nat} {p : GPlace} {n : Int} : spec_l11Place F p n = some (placeB (IntKind.i64.wrap (n - 1)) p) := by
  simp only [spec_l11Place, specIn_is, Option.bind_some, cond_and]; rfl

theorem implPlace_is {F : Nat} {g : GEventGraph} {p : GPlace} : impl_isPlace F g p = some (placeB (IntKind.i64.wrap (g.Events - 1)) p) := by
  simp only [impl_isPlace, impl_isEvent, within_is, Option.bind_some, cond_and]; rfl


theorem specGraph_is {F : Nat} {g : GEventGraph} (hF : 134217728 ≤ F) (hl : g.Places.length ≤ 1048576) : spec_IsEventGraph F g = some (graphB g) := by
  unfold spec_IsEventGraph
  rw [all_loop (ps := g.Places) (g := placeB (IntKind.i64.wrap (g.Events - 1))) (r := false) (L := spec_IsEventGraph_L1 F g) ?_ ?_ (by omega)]
  · simp only [specIn_is, Option.bind_some, cond_and, graphB]
    cases g.Places.all (placeB (IntKind.i64.wrap (g.Events - 1))) <;> rfl
  · intro n k x hk hx
    simp only [spec_IsEventGraph_L1, bdT (show (k : Int) < (g.Places.length : Int) by omega), idx_nat, hx, Option.bind_some, specPlace_is, condn, wrN (show k ≤ 67108864 by omega)]
  · intro n
    simp only [spec_IsEventGraph_L1, bdF (show ¬ (g.Places.length : Int) < (g.Places.length : Int) by omega)]


theorem implGraph_is {F : Nat} {g : GEventGraph} (hF : 134217728 ≤ F) (hl : g.Places.length ≤ 1048576) : impl_IsEventGraph F g = some (graphB g) := by
  simp only [impl_IsEventGraph, within_is, Option.bind_some, slices_ContainsFunc_Place_is (h := fun p => !placeB (IntKind.i64.wrap (g.Events - 1)) p) hF (show g.Places.length ≤ 16777216 by omega) (fun x _ => show impl_IsEventGraph_c1 F x g = _ by simp only [impl_IsEventGraph_c1, implPlace_is, Option.bind_some]), cond_and, graphB]
  rw [any_not, Bool.not_not]
  cases g.Places.all (placeB (IntKind.i64.wrap (g.Events - 1))) <;> cases inB g.Events 1 10 <;> cases decide ((g.Places.length : Int) ≤ 30) <;> rfl


theorem graphB_true {g : GEventGraph} (h : graphB g = true) : 1 ≤ g.Events ∧ g.Events ≤ 10 ∧ g.Places.length ≤ 30 ∧ IntKind.i64.wrap (g.Events - 1) = g.Events - 1 ∧ ∀ p, p ∈ g.Places → 0 ≤ p.From ∧ p.From < g.Events ∧ 0 ≤ p.To ∧ p.To < g.Events := by
  unfold graphB at h
  simp only [Bool.and_eq_true, inB_true, decide_eq_true_eq, List.all_eq_true] at h
  obtain ⟨hp, ⟨h1, h2⟩, h3⟩ := h
  have hw : IntKind.i64.wrap (g.Events - 1) = g.Events - 1 := wr (by omega) (by omega)
  refine ⟨h1, h2, by omega, hw, fun p hm => ?_⟩
  have := hp p hm
  rw [hw] at this
  simp only [placeB, Bool.and_eq_true, inB_true] at this
  omega

theorem graphB_range {g : GEventGraph} (h : graphB g = true) : ∀ p, p ∈ g.Places → 0 ≤ p.From ∧ p.From < g.Events ∧ 0 ≤ p.To ∧ p.To < g.Events ∧ 0 ≤ p.Delay ∧ p.Delay ≤ 1000 ∧ 0 ≤ p.Tokens ∧ p.Tokens ≤ 5 := by
  have hw := (graphB_true h).2.2.2.1
  unfold graphB at h
  simp only [Bool.and_eq_true, inB_true, decide_eq_true_eq, List.all_eq_true] at h
  intro p hm
  have := h.1 p hm
  rw [hw] at this
  simp only [placeB, Bool.and_eq_true, inB_true] at this
  omega

/-! ### Weights of a graph's places at a period -/
def plT (p : GPlace) : Nat := p.To.toNat

def plF (p : GPlace) : Nat := p.From.toNat

/-- a place's weight at a period -/
def plW (r : Int) (p : GPlace) : Int := p.Delay - r * p.Tokens

theorem plW_bd {g : GEventGraph} (h : graphB g = true) {r : Int} (h0 : 0 ≤ r) (h1 : r ≤ 100000) {p : GPlace} (hp : p ∈ g.Places) : -1000000 ≤ plW r p ∧ plW r p ≤ 1000000 ∧ IntKind.i64.wrap (IntKind.i64.wrap (1 * p.Delay) - IntKind.i64.wrap (r * p.Tokens)) = plW r p := by
  have h5 := graphB_range h
  have := h5 p hp
  have h6 : 0 ≤ r * p.Tokens := Int.mul_nonneg h0 (by omega)
  have h7 : r * p.Tokens ≤ 100000 * 5 := Int.mul_le_mul h1 (by omega) (by omega) (by omega)
  unfold plW
  refine ⟨by omega, by omega, ?_⟩
  rw [wr (show -9223372036854775808 ≤ 1 * p.Delay by omega) (by omega), wr (show -9223372036854775808 ≤ r * p.Tokens by omega) (by omega), wr (by omega) (by omega)]
  omega

/-- the table of the weights -/
def wT (g : GEventGraph) (r : Int) : Nat → Nat → Int := arcT plT plF (plW r) g.Places

theorem wT_ok {g : GEventGraph} (h : graphB g = true) {r : Int} (h0 : 0 ≤ r) (h1 : r ≤ 100000) (n : Nat) : TabOk (wT g r) n := arcT_ok (fun _x hx => ⟨(plW_bd h h0 h1 hx).1, (plW_bd h h0 h1 hx).2.1⟩) n

theorem pl_at {g : GEventGraph} (h : graphB g = true) {p : GPlace} (hp : p ∈ g.Places) : p.To = (plT p : Int) ∧ p.From = (plF p : Int) ∧ plT p < g.Events.toNat ∧ plF p < g.Events.toNat := by
  have h5 := graphB_range h
  have := h5 p hp
  unfold plT plF
  omega

/-! ### Tables on vectors -/
theorem applyv_tab {n : Nat} {T : Nat → Nat → Int} {x : List Int} {M K : Int} (hT : ∀ i j, i < n → j < n → Okw M (T i j)) (hx : ∀ q, q < n → Okw K (x.getD q 0)) (hM : M ≤ 10000000000) (hK : K ≤ 10000000000) : applyv (tabM n n T) x = (List.range n).map fun i => mx n fun q => ta (T i q) (x.getD q 0) := by
  unfold applyv tabM
  rw [List.map_map]
  apply List.map_congr_left
  intro i hi
  have hi' : i < n := by simpa using hi
  show dotv ((List.range n).map fun j => T i j) x ((List.range n).map fun j => T i j).length = _
  rw [List.length_map, List.length_range]
  have : ∀ k, k ≤ n → (List.range k).foldl (fun acc q => max acc (tms (((List.range n).map fun j => T i j).getD q 0) (x.getD q 0))) (-1000000000000000) = mx k fun q => ta (T i q) (x.getD q 0) := by
    intro k
    induction k with
    | zero => intro _; rfl
    | succ k ih =>
      intro hk
      rw [List.range_succ, List.foldl_append, ih (by omega), mx_succ]
      show max _ (tms (((List.range n).map fun j => T i j).getD k 0) (x.getD k 0)) = _
      rw [List.getD_eq_getElem?_getD, tabM_at (show k < n by omega), Option.getD_some, tms_ta (hT i k hi' (by omega)) (hx k (by omega)) hM hK]
  exact this n (Nat.le_refl _)

/-! ### The delay matrix of a token count -/
/-- the table of the delays of the places with so many tokens -/
def dM (g : GEventGraph) (m : Int) : Nat → Nat → Int := arcT plT plF (fun p => p.Delay) (g.Places.filter fun p => p.Tokens == m)

theorem dM_ok {g : GEventGraph} (h : graphB g = true) (m : Int) (n : Nat) : TabOk (dM g m) n := arcT_ok (fun x hx => by
  have := graphB_range h x (List.mem_filter.1 hx).1
  omega) n

def startsB (g : GEventGraph) (xs : List Int) : Bool := ((xs.length : Int) == g.Events) && xs.all fun x => inB x 0 1000000

theorem getI {xs : List Int} {i : Int} (h0 : 0 ≤ i) (h1 : i < (xs.length : Int)) : idx xs i = some (xs.getD i.toNat 0) := by
  rw [idx_int h0 h1, List.getD_eq_getElem?_getD, List.getElem?_eq_getElem (by omega)]; rfl

/-! ### Lists of nodes -/
def nl (o : List Nat) : List Int := o.map fun (x : Nat) => (x : Int)

theorem nl_len (o : List Nat) : (nl o).length = o.length := by unfold nl; simp

theorem nl_app (o : List Nat) (x : Nat) : nl o ++ [(x : Int)] = nl (o ++ [x]) := by unfold nl; simp

theorem nl_at (o : List Nat) (i : Nat) : (nl o)[i]? = (o[i]?).map fun (x : Nat) => (x : Int) := by unfold nl; simp

theorem nl_has (o : List Nat) (x : Nat) : ((nl o).any fun y => y == (x : Int)) = o.contains x := by
  apply Bool.eq_iff_iff.2
  simp only [nl, List.any_map, List.any_eq_true, Function.comp_apply, beq_iff_eq, List.contains_iff_mem]
  constructor
  · rintro ⟨y, hy, e⟩
    have : y = x := by omega
    exact this ▸ hy
  · intro h; exact ⟨x, h, rfl⟩

theorem implHas_is {F : Nat} {xs : List Int} {x : Int} (hF : 134217728 ≤ F) (hl : xs.length ≤ 1048576) : slices_Contains_int64 F xs x = some (xs.any fun y => y == x) := by
  unfold slices_Contains_int64 slices_Index_int64
  rw [find_loop (ps := xs) (h := fun y => x == y) (v := fun k => (k : Int)) (L := slices_Index_int64_L1 F xs x) ?_ ?_ (by omega)]
  · have e : (xs.any fun y => y == x) = decide ((0 : Int) ≤ firstAt (xs.findIdx? fun y => x == y)) := by
      rw [find_any]
      congr 1; funext y
      by_cases h : x = y
      · subst h; rfl
      · rw [beq_false_of_ne h, beq_false_of_ne (Ne.symm h)]
    rw [e]
    cases xs.findIdx? fun y => x == y <;> rfl
  · intro n k y hk hy
    simp only [slices_Index_int64_L1, bdT (show (k : Int) < (xs.length : Int) by omega), idx_nat, hy, Option.bind_some, wrN (show k ≤ 67108864 by omega)]
  · intro n
    simp only [slices_Index_int64_L1, bdF (show ¬ (xs.length : Int) < (xs.length : Int) by omega)]

/-! ### Liveness -/
def mat0 (E : Nat → Nat → Bool) (n : Nat) : List (List Int) := (List.range n).map fun v => (List.range n).map fun u => bif E u v then 0 else (-1000000000000000)

theorem mat0_row {E : Nat → Nat → Bool} {n v : Nat} (hv : v < n) : (mat0 E n)[v]? = some ((List.range n).map fun u => bif E u v then 0 else (-1000000000000000)) := by
  unfold mat0; rw [List.getElem?_map, List.getElem?_range hv]; rfl

theorem map_range_set {α : Type} (f : Nat → α) (n i : Nat) (y : α) : ((List.range n).map f).set i y = (List.range n).map fun j => if j = i then y else f j := by
  apply List.ext_getElem?; intro q
  by_cases hq : q < n
  · by_cases e : q = i
    · subst e
      rw [set_here (by simpa using hq), List.getElem?_map, List.getElem?_range hq]; simp
    · rw [set_keep e, List.getElem?_map, List.getElem?_map, List.getElem?_range hq]; simp [e]
  · rw [List.getElem?_eq_none (by simp; omega), List.getElem?_eq_none (by simp; omega)]

theorem mat0_set {E : Nat → Nat → Bool} {n u v : Nat} : (mat0 E n).set v (((List.range n).map fun u' => bif E u' v then (0 : Int) else (-1000000000000000)).set u 0) = mat0 (fun u' v' => E u' v' || (v' == v && u' == u)) n := by
  unfold mat0
  rw [map_range_set, map_range_set]
  apply List.map_congr_left; intro v' _
  by_cases hv : v' = v
  · subst hv
    rw [if_pos rfl]
    apply List.map_congr_left; intro u' _
    by_cases hu : u' = u
    · subst hu; simp
    · rw [if_neg hu]; simp only [beq_false_of_ne hu, Bool.and_false, Bool.or_false]
  · rw [if_neg hv]
    apply List.map_congr_left; intro u' _
    simp only [beq_false_of_ne hv, Bool.false_and, Bool.or_false]

/-- the free places' relation -/
def eP (ps : List GPlace) (u v : Nat) : Bool := ps.any fun p => p.Tokens == 0 && (p.To == (v : Int) && p.From == (u : Int))

structure GOk (g : GEventGraph) (n : Nat) : Prop where
  ev : g.Events = (n : Int)
  n1 : 1 ≤ n
  n10 : n ≤ 10
  len : g.Places.length ≤ 30
  at' : ∀ p, p ∈ g.Places → ∃ u v : Nat, p.From = (u : Int) ∧ p.To = (v : Int) ∧ u < n ∧ v < n

theorem GOk.of {g : GEventGraph} (h : graphB g = true) : GOk g g.Events.toNat := by
  obtain ⟨h1, h2, h3, _, h4⟩ := graphB_true h
  exact ⟨by omega, by omega, by omega, h3, fun p hp => ⟨p.From.toNat, p.To.toNat, by have := h4 p hp; omega, by have := h4 p hp; omega, by have := h4 p hp; omega, by have := h4 p hp; omega⟩⟩

theorem GOk.edge {g : GEventGraph} {n : Nat} (h : GOk g n) : ∀ u v, eP g.Places u v = true → u < n ∧ v < n := by
  intro u v he
  unfold eP at he
  rw [List.any_eq_true] at he
  obtain ⟨p, hp, hq⟩ := he
  simp only [Bool.and_eq_true, beq_iff_eq] at hq
  obtain ⟨u', v', h1, h2, h3, h4⟩ := h.at' p hp
  omega

/-- a written cycle that goes on from a path -/
def Ext (E : Nat → Nat → Bool) (n f : Nat) (p : List Nat) (l : Nat) (q : List Nat) : Prop := (∀ x, x ∈ q → f < x ∧ x < n) ∧ (p ++ q).Nodup ∧ Chain E l q f

/-- is the firing order complete -/
def liveB (g : GEventGraph) (n : Nat) : Bool := (fire (eP g.Places) n n []).isSome

theorem ready_is {g : GEventGraph} {n : Nat} (h : GOk g n) {o : List Nat} {e : Nat} : (!(g.Places.any fun p => p.To == (e : Int) && (p.Tokens == 0 && !((nl o).any fun y => y == p.From)))) = (List.range n).all fun u => !eP g.Places u e || o.contains u := by
  apply Bool.eq_iff_iff.2
  rw [Bool.not_eq_true', List.any_eq_false, List.all_eq_true]
  constructor
  · intro H u hu
    cases he : eP g.Places u e with
    | false => rfl
    | true =>
      unfold eP at he
      rw [List.any_eq_true] at he
      obtain ⟨p, hp, hq⟩ := he
      simp only [Bool.and_eq_true, beq_iff_eq] at hq
      have := H p hp
      rw [hq.1, hq.2.1, hq.2.2, nl_has] at this
      simpa using this
  · intro H p hp hc
    simp only [Bool.and_eq_true, beq_iff_eq, Bool.not_eq_true'] at hc
    obtain ⟨u, v, h1, h2, h3, h4⟩ := h.at' p hp
    have := H u (by simpa using h3)
    rw [h1, nl_has] at hc
    rw [Bool.or_eq_true] at this
    rcases this with h5 | h5
    · have : eP g.Places u e = true := by
        unfold eP
        rw [List.any_eq_true]
        exact ⟨p, hp, by simp only [Bool.and_eq_true, beq_iff_eq]; exact ⟨hc.2.1, hc.1, h1⟩⟩
      rw [this] at h5; cases h5
    · rw [h5] at hc; simp at hc

def nextI : Option Nat → Int
  | some e => (e : Int)
  | none => -1

theorem orderRound {F n : Nat} {g : GEventGraph} (hF : 134217728 ≤ F) (h : GOk g n) {o : List Nat} (ho : o.length ≤ n) :
    impl_firingOrder_L5 F g (nl o) F (-1) 0 = some (nextI (nextOf (eP g.Places) n o)) := by
  have h10 := h.n10
  have hl := h.len
  refine for0 (L := impl_firingOrder_L5 F g (nl o)) (len := n) (fun k s => (s = -1 ∧ ∀ e, e < k → readyB (eP g.Places) n o e = false) ∨ ∃ e : Nat, s = (e : Int) ∧ nextOf (eP g.Places) n o = some e) (R := fun r => r = some (nextI (nextOf (eP g.Places) n o))) ?_ ?_ (.inl ⟨rfl, fun e he => by omega⟩) (by omega)
  · rintro m k s hk (⟨rfl, hI⟩ | ⟨e, rfl, he⟩)
    · have hc : slices_ContainsFunc_Place F g.Places (fun x0 => impl_firingOrder_c1 F x0 (k : Int) (nl o)) = some (g.Places.any fun p => p.To == (k : Int) && (p.Tokens == 0 && !((nl o).any fun y => y == p.From))) := by
        refine slices_ContainsFunc_Place_is hF (by omega) (fun p _ => ?_)
        simp only [impl_firingOrder_c1, implHas_is (F := F) (xs := nl o) (x := p.From) hF (by rw [nl_len]; omega), Option.bind_some]
        cases (p.To == (k : Int)) <;> cases (p.Tokens == 0) <;> rfl
      have S : impl_firingOrder_L5 F g (nl o) (m + 1) (-1) (k : Int) = bif readyB (eP g.Places) n o k then impl_firingOrder_L5 F g (nl o) m (k : Int) ((k + 1 : Nat) : Int) else impl_firingOrder_L5 F g (nl o) m (-1) ((k + 1 : Nat) : Int) := by
        have hlt : decide ((k : Int) < g.Events) = true := by rw [h.ev]; exact decide_eq_true (by omega)
        simp only [impl_firingOrder_L5, hlt, cond_true, Option.bind_some, implHas_is (F := F) (xs := nl o) (x := (k : Int)) hF (by rw [nl_len]; omega), nl_has, hc, ready_is h, wrN (show k ≤ 67108864 by omega), show decide ((-1 : Int) < 0) = true from rfl]
        unfold readyB
        cases o.contains k <;> cases ((List.range n).all fun u => !eP g.Places u k || o.contains u) <;> rfl
      cases hr : readyB (eP g.Places) n o k with
      | true =>
        refine .inl ⟨(k : Int), by rw [S, hr]; rfl, .inr ⟨k, rfl, ?_⟩⟩
        unfold nextOf
        rw [List.find?_eq_some_iff_getElem]
        refine ⟨hr, k, by simpa using hk, by simp, fun j hj => ?_⟩
        simp [hI j hj]
      | false =>
        refine .inl ⟨-1, by rw [S, hr]; rfl, .inl ⟨rfl, fun e he => ?_⟩⟩
        by_cases e2 : e = k
        · subst e2; exact hr
        · exact hI e (by omega)
    · refine .inr ?_
      rw [he]
      have : decide ((e : Int) < 0) = false := decide_eq_false (by omega)
      simp only [impl_firingOrder_L5, this]
      cases decide ((k : Int) < g.Events) <;> rfl
  · rintro m s (⟨rfl, hI⟩ | ⟨e, rfl, he⟩)
    · have hno : nextOf (eP g.Places) n o = none := by
        unfold nextOf
        rw [List.find?_eq_none]
        intro x hx
        rw [hI x (by simpa using hx)]; decide
      rw [hno]
      have hlt : decide ((n : Int) < g.Events) = false := by rw [h.ev]; exact decide_eq_false (by omega)
      simp only [impl_firingOrder_L5, hlt, cond_false, Option.bind_some, nextI]
    · rw [he]
      have hlt : decide ((n : Int) < g.Events) = false := by rw [h.ev]; exact decide_eq_false (by omega)
      simp only [impl_firingOrder_L5, hlt, cond_false, Option.bind_some, nextI]

theorem orderLoop {F n : Nat} {g : GEventGraph} (hF : 134217728 ≤ F) (h : GOk g n) : ∀ (k : Nat) (o : List Nat) (m : Nat), o.length + k = n → k < m →
    impl_firingOrder_L4 F g m (nl o) = some (match fire (eP g.Places) n k o with | some o' => .inr (nl o') | none => .inl ([], false)) := by
  have h10 := h.n10
  intro k
  induction k with
  | zero =>
    intro o m ho hm
    obtain ⟨m, rfl⟩ : ∃ m', m = m' + 1 := ⟨m - 1, by omega⟩
    have : decide (((nl o).length : Int) < g.Events) = false := by rw [h.ev, nl_len]; exact decide_eq_false (by omega)
    simp only [impl_firingOrder_L4, this, cond_false, fire]
  | succ k ih =>
    intro o m ho hm
    obtain ⟨m, rfl⟩ : ∃ m', m = m' + 1 := ⟨m - 1, by omega⟩
    have : decide (((nl o).length : Int) < g.Events) = true := by rw [h.ev, nl_len]; exact decide_eq_true (by omega)
    simp only [impl_firingOrder_L4, this, cond_true, orderRound hF h (show o.length ≤ n by omega), Option.bind_some, fire]
    cases hx : nextOf (eP g.Places) n o with
    | none => rfl
    | some e =>
      have he : decide ((e : Int) < 0) = false := decide_eq_false (by omega)
      have happ : app (nl o) [(e : Int)] = some (nl (o ++ [e])) := by
        rw [app_le (by rw [nl_len]; simp only [List.length_singleton]; omega), nl_app]
      simp only [nextI, happ, Option.bind_some]
      exact ih (o ++ [e]) m (by rw [List.length_append, List.length_singleton]; omega) (by omega)

theorem implOrder_is {F n : Nat} {g : GEventGraph} (hF : 134217728 ≤ F) (h : GOk g n) : impl_firingOrder F g = some (match fire (eP g.Places) n n [] with | some o => (nl o, true) | none => ([], false)) := by
  have h10 := h.n10
  unfold impl_firingOrder
  have := orderLoop hF h n [] F (by simp) (by omega)
  rw [show nl [] = [] from rfl] at this
  rw [this]
  cases fire (eP g.Places) n n [] <;> rfl

theorem implLive_is {F n : Nat} {g : GEventGraph} (hF : 134217728 ≤ F) (h : GOk g n) : impl_isLive F g = some (liveB g n) := by
  unfold impl_isLive liveB
  rw [bind_of (implOrder_is hF h)]
  cases fire (eP g.Places) n n [] <;> rfl

/-! ### Squares as tables -/
def entryOf (a : List (List Int)) (i j : Nat) : Int := (a.getD i []).getD j 0

theorem square_tab {a : List (List Int)} (h : squareB a = true) : 1 ≤ a.length ∧ a.length ≤ 10 ∧ a = tabM a.length a.length (entryOf a) ∧ TabOk (entryOf a) a.length := by
  unfold squareB at h
  rw [Bool.and_eq_true, beq_iff_eq] at h
  obtain ⟨hm, h2⟩ := h
  unfold matB at hm
  rw [Bool.and_eq_true, inB_true, List.all_eq_true] at hm
  obtain ⟨h3, h4⟩ := hm
  have hr : ∀ r, r ∈ a → r.length = a.length := fun r hr => by
    have := h4 r hr
    rw [Bool.and_eq_true, beq_iff_eq] at this
    omega
  refine ⟨by omega, by omega, tabM_self rfl hr, fun i j hi hj => ?_⟩
  have e : a[i]? = some (a.getD i []) := by rw [List.getD_eq_getElem?_getD, List.getElem?_eq_getElem hi]; rfl
  have hrow := List.mem_of_getElem? e
  have h5 := h4 _ hrow
  rw [Bool.and_eq_true] at h5
  have h6 := h5.1
  unfold vecB at h6
  rw [Bool.and_eq_true, List.all_eq_true] at h6
  have hjl : j < (a.getD i []).length := by rw [hr _ hrow]; exact hj
  have h7 := h6.2 _ (List.mem_of_getElem? (getD_of hjl))
  unfold valB at h7
  rw [Bool.or_eq_true, beq_iff_eq, inB_true] at h7
  exact h7

/-! ### Searches for cycles -/
theorem nl_first {p : List Nat} (h : p ≠ []) : idx (nl p) 0 = some (headN p : Int) := by
  cases p with
  | nil => exact absurd rfl h
  | cons x p => rw [show (0 : Int) = ((0 : Nat) : Int) from rfl, idx_nat, nl_at]; rfl

theorem nl_last {p : List Nat} (h : p ≠ []) (hl : p.length ≤ 1000) : idx (nl p) (IntKind.i64.wrap (((nl p).length : Int) - 1)) = some (lastN p : Int) := by
  have h0 := List.length_pos_iff.2 h
  rw [nl_len, wr (by omega) (by omega), show ((p.length : Int) - 1) = ((p.length - 1 : Nat) : Int) by omega, idx_nat, nl_at]
  unfold lastN
  rw [List.getLastD_eq_getLast?, List.getLast?_eq_getElem?]
  cases hp : p[p.length - 1]? with
  | none => rw [List.getElem?_eq_none_iff] at hp; omega
  | some x => rfl

theorem first_lt {n : Nat} {p : List Nat} (h : p ≠ []) (hp : ∀ x, x ∈ p → x < n) : headN p < n := by
  cases p with
  | nil => exact absurd rfl h
  | cons x p => exact hp x (by simp)

theorem last_mem {p : List Nat} (h : p ≠ []) : lastN p ∈ p := by
  unfold lastN
  rw [List.getLastD_eq_getLast?, List.getLast?_eq_some_getLast h]
  exact List.getLast_mem h

/-- a path of a search -/
structure PathOk (f : Nat → Nat → Int) (n : Nat) (p : List Nat) : Prop where
  ne : p ≠ []
  nodup : p.Nodup
  lt : ∀ x, x ∈ p → x < n
  w0 : -1000000 * (p.length : Int) ≤ pathw f p
  w1 : pathw f p ≤ 1000000 * (p.length : Int)

theorem PathOk.one (f : Nat → Nat → Int) {n v : Nat} (h : v < n) : PathOk f n [v] := ⟨by simp, by simp, fun x hx => by simp at hx; omega, by show _ ≤ (0 : Int); simp, by show (0 : Int) ≤ _; simp⟩

theorem PathOk.next {f : Nat → Nat → Int} {n v : Nat} {p : List Nat} (hf : TabOk f n) (h : PathOk f n p) (hv : v < n) (hc : candW f p v = true) : PathOk f n (p ++ [v]) ∧ pathw f (p ++ [v]) = pathw f p + f v (lastN p) ∧ f v (lastN p) ≠ -1000000000000000 := by
  unfold candW at hc
  rw [Bool.and_eq_true, Bool.and_eq_true] at hc
  have hnv : v ∉ p := by simpa using hc.2
  have ha := arcB_true.1 hc.1.2
  have hb := hf v (lastN p) hv (h.lt _ (last_mem h.ne))
  have e := pathw_snoc f v h.ne
  have h0 := h.w0
  have h1 := h.w1
  unfold Okw at hb
  refine ⟨⟨by simp, ?_, fun x hx => ?_, ?_, ?_⟩, e, ha⟩
  · rw [List.nodup_append]
    refine ⟨h.nodup, by simp, fun x hx y hy => ?_⟩
    simp only [List.mem_singleton] at hy
    subst hy
    exact fun e => hnv (e ▸ hx)
  · rcases List.mem_append.1 hx with hx | hx
    · exact h.lt x hx
    · simp only [List.mem_singleton] at hx; subst hx; exact hv
  · rw [e, List.length_append, List.length_singleton]; omega
  · rw [e, List.length_append, List.length_singleton]; omega

/-- which nodes behind the first are used -/
def UsedOk (n : Nat) (p : List Nat) (u : List Bool) : Prop := u.length = n ∧ ∀ v, v < n → headN p < v → u[v]? = some (p.contains v)

theorem gdfs_ne {acc : List Nat → Bool} {cand : List Nat → Nat → Bool} {N k v : Nat} {r : List Nat} (h : gdfs acc cand N k [v] = some r) : r ≠ [] := by
  obtain ⟨_, q, e, _⟩ := gdfs_some h
  rw [e]; simp

theorem nl_ne {p : List Nat} (h : p ≠ []) : nl p ≠ [] := by
  cases p with
  | nil => exact absurd rfl h
  | cons x p => exact List.cons_ne_nil _ _

/-! ### Positive cycles, by the program -/
theorem squareB_tab {n : Nat} {f : Nat → Nat → Int} (h1 : 1 ≤ n) (hn : n ≤ 10) (hf : TabOk f n) : squareB (tabM n n f) = true := by
  have h0 : firstL (tabM n n f) = (n : Int) := by
    unfold firstL
    rw [List.getD_eq_getElem?_getD, tabM_row (show 0 < n by omega)]; simp
  unfold squareB matB
  rw [h0, tabM_len, Bool.and_eq_true, Bool.and_eq_true, inB_true, List.all_eq_true, beq_iff_eq]
  refine ⟨⟨by omega, fun r hr => ?_⟩, rfl⟩
  have hl := tabM_rows r hr
  unfold vecB
  rw [Bool.and_eq_true, Bool.and_eq_true, inB_true, beq_iff_eq, List.all_eq_true, hl]
  refine ⟨⟨by omega, fun x hx => ?_⟩, rfl⟩
  obtain ⟨i, hi, rfl⟩ := List.getElem_of_mem hr
  rw [tabM_len] at hi
  have e : (tabM n n f)[i] = (List.range n).map fun j => f i j := by
    have := tabM_row (m := n) (n := n) (f := f) hi
    rw [List.getElem?_eq_getElem (by rw [tabM_len]; exact hi)] at this
    exact Option.some.inj this
  rw [e, List.mem_map] at hx
  obtain ⟨j, hj, rfl⟩ := hx
  have := hf i j hi (by simpa using hj)
  unfold valB
  rw [Bool.or_eq_true, beq_iff_eq, inB_true]
  exact this

/-! ### The program's search for a better circuit -/
def tb (n : Nat) (x : Nat → Int) : List Int := (List.range n).map x

theorem tb_len (n : Nat) (x : Nat → Int) : (tb n x).length = n := by unfold tb; simp

theorem tb_at {n i : Nat} {x : Nat → Int} (h : i < n) : (tb n x)[i]? = some (x i) := by unfold tb; rw [List.getElem?_map, List.getElem?_range h]; rfl

theorem tb_set (n i : Nat) (x : Nat → Int) (y : Int) : (tb n x).set i y = tb n fun j => if j = i then y else x j := by unfold tb; rw [map_range_set]

theorem tb_zero (n : Nat) : List.replicate n (0 : Int) = tb n fun _ => 0 := by
  unfold tb
  apply List.ext_getElem? ; intro i
  rw [List.getElem?_replicate, List.getElem?_map]
  by_cases h : i < n
  · rw [if_pos h, List.getElem?_range h]; rfl
  · rw [if_neg h, List.getElem?_eq_none (by simpa using h)]; rfl

theorem wT_arcs {g : GEventGraph} (h : graphB g = true) {r : Int} (h0 : 0 ≤ r) (h1 : r ≤ 100000) : Arcs (wT g r) g.Events.toNat plT plF (plW r) g.Places :=
  ⟨fun _p hp => ⟨(pl_at h hp).2.2.1, (pl_at h hp).2.2.2⟩, fun _p hp => ⟨(plW_bd h h0 h1 hp).1, (plW_bd h h0 h1 hp).2.1⟩, fun _p hp => arcT_ge hp, fun i j => arcT_cases g.Places i j⟩

/-- the places last taken -/
def ViaOk (n m : Nat) (vs : List Nat) : Prop := vs.length = n ∧ ∀ v, v ∈ vs → v < m

theorem via_set {n m : Nat} {vs : List Nat} (h : ViaOk n m vs) {k : Nat} (hk : k < m) (i : Nat) : ViaOk n m (vs.set i k) := ⟨by rw [List.length_set]; exact h.1, fun v hv => by
  rcases List.mem_or_eq_of_mem_set hv with h1 | h1
  · exact h.2 v h1
  · omega⟩

theorem nl_set (vs : List Nat) (i k : Nat) : (nl vs).set i (k : Int) = nl (vs.set i k) := by
  unfold nl; rw [List.map_set]

theorem better_round {F : Nat} {g : GEventGraph} {r : Int} (hF : 134217728 ≤ F) (h : graphB g = true) (h0 : 0 ≤ r) (h1 : r ≤ 100000) {x : Nat → Int} {M : Int} (hM : 0 ≤ M) (hM1 : M ≤ 1000000000000) (hx : ∀ i, i < g.Events.toNat → -M ≤ x i ∧ x i ≤ M) {vs : List Nat} (hv : ViaOk g.Events.toNat g.Places.length vs) :
    ∃ vs' e, impl_betterCircuit_L5 F g ⟨r, 1⟩ F (tb g.Events.toNat x) (nl vs) (-1) 0 = some (tb g.Events.toNat (rnd plT plF (plW r) x g.Places), nl vs', e) ∧ ViaOk g.Events.toNat g.Places.length vs' ∧ ((e = -1 ∧ chd plT plF (plW r) x g.Places = false) ∨ ∃ e' : Nat, e = (e' : Int) ∧ e' < g.Events.toNat ∧ chd plT plF (plW r) x g.Places = true) := by
  obtain ⟨e1, e2, e3, _, _⟩ := graphB_true h
  have hA := wT_arcs h h0 h1
  refine for0 (L := fun m (s : List Int × List Int × Int) i => impl_betterCircuit_L5 F g ⟨r, 1⟩ m s.1 s.2.1 s.2.2 i) (len := g.Places.length)
    (fun k s => s.1 = tb g.Events.toNat (rnd plT plF (plW r) x (g.Places.take k)) ∧ ∃ vs', s.2.1 = nl vs' ∧ ViaOk g.Events.toNat g.Places.length vs' ∧ ((s.2.2 = -1 ∧ chd plT plF (plW r) x (g.Places.take k) = false) ∨ ∃ e' : Nat, s.2.2 = (e' : Int) ∧ e' < g.Events.toNat ∧ chd plT plF (plW r) x (g.Places.take k) = true))
    (R := fun o => ∃ vs' e, o = some (tb g.Events.toNat (rnd plT plF (plW r) x g.Places), nl vs', e) ∧ ViaOk g.Events.toNat g.Places.length vs' ∧ ((e = -1 ∧ chd plT plF (plW r) x g.Places = false) ∨ ∃ e' : Nat, e = (e' : Int) ∧ e' < g.Events.toNat ∧ chd plT plF (plW r) x g.Places = true)) (s := (tb g.Events.toNat x, nl vs, -1)) ?_ ?_ ⟨rfl, vs, rfl, hv, .inl ⟨rfl, rfl⟩⟩ (by omega)
  · rintro m k ⟨xs, us, e⟩ hk ⟨rfl, vs', rfl, hv', he⟩
    have hp : g.Places[k]? = some g.Places[k] := List.getElem?_eq_getElem hk
    have hmem := List.getElem_mem hk
    rw [List.take_add_one, hp, Option.toList_some, rnd_snoc, chd_snoc]
    have hy := rnd_bd (t := plT) (f := plF) (w := plW r) (n := g.Events.toNat) (ps := g.Places.take k) (x := x) (M := M) (fun p hp => ⟨hA.lt p (List.mem_of_mem_take hp), hA.bd p (List.mem_of_mem_take hp)⟩) hx
    have hl : (g.Places.take k).length ≤ 30 := by rw [List.length_take]; omega
    generalize (g.Places.take k).length = l at hy hl
    generalize rnd plT plF (plW r) x (g.Places.take k) = y at hy
    generalize chd plT plF (plW r) x (g.Places.take k) = b at he
    generalize g.Places[k] = p at hp hmem
    obtain ⟨a1, a2, a3, a4⟩ := pl_at h hmem
    obtain ⟨b1, b2, a5⟩ := plW_bd h h0 h1 hmem
    have y1 := hy _ a3
    have y2 := hy _ a4
    have hw : IntKind.i64.wrap (y (plF p) + plW r p) = y (plF p) + plW r p := wr (by omega) (by omega)
    have hwk : IntKind.i64.wrap ((k : Int) + 1) = ((k + 1 : Nat) : Int) := wrN (by omega)
    by_cases hc : y (plT p) < y (plF p) + plW r p
    · refine .inl ⟨(tb g.Events.toNat (stp plT plF (plW r) y p), nl (vs'.set (plT p) k), (plT p : Int)), ?_, rfl, _, rfl, via_set hv' hk _, .inr ⟨plT p, rfl, a3, ?_⟩⟩
      · simp only [impl_betterCircuit_L5, impl_placeWeight, bdT (show (k : Int) < (g.Places.length : Int) by omega), idx_nat, hp, Option.bind_some, a5]
        rw [a1, a2]
        simp only [idx_nat, tb_at a3, tb_at a4, Option.bind_some, hw, bdT hc, upd_nat _ (show plT p < (tb g.Events.toNat y).length by rw [tb_len]; exact a3), nl_at, List.getElem?_eq_getElem (show plT p < vs'.length by rw [hv'.1]; exact a3), Option.map_some, upd_nat _ (show plT p < (nl vs').length by rw [nl_len, hv'.1]; exact a3), nl_set, tb_set, hwk]
        congr 2
        funext i
        unfold stp
        by_cases ei : i = plT p
        · rw [if_pos ei, if_pos ei]; omega
        · rw [if_neg ei, if_neg ei]
      · unfold chg; rw [decide_eq_true hc, Bool.or_true]
    · refine .inl ⟨(tb g.Events.toNat (stp plT plF (plW r) y p), nl vs', e), ?_, rfl, _, rfl, hv', ?_⟩
      · rw [stp_same (show y (plF p) + plW r p ≤ y (plT p) by omega)]
        simp only [impl_betterCircuit_L5, impl_placeWeight, bdT (show (k : Int) < (g.Places.length : Int) by omega), idx_nat, hp, Option.bind_some, a5]
        rw [a1, a2]
        simp only [idx_nat, tb_at a3, tb_at a4, Option.bind_some, hw, bdF hc, hwk]
      · have : chg plT plF (plW r) y p = false := chg_false.2 (by omega)
        rw [this, Bool.or_false]; exact he
  · rintro m ⟨xs, us, e⟩ ⟨rfl, vs', rfl, hv', he⟩
    rw [List.take_length] at he
    refine ⟨vs', e, ?_, hv', he⟩
    simp only [impl_betterCircuit_L5, bdF (show ¬ (g.Places.length : Int) < (g.Places.length : Int) by omega), List.take_length]

theorem its_small {g : GEventGraph} {r : Int} (h : graphB g = true) (h0 : 0 ≤ r) (h1 : r ≤ 100000) {x : Nat → Int} {M : Int} (hx : ∀ i, i < g.Events.toNat → -M ≤ x i ∧ x i ≤ M) : ∀ (k i : Nat), i < g.Events.toNat → -(M + 30000000 * (k : Int)) ≤ its plT plF (plW r) x g.Places k i ∧ its plT plF (plW r) x g.Places k i ≤ M + 30000000 * (k : Int) := by
  intro k
  have hA := wT_arcs h h0 h1
  obtain ⟨_, _, e3, _, _⟩ := graphB_true h
  induction k with
  | zero => intro i hi; have := hx i hi; show -(M + 30000000 * ((0 : Nat) : Int)) ≤ x i ∧ x i ≤ _; omega
  | succ k ih =>
    intro i hi
    have := rnd_bd (t := plT) (f := plF) (w := plW r) (n := g.Events.toNat) (ps := g.Places) (fun p hp => ⟨hA.lt p hp, hA.bd p hp⟩) ih i hi
    show -(M + 30000000 * ((k + 1 : Nat) : Int)) ≤ rnd plT plF (plW r) (its plT plF (plW r) x g.Places k) g.Places i ∧ rnd plT plF (plW r) (its plT plF (plW r) x g.Places k) g.Places i ≤ _
    omega

theorem better_rounds {F : Nat} {g : GEventGraph} {r : Int} (hF : 134217728 ≤ F) (h : graphB g = true) (h0 : 0 ≤ r) (h1 : r ≤ 100000) {vs : List Nat} (hv : ViaOk g.Events.toNat g.Places.length vs ∨ g.Places = []) (hvl : vs.length = g.Events.toNat) :
    (impl_betterCircuit_L4 F g ⟨r, 1⟩ F (tb g.Events.toNat fun _ => 0) (nl vs) (-1) 0 = some (.inl []) ∧ ∃ k, chd plT plF (plW r) (its plT plF (plW r) (fun _ => 0) g.Places k) g.Places = false) ∨ ∃ vs' e, impl_betterCircuit_L4 F g ⟨r, 1⟩ F (tb g.Events.toNat fun _ => 0) (nl vs) (-1) 0 = some (.inr (nl vs', ((e : Nat) : Int))) ∧ ViaOk g.Events.toNat g.Places.length vs' ∧ e < g.Events.toNat ∧ ∀ k, k ≤ g.Events.toNat → chd plT plF (plW r) (its plT plF (plW r) (fun _ => 0) g.Places k) g.Places = true := by
  obtain ⟨e1, e2, e3, _, _⟩ := graphB_true h
  have hw1 : IntKind.i64.wrap (g.Events + 1) = ((g.Events.toNat + 1 : Nat) : Int) := by rw [wr (by omega) (by omega)]; omega
  by_cases hne : g.Places = []
  · left
    have hr : impl_betterCircuit_L5 F g ⟨r, 1⟩ F (tb g.Events.toNat fun _ => 0) (nl vs) (-1) 0 = some (tb g.Events.toNat (fun _ => 0), nl vs, -1) := by
      obtain ⟨m, rfl⟩ : ∃ m, F = m + 1 := ⟨F - 1, by omega⟩
      simp only [impl_betterCircuit_L5, hne, List.length_nil, bdF (show ¬ (0 : Int) < ((0 : Nat) : Int) by omega)]
    refine ⟨?_, 0, by rw [hne]; rfl⟩
    have : ∀ m, impl_betterCircuit_L4 F g ⟨r, 1⟩ (m + 1) (tb g.Events.toNat fun _ => 0) (nl vs) (-1) 0 = some (.inl []) := fun m => by
      simp only [impl_betterCircuit_L4, hw1, bdT (show (0 : Int) < ((g.Events.toNat + 1 : Nat) : Int) by omega), hr, Option.bind_some, show decide ((-1 : Int) < 0) = true from rfl, cond_true]
    rw [show F = (F - 1) + 1 by omega] at *
    exact this _
  have hv : ViaOk g.Events.toNat g.Places.length vs := hv.elim id fun e => absurd e hne
  refine for0 (L := fun m (s : List Int × List Int × Int) i => impl_betterCircuit_L4 F g ⟨r, 1⟩ m s.1 s.2.1 s.2.2 i) (len := g.Events.toNat + 1)
    (fun k s => s.1 = tb g.Events.toNat (its plT plF (plW r) (fun _ => 0) g.Places k) ∧ (∃ vs', s.2.1 = nl vs' ∧ ViaOk g.Events.toNat g.Places.length vs') ∧ (k = 0 ∨ ∃ e' : Nat, s.2.2 = (e' : Int) ∧ e' < g.Events.toNat) ∧ ∀ j, j < k → chd plT plF (plW r) (its plT plF (plW r) (fun _ => 0) g.Places j) g.Places = true)
    (R := fun o => (o = some (.inl []) ∧ ∃ k, chd plT plF (plW r) (its plT plF (plW r) (fun _ => 0) g.Places k) g.Places = false) ∨ ∃ vs' e, o = some (.inr (nl vs', ((e : Nat) : Int))) ∧ ViaOk g.Events.toNat g.Places.length vs' ∧ e < g.Events.toNat ∧ ∀ k, k ≤ g.Events.toNat → chd plT plF (plW r) (its plT plF (plW r) (fun _ => 0) g.Places k) g.Places = true) (s := (tb g.Events.toNat fun _ => 0, nl vs, -1)) ?_ ?_ ⟨rfl, ⟨vs, rfl, hv⟩, .inl rfl, fun j hj => by omega⟩ (by omega)
  · intro m k s hk hs
    have hwk : IntKind.i64.wrap ((k : Int) + 1) = ((k + 1 : Nat) : Int) := wrN (by omega)
    have hbk : 0 + 30000000 * (k : Int) ≤ 1000000000000 := by omega
    have hlt : (k : Int) < ((g.Events.toNat + 1 : Nat) : Int) := by omega
    revert hs
    obtain ⟨xs, us, e⟩ := s
    rintro ⟨rfl, ⟨vs', rfl, hv'⟩, _, hI⟩
    have hb := its_small (r := r) h h0 h1 (x := fun _ => 0) (M := 0) (fun i _ => ⟨by omega, by omega⟩) k
    obtain ⟨vs2, e2, hr, hv2, he⟩ := better_round hF h h0 h1 (x := its plT plF (plW r) (fun _ => 0) g.Places k) (M := 0 + 30000000 * (k : Int)) (by omega) hbk hb hv'
    have S : impl_betterCircuit_L4 F g ⟨r, 1⟩ (m + 1) (tb g.Events.toNat (its plT plF (plW r) (fun _ => 0) g.Places k)) (nl vs') e (k : Int) = bif decide (e2 < 0) then some (.inl []) else impl_betterCircuit_L4 F g ⟨r, 1⟩ m (tb g.Events.toNat (its plT plF (plW r) (fun _ => 0) g.Places (k + 1))) (nl vs2) e2 ((k + 1 : Nat) : Int) := by
      simp only [impl_betterCircuit_L4, hw1, bdT hlt, hr, Option.bind_some, hwk]
      rfl
    rcases he with ⟨rfl, hc⟩ | ⟨e', rfl, he', hc⟩
    · exact .inr (.inl ⟨S.trans rfl, k, hc⟩)
    · refine .inl ⟨(tb g.Events.toNat (its plT plF (plW r) (fun _ => 0) g.Places (k + 1)), nl vs2, (e' : Int)), ?_, rfl, ⟨vs2, rfl, hv2⟩, .inr ⟨e', rfl, he'⟩, fun j hj => ?_⟩
      · exact S.trans (by rw [bdF (show ¬ (e' : Int) < 0 by omega)])
      · by_cases ej : j = k
        · subst ej; exact hc
        · exact hI j (by omega)
  · rintro m ⟨xs, us, e⟩ ⟨rfl, ⟨vs', rfl, hv'⟩, he, hI⟩
    rcases he with he | ⟨e', rfl, he'⟩
    · omega
    · refine .inr ⟨vs', e', ?_, hv', he', fun k hk => hI k (by omega)⟩
      simp only [impl_betterCircuit_L4, hw1, bdF (show ¬ ((g.Events.toNat + 1 : Nat) : Int) < ((g.Events.toNat + 1 : Nat) : Int) by omega)]

/-- one step back -/
def backN (g : GEventGraph) (vs : List Nat) (v : Nat) : Nat := plF ((g.Places[(vs[v]?).getD 0]?).getD ⟨0, 0, 0, 0⟩)

theorem back_at {g : GEventGraph} (h : graphB g = true) {vs : List Nat} (hv : ViaOk g.Events.toNat g.Places.length vs) {v : Nat} (hn : v < g.Events.toNat) : ∃ u p, vs[v]? = some u ∧ g.Places[u]? = some p ∧ p.From = (backN g vs v : Int) ∧ backN g vs v < g.Events.toNat := by
  have hl : v < vs.length := by rw [hv.1]; exact hn
  have hu := hv.2 _ (List.getElem_mem hl)
  have e1 := List.getElem?_eq_getElem hl
  have e2 := List.getElem?_eq_getElem hu
  obtain ⟨_, a2, _, a4⟩ := pl_at h (List.getElem_mem hu)
  refine ⟨_, _, e1, e2, ?_, ?_⟩
  · unfold backN; rw [e1, Option.getD_some, e2, Option.getD_some]; exact a2
  · unfold backN; rw [e1, Option.getD_some, e2, Option.getD_some]; exact a4

def itn (φ : Nat → Nat) : Nat → Nat → Nat
  | 0, v => v
  | k + 1, v => itn φ k (φ v)

theorem itn_succ (φ : Nat → Nat) : ∀ (k v : Nat), itn φ (k + 1) v = φ (itn φ k v)
  | 0, _ => rfl
  | k + 1, v => itn_succ φ k (φ v)

theorem itn_add (φ : Nat → Nat) (i : Nat) : ∀ (j v : Nat), itn φ (i + j) v = itn φ i (itn φ j v)
  | 0, _ => rfl
  | j + 1, v => itn_add φ i j (φ v)

theorem itn_lt {φ : Nat → Nat} {n : Nat} (h : ∀ v, v < n → φ v < n) : ∀ (k : Nat) {v : Nat}, v < n → itn φ k v < n
  | 0, _, hv => hv
  | k + 1, _, hv => itn_lt h k (h _ hv)

theorem itn_back {φ : Nat → Nat} {n : Nat} (h : ∀ v, v < n → φ v < n) {v : Nat} (hv : v < n) : ∃ d, d < n ∧ itn φ (d + 1) (itn φ n v) = itn φ n v := by
  obtain ⟨p, q, h1, h2, h3⟩ := pigeon_n (n := n) (c := fun t => itn φ t v) (fun t _ => itn_lt h t hv)
  have h3 : itn φ p v = itn φ q v := h3
  refine ⟨q - p - 1, by omega, ?_⟩
  rw [show q - p - 1 + 1 = q - p by omega, ← itn_add, show q - p + n = (n - p) + q by omega, itn_add, ← h3, ← itn_add, show n - p + p = n by omega]

theorem better_back {F : Nat} {g : GEventGraph} (hF : 134217728 ≤ F) (h : graphB g = true) {vs : List Nat} (hv : ViaOk g.Events.toNat g.Places.length vs) {e : Nat} (he : e < g.Events.toNat) : impl_betterCircuit_L6 F g (nl vs) F (e : Int) 0 = some ((itn (backN g vs) g.Events.toNat e : Nat) : Int) := by
  obtain ⟨e1, e2, e3, _, _⟩ := graphB_true h
  have hlt : ∀ v, v < g.Events.toNat → backN g vs v < g.Events.toNat := fun v hn => by
    obtain ⟨_, _, _, _, _, hb⟩ := back_at h hv hn
    exact hb
  refine for0 (L := impl_betterCircuit_L6 F g (nl vs)) (len := g.Events.toNat) (fun k s => s = ((itn (backN g vs) k e : Nat) : Int)) (R := fun o => o = some ((itn (backN g vs) g.Events.toNat e : Nat) : Int)) ?_ ?_ rfl (by omega)
  · rintro m k s hk rfl
    obtain ⟨u, p, h1, h2, h3, _⟩ := back_at h hv (itn_lt hlt k he)
    refine .inl ⟨_, ?_, rfl⟩
    simp only [impl_betterCircuit_L6, bdT (show (k : Int) < g.Events by omega), idx_nat, nl_at, h1, Option.map_some, Option.bind_some, h2, h3, wrN (show k ≤ 67108864 by omega), itn_succ]
  · rintro m s rfl
    simp only [impl_betterCircuit_L6, bdF (show ¬ ((g.Events.toNat : Nat) : Int) < g.Events by omega)]

theorem better_gather {F : Nat} {g : GEventGraph} (h : graphB g = true) {vs : List Nat} (hv : ViaOk g.Events.toNat g.Places.length vs) {s : Nat} : ∀ (m : Nat) {x : Nat} {xs : List Int} {fuel : Nat}, x < g.Events.toNat → itn (backN g vs) (m + 1) x = s → m < fuel → xs.length + m + 1 ≤ 1000 →
    ∃ ys, impl_betterCircuit_L7 F g (nl vs) (s : Int) fuel xs (x : Int) = some ys ∧ xs.length < ys.length ∧ ys.length ≤ xs.length + m + 1 := by
  intro m
  induction m with
  | zero =>
    intro x xs fuel hx hs hf hl
    obtain ⟨fuel, rfl⟩ : ∃ k, fuel = k + 1 := ⟨fuel - 1, by omega⟩
    obtain ⟨u, p, h1, h2, h3, _⟩ := back_at h hv hx
    have hs : backN g vs x = s := hs
    refine ⟨xs ++ [(u : Int)], ?_, by simp, by simp⟩
    simp only [impl_betterCircuit_L7, idx_nat, nl_at, h1, Option.map_some, Option.bind_some, app_le (show xs.length + [(u : Int)].length ≤ 67108864 by simp only [List.length_singleton]; omega), h2, h3, hs, beq_self_eq_true, cond_true]
  | succ m ih =>
    intro x xs fuel hx hs hf hl
    obtain ⟨fuel, rfl⟩ : ∃ k, fuel = k + 1 := ⟨fuel - 1, by omega⟩
    obtain ⟨u, p, h1, h2, h3, h4⟩ := back_at h hv hx
    by_cases hc : backN g vs x = s
    · refine ⟨xs ++ [(u : Int)], ?_, by simp, by simp⟩
      simp only [impl_betterCircuit_L7, idx_nat, nl_at, h1, Option.map_some, Option.bind_some, app_le (show xs.length + [(u : Int)].length ≤ 67108864 by simp only [List.length_singleton]; omega), h2, h3, hc, beq_self_eq_true, cond_true]
    · obtain ⟨ys, h5, h6, h7⟩ := ih (x := backN g vs x) (xs := xs ++ [(u : Int)]) (fuel := fuel) h4 hs (by omega) (by rw [List.length_append, List.length_singleton]; omega)
      rw [List.length_append, List.length_singleton] at h6 h7
      refine ⟨ys, ?_, by omega, by omega⟩
      simp only [impl_betterCircuit_L7, idx_nat, nl_at, h1, Option.map_some, Option.bind_some, app_le (show xs.length + [(u : Int)].length ≤ 67108864 by simp only [List.length_singleton]; omega), h2, h3, beq_false_of_ne (show ((backN g vs x : Nat) : Int) ≠ (s : Int) by omega), cond_false, h5]

theorem reverse_loop {F : Nat} : ∀ (m : Nat) {fuel : Nat} {xs : List Int} {i j : Int}, 0 ≤ i → j < (xs.length : Int) → -1 ≤ j → j - i ≤ (m : Int) → m < fuel → xs.length ≤ 1048576 → i ≤ 1048576 → ∃ ys, slices_Reverse_int64_L1 F fuel xs i j = some ys ∧ ys.length = xs.length := by
  intro m
  induction m with
  | zero =>
    intro fuel xs i j h0 h1 h2 h3 h4 h5 h6
    obtain ⟨fuel, rfl⟩ : ∃ k, fuel = k + 1 := ⟨fuel - 1, by omega⟩
    exact ⟨xs, by simp only [slices_Reverse_int64_L1, bdF (show ¬ i < j by omega)], rfl⟩
  | succ m ih =>
    intro fuel xs i j h0 h1 h2 h3 h4 h5 h6
    obtain ⟨fuel, rfl⟩ : ∃ k, fuel = k + 1 := ⟨fuel - 1, by omega⟩
    by_cases hc : i < j
    · obtain ⟨i', rfl⟩ : ∃ k : Nat, i = (k : Int) := ⟨i.toNat, by omega⟩
      obtain ⟨j', rfl⟩ : ∃ k : Nat, j = (k : Int) := ⟨j.toNat, by omega⟩
      have li : i' < xs.length := by omega
      have lj : j' < xs.length := by omega
      obtain ⟨ys, e1, e2⟩ := ih (fuel := fuel) (xs := (xs.set i' xs[j']).set j' xs[i']) (i := ((i' + 1 : Nat) : Int)) (j := (j' : Int) - 1) (by omega) (by rw [List.length_set, List.length_set]; omega) (by omega) (by omega) (by omega) (by rw [List.length_set, List.length_set]; omega) (by omega)
      rw [List.length_set, List.length_set] at e2
      refine ⟨ys, ?_, e2⟩
      have l2 : j' < (xs.set i' xs[j']).length := by rw [List.length_set]; exact lj
      simp only [slices_Reverse_int64_L1, bdT hc, idx_nat, List.getElem?_eq_getElem li, List.getElem?_eq_getElem lj, List.getElem?_eq_getElem l2, Option.bind_some, upd_nat _ li, upd_nat _ l2, wrN (show i' ≤ 67108864 by omega), wr (show -9223372036854775808 ≤ (j' : Int) - 1 by omega) (by omega), e1]
    · exact ⟨xs, by simp only [slices_Reverse_int64_L1, bdF hc], rfl⟩

theorem reverse_is {F : Nat} {xs : List Int} (hF : 134217728 ≤ F) (hx : xs.length ≤ 1048576) : ∃ ys, slices_Reverse_int64 F xs = some ((), ys) ∧ ys.length = xs.length := by
  obtain ⟨ys, e1, e2⟩ := reverse_loop (F := F) xs.length (fuel := F) (xs := xs) (i := 0) (j := (xs.length : Int) - 1) (by omega) (by omega) (by omega) (by omega) (by omega) hx (by omega)
  refine ⟨ys, ?_, e2⟩
  unfold slices_Reverse_int64
  rw [wr (by omega) (by omega), e1]; rfl

theorem implBetter_is {F : Nat} {g : GEventGraph} {r : Int} (hF : 134217728 ≤ F) (h : graphB g = true) (h0 : 0 ≤ r) (h1 : r ≤ 100000) : ∃ c, impl_betterCircuit F g ⟨r, 1⟩ = some c ∧ (c.isEmpty = true ↔ ¬ PosCyc (wT g r) g.Events.toNat) := by
  obtain ⟨e1, e2, e3, _, _⟩ := graphB_true h
  have hA := wT_arcs h h0 h1
  have hmk : mk g.Events (0 : Int) = some (List.replicate g.Events.toNat 0) := mk_int 0 (by omega) (by omega)
  have hnl : List.replicate g.Events.toNat (0 : Int) = nl (List.replicate g.Events.toNat 0) := by unfold nl; simp
  have hv : ViaOk g.Events.toNat g.Places.length (List.replicate g.Events.toNat 0) ∨ g.Places = [] := by
    by_cases hne : g.Places = []
    · exact .inr hne
    · refine .inl ⟨by simp, fun v hv => ?_⟩
      have := List.length_pos_iff.2 hne
      have := (List.mem_replicate.1 hv).2
      omega
  unfold impl_betterCircuit
  rw [hmk, Option.bind_some, Option.bind_some]
  rcases better_rounds hF h h0 h1 hv (by simp) with ⟨hr, k, hc⟩ | ⟨vs', e, hr, hv', he, hc⟩
  · rw [← tb_zero, ← hnl] at hr
    rw [hr]
    exact ⟨[], rfl, ⟨fun _ => rest_none hA hc, fun _ => rfl⟩⟩
  · rw [← tb_zero, ← hnl] at hr
    have hlt : ∀ v, v < g.Events.toNat → backN g vs' v < g.Events.toNat := fun v hn => by
      obtain ⟨_, _, _, _, _, hb⟩ := back_at h hv' hn
      exact hb
    obtain ⟨d, hd, hback⟩ := itn_back hlt he
    obtain ⟨ys, h4, h5, h6⟩ := better_gather (F := F) h hv' d (x := itn (backN g vs') g.Events.toNat e) (xs := []) (fuel := F) (itn_lt hlt _ he) hback (by omega) (by simp only [List.length_nil]; omega)
    simp only [List.length_nil] at h5 h6
    obtain ⟨zs, h7, h8⟩ := reverse_is (F := F) (xs := ys) hF (by omega)
    have hpos : PosCyc (wT g r) g.Events.toNat := Classical.byContradiction fun hn => by
      have := its_rest hA (by omega) ((fwok_iff hA.ok (by omega)).2 hn) (fun _ => 0)
      rw [hc _ (Nat.le_refl _)] at this
      cases this
    have hz : zs ≠ [] := fun hz => by rw [hz, List.length_nil] at h8; omega
    have hze : zs.isEmpty = false := by
      cases zs with
      | nil => exact absurd rfl hz
      | cons z zs => rfl
    refine ⟨zs, ?_, by rw [hze]; exact ⟨fun hh => Bool.noConfusion hh, fun hh => absurd hpos hh⟩⟩
    simp only [hr, Option.bind_some, better_back hF h hv' he, h4, h7]
    unfold nonE
    rw [hze]; rfl

/-! ### Circuits of places -/
def pcs (g : GEventGraph) (i : Nat) : GPlace := (g.Places[i]?).getD ⟨0, 0, 0, 0⟩

theorem pcs_at {g : GEventGraph} {i : Nat} (h : i < g.Places.length) : g.Places[i]? = some (pcs g i) := by
  unfold pcs; rw [List.getElem?_eq_getElem h]; rfl

theorem pcs_mem {g : GEventGraph} {i : Nat} (h : i < g.Places.length) : pcs g i ∈ g.Places := List.mem_of_getElem? (pcs_at h)

def cF (g : GEventGraph) (i : Nat) : Nat := plF (pcs g i)

def cT (g : GEventGraph) (i : Nat) : Nat := plT (pcs g i)

def sumD (g : GEventGraph) (p : List Nat) : Int := (p.map fun i => (pcs g i).Delay).sum

def sumM (g : GEventGraph) (p : List Nat) : Int := (p.map fun i => (pcs g i).Tokens).sum

theorem sumD_app (g : GEventGraph) (p q : List Nat) : sumD g (p ++ q) = sumD g p + sumD g q := by unfold sumD; rw [List.map_append, List.sum_append]

theorem sumM_app (g : GEventGraph) (p q : List Nat) : sumM g (p ++ q) = sumM g p + sumM g q := by unfold sumM; rw [List.map_append, List.sum_append]

theorem sumD_one (g : GEventGraph) (v : Nat) : sumD g [v] = (pcs g v).Delay := by unfold sumD; simp

theorem sumM_one (g : GEventGraph) (v : Nat) : sumM g [v] = (pcs g v).Tokens := by unfold sumM; simp

theorem sums_bd {g : GEventGraph} (h : graphB g = true) : ∀ (p : List Nat), (∀ x, x ∈ p → x < g.Places.length) → 0 ≤ sumD g p ∧ sumD g p ≤ 1000 * (p.length : Int) ∧ 0 ≤ sumM g p ∧ sumM g p ≤ 5 * (p.length : Int)
  | [], _ => by unfold sumD sumM; simp
  | x :: p, hp => by
    have h1 := sums_bd h p (fun y hy => hp y (by simp [hy]))
    have h2 := graphB_range h _ (pcs_mem (hp x (by simp)))
    have e1 : sumD g (x :: p) = (pcs g x).Delay + sumD g p := by unfold sumD; simp
    have e2 : sumM g (x :: p) = (pcs g x).Tokens + sumM g p := by unfold sumM; simp
    rw [e1, e2, List.length_cons]
    omega

theorem c_at {g : GEventGraph} (h : graphB g = true) {i : Nat} (hi : i < g.Places.length) : (pcs g i).To = (cT g i : Int) ∧ (pcs g i).From = (cF g i : Int) ∧ cT g i < g.Events.toNat ∧ cF g i < g.Events.toNat := pl_at h (pcs_mem hi)

theorem eqN (a b : Nat) : ((a : Int) == (b : Int)) = decide (a = b) := by
  by_cases e : a = b
  · subst e; simp
  · rw [beq_false_of_ne (by omega), dF e]

theorem neN (a b : Nat) : ((a : Int) != (b : Int)) = !decide (a = b) := by rw [bne, eqN]

theorem ltN (a b : Nat) : decide ((a : Int) < (b : Int)) = decide (a < b) := by
  by_cases e : a < b
  · rw [dT e, dT (by omega)]
  · rw [dF e, dF (by omega)]

def closedC (g : GEventGraph) (p : List Nat) : Bool := decide (cT g (lastN p) = cF g (headN p))

def visC (g : GEventGraph) (p : List Nat) (e : Nat) : Bool := p.any fun i => decide (cF g i = e) || decide (cT g i = e)

def accC (g : GEventGraph) (good : Int → Int → Bool) (p : List Nat) : Bool := closedC g p && good (sumD g p) (sumM g p)

def candC (g : GEventGraph) (p : List Nat) (v : Nat) : Bool := !closedC g p && (decide (cF g v = cT g (lastN p)) && (decide (cF g (headN p) ≤ cT g v) && (decide (cT g v = cF g (headN p)) || !visC g p (cT g v))))

theorem candC_true {g : GEventGraph} {p : List Nat} {v : Nat} : candC g p v = true ↔ closedC g p = false ∧ cF g v = cT g (lastN p) ∧ cF g (headN p) ≤ cT g v ∧ (cT g v = cF g (headN p) ∨ visC g p (cT g v) = false) := by
  unfold candC
  simp only [Bool.and_eq_true, Bool.not_eq_true', decide_eq_true_eq, Bool.or_eq_true]

structure CircOk (g : GEventGraph) (p : List Nat) : Prop where
  ne : p ≠ []
  lt : ∀ x, x ∈ p → x < g.Places.length
  nodup : (p.map (cT g)).Nodup
  op : closedC g p = false → cF g (headN p) ∉ p.map (cT g)

theorem CircOk.short {g : GEventGraph} (h : graphB g = true) {p : List Nat} (hp : CircOk g p) : p.length ≤ g.Events.toNat := by
  have := nodup_le g.Events.toNat _ hp.nodup (fun x hx => by
    obtain ⟨i, hi, rfl⟩ := List.mem_map.1 hx
    exact (c_at h (hp.lt i hi)).2.2.1)
  rwa [List.length_map] at this

theorem CircOk.one {g : GEventGraph} {i : Nat} (hi : i < g.Places.length) : CircOk g [i] :=
  ⟨by simp, fun x hx => by simp only [List.mem_singleton] at hx; subst hx; exact hi, by simp, fun hc hm => by
    have e : lastN [i] = i := rfl
    have e2 : headN [i] = i := rfl
    unfold closedC at hc
    rw [e, e2] at hc
    rw [e2] at hm
    simp only [List.map_cons, List.map_nil, List.mem_singleton] at hm
    rw [hm] at hc; simp at hc⟩

theorem CircOk.next {g : GEventGraph} {p : List Nat} {v : Nat} (hp : CircOk g p) (hv : v < g.Places.length) (hc : candC g p v = true) : CircOk g (p ++ [v]) := by
  obtain ⟨h1, h2, h3, h4⟩ := candC_true.1 hc
  have hop := hp.op h1
  have hnm : cT g v ∉ p.map (cT g) := by
    rcases h4 with h4 | h4
    · rw [h4]; exact hop
    · intro hm
      obtain ⟨i, hi, e⟩ := List.mem_map.1 hm
      unfold visC at h4
      rw [List.any_eq_false] at h4
      exact h4 i hi (by rw [decide_eq_true e, Bool.or_true])
  refine ⟨by simp, fun x hx => ?_, ?_, fun hcl hm => ?_⟩
  · rcases List.mem_append.1 hx with hx | hx
    · exact hp.lt x hx
    · simp only [List.mem_singleton] at hx; subst hx; exact hv
  · rw [List.map_append, List.nodup_append]
    refine ⟨hp.nodup, by simp, fun x hx y hy => ?_⟩
    simp only [List.map_cons, List.map_nil, List.mem_singleton] at hy
    subst hy
    exact fun e => hnm (e ▸ hx)
  · unfold closedC at hcl
    rw [lastN_snoc, headN_snoc hp.ne] at hcl
    rw [headN_snoc hp.ne, List.map_append] at hm
    rcases List.mem_append.1 hm with hm | hm
    · exact hop hm
    · simp only [List.map_cons, List.map_nil, List.mem_singleton] at hm
      rw [hm] at hcl; simp at hcl

def firstC (g : GEventGraph) (good : Int → Int → Bool) (K : Nat) : Option (List Nat) := (List.range g.Places.length).findSome? fun i => if cF g i ≤ cT g i then gdfs (accC g good) (candC g) g.Places.length K [i] else none

theorem steps_ok {g : GEventGraph} : ∀ {q p : List Nat}, CircOk g p → Steps (candC g) p q → (∀ x, x ∈ q → x < g.Places.length) → CircOk g (p ++ q)
  | [], p, hp, _, _ => by rw [List.append_nil]; exact hp
  | v :: q, p, hp, hs, hq => by
    rw [show p ++ v :: q = (p ++ [v]) ++ q by simp]
    exact steps_ok (hp.next (hq v (by simp)) hs.1) hs.2 (fun x hx => hq x (by simp [hx]))

theorem firstC_some {g : GEventGraph} {good : Int → Int → Bool} {K : Nat} {r : List Nat} (h : firstC g good K = some r) : CircOk g r ∧ closedC g r = true ∧ good (sumD g r) (sumM g r) = true ∧ ∃ i q, r = [i] ++ q ∧ i < g.Places.length ∧ Steps (candC g) [i] q ∧ ∀ x, x ∈ q → x < g.Places.length := by
  obtain ⟨i, hi, h1⟩ := List.exists_of_findSome?_eq_some h
  have hil : i < g.Places.length := by simpa using hi
  by_cases hc : cF g i ≤ cT g i
  · rw [if_pos hc] at h1
    obtain ⟨h2, q, rfl, h3, h4⟩ := gdfs_some h1
    unfold accC at h2
    rw [Bool.and_eq_true] at h2
    exact ⟨steps_ok (CircOk.one hil) h3 h4, h2.1, h2.2, i, q, rfl, hil, h3, h4⟩
  · rw [if_neg hc] at h1; cases h1

theorem steps_pot {g : GEventGraph} {r : Int} {x : Nat → Int} (hx : ∀ p, p ∈ g.Places → x (plF p) + plW r p ≤ x (plT p)) : ∀ {q p : List Nat}, p ≠ [] → x (cF g (headN p)) + (sumD g p - r * sumM g p) ≤ x (cT g (lastN p)) → Steps (candC g) p q → (∀ y, y ∈ q → y < g.Places.length) → x (cF g (headN p)) + (sumD g (p ++ q) - r * sumM g (p ++ q)) ≤ x (cT g (lastN (p ++ q)))
  | [], p, _, h0, _, _ => by rw [List.append_nil]; exact h0
  | v :: q, p, hne, h0, hs, hq => by
    have e : p ++ v :: q = (p ++ [v]) ++ q := by simp
    obtain ⟨_, c2, _, _⟩ := candC_true.1 hs.1
    have h1 := hx _ (pcs_mem (hq v (by simp)))
    have h2 : x (cF g v) + plW r (pcs g v) ≤ x (cT g v) := h1
    have := steps_pot hx (q := q) (p := p ++ [v]) (by simp) (by
      rw [headN_snoc hne, lastN_snoc, sumD_app, sumM_app, sumD_one, sumM_one, Int.mul_add]
      unfold plW at h2
      rw [c2] at h2
      omega) hs.2 (fun y hy => hq y (by simp [hy]))
    rw [headN_snoc hne] at this
    rw [e]; exact this

theorem circ_bound {g : GEventGraph} {r : Int} (h : graphB g = true) (h0 : 0 ≤ r) (h1 : r ≤ 100000) (hn : ¬ PosCyc (wT g r) g.Events.toNat) {good : Int → Int → Bool} {K : Nat} {c : List Nat} (hc : firstC g good K = some c) : sumD g c - r * sumM g c ≤ 0 := by
  obtain ⟨e1, e2, e3, _, _⟩ := graphB_true h
  have hA := wT_arcs h h0 h1
  have hrest := its_rest hA (by omega) ((fwok_iff hA.ok (by omega)).2 hn) (fun _ => 0)
  obtain ⟨_, hx⟩ := chd_false hrest
  obtain ⟨hok, hcl, _, i, q, rfl, hi, hs, hq⟩ := firstC_some hc
  have h2 := hx _ (pcs_mem hi)
  have := steps_pot (g := g) (r := r) hx (q := q) (p := [i]) (by simp) (by
    rw [sumD_one, sumM_one]; exact h2) hs hq
  have hcl' : cT g (lastN ([i] ++ q)) = cF g (headN ([i] ++ q)) := of_decide_eq_true hcl
  have eh : headN ([i] ++ q) = headN [i] := rfl
  rw [hcl', eh] at this
  omega

theorem wT_place {g : GEventGraph} {r : Int} (h : graphB g = true) (h0 : 0 ≤ r) (h1 : r ≤ 100000) {u v : Nat} (ha : wT g r v u ≠ -1000000000000000) : ∃ i, i < g.Places.length ∧ cT g i = v ∧ cF g i = u ∧ (pcs g i).Delay - r * (pcs g i).Tokens = wT g r v u := by
  rcases (wT_arcs h h0 h1).cs v u with e | ⟨p, hp, h2, h3, h4⟩
  · exact absurd e ha
  · obtain ⟨i, hi, rfl⟩ := List.getElem_of_mem hp
    have e : pcs g i = g.Places[i] := by unfold pcs; rw [List.getElem?_eq_getElem hi]; rfl
    exact ⟨i, hi, by unfold cT; rw [e]; exact h2, by unfold cF; rw [e]; exact h3, by rw [e, h4]; rfl⟩

theorem chain_steps {g : GEventGraph} {r : Int} (h : graphB g = true) (h0 : 0 ≤ r) (h1 : r ≤ 100000) {f : Nat} : ∀ (q p : List Nat) (l : Nat) (V : List Nat), p ≠ [] → cT g (lastN p) = l → l ≠ f → cF g (headN p) = f → l ∈ V → (∀ e, e ∉ V → visC g p e = false) → (∀ x, x ∈ q → f < x ∧ x ∉ V) → q.Nodup → Chain (arcB (wT g r)) l q f →
    ∃ ps, Steps (candC g) p ps ∧ closedC g (p ++ ps) = true ∧ (∀ x, x ∈ ps → x < g.Places.length) ∧ sumD g (p ++ ps) - r * sumM g (p ++ ps) = sumD g p - r * sumM g p + cw (wT g r) l q f ∧ ps.length ≤ q.length + 1 := by
  intro q
  induction q with
  | nil =>
    intro p l V hne hl hlf hf _ _ _ _ hc
    obtain ⟨i, hi, i1, i2, i3⟩ := wT_place h h0 h1 (arcB_true.1 hc)
    have hcl : closedC g p = false := by unfold closedC; rw [hl, hf]; exact decide_eq_false hlf
    refine ⟨[i], ⟨candC_true.2 ⟨hcl, by rw [i2, hl], by rw [i1, hf]; exact Nat.le_refl _, .inl (by rw [i1, hf])⟩, trivial⟩, ?_, fun x hx => ?_, ?_, by simp⟩
    · unfold closedC; rw [lastN_snoc, headN_snoc hne, i1, hf]; simp
    · simp only [List.mem_singleton] at hx; subst hx; exact hi
    · rw [sumD_app, sumM_app, sumD_one, sumM_one, Int.mul_add]
      show _ = _ + wT g r f l
      rw [← i3]; omega
  | cons v q ih =>
    intro p l V hne hl hlf hf hlV hvis hq hnd hc
    obtain ⟨i, hi, i1, i2, i3⟩ := wT_place h h0 h1 (arcB_true.1 hc.1)
    have hcl : closedC g p = false := by unfold closedC; rw [hl, hf]; exact decide_eq_false hlf
    obtain ⟨hv1, hv2⟩ := hq v (by simp)
    have hcand : candC g p i = true := candC_true.2 ⟨hcl, by rw [i2, hl], by rw [i1, hf]; omega, .inr (by rw [i1]; exact hvis v hv2)⟩
    rw [List.nodup_cons] at hnd
    obtain ⟨ps, s1, s2, s3, s4, s5⟩ := ih (p ++ [i]) v (v :: V) (by simp) (by rw [lastN_snoc, i1]) (by omega) (by rw [headN_snoc hne, hf]) (by simp) (fun e he => by
        rw [List.mem_cons, not_or] at he
        unfold visC
        rw [List.any_append]
        have := hvis e he.2
        unfold visC at this
        rw [this]
        simp only [List.any_cons, List.any_nil, i1, i2, Bool.or_false, Bool.false_or, Bool.or_eq_false_iff, decide_eq_false_iff_not]
        exact ⟨fun e2 => he.2 (e2 ▸ hlV), fun e2 => he.1 e2.symm⟩) (fun x hx => ⟨(hq x (by simp [hx])).1, fun hm => by
        rcases List.mem_cons.1 hm with rfl | hm
        · exact hnd.1 hx
        · exact (hq x (by simp [hx])).2 hm⟩) hnd.2 hc.2
    refine ⟨i :: ps, ⟨hcand, s1⟩, ?_, fun x hx => ?_, ?_, by simp only [List.length_cons]; omega⟩
    · rw [show p ++ i :: ps = (p ++ [i]) ++ ps by simp]; exact s2
    · rcases List.mem_cons.1 hx with rfl | hx
      · exact hi
      · exact s3 x hx
    · rw [show p ++ i :: ps = (p ++ [i]) ++ ps by simp, s4, sumD_app, sumM_app, sumD_one, sumM_one, Int.mul_add]
      show _ = _ + (wT g r v l + cw (wT g r) v q f)
      rw [← i3]; omega

theorem firstC_none {g : GEventGraph} {r : Int} {K : Nat} (h : graphB g = true) (h0 : 0 ≤ r) (h1 : r ≤ 100000) (hK : 100 ≤ K) (hp : PosCyc (wT g r) g.Events.toNat) : firstC g (fun d m => decide (0 < d - r * m)) K ≠ none := by
  intro hn
  obtain ⟨e1, e2, e3, _, _⟩ := graphB_true h
  obtain ⟨v, q, hv, ⟨q1, q2, q3⟩, hw⟩ := hp
  have hql := nodup_le g.Events.toNat q (List.nodup_cons.1 q2).2 (fun x hx => (q1 x hx).2)
  cases q with
  | nil =>
    obtain ⟨i, hi, i1, i2, i3⟩ := wT_place h h0 h1 (arcB_true.1 q3)
    have h2 := List.findSome?_eq_none_iff.1 hn i (by simpa using hi)
    rw [if_pos (by omega)] at h2
    have h3 := gdfs_none (q := []) h2 (by simp; omega) trivial (fun x hx => (by cases hx))
    rw [List.append_nil] at h3
    have hw' : 0 < wT g r v v := hw
    have hc : closedC g [i] = true := decide_eq_true (show cT g i = cF g i by rw [i1, i2])
    unfold accC at h3
    rw [hc, Bool.true_and] at h3
    have h3 : decide (0 < sumD g [i] - r * sumM g [i]) = false := h3
    rw [sumD_one, sumM_one, i3, dT hw'] at h3
    cases h3
  | cons u q =>
    obtain ⟨i, hi, i1, i2, i3⟩ := wT_place h h0 h1 (arcB_true.1 q3.1)
    have hu := q1 u (by simp)
    have h2 := List.findSome?_eq_none_iff.1 hn i (by simpa using hi)
    rw [if_pos (by omega)] at h2
    have q2' := List.nodup_cons.1 (List.nodup_cons.1 q2).2
    obtain ⟨ps, s1, s2, s3, s4, s5⟩ := chain_steps (g := g) (r := r) h h0 h1 (f := v) q [i] u [u, v] (by simp) i1 (by omega) i2 (by simp) (fun e he => by
        unfold visC
        simp only [List.mem_cons, List.not_mem_nil, or_false, not_or] at he
        simp only [List.any_cons, List.any_nil, i1, i2, Bool.or_false, Bool.or_eq_false_iff, decide_eq_false_iff_not]
        omega) (fun x hx => ⟨(q1 x (by simp [hx])).1, fun hm => by
        simp only [List.mem_cons, List.not_mem_nil, or_false] at hm
        rcases hm with rfl | rfl
        · exact q2'.1 hx
        · have := (q1 x (by simp [hx])).1; omega⟩) q2'.2 q3.2
    have h3 := gdfs_none (q := ps) h2 (by simp only [List.length_cons] at hql; omega) s1 s3
    unfold accC at h3
    have hw' : 0 < wT g r u v + cw (wT g r) u q v := hw
    rw [s2, Bool.true_and] at h3
    have h3 : decide (0 < sumD g ([i] ++ ps) - r * sumM g ([i] ++ ps)) = false := h3
    rw [s4, sumD_one, sumM_one, i3, dT hw'] at h3
    cases h3

/-! ### The program's search for a circuit -/
def SeenOk (g : GEventGraph) (p : List Nat) (u : List Bool) : Prop := u.length = g.Events.toNat ∧ ∀ e, e < g.Events.toNat → u[e]? = some (visC g p e)

theorem visC_snoc (g : GEventGraph) (p : List Nat) (v e : Nat) : visC g (p ++ [v]) e = (visC g p e || (decide (cF g v = e) || decide (cT g v = e))) := by
  unfold visC; rw [List.any_append]; simp

theorem visC_last {g : GEventGraph} {p : List Nat} (h : p ≠ []) : visC g p (cT g (lastN p)) = true := by
  unfold visC
  rw [List.any_eq_true]
  exact ⟨lastN p, last_mem h, by simp⟩

theorem nl_cut {p : List Nat} {j : Nat} (hl : p.length ≤ 1000) : cutTo (nl (p ++ [j])) (IntKind.i64.wrap (((nl (p ++ [j])).length : Int) - 1)) = some (nl p) := by
  rw [nl_len, List.length_append, List.length_singleton, wr (by omega) (by omega)]
  unfold cutTo
  rw [nl_len, List.length_append, List.length_singleton, if_pos ⟨by omega, by omega⟩, show (((p.length + 1 : Nat) : Int) - 1).toNat = p.length by omega]
  unfold nl
  rw [List.map_append, List.take_left' (by simp)]

/-! ### Tables row by row -/
def plD (g : GEventGraph) (i : Nat) : GPlace := g.Places.getD i ⟨0, 0, 0, 0⟩

theorem plD_of {g : GEventGraph} {k : Nat} (h : k < g.Places.length) : g.Places[k]? = some (plD g k) := by
  unfold plD; rw [List.getD_eq_getElem?_getD, List.getElem?_eq_getElem h]; rfl

theorem foldl_len {α : Type} {f : List Int → α → List Int} (hf : ∀ xs a, (f xs a).length = xs.length) : ∀ (l : List α) (xs : List Int), (l.foldl f xs).length = xs.length
  | [], _ => rfl
  | a :: l, xs => by rw [List.foldl_cons, foldl_len hf l, hf]

/-- the parts of a table that is under way -/
structure DOk (g : GEventGraph) (n : Nat) (pre : List (List Int)) (xs : List Int) : Prop where
  rws : ∀ r, r ∈ pre → r.length = n
  row : xs.length = n
  le : pre.length ≤ 50

theorem DOk.at' {g : GEventGraph} {n : Nat} {pre : List (List Int)} {xs : List Int} (h : DOk g n pre xs) {m : Nat} (hm : m ≤ pre.length) : (pre ++ [xs])[m]? = some ((pre ++ [xs]).getD m []) ∧ ((pre ++ [xs]).getD m []).length = n := by
  have hl : m < (pre ++ [xs]).length := by simp; omega
  have e : (pre ++ [xs])[m]? = some ((pre ++ [xs]).getD m []) := by rw [List.getD_eq_getElem?_getD, List.getElem?_eq_getElem hl]; rfl
  refine ⟨e, ?_⟩
  rcases List.mem_append.1 (List.mem_of_getElem? e) with h1 | h1
  · exact h.rws _ h1
  · simp only [List.mem_singleton] at h1; rw [h1]; exact h.row

theorem getN {xs : List Int} {i : Int} {u n : Nat} (h : i = (u : Int)) (hu : u < n) (hx : xs.length = n) : idx xs i = some (xs.getD i.toNat 0) := by
  subst h; rw [idx_nat, Int.toNat_natCast, getD_of (by omega)]

theorem upd_last {pre : List (List Int)} {xs ys : List Int} : upd (pre ++ [xs]) (pre.length : Int) ys = some (pre ++ [ys]) := by
  rw [upd_nat _ (by simp)]; simp

structure PlOk (g : GEventGraph) (n : Nat) (i : Nat) : Prop where
  from' : ∃ u : Nat, (plD g i).From = (u : Int) ∧ u < n
  to' : ∃ v : Nat, (plD g i).To = (v : Int) ∧ v < n
  tok : ∃ w : Nat, (plD g i).Tokens = (w : Int) ∧ w ≤ 5

theorem graphB_tok {g : GEventGraph} (h : graphB g = true) : ∀ p, p ∈ g.Places → 0 ≤ p.Tokens ∧ p.Tokens ≤ 5 ∧ 0 ≤ p.Delay ∧ p.Delay ≤ 1000 := by
  intro p hp
  unfold graphB at h
  simp only [Bool.and_eq_true, List.all_eq_true] at h
  have := h.1 p hp
  simp only [placeB, Bool.and_eq_true, inB_true] at this
  omega

theorem PlOk.of {g : GEventGraph} (h : graphB g = true) {i : Nat} (hi : i < g.Places.length) : PlOk g g.Events.toNat i := by
  have hm : plD g i ∈ g.Places := List.mem_of_getElem? (plD_of hi)
  obtain ⟨u, v, h1, h2, h3, h4⟩ := (GOk.of h).at' _ hm
  have := graphB_tok h _ hm
  exact ⟨⟨u, h1, h3⟩, ⟨v, h2, h4⟩, ⟨(plD g i).Tokens.toNat, by omega, by omega⟩⟩


theorem foldl_range {S : Type} {f : S → Nat → S} {o : List Nat} {s : S} {k : Nat} (hk : k < o.length) : (o.take (k + 1)).foldl f s = f ((o.take k).foldl f s) (o.getD k 0) := by
  have : o[k]? = some (o.getD k 0) := by rw [List.getD_eq_getElem?_getD, List.getElem?_eq_getElem hk]; rfl
  rw [List.take_add_one, this, List.foldl_append]; rfl

def zeros (g : GEventGraph) : List Int := List.replicate g.Events.toNat 0

theorem init_len {g : GEventGraph} {ds : List Int} (hd : ds.length = g.Events.toNat) (k : Nat) : (if k = 0 then ds else zeros g).length = g.Events.toNat := by
  by_cases h : k = 0
  · rw [if_pos h]; exact hd
  · rw [if_neg h]; unfold zeros; simp

/-! ### The table of the firing times -/
def tstep (g : GEventGraph) (pre : List (List Int)) (e : Nat) (xs : List Int) (i : Nat) : List Int :=
  bif (plD g i).To == (e : Int) && decide ((plD g i).Tokens ≤ (pre.length : Int)) then xs.set e (max (xs.getD e 0) (IntKind.i64.wrap (((pre ++ [xs]).getD (pre.length - (plD g i).Tokens.toNat) []).getD (plD g i).From.toNat 0 + (plD g i).Delay))) else xs

def tevent (g : GEventGraph) (pre : List (List Int)) (xs : List Int) (e : Nat) : List Int := (List.range g.Places.length).foldl (tstep g pre e) xs

theorem tstep_len (g : GEventGraph) (pre : List (List Int)) (e : Nat) (xs : List Int) (i : Nat) : (tstep g pre e xs i).length = xs.length := by
  unfold tstep
  cases ((plD g i).To == (e : Int) && decide ((plD g i).Tokens ≤ (pre.length : Int))) <;> simp

theorem tevent_len (g : GEventGraph) (pre : List (List Int)) (xs : List Int) (e : Nat) : (tevent g pre xs e).length = xs.length := foldl_len (tstep_len g pre e) _ _

theorem last_at {pre : List (List Int)} {xs : List Int} : (pre ++ [xs])[pre.length]? = some xs := by simp

theorem implTInner {F : Nat} {g : GEventGraph} {pre : List (List Int)} {xs : List Int} {e : Nat} (hF : 134217728 ≤ F) (hg : graphB g = true) (h : DOk g g.Events.toNat pre xs) (he : e < g.Events.toNat) :
    impl_firingTimes_L21 F g (pre.length : Int) (e : Int) F (pre ++ [xs]) 0 = some (pre ++ [tevent g pre xs e]) := by
  have hG := GOk.of hg
  have hlen := hG.len
  have hle := h.le
  have H := for0 (L := fun m (s : List (List Int)) i => impl_firingTimes_L21 F g (pre.length : Int) (e : Int) m s i) (len := g.Places.length)
    (fun k s => s = pre ++ [(List.range k).foldl (tstep g pre e) xs]) (R := fun o => o = some (pre ++ [tevent g pre xs e])) (s := pre ++ [xs]) (n := F) ?_ ?_ rfl (by omega)
  · exact H
  · rintro m k s hk rfl
    have hys : ((List.range k).foldl (tstep g pre e) xs).length = g.Events.toNat := by rw [foldl_len (tstep_len g pre e)]; exact h.row
    generalize hyd : (List.range k).foldl (tstep g pre e) xs = ys at hys
    have hD : DOk g g.Events.toNat pre ys := ⟨h.rws, hys, h.le⟩
    obtain ⟨⟨u, hu, hun⟩, ⟨v, hv, hvn⟩, ⟨w, hw, hw5⟩⟩ := PlOk.of hg hk
    have hstep : (List.range (k + 1)).foldl (tstep g pre e) xs = tstep g pre e ys k := by rw [List.range_succ, List.foldl_append, hyd]; rfl
    refine .inl ⟨pre ++ [tstep g pre e ys k], ?_, by rw [hstep]⟩
    simp only [impl_firingTimes_L21, bdT (show (k : Int) < (g.Places.length : Int) by omega), idx_nat, plD_of hk, Option.bind_some, wrN (show k ≤ 67108864 by omega)]
    by_cases hto : (plD g k).To = (e : Int)
    · by_cases htk : w ≤ pre.length
      · have hd : decide ((plD g k).Tokens ≤ (pre.length : Int)) = true := by rw [hw]; exact decide_eq_true (by omega)
        have hw2 : IntKind.i64.wrap ((pre.length : Int) - (plD g k).Tokens) = ((pre.length - w : Nat) : Int) := by rw [hw, wr (by omega) (by omega)]; omega
        obtain ⟨ha, hb⟩ := hD.at' (m := pre.length - w) (by omega)
        have hrow := getN (xs := (pre ++ [ys]).getD (pre.length - w) []) hu hun hb
        have hx : ys[e]? = some (ys.getD e 0) := getD_of (by omega)
        rw [hto, beq_self_eq_true]
        simp only [cond_true, Option.bind_some, hd, hx, hw2, idx_nat, last_at, ha, hrow, upd_nat _ (show e < ys.length by omega), upd_last]
        unfold tstep
        rw [hto, beq_self_eq_true, hd, hw]
        simp only [Bool.and_self, cond_true, Int.toNat_natCast]
      · have hd : decide ((plD g k).Tokens ≤ (pre.length : Int)) = false := by rw [hw]; exact decide_eq_false (by omega)
        rw [hto, beq_self_eq_true]
        simp only [cond_true, Option.bind_some, hd, cond_false]
        unfold tstep
        rw [hd, Bool.and_false]; rfl
    · rw [beq_false_of_ne hto]
      simp only [cond_false, Option.bind_some]
      unfold tstep
      rw [beq_false_of_ne hto, Bool.false_and]; rfl
  · rintro m s rfl
    simp only [impl_firingTimes_L21, bdF (show ¬ (g.Places.length : Int) < (g.Places.length : Int) by omega)]; rfl

def tround (g : GEventGraph) (o : List Nat) (pre : List (List Int)) (xs : List Int) : List Int := o.foldl (tevent g pre) xs

theorem tround_len (g : GEventGraph) (o : List Nat) (pre : List (List Int)) (xs : List Int) : (tround g o pre xs).length = xs.length := foldl_len (tevent_len g pre) _ _

theorem implTEvents {F : Nat} {g : GEventGraph} {o : List Nat} {b : Bool} {pre : List (List Int)} {xs : List Int} (hF : 134217728 ≤ F) (hg : graphB g = true) (h : DOk g g.Events.toNat pre xs) (ho : ∀ x, x ∈ o → x < g.Events.toNat) (hol : o.length ≤ 10) :
    impl_firingTimes_L20 F g (nl o, b) (pre.length : Int) F (pre ++ [xs]) 0 = some (pre ++ [tround g o pre xs]) := by
  have H := for0 (L := fun m (s : List (List Int)) i => impl_firingTimes_L20 F g (nl o, b) (pre.length : Int) m s i) (len := o.length)
    (fun k s => s = pre ++ [(o.take k).foldl (tevent g pre) xs]) (R := fun q => q = some (pre ++ [tround g o pre xs])) (s := pre ++ [xs]) (n := F) ?_ ?_ rfl (by omega)
  · exact H
  · rintro m k s hk rfl
    have hys : ((o.take k).foldl (tevent g pre) xs).length = g.Events.toNat := by rw [foldl_len (tevent_len g pre)]; exact h.row
    have hD : DOk g g.Events.toNat pre ((o.take k).foldl (tevent g pre) xs) := ⟨h.rws, hys, h.le⟩
    have hok : o[k]? = some (o.getD k 0) := by rw [List.getD_eq_getElem?_getD, List.getElem?_eq_getElem hk]; rfl
    have hr : (nl o)[k]? = some ((o.getD k 0 : Nat) : Int) := by rw [nl_at, hok]; rfl
    refine .inl ⟨_, ?_, rfl⟩
    simp only [impl_firingTimes_L20, nl_len, bdT (show (k : Int) < (o.length : Int) by omega), idx_nat, hr, implTInner hF hg hD (ho _ (List.mem_of_getElem? hok)), Option.bind_some, wrN (show k ≤ 67108864 by omega), foldl_range hk]
  · rintro m s rfl
    simp only [impl_firingTimes_L20, nl_len, bdF (show ¬ (o.length : Int) < (o.length : Int) by omega), List.take_length]; rfl

def ttab (g : GEventGraph) (o : List Nat) (xs : List Int) : Nat → List (List Int)
  | 0 => []
  | k + 1 => ttab g o xs k ++ [tround g o (ttab g o xs k) xs]

theorem ttab_len (g : GEventGraph) (o : List Nat) (xs : List Int) : ∀ k, (ttab g o xs k).length = k
  | 0 => rfl
  | k + 1 => by unfold ttab; rw [List.length_append, ttab_len g o xs k]; rfl

theorem ttab_rows {g : GEventGraph} {o : List Nat} {xs : List Int} (hd : xs.length = g.Events.toNat) : ∀ k r, r ∈ ttab g o xs k → r.length = g.Events.toNat
  | 0, r, h => by cases h
  | k + 1, r, h => by
    unfold ttab at h
    rcases List.mem_append.1 h with h | h
    · exact ttab_rows hd k r h
    · simp only [List.mem_singleton] at h
      rw [h, tround_len]; exact hd

theorem implTimes13_is {F n : Nat} {g : GEventGraph} {o : List Nat} {xs : List Int} (hF : 134217728 ≤ F) (hg : graphB g = true) (ho : fire (eP g.Places) g.Events.toNat g.Events.toNat [] = some o) (hd : xs.length = g.Events.toNat) (hn : n ≤ 50) : impl_firingTimes F g (n : Int) xs = some (ttab g o xs n) := by
  have hG := GOk.of hg
  have h10 := hG.n10
  obtain ⟨hok, hol⟩ := fire_ok hG.edge _ [] o (OrderOk.nil _ _) ho
  have hol' : o.length ≤ 10 := by simp at hol; omega
  unfold impl_firingTimes
  rw [bind_of (implOrder_is hF hG), ho]
  simp only
  have H := for0 (L := fun m (s : List (List Int)) i => impl_firingTimes_L16 F g (n : Int) xs (nl o, true) m s i) (len := n) (fun k s => s = ttab g o xs k) (R := fun q => q = some (ttab g o xs n)) (s := []) (n := F) ?_ ?_ rfl (by omega)
  · rw [H]; rfl
  · rintro m k s hk rfl
    refine .inl ⟨_, ?_, rfl⟩
    have hcl : slices_Clone_int64 F xs = some xs := by
      unfold slices_Clone_int64
      rw [app_le (by simp only [List.length_nil]; omega)]; rfl
    have hlen := ttab_len g o xs k
    have hD : DOk g g.Events.toNat (ttab g o xs k) xs := ⟨ttab_rows hd k, hd, by omega⟩
    have happ : app (ttab g o xs k) [xs] = some (ttab g o xs k ++ [xs]) := app_le (by simp only [List.length_singleton]; omega)
    have hev2 := implTEvents (F := F) (b := true) hF hg hD hok.lt hol'
    rw [hlen] at hev2
    simp only [impl_firingTimes_L16, bdT (show (k : Int) < (n : Int) by omega), hcl, happ, Option.bind_some, hev2, wrN (show k ≤ 67108864 by omega)]
    rfl
  · rintro m s rfl
    simp only [impl_firingTimes_L16, bdF (show ¬ (n : Int) < (n : Int) by omega)]

def rowB (g : GEventGraph) (xs : List Int) : Bool := ((xs.length : Int) == g.Events) && xs.all fun x => inB x 0 1000000

def dueB (g : GEventGraph) (due : List (List Int)) : Bool := due.all (rowB g) && decide ((due.length : Int) ≤ 50)

def dueCode (g : GEventGraph) (due : List (List Int)) : Int := bif !graphB g then 1 else bif !dueB g due then 2 else bif !liveB g g.Events.toNat then 5 else 0

theorem dueCode_zero {g : GEventGraph} {due : List (List Int)} (h : dueCode g due = 0) : graphB g = true ∧ dueB g due = true ∧ ∃ o, fire (eP g.Places) g.Events.toNat g.Events.toNat [] = some o := by
  unfold dueCode at h
  have : graphB g = true ∧ dueB g due = true ∧ liveB g g.Events.toNat = true := by
    revert h
    cases graphB g <;> cases dueB g due <;> cases liveB g g.Events.toNat <;> simp
  refine ⟨this.1, this.2.1, ?_⟩
  have h3 := this.2.2
  unfold liveB at h3
  exact Option.isSome_iff_exists.1 h3

theorem dueB_true {g : GEventGraph} {due : List (List Int)} (hg : graphB g = true) (h : dueB g due = true) : due.length ≤ 50 ∧ ∀ r, r ∈ due → r.length = g.Events.toNat ∧ ∀ x, x ∈ r → 0 ≤ x ∧ x ≤ 1000000 := by
  have h1 := (graphB_true hg).1
  unfold dueB rowB at h
  simp only [Bool.and_eq_true, List.all_eq_true, beq_iff_eq, decide_eq_true_eq, inB_true] at h
  refine ⟨by omega, fun r hr => ?_⟩
  have := h.1 r hr
  exact ⟨by omega, this.2⟩

/-! ### The table of the latest times -/
def lstep (g : GEventGraph) (n k e : Nat) (ms : List (List Int)) (i : Nat) : List (List Int) :=
  bif (plD g i).From == (e : Int) && decide ((k : Int) + (plD g i).Tokens < (n : Int)) then ms.set k ((ms.getD k []).set e (min ((ms.getD k []).getD e 0) (IntKind.i64.wrap ((ms.getD (k + (plD g i).Tokens.toNat) []).getD (plD g i).To.toNat 0 - (plD g i).Delay)))) else ms

def levent (g : GEventGraph) (n k : Nat) (ms : List (List Int)) (e : Nat) : List (List Int) := (List.range g.Places.length).foldl (lstep g n k e) ms

def lround (g : GEventGraph) (n : Nat) (o : List Nat) (ms : List (List Int)) (k : Nat) : List (List Int) := o.reverse.foldl (levent g n k) ms

def ltab (g : GEventGraph) (n : Nat) (o : List Nat) (ms : List (List Int)) : List (List Int) := (List.range n).reverse.foldl (lround g n o) ms

structure LOk (g : GEventGraph) (n : Nat) (ms : List (List Int)) : Prop where
  len : ms.length = n
  rws : ∀ r, r ∈ ms → r.length = g.Events.toNat

theorem LOk.at' {g : GEventGraph} {n : Nat} {ms : List (List Int)} (h : LOk g n ms) {m : Nat} (hm : m < n) : ms[m]? = some (ms.getD m []) ∧ (ms.getD m []).length = g.Events.toNat := by
  have hl : m < ms.length := by rw [h.len]; exact hm
  have e : ms[m]? = some (ms.getD m []) := by rw [List.getD_eq_getElem?_getD, List.getElem?_eq_getElem hl]; rfl
  exact ⟨e, h.rws _ (List.mem_of_getElem? e)⟩

theorem LOk.step {g : GEventGraph} {n k e : Nat} {ms : List (List Int)} (h : LOk g n ms) (hk : k < n) (i : Nat) : LOk g n (lstep g n k e ms i) := by
  unfold lstep
  cases ((plD g i).From == (e : Int) && decide ((k : Int) + (plD g i).Tokens < (n : Int))) with
  | false => exact h
  | true =>
    refine ⟨by rw [cond_true, List.length_set]; exact h.len, fun r hr => ?_⟩
    rw [cond_true] at hr
    rcases List.mem_or_eq_of_mem_set hr with h1 | h1
    · exact h.rws r h1
    · rw [h1, List.length_set]; exact (h.at' hk).2

theorem LOk.fold {α : Type} {g : GEventGraph} {n : Nat} {f : List (List Int) → α → List (List Int)} (hf : ∀ ms a, LOk g n ms → LOk g n (f ms a)) : ∀ (l : List α) {ms : List (List Int)}, LOk g n ms → LOk g n (l.foldl f ms)
  | [], _, h => h
  | a :: l, _, h => by rw [List.foldl_cons]; exact LOk.fold hf l (hf _ a h)

theorem LOk.event {g : GEventGraph} {n k : Nat} {ms : List (List Int)} (h : LOk g n ms) (hk : k < n) (e : Nat) : LOk g n (levent g n k ms e) := LOk.fold (fun _ i h => h.step hk i) _ h

theorem LOk.round {g : GEventGraph} {n k : Nat} {o : List Nat} {ms : List (List Int)} (h : LOk g n ms) (hk : k < n) : LOk g n (lround g n o ms k) := LOk.fold (fun _ e h => h.event hk e) _ h

theorem LOk.down {g : GEventGraph} {n : Nat} {o : List Nat} : ∀ (m : Nat) {ms : List (List Int)}, m ≤ n → LOk g n ms → LOk g n ((List.range m).reverse.foldl (lround g n o) ms)
  | 0, _, _, h => h
  | m + 1, _, hm, h => by
    rw [List.range_succ, List.reverse_append]
    exact LOk.down m (by omega) (h.round (by omega))

theorem LOk.tab {g : GEventGraph} {n : Nat} {o : List Nat} {ms : List (List Int)} (h : LOk g n ms) : LOk g n (ltab g n o ms) := h.down n (Nat.le_refl _)

/-! ### Floats -/
def fstep (T : List (List Int)) (k : Nat) (ms : List (List Int)) (j : Nat) : List (List Int) := ms.set k ((ms.getD k []).set j (IntKind.i64.wrap ((ms.getD k []).getD j 0 - (T.getD k []).getD j 0)))

def frow (T : List (List Int)) (e : Nat) (ms : List (List Int)) (k : Nat) : List (List Int) := (List.range e).foldl (fstep T k) ms

def ftab (T : List (List Int)) (e n : Nat) (ms : List (List Int)) : List (List Int) := (List.range n).foldl (frow T e) ms

theorem LOk.fstep {g : GEventGraph} {n k : Nat} {T ms : List (List Int)} (h : LOk g n ms) (hk : k < n) (j : Nat) : LOk g n (fstep T k ms j) := by
  refine ⟨by unfold Go.Proofs.Ytgkgimglgjfcjaa.fstep; rw [List.length_set]; exact h.len, fun r hr => ?_⟩
  unfold Go.Proofs.Ytgkgimglgjfcjaa.fstep at hr
  rcases List.mem_or_eq_of_mem_set hr with h1 | h1
  · exact h.rws r h1
  · rw [h1, List.length_set]; exact (h.at' hk).2

theorem LOk.frow {g : GEventGraph} {n k e : Nat} {T ms : List (List Int)} (h : LOk g n ms) (hk : k < n) : LOk g n (frow T e ms k) := LOk.fold (fun _ j h => h.fstep hk j) _ h

theorem LOk.foldk {g : GEventGraph} {n e : Nat} {T : List (List Int)} : ∀ (m : Nat) {ms : List (List Int)}, m ≤ n → LOk g n ms → LOk g n ((List.range m).foldl (Go.Proofs.Ytgkgimglgjfcjaa.frow T e) ms)
  | 0, _, _, h => h
  | m + 1, _, hm, h => by
    rw [List.range_succ, List.foldl_append]
    exact (LOk.foldk m (by omega) h).frow (by omega)

theorem LOk.ftab {g : GEventGraph} {n e : Nat} {T ms : List (List Int)} (h : LOk g n ms) : LOk g n (ftab T e n ms) := h.foldk n (Nat.le_refl _)

theorem rowOf {T : List (List Int)} {k : Nat} (h : k < T.length) : T[k]? = some (T.getD k []) := by
  rw [List.getD_eq_getElem?_getD, List.getElem?_eq_getElem h]; rfl

/-! ### Firings picked out of a table -/
/-- the firings of one round, of all rounds -/
def pickRow (p : Nat → Nat → Bool) (k n : Nat) : List (List Int) := (List.range n).flatMap fun e => bif p k e then [[((k + 1 : Nat) : Int), (e : Int)]] else []

def pickAll (p : Nat → Nat → Bool) (n : Nat) (m : Nat) : List (List Int) := (List.range m).flatMap fun k => pickRow p k n

theorem pickRow_len (p : Nat → Nat → Bool) (k : Nat) : ∀ n, (pickRow p k n).length ≤ n
  | 0 => by simp [pickRow]
  | n + 1 => by
    have := pickRow_len p k n
    have e : pickRow p k (n + 1) = pickRow p k n ++ bif p k n then [[((k + 1 : Nat) : Int), (n : Int)]] else [] := by
      unfold pickRow; rw [List.range_succ, List.flatMap_append]; simp
    rw [e]
    cases p k n <;> simp <;> omega

theorem pickAll_len (p : Nat → Nat → Bool) (n : Nat) : ∀ m, (pickAll p n m).length ≤ m * n
  | 0 => by simp [pickAll]
  | m + 1 => by
    have := pickAll_len p n m
    have h2 := pickRow_len p m n
    have e : pickAll p n (m + 1) = pickAll p n m ++ pickRow p m n := by
      unfold pickAll; rw [List.range_succ, List.flatMap_append]; simp
    rw [e, List.length_append, Nat.succ_mul]; omega

theorem pickAll_rows (p : Nat → Nat → Bool) (n m : Nat) : ∀ r, r ∈ pickAll p n m → r.length = 2 := by
  intro r hr
  unfold pickAll pickRow at hr
  rw [List.mem_flatMap] at hr
  obtain ⟨k, _, hr⟩ := hr
  rw [List.mem_flatMap] at hr
  obtain ⟨e, _, hr⟩ := hr
  cases h : p k e with
  | false => rw [h] at hr; cases hr
  | true => rw [h] at hr; simp only [cond_true, List.mem_singleton] at hr; rw [hr]; rfl

/-- a loop over a round that appends -/
theorem row_loop {p : Nat → Nat → Bool} {k n : Nat} {acc : List (List Int)} {L : Nat → List (List Int) → Int → Option (List (List Int))} (ha : acc.length ≤ 1000) (hn : n ≤ 10)
    (hL : ∀ m ms e, e < n → ms.length ≤ 2000 → L (m + 1) ms (e : Int) = L m (ms ++ bif p k e then [[((k + 1 : Nat) : Int), (e : Int)]] else []) ((e + 1 : Nat) : Int))
    (hE : ∀ m ms, L (m + 1) ms (n : Int) = some ms) {F : Nat} (hF : 134217728 ≤ F) : L F acc 0 = some (acc ++ pickRow p k n) := by
  refine for0 (L := L) (len := n) (fun j s => s = acc ++ pickRow p k j) (R := fun q => q = some (acc ++ pickRow p k n)) ?_ ?_ (by unfold pickRow; simp) (by omega)
  · rintro m j s hj rfl
    have hl := pickRow_len p k j
    refine .inl ⟨_, hL m _ j hj (by rw [List.length_append]; omega), ?_⟩
    have e : pickRow p k (j + 1) = pickRow p k j ++ bif p k j then [[((k + 1 : Nat) : Int), (j : Int)]] else [] := by
      unfold pickRow; rw [List.range_succ, List.flatMap_append]; simp
    rw [e, List.append_assoc]
  · rintro m s rfl
    exact hE m _

theorem all_rounds {p : Nat → Nat → Bool} {n len : Nat} {L : Nat → List (List Int) → Int → Option (List (List Int))} (hn : n ≤ 10) (hlen : len ≤ 50)
    (hL : ∀ m k ms, k < len → ms.length ≤ 1000 → L (m + 1) ms (k : Int) = L m (ms ++ pickRow p k n) ((k + 1 : Nat) : Int))
    (hE : ∀ m ms, L (m + 1) ms (len : Int) = some ms) {F : Nat} (hF : 134217728 ≤ F) : L F [] 0 = some (pickAll p n len) := by
  refine for0 (L := L) (len := len) (fun j s => s = pickAll p n j) (R := fun q => q = some (pickAll p n len)) ?_ ?_ (by unfold pickAll; simp) (by omega)
  · rintro m j s hj rfl
    have hl := pickAll_len p n j
    have h2 := Nat.mul_le_mul (show j ≤ 50 by omega) hn
    refine .inl ⟨_, hL m j _ hj (by omega), ?_⟩
    unfold pickAll; rw [List.range_succ, List.flatMap_append]; simp
  · rintro m s rfl
    exact hE m _

theorem off_rows {rows : List (List Int)} {n : Nat} (h : ∀ r, r ∈ rows → r.length = n) : ∀ k, k ≤ rows.length → offR rows k = k * n := by
  intro k
  induction k with
  | zero => intro _; rw [offR_zero]; omega
  | succ k ih =>
    intro hk
    have hr : rows[k]? = some rows[k] := List.getElem?_eq_getElem (by omega)
    rw [offR_succ hr, ih (by omega), h _ (List.mem_of_getElem? hr), Nat.succ_mul]

theorem rowD {T : List (List Int)} {k : Nat} (h : k < T.length) : T[k]? = some (T.getD k []) := by
  rw [List.getD_eq_getElem?_getD, List.getElem?_eq_getElem h]; rfl

def lateP (T due : List (List Int)) (k e : Nat) : Bool := decide ((due.getD k []).getD e 0 < (T.getD k []).getD e 0)

/-! ### Delays lie in their range -/
theorem wr_range (n : Int) : -9223372036854775808 ≤ IntKind.i64.wrap n ∧ IntKind.i64.wrap n ≤ 9223372036854775807 := by
  simp [IntKind.wrap, IntKind.bits, IntKind.signed]; omega

def allIn (xs : List Int) : Prop := ∀ i, 0 ≤ xs.getD i 0 ∧ xs.getD i 0 ≤ 1000000

theorem allIn_mem {xs : List Int} (h : allIn xs) : ∀ x, x ∈ xs → 0 ≤ x ∧ x ≤ 1000000 := by
  intro x hx
  obtain ⟨i, hi, rfl⟩ := List.getElem_of_mem hx
  have := h i
  rw [List.getD_eq_getElem?_getD, List.getElem?_eq_getElem hi] at this
  exact this

theorem allIn_of {xs : List Int} (h : ∀ x, x ∈ xs → 0 ≤ x ∧ x ≤ 1000000) : allIn xs := by
  intro i
  by_cases hi : i < xs.length
  · rw [List.getD_eq_getElem?_getD, List.getElem?_eq_getElem hi]; exact h _ (List.getElem_mem hi)
  · rw [List.getD_eq_getElem?_getD, List.getElem?_eq_none (by omega)]; simp

theorem set_getD {xs : List Int} {e i : Nat} {y : Int} : (xs.set e y).getD i 0 = if i = e ∧ i < xs.length then y else xs.getD i 0 := by
  rw [List.getD_eq_getElem?_getD, List.getD_eq_getElem?_getD]
  by_cases h : i = e
  · subst h
    by_cases hl : i < xs.length
    · rw [set_here hl, if_pos ⟨rfl, hl⟩]; rfl
    · rw [if_neg (fun hc => hl hc.2), List.getElem?_eq_none (by simp; omega), List.getElem?_eq_none (by omega)]
  · rw [set_keep h, if_neg (fun hc => h hc.1)]

theorem foldl_in {α : Type} {f : List Int → α → List Int} (l : List α) (hf : ∀ xs a, a ∈ l → allIn xs → allIn (f xs a)) : ∀ xs, allIn xs → allIn (l.foldl f xs) := by
  induction l with
  | nil => intro xs h; exact h
  | cons a l ih => intro xs h; exact ih (fun xs b hb => hf xs b (by simp [hb])) _ (hf xs a (by simp) h)

theorem rowsD {T : List (List Int)} {k : Nat} (h : k < T.length) : T[k]? = some (T.getD k []) := by
  rw [List.getD_eq_getElem?_getD, List.getElem?_eq_getElem h]; rfl

theorem liveB_some {g : GEventGraph} (h : liveB g g.Events.toNat = true) : ∃ o, fire (eP g.Places) g.Events.toNat g.Events.toNat [] = some o := by
  unfold liveB at h
  exact Option.isSome_iff_exists.1 h

theorem startsB_len {g : GEventGraph} {xs : List Int} (h : startsB g xs = true) : xs.length = g.Events.toNat ∧ allIn xs := by
  unfold startsB at h
  simp only [Bool.and_eq_true, beq_iff_eq, List.all_eq_true, inB_true] at h
  exact ⟨by omega, allIn_of h.2⟩

/-! ### When delays are settled -/
def zB (xs : List Int) : Bool := xs.all fun x => inB x 0 0

theorem sum_pos {xs : List Int} (h : ∀ x, x ∈ xs → 0 ≤ x ∧ x ≤ 1000000) : 0 ≤ xs.sum ∧ xs.sum ≤ 1000000 * (xs.length : Int) ∧ decide (0 < xs.sum) = !zB xs := by
  induction xs with
  | nil => exact ⟨by simp, by simp, rfl⟩
  | cons x xs ih =>
    obtain ⟨h1, h2, h3⟩ := ih (fun y hy => h y (by simp [hy]))
    have hx := h x (by simp)
    rw [List.sum_cons]
    refine ⟨by omega, by simp only [List.length_cons]; omega, ?_⟩
    have e : zB (x :: xs) = (inB x 0 0 && zB xs) := rfl
    rw [e]
    by_cases h0 : x = 0
    · subst h0
      rw [show inB 0 0 0 = true from rfl, Bool.true_and, ← h3]; simp
    · rw [inB_false (show ¬ ((0 : Int) ≤ x ∧ x ≤ 0) by omega), Bool.false_and]
      exact decide_eq_true (by omega)

/-- behind the last row that is not zero -/
def lsz (T : List (List Int)) : Nat → Nat
  | 0 => 0
  | k + 1 => if zB (T.getD k []) = true then lsz T k else k + 1

theorem lsz_le (T : List (List Int)) : ∀ k, lsz T k ≤ k
  | 0 => Nat.le_refl _
  | k + 1 => by
    unfold lsz
    split
    · have := lsz_le T k; omega
    · exact Nat.le_refl _

/-! ### How far a delay spreads -/
theorem sum_nn {xs : List Int} (h : allIn xs) : 0 ≤ xs.sum := (sum_pos (allIn_mem h)).1

theorem sum_ge1 : ∀ {xs : List Int} (_ : ∀ x, x ∈ xs → 0 ≤ x) (i : Nat), xs.getD i 0 ≤ xs.sum
  | [], _, i => by simp
  | x :: xs, h, 0 => by
    have h0 : ∀ {ys : List Int}, (∀ y, y ∈ ys → 0 ≤ y) → 0 ≤ ys.sum := fun {ys} hy => by
      induction ys with
      | nil => simp
      | cons y ys ih => rw [List.sum_cons]; have := hy y (by simp); have := ih fun z hz => hy z (by simp [hz]); omega
    have := h0 (ys := xs) fun y hy => h y (by simp [hy])
    rw [List.sum_cons]; simp only [List.getD_cons_zero]; omega
  | x :: xs, h, i + 1 => by
    have := sum_ge1 (xs := xs) (fun y hy => h y (by simp [hy])) i
    have := h x (by simp)
    rw [List.sum_cons]; simp only [List.getD_cons_succ]; omega

theorem sum_ge2 : ∀ {xs : List Int} (_ : ∀ x, x ∈ xs → 0 ≤ x) {i j : Nat} (_ : i < j), xs.getD i 0 + xs.getD j 0 ≤ xs.sum
  | [], _, i, j, _ => by simp
  | x :: xs, h, 0, 0, hj => by omega
  | x :: xs, h, 0, j + 1, _ => by
    have := sum_ge1 (xs := xs) (fun y hy => h y (by simp [hy])) j
    rw [List.sum_cons]; simp only [List.getD_cons_zero, List.getD_cons_succ]; omega
  | x :: xs, h, i + 1, 0, hj => by omega
  | x :: xs, h, i + 1, j + 1, hj => by
    have := sum_ge2 (xs := xs) (fun y hy => h y (by simp [hy])) (show i < j by omega)
    have := h x (by simp)
    rw [List.sum_cons]; simp only [List.getD_cons_succ]; omega

theorem sum_rep : ∀ n : Nat, (List.replicate n (0 : Int)).sum = 0
  | 0 => rfl
  | n + 1 => by rw [List.replicate_succ, List.sum_cons, sum_rep n]; rfl

theorem sum_set : ∀ (n e : Nat) (x : Int), e < n → ((List.replicate n (0 : Int)).set e x).sum = x
  | 0, _, _, h => by omega
  | n + 1, 0, x, _ => by rw [List.replicate_succ, List.set_cons_zero, List.sum_cons, sum_rep n]; omega
  | n + 1, e + 1, x, h => by rw [List.replicate_succ, List.set_cons_succ, List.sum_cons, sum_set n e x (by omega)]; omega

theorem foldl_ge {α : Type} {f : List Int → α → List Int} (hf : ∀ xs a q, xs.getD q 0 ≤ (f xs a).getD q 0) : ∀ (l : List α) (xs : List Int) (q : Nat), xs.getD q 0 ≤ (l.foldl f xs).getD q 0
  | [], _, _ => Int.le_refl _
  | a :: l, xs, q => by
    have h1 := hf xs a q
    have h2 := foldl_ge hf l (f xs a) q
    rw [List.foldl_cons]; omega

theorem foldl_P {α : Type} {P : List Int → Prop} {f : List Int → α → List Int} : ∀ (l : List α) (_ : ∀ ys b, b ∈ l → P ys → P (f ys b)) (xs : List Int), P xs → P (l.foldl f xs)
  | [], _, _, h => h
  | a :: l, hf, xs, h => foldl_P l (fun ys b hb => hf ys b (by simp [hb])) _ (hf xs a (by simp) h)

theorem foldl_hit {α : Type} {f : List Int → α → List Int} {l : List α} {a : α} {v : Nat} {P : List Int → Prop} (hm : a ∈ l) (hP : ∀ ys b, b ∈ l → P ys → P (f ys b)) (hge : ∀ ys b q, ys.getD q 0 ≤ (f ys b).getD q 0) (hh : ∀ ys, P ys → 1 ≤ (f ys a).getD v 0) (xs : List Int) (hx : P xs) : 1 ≤ (l.foldl f xs).getD v 0 := by
  obtain ⟨s, r, rfl⟩ := List.append_of_mem hm
  rw [List.foldl_append, List.foldl_cons]
  have h1 := foldl_P s (fun ys b hb => hP ys b (by simp [hb])) xs hx
  have h2 := hh _ h1
  have h3 := foldl_ge hge r (f (s.foldl f xs) a) v
  omega

/-- what holds of a row while its round goes on -/
def Spr (pre : List (List Int)) (n e0 : Nat) (N : Int) (ys : List Int) : Prop := allIn ys ∧ ys.length = n ∧ N + 1 ≤ ((pre ++ [ys]).getD 0 []).getD e0 0

theorem Spr.of {pre : List (List Int)} {n e0 : Nat} {N : Int} {ys zs : List Int} (h : Spr pre n e0 N ys) (h1 : allIn zs) (h2 : zs.length = ys.length) (h3 : ∀ q, ys.getD q 0 ≤ zs.getD q 0) : Spr pre n e0 N zs := by
  obtain ⟨a, b, c⟩ := h
  refine ⟨h1, by omega, ?_⟩
  cases pre with
  | nil => have := h3 e0; simp only [List.nil_append, List.getD_cons_zero] at c ⊢; omega
  | cons r pre => exact c

theorem zeros_in (g : GEventGraph) : allIn (zeros g) := by
  intro q
  unfold zeros
  rw [List.getD_eq_getElem?_getD, List.getElem?_replicate]
  split <;> simp

/-- nothing moves -/
theorem foldl_fix {α : Type} {f : List Int → α → List Int} {xs : List Int} : ∀ (l : List α) (_ : ∀ a, a ∈ l → f xs a = xs), l.foldl f xs = xs
  | [], _ => rfl
  | a :: l, h => by rw [List.foldl_cons, h a (by simp)]; exact foldl_fix l fun b hb => h b (by simp [hb])

def Calm (e0 : Nat) (N : Int) (ys : List Int) : Prop := ∀ i, 0 ≤ ys.getD i 0 ∧ ys.getD i 0 ≤ if i = e0 then N else 0

theorem calm_zeros (g : GEventGraph) {e0 : Nat} {N : Int} (hN : 0 ≤ N) : Calm e0 N (zeros g) := by
  intro i
  have : (zeros g).getD i 0 = 0 := by
    unfold zeros
    rw [List.getD_eq_getElem?_getD, List.getElem?_replicate]
    split <;> rfl
  rw [this]
  split <;> omega

/-! ### The greatest delays -/
def wmax (xs q : List Int) : List Int := (List.range xs.length).map fun i => max (xs.getD i 0) (q.getD i 0)

theorem wmax_len (xs q : List Int) : (wmax xs q).length = xs.length := by unfold wmax; simp

theorem wmax_of {r a b : List Int} (hl : r.length = a.length) (h : ∀ q, q < a.length → r[q]? = some (max (a.getD q 0) (b.getD q 0))) : r = wmax a b := by
  apply List.ext_getElem?; intro q
  by_cases hq : q < a.length
  · rw [h q hq]; unfold wmax; rw [List.getElem?_map, List.getElem?_range hq]; rfl
  · rw [List.getElem?_eq_none (by omega), List.getElem?_eq_none (by rw [wmax_len]; omega)]

theorem wfold_len (T : List (List Int)) (xs : List Int) : (T.foldl wmax xs).length = xs.length := foldl_len wmax_len T xs

theorem foldl_takeR {S : Type} {f : S → List Int → S} {T : List (List Int)} {s : S} {k : Nat} (hk : k < T.length) : (T.take (k + 1)).foldl f s = f ((T.take k).foldl f s) (T.getD k []) := by
  have : T[k]? = some (T.getD k []) := by rw [List.getD_eq_getElem?_getD, List.getElem?_eq_getElem hk]; rfl
  rw [List.take_add_one, this, List.foldl_append]; rfl

/-! ### Tables by blocks -/
theorem mapR_at {n j : Nat} {g : Nat → Int} (h : j < n) : ((List.range n).map g)[j]? = some (g j) := by
  rw [List.getElem?_map, List.getElem?_range h]; rfl

theorem mapR_upd {n j : Nat} {g : Nat → Int} {x : Int} (h : j < n) : upd ((List.range n).map g) (j : Int) x = some (((List.range n).map g).set j x) := upd_nat _ (by simpa using h)

theorem tabM_upd {m n i j : Nat} {f : Nat → Nat → Int} {x : Int} (hi : i < m) : upd (tabM m n f) (i : Int) (((List.range n).map fun b => f i b).set j x) = some (tabM m n fun a b => if a = i ∧ b = j then x else f a b) := by
  rw [upd_nat _ (by rw [tabM_len]; exact hi)]
  refine congrArg some (tabM_of (by rw [List.length_set, tabM_len]) fun a ha => ?_)
  by_cases e : a = i
  · subst e
    rw [set_here (by rw [tabM_len]; exact ha)]
    refine congrArg some (row_of (by simp) fun b hb => ?_)
    by_cases e : b = j
    · subst e; rw [set_here (by simpa using hb)]; simp
    · rw [set_keep e, mapR_at hb]; simp [e]
  · rw [set_keep e, tabM_row ha]
    refine congrArg some (List.map_congr_left fun b _ => ?_)
    simp [e]

def ent (A : List (List Int)) (i j : Nat) : Int := (A.getD i []).getD j 0

theorem ent_row {A : List (List Int)} {i : Nat} (h : i < A.length) : A[i]? = some (A.getD i []) := by
  rw [List.getD_eq_getElem?_getD, List.getElem?_eq_getElem h]; rfl

theorem ent_len {A : List (List Int)} {n i : Nat} (hr : ∀ row, row ∈ A → row.length = n) (h : i < A.length) : (A.getD i []).length = n := hr _ (List.mem_of_getElem? (ent_row h))

/-- a part of a row is filled -/
theorem fillRow {F M N r c len : Nat} {g : Nat → Int} {f : Nat → Nat → Int} {L : Nat → List (List Int) → Int → Option (List (List Int))}
    (hL : ∀ m k (f' : Nat → Nat → Int), k < len → L (m + 1) (tabM M N f') (k : Int) = L m (tabM M N fun a b => if a = r ∧ b = c + k then g k else f' a b) ((k + 1 : Nat) : Int))
    (hE : ∀ m ms, L (m + 1) ms (len : Int) = some ms) (hn : len < F) : L F (tabM M N f) 0 = some (tabM M N fun a b => if a = r ∧ c ≤ b ∧ b < c + len then g (b - c) else f a b) := by
  refine for0 (L := L) (len := len) (fun k s => s = tabM M N fun a b => if a = r ∧ c ≤ b ∧ b < c + k then g (b - c) else f a b) (R := fun o => o = some (tabM M N fun a b => if a = r ∧ c ≤ b ∧ b < c + len then g (b - c) else f a b)) ?_ ?_ ?_ hn
  · rintro m k s hk rfl
    refine .inl ⟨_, hL m k _ hk, tabM_congr fun a b _ _ => ?_⟩
    by_cases ha : a = r
    · by_cases hb : b = c + k
      · subst hb; simp [ha]
      · by_cases h1 : c ≤ b ∧ b < c + k
        · rw [if_neg (by omega), if_pos ⟨ha, h1⟩, if_pos (by omega)]
        · rw [if_neg (by omega), if_neg (by omega), if_neg (by omega)]
    · simp [ha]
  · rintro m s rfl
    exact hE m _
  · refine tabM_congr fun a b _ _ => ?_
    rw [if_neg (by omega)]

/-- rows are filled one by one -/
theorem fillRows {F M N r len : Nat} {P : Nat → Prop} [DecidablePred P] {G : Nat → Nat → Int} {f : Nat → Nat → Int} {L : Nat → List (List Int) → Int → Option (List (List Int))}
    (hL : ∀ m i (f' : Nat → Nat → Int), i < len → L (m + 1) (tabM M N f') (i : Int) = L m (tabM M N fun a b => if a = r + i ∧ P b then G i b else f' a b) ((i + 1 : Nat) : Int))
    (hE : ∀ m ms, L (m + 1) ms (len : Int) = some ms) (hn : len < F) : L F (tabM M N f) 0 = some (tabM M N fun a b => if (r ≤ a ∧ a < r + len) ∧ P b then G (a - r) b else f a b) := by
  refine for0 (L := L) (len := len) (fun k s => s = tabM M N fun a b => if (r ≤ a ∧ a < r + k) ∧ P b then G (a - r) b else f a b) (R := fun o => o = some (tabM M N fun a b => if (r ≤ a ∧ a < r + len) ∧ P b then G (a - r) b else f a b)) ?_ ?_ ?_ hn
  · rintro m k s hk rfl
    refine .inl ⟨_, hL m k _ hk, tabM_congr fun a b _ _ => ?_⟩
    by_cases hb : P b
    · simp only [hb, and_true]
      by_cases ha : a = r + k
      · subst ha; rw [if_pos rfl, if_pos (by omega), Nat.add_sub_cancel_left]
      · by_cases h1 : r ≤ a ∧ a < r + k
        · rw [if_neg ha, if_pos h1, if_pos (by omega)]
        · rw [if_neg ha, if_neg h1, if_neg (by omega)]
    · simp [hb]
  · rintro m s rfl
    exact hE m _
  · refine tabM_congr fun a b _ _ => ?_
    rw [if_neg (by omega)]

def blk (A B C : List (List Int)) (i j : Nat) : Int :=
  if i < A.length then (if j < A.length then ent A i j else -1000000000000000) else if j < A.length then ent C (i - A.length) j else ent B (i - A.length) (j - A.length)


theorem flat_sz {a : List (List Int)} (hr : ∀ r, r ∈ a → r.length ≤ 1000) : ∀ k, k ≤ a.length → (a.take k).flatten.length ≤ k * 1000
  | 0, _ => by simp
  | k + 1, h => by
    have hx : a[k]? = some a[k] := List.getElem?_eq_getElem (by omega)
    have := flat_sz hr k (by omega)
    have h2 := hr _ (List.getElem_mem (show k < a.length by omega))
    rw [List.take_add_one, hx, List.flatten_append, List.length_append]
    simp only [Option.toList_some, List.flatten_cons, List.flatten_nil, List.append_nil]
    omega

/-! ### The best word -/
def stepw (ms : List (List (List Int))) (m : Nat) (x : List Int) : Option (List Int) := bif (applyv (ms.getD m []) x).all valB then some (applyv (ms.getD m []) x) else none

def runw (ms : List (List (List Int))) : List Nat → List Int → Option (List Int)
  | [], x => some x
  | m :: w, x => (stepw ms m x).bind (runw ms w)

def iw (w : List Nat) : List Int := List.map (fun m : Nat => (m : Int)) w

def hgt (xs : List Int) : Int := (List.range xs.length).foldl (fun s k => max s (xs.getD k 0)) (-1000000000000000)

def updB (most : Bool) (s : List Int × Int × Bool) (w : List Int) (h : Int) : List Int × Int × Bool := bif (!s.2.2 || (bif most then decide (s.2.1 < h) else decide (h < s.2.1))) then (w, h, true) else s

def gfold (ms : List (List (List Int))) (most : Bool) (pre : List Nat) (x : List Int) : List (List Nat) → List Int × Int × Bool → Option (List Int × Int × Bool)
  | [], s => some s
  | w :: ws, s => (runw ms w x).bind fun y => gfold ms most pre x ws (updB most s (iw (pre ++ w)) (hgt y))

def wf (M : Nat) : Nat → List (List Nat)
  | 0 => [[]]
  | l + 1 => (List.range M).flatMap fun m => (wf M l).map (List.cons m)

def snocs (M : Nat) (w : List Nat) : List (List Nat) := (List.range M).map fun m => w ++ [m]

theorem gfold_append {ms : List (List (List Int))} {most : Bool} {pre : List Nat} {x : List Int} : ∀ (a b : List (List Nat)) (s : List Int × Int × Bool), gfold ms most pre x (a ++ b) s = (gfold ms most pre x a s).bind (gfold ms most pre x b)
  | [], b, s => rfl
  | w :: a, b, s => by
    rw [List.cons_append]
    simp only [gfold]
    cases runw ms w x with
    | none => rfl
    | some y => simp only [Option.bind_some]; exact gfold_append a b _

theorem gfold_cons {ms : List (List (List Int))} {most : Bool} {pre : List Nat} {x y : List Int} {m : Nat} (h : stepw ms m x = some y) : ∀ (a : List (List Nat)) (s : List Int × Int × Bool), gfold ms most pre x (a.map (List.cons m)) s = gfold ms most (pre ++ [m]) y a s
  | [], s => rfl
  | w :: a, s => by
    rw [List.map_cons]
    simp only [gfold, runw, h, Option.bind_some, List.append_assoc, List.singleton_append]
    cases runw ms w y with
    | none => rfl
    | some z => simp only [Option.bind_some]; exact gfold_cons h a _

theorem wf_ne {M : Nat} (h : 1 ≤ M) : ∀ l, wf M l ≠ []
  | 0 => by simp [wf]
  | l + 1 => by
    obtain ⟨w, ws, e⟩ := List.exists_cons_of_ne_nil (wf_ne h l)
    intro h0
    simp only [wf, List.flatMap_eq_nil_iff, List.mem_range] at h0
    have := h0 0 (by omega)
    rw [e] at this; simp at this

theorem wf_snoc {M : Nat} : ∀ l, (wf M l).flatMap (snocs M) = wf M (l + 1)
  | 0 => by
    simp only [wf, List.flatMap_cons, List.flatMap_nil, List.append_nil, List.map_cons, List.map_nil, snocs, List.nil_append]
    rw [flatMap_one]
  | l + 1 => by
    have ih := wf_snoc (M := M) l
    have e1 : wf M (l + 1) = (List.range M).flatMap fun m => (wf M l).map (List.cons m) := rfl
    calc (wf M (l + 1)).flatMap (snocs M) = ((List.range M).flatMap fun m => (wf M l).map (List.cons m)).flatMap (snocs M) := by rw [← e1]
      _ = (List.range M).flatMap fun m => ((wf M l).flatMap (snocs M)).map (List.cons m) := by
        rw [List.flatMap_assoc]
        congr 1; funext m
        rw [List.flatMap_map, List.map_flatMap]
        congr 1; funext w
        simp [snocs]
      _ = wf M (l + 1 + 1) := by rw [ih]; rfl

theorem wf_len {M : Nat} (hM : M ≤ 4) : ∀ l, (wf M l).length ≤ 4 ^ l
  | 0 => by simp [wf]
  | l + 1 => by
    have ih := wf_len hM l
    have e : ∀ ks : List Nat, (ks.flatMap fun m => (wf M l).map (List.cons m)).length = ks.length * (wf M l).length := by
      intro ks
      induction ks with
      | nil => simp
      | cons k ks ih => rw [List.flatMap_cons, List.length_append, ih, List.length_map, List.length_cons, Nat.add_mul]; omega
    show ((List.range M).flatMap fun m => (wf M l).map (List.cons m)).length ≤ 4 ^ (l + 1)
    rw [e, List.length_range, Nat.pow_succ, Nat.mul_comm]
    exact Nat.mul_le_mul ih hM

theorem wf_mem {M : Nat} : ∀ l w, w ∈ wf M l → w.length = l ∧ ∀ m, m ∈ w → m < M
  | 0, w, h => by
    simp only [wf, List.mem_singleton] at h
    subst h; simp
  | l + 1, w, h => by
    simp only [wf, List.mem_flatMap, List.mem_range, List.mem_map] at h
    obtain ⟨m, hm, v, hv, rfl⟩ := h
    obtain ⟨h1, h2⟩ := wf_mem l v hv
    refine ⟨by rw [List.length_cons, h1], fun k hk => ?_⟩
    rcases List.mem_cons.1 hk with rfl | hk
    · exact hm
    · exact h2 k hk

theorem hg_bd {xs : List Int} (h : xs.all valB = true) : -1000000000000000 ≤ hgt xs ∧ hgt xs ≤ 1000000000000000 := by
  have hk : ∀ k, -1000000000000000 ≤ xs.getD k 0 ∧ xs.getD k 0 ≤ 1000000000000000 := by
    intro k
    by_cases hk : k < xs.length
    · have := List.all_eq_true.1 h _ (List.mem_of_getElem? (getD_of hk))
      unfold valB at this
      rw [Bool.or_eq_true, beq_iff_eq, inB_true] at this
      omega
    · rw [List.getD_eq_getElem?_getD, List.getElem?_eq_none (by omega)]; simp
  have H : ∀ (ks : List Nat) (s : Int), (-1000000000000000 ≤ s ∧ s ≤ 1000000000000000) → -1000000000000000 ≤ ks.foldl (fun s k => max s (xs.getD k 0)) s ∧ ks.foldl (fun s k => max s (xs.getD k 0)) s ≤ 1000000000000000 := by
    intro ks
    induction ks with
    | nil => intro s hs; exact hs
    | cons k ks ih =>
      intro s hs
      have := hk k
      exact ih (max s (xs.getD k 0)) (by omega)
  exact H _ _ (by omega)

structure MsOk (ms : List (List (List Int))) (n : Nat) : Prop where
  n1 : 1 ≤ n
  n10 : n ≤ 10
  m1 : 1 ≤ ms.length
  m4 : ms.length ≤ 4
  sq : ∀ m, m ∈ ms → m.length = n ∧ ∀ row, row ∈ m → row.length = n

theorem MsOk.at' {ms : List (List (List Int))} {n m : Nat} (h : MsOk ms n) (hm : m < ms.length) : ms[m]? = some (ms.getD m []) ∧ (ms.getD m []).length = n ∧ ∀ row, row ∈ ms.getD m [] → row.length = n := by
  have e : ms[m]? = some (ms.getD m []) := by rw [List.getD_eq_getElem?_getD, List.getElem?_eq_getElem hm]; rfl
  exact ⟨e, h.sq _ (List.mem_of_getElem? e)⟩

theorem MsOk.aplen {ms : List (List (List Int))} {n m : Nat} (h : MsOk ms n) (hm : m < ms.length) (x : List Int) : (applyv (ms.getD m []) x).length = n := by
  unfold applyv; rw [List.length_map]; exact (h.at' hm).2.1

theorem stepw_some {ms : List (List (List Int))} {n m : Nat} {x y : List Int} (h : MsOk ms n) (hm : m < ms.length) (hs : stepw ms m x = some y) : y.length = n ∧ y.all valB = true := by
  unfold stepw at hs
  cases hv : (applyv (ms.getD m []) x).all valB with
  | false => rw [hv] at hs; cases hs
  | true => rw [hv] at hs; cases hs; exact ⟨h.aplen hm x, hv⟩

theorem runw_some {ms : List (List (List Int))} {n : Nat} (h : MsOk ms n) : ∀ {w : List Nat} {x y : List Int}, (∀ m, m ∈ w → m < ms.length) → x.length = n → x.all valB = true → runw ms w x = some y → y.length = n ∧ y.all valB = true
  | [], x, y, _, hx, hv, hr => by cases hr; exact ⟨hx, hv⟩
  | m :: w, x, y, hw, _, _, hr => by
    unfold runw at hr
    cases hs : stepw ms m x with
    | none => rw [hs] at hr; cases hr
    | some z =>
      rw [hs, Option.bind_some] at hr
      obtain ⟨h1, h2⟩ := stepw_some h (hw m (by simp)) hs
      exact runw_some h (fun k hk => hw k (List.mem_cons_of_mem _ hk)) h1 h2 hr

theorem updB_bd {most : Bool} {s : List Int × Int × Bool} {w : List Int} {h : Int} (hs : -1000000000000000 ≤ s.2.1 ∧ s.2.1 ≤ 1000000000000000) (hh : -1000000000000000 ≤ h ∧ h ≤ 1000000000000000) : -1000000000000000 ≤ (updB most s w h).2.1 ∧ (updB most s w h).2.1 ≤ 1000000000000000 := by
  unfold updB
  cases (!s.2.2 || (bif most then decide (s.2.1 < h) else decide (h < s.2.1)))
  · exact hs
  · exact hh

def signOk (sg : Int) (most : Bool) : Prop := (sg = 1 ∧ most = true) ∨ (sg = -1 ∧ most = false)

theorem sign_is {sg a b : Int} {most : Bool} (h : signOk sg most) (ha : -1000000000000000 ≤ a ∧ a ≤ 1000000000000000) (hb : -1000000000000000 ≤ b ∧ b ≤ 1000000000000000) : decide (IntKind.i64.wrap (sg * a) < IntKind.i64.wrap (sg * b)) = bif most then decide (a < b) else decide (b < a) := by
  rcases h with ⟨rfl, rfl⟩ | ⟨rfl, rfl⟩
  · rw [wr (by omega) (by omega), wr (by omega) (by omega), Int.one_mul, Int.one_mul]; rfl
  · rw [wr (by omega) (by omega), wr (by omega) (by omega)]
    simp only [cond_false]
    by_cases hc : b < a
    · rw [dT hc, dT (by omega)]
    · rw [dF hc, dF (by omega)]

theorem iw_snoc (w : List Nat) (m : Nat) : iw (w ++ [m]) = iw w ++ [(m : Int)] := by simp [iw]

theorem gfold_pre {ms : List (List (List Int))} {most : Bool} {pre : List Nat} {x : List Int} {g : Nat → List (List Nat)} {s : List Int × Int × Bool} {k : Nat} : ∀ d, gfold ms most pre x ((List.range k).flatMap g) s = none → gfold ms most pre x ((List.range (k + d)).flatMap g) s = none
  | 0, h => h
  | d + 1, h => by
    rw [← Nat.add_assoc, List.range_succ, List.flatMap_append, gfold_append, gfold_pre d h]; rfl

def sw : Option (List Int) → Sum (List Int × Int) (List Int)
  | none => .inl ([], 3)
  | some l => .inr l

/-! ### Draws -/
structure COk (code : List Int) : Prop where
  len : code.length ≤ 4096
  byte : ∀ x, x ∈ code → 0 ≤ x ∧ x ≤ 255

structure SOk (code : List Int) (p s : Int) : Prop where
  p0 : 0 ≤ p
  p1 : p ≤ (code.length : Int)
  s0 : 0 ≤ s
  s1 : s < 2147483647

theorem next_tot {F : Nat} {code : List Int} {p s n : Int} (hc : COk code) (hs : SOk code p s) : Tot (fun r : Int × Int × Int => SOk code r.2.1 r.2.2 ∧ 0 ≤ r.1 ∧ (r.1 < n ∨ r.1 = 0)) (spec_l01Next F code p s n) := by
  obtain ⟨p0, p1, s0, s1⟩ := hs
  have hcl := hc.len
  unfold spec_l01Next
  refine Tot.cond (fun _ => Tot.pure ⟨⟨p0, p1, s0, s1⟩, Int.le_refl _, .inr rfl⟩) (fun h1 => ?_)
  have hn : ¬ n ≤ 1 := of_decide_eq_false h1
  have w1 : IntKind.i64.wrap (s * 48271) = s * 48271 := wr (by omega) (by omega)
  have w2 : IntKind.i64.wrap (s * 48271 + 59) = s * 48271 + 59 := wr (by omega) (by omega)
  have w3 : (s * 48271 + 59).tmod 2147483647 = (s * 48271 + 59) % 2147483647 := Int.tmod_eq_emod_of_nonneg (by omega)
  rw [w1, w2, w3]
  obtain ⟨u, hu⟩ : ∃ u, u = (s * 48271 + 59) % 2147483647 := ⟨_, rfl⟩
  rw [← hu]
  have u0 : 0 ≤ u := by omega
  have u1 : u < 2147483647 := by omega
  have w4 : u.tdiv 31 = u / 31 := Int.tdiv_eq_ediv_of_nonneg u0
  rw [w4, wr (show -9223372036854775808 ≤ u / 31 by omega) (by omega)]
  refine Tot.bind (P := fun r : Int × Int => 0 ≤ r.1 ∧ r.1 ≤ (code.length : Int) ∧ 0 ≤ r.2) (Tot.cond (fun hp => ?_) (fun _ => Tot.pure ⟨p0, p1, by simp only; omega⟩)) ?_
  · have hp : p < (code.length : Int) := of_decide_eq_true hp
    have w5 : IntKind.i64.wrap (p + 1) = p + 1 := wr (by omega) (by omega)
    have w6 : IntKind.i64.wrap (p + 1 - 1) = p := by rw [wr (by omega) (by omega)]; omega
    refine Tot.bind (idx_tot p0 hp) fun q hq => ?_
    have hq2 := hc.byte q hq
    have w7 : IntKind.i64.wrap q = q := wr (by omega) (by omega)
    rw [w5, w6, w7, wr (show -9223372036854775808 ≤ u / 31 + q by omega) (by omega)]
    refine Tot.bind (P := fun _ => True) (Tot.cond (fun _ => Tot.pure trivial) fun _ => Tot.pure trivial) fun b _ => ?_
    refine Tot.cond (fun _ => Tot.bind (idx_tot p0 hp) fun q2 hq2 => ?_) (fun _ => Tot.pure ⟨by simp only; omega, by simp only; omega, by simp only; omega⟩)
    have hq3 := hc.byte q2 hq2
    exact Tot.pure ⟨by simp only; omega, by simp only; omega, by simp only; rw [wr (by omega) (by omega)]; omega⟩
  · rintro ⟨p', x⟩ ⟨h1, h2, h3⟩
    simp only at h1 h2 h3 ⊢
    rw [if_neg (show ¬ n = 0 by omega)]
    refine ⟨(x.tmod n, p', u), rfl, ⟨h1, h2, u0, u1⟩, Int.tmod_nonneg n h3, .inl (Int.tmod_lt_of_pos x (by omega))⟩

theorem pick_tot {F : Nat} {code list : List Int} {p s : Int} (hc : COk code) (hs : SOk code p s) (hl : 0 < list.length) : Tot (fun r : Int × Int × Int => SOk code r.2.1 r.2.2 ∧ r.1 ∈ list) (spec_l01Pick F code p s list) := by
  unfold spec_l01Pick
  refine Tot.bind (next_tot hc hs) fun r hr => Tot.bind (idx_tot hr.2.1 (by omega)) fun q hq => Tot.pure ⟨hr.1, hq⟩

theorem from_tot {F : Nat} {code : List Int} (hF : 134217728 ≤ F) (hc : COk code) : Tot (fun r : Int × Int => SOk code r.1 r.2) (spec_l01From F code) := by
  have hcl := hc.len
  unfold spec_l01From
  refine Tot.bind (P := fun s : Int => 0 ≤ s ∧ s < 2147483647) ?_ fun s hs => Tot.pure ⟨Int.le_refl _, by simp only; omega, hs.1, hs.2⟩
  refine for0 (L := spec_l01From_L1 F code) (len := min code.length 64) (fun _ s => 0 ≤ s ∧ s < 2147483647) (R := Tot fun s => 0 ≤ s ∧ s < 2147483647) ?_ ?_ (by omega) (by omega)
  · rintro n k s hk ⟨s0, s1⟩
    have hx : code[k]? = some (code[k]'(by omega)) := List.getElem?_eq_getElem _
    have hb := hc.byte _ (List.getElem_mem (show k < code.length by omega))
    generalize code[k]'(by omega) = q at hx hb
    have w1 : IntKind.i64.wrap (s * 67) = s * 67 := wr (by omega) (by omega)
    have w2 : IntKind.i64.wrap q = q := wr (by omega) (by omega)
    have w3 : IntKind.i64.wrap (s * 67 + q) = s * 67 + q := wr (by omega) (by omega)
    have w4 : (s * 67 + q).tmod 2147483647 = (s * 67 + q) % 2147483647 := Int.tmod_eq_emod_of_nonneg (by omega)
    refine .inl ⟨(s * 67 + q) % 2147483647, ?_, by omega⟩
    simp only [spec_l01From_L1, bdT (show (k : Int) < (code.length : Int) by omega), dT (show (k : Int) < 64 by omega), Option.bind_some, cond_true, idx_nat, hx, w1, w2, w3, w4, wrN (show k ≤ 67108864 by omega)]
  · rintro n s hs
    by_cases h : code.length < 64
    · have e : min code.length 64 = code.length := by omega
      simp only [spec_l01From_L1, e, bdF (show ¬ (code.length : Int) < (code.length : Int) by omega), Option.bind_some, cond_false]
      exact Tot.pure hs
    · have e : min code.length 64 = 64 := by omega
      rw [e]
      refine ⟨s, ?_, hs⟩
      by_cases h2 : 64 < code.length
      · simp only [spec_l01From_L1, bdT (show ((64 : Nat) : Int) < (code.length : Int) by omega), dF (show ¬ ((64 : Nat) : Int) < 64 by omega), Option.bind_some, cond_false]
      · simp only [spec_l01From_L1, bdF (show ¬ ((64 : Nat) : Int) < (code.length : Int) by omega), Option.bind_some, cond_false]

theorem l11L1_tot {F : Nat} {code : List Int} {r2 : Int × Int × Int} (hc : COk code) : ∀ (n f : Nat) (p s : Int) (xs : List GPlace), n < f → xs.length + n ≤ 1000 → SOk code p s → Tot (fun r : Int × Int × List GPlace => SOk code r.1 r.2.1 ∧ r.2.2.length ≤ xs.length + n) (spec_l11Draw_L1 F code r2 f p s xs (n : Int)) := by
  intro n
  induction n with
  | zero =>
    intro f p s xs hf hx hs
    obtain ⟨f, rfl⟩ : ∃ q, f = q + 1 := ⟨f - 1, by omega⟩
    simp only [spec_l11Draw_L1, bdF (show ¬ 0 < ((0 : Nat) : Int) by omega)]
    exact Tot.pure ⟨hs, Nat.le_refl _⟩
  | succ n ih =>
    intro f p s xs hf hx hs
    obtain ⟨f, rfl⟩ : ∃ q, f = q + 1 := ⟨f - 1, by omega⟩
    simp only [spec_l11Draw_L1, bdT (show 0 < ((n + 1 : Nat) : Int) by omega)]
    refine Tot.bind (P := fun r : Int × Int × Int × Int × Int => SOk code r.1 r.2.1) (Tot.bind (next_tot hc hs) fun r1 h1 => Tot.bind (next_tot hc h1.1) fun r2 h2 => Tot.bind (next_tot hc h2.1) fun r3 h3 => Tot.pure h3.1) ?_
    rintro ⟨p1, s1, v1, v2, v3⟩ h1
    refine Tot.bind (P := fun r : Int × Int × Bool => SOk code r.1 r.2.1) (Tot.cond (fun _ => Tot.pure h1) (fun _ => Tot.bind (next_tot hc h1) fun r h => Tot.pure h.1)) ?_
    rintro ⟨p2, s2, b⟩ h2
    refine Tot.bind (P := fun r : Int × Int × Int => SOk code r.1 r.2.1) (Tot.cond (fun _ => Tot.bind (next_tot hc h2) fun r h => Tot.bind (next_tot hc h.1) fun r h => Tot.pure h.1) (fun _ => Tot.pure h2)) ?_
    rintro ⟨p3, s3, tk⟩ h3
    refine Tot.bind (next_tot hc h3) fun r h4 => ?_
    refine Tot.bind (P := fun _ => True) (Tot.cond (fun _ => Tot.pure trivial) fun _ => Tot.pure trivial) fun tk2 _ => ?_
    refine Tot.bind (app_tot (by simp; omega)) fun ys hys => ?_
    rw [wr (show -9223372036854775808 ≤ ((n + 1 : Nat) : Int) - 1 by omega) (by omega), show ((n + 1 : Nat) : Int) - 1 = (n : Int) by omega]
    have hyl : ys.length = xs.length + 1 := by rw [hys]; simp
    exact (ih f _ _ ys (by omega) (by omega) h4.1).mono fun r hr => ⟨hr.1, by have := hr.2; omega⟩

theorem l11L2_tot {F : Nat} {code : List Int} (hc : COk code) : ∀ (d k f : Nat) (p s : Int) (xs : List GPlace), k + d = 31 → d < f → xs.length + d ≤ 1000 → SOk code p s → Tot (fun r : Int × Int × List GPlace => SOk code r.1 r.2.1 ∧ r.2.2.length ≤ xs.length + d) (spec_l11Draw_L2 F code f p s xs (k : Int)) := by
  intro d
  induction d with
  | zero =>
    intro k f p s xs hk hf hx hs
    obtain ⟨f, rfl⟩ : ∃ q, f = q + 1 := ⟨f - 1, by omega⟩
    simp only [spec_l11Draw_L2]
    refine Tot.bind (next_tot hc hs) fun r h => ?_
    rw [wr (show -9223372036854775808 ≤ 22 + r.1 by omega) (by omega), bdF (by omega)]
    exact Tot.pure ⟨h.1, Nat.le_refl _⟩
  | succ d ih =>
    intro k f p s xs hk hf hx hs
    obtain ⟨f, rfl⟩ : ∃ q, f = q + 1 := ⟨f - 1, by omega⟩
    simp only [spec_l11Draw_L2]
    refine Tot.bind (next_tot hc hs) fun r h => Tot.cond (fun _ => ?_) (fun _ => Tot.pure ⟨h.1, by simp only; omega⟩)
    refine Tot.bind (app_tot (by simp; omega)) fun ys hys => ?_
    rw [wrN (show k ≤ 67108864 by omega)]
    have hyl : ys.length = xs.length + 1 := by rw [hys]; simp
    exact (ih (k + 1) f _ _ ys (by omega) (by omega) (by omega) h.1).mono fun r hr => ⟨hr.1, by have := hr.2; omega⟩

theorem l11Draw_tot {F : Nat} {code : List Int} {p s : Int} (hF : 134217728 ≤ F) (hc : COk code) (hs : SOk code p s) : Tot (fun r : GEventGraph × Int × Int => SOk code r.2.1 r.2.2 ∧ r.1.Places.length ≤ 100 ∧ 0 ≤ r.1.Events ∧ r.1.Events ≤ 11) (spec_l11Draw F code p s) := by
  unfold spec_l11Draw
  refine Tot.bind (next_tot hc hs) fun r1 h1 => Tot.bind (next_tot hc h1.1) fun r2 h2 => ?_
  have hE : IntKind.i64.wrap (1 + r1.1) = 1 + r1.1 := wr (by omega) (by omega)
  rw [hE]
  obtain ⟨m, hm⟩ : ∃ m : Nat, r2.1 = (m : Int) := ⟨r2.1.toNat, by omega⟩
  rw [hm]
  refine Tot.bind (l11L1_tot hc m F _ _ [] (by omega) (by simp; omega) h2.1) ?_
  rintro ⟨p3, s3, xs⟩ ⟨h3, hx⟩
  simp only [List.length_nil] at h3 hx ⊢
  refine Tot.bind (next_tot hc h3) fun r4 h4 => ?_
  refine Tot.cond (fun _ => Tot.bind (pick_tot hc h4.1 (by decide)) fun r5 h5 => Tot.pure ⟨h5.1, by simp only; omega, ?_⟩) fun _ => ?_
  · have := h5.2
    simp only [List.mem_cons, List.not_mem_nil, or_false] at this
    simp only
    omega
  refine Tot.cond (fun _ => ?_) fun _ => ?_
  · refine Tot.bind (P := fun r : Int × Int × List GPlace => SOk code r.1 r.2.1 ∧ r.2.2.length ≤ 60) (Tot.bind (pick_tot hc h4.1 (by simp)) fun r5 h5 => Tot.bind (pick_tot hc h5.1 (by decide)) fun r6 h6 => Tot.bind (app_tot (by simp; omega)) fun ys hys => Tot.pure ⟨h6.1, by simp only [hys, List.length_append, List.length_singleton]; omega⟩) ?_
    rintro ⟨p7, s7, ys⟩ ⟨h7, hy⟩
    exact Tot.pure ⟨h7, by simp only at hy ⊢; omega, by simp only; omega, by simp only; omega⟩
  refine Tot.cond (fun _ => ?_) fun _ => ?_
  · refine Tot.bind (pick_tot hc h4.1 (by decide)) fun r5 h5 => Tot.bind (app_tot (by simp; omega)) fun ys hys => Tot.pure ⟨h5.1, by simp only [hys, List.length_append, List.length_singleton]; omega, by simp only; omega, by simp only; omega⟩
  refine Tot.cond (fun _ => ?_) fun _ => Tot.pure ⟨h4.1, by simp only; omega, by simp only; omega, by simp only; omega⟩
  refine Tot.bind (l11L2_tot hc 31 0 F _ _ xs (by omega) (by omega) (by omega) h4.1) ?_
  rintro ⟨p7, s7, ys⟩ ⟨h7, hy⟩
  exact Tot.pure ⟨h7, by simp only at hy ⊢; omega, by simp only; omega, by simp only; omega⟩

theorem l15Draw_tot {F : Nat} {code : List Int} {p s : Int} (hF : 134217728 ≤ F) (hc : COk code) (hs : SOk code p s) : Tot (fun r : GEventGraph × Int × Int => SOk code r.2.1 r.2.2 ∧ r.1.Places.length ≤ 100 ∧ 0 ≤ r.1.Events ∧ r.1.Events ≤ 11) (spec_l15Draw F code p s) := by
  unfold spec_l15Draw
  refine Tot.bind (l11Draw_tot hF hc hs) fun r h => ?_
  by_cases hp : 20 < (r.1.Places.length : Int)
  · rw [bdT hp, Option.bind_some]
    refine Tot.bind (P := fun ys : List GPlace => ys.length ≤ 100) (Tot.cond (fun _ => Tot.bind (cutTo_tot (by decide) (by omega)) fun ys hy => Tot.pure (by omega)) fun _ => Tot.pure h.2.1) fun ys hy => Tot.pure ⟨h.1, hy, h.2.2⟩
  · rw [bdF hp, Option.bind_some]
    exact Tot.pure ⟨h.1, h.2.1, h.2.2⟩

def FeasS (g : GEventGraph) (r : Int) : Prop := ¬ PosCyc (wT g r) g.Events.toNat

def LeastOkS (g : GEventGraph) (x : Int) : Prop := 0 ≤ x ∧ x ≤ 10000 ∧ FeasS g x ∧ ∀ r, 0 ≤ r → r ≤ 100000 → FeasS g r → x ≤ r


theorem feasS_mono {g : GEventGraph} (h : graphB g = true) {r s : Int} (h0 : 0 ≤ r) (hrs : r ≤ s) (hs : s ≤ 100000) (hf : FeasS g r) : FeasS g s := by
  intro hp
  cases hc : firstC g (fun d m => decide (0 < d - s * m)) 100 with
  | none => exact firstC_none h (by omega) hs (Nat.le_refl _) hp hc
  | some c =>
    have h1 := circ_bound h h0 (by omega) hf hc
    obtain ⟨hok, _, hg, _⟩ := firstC_some hc
    have h2 : 0 < sumD g c - s * sumM g c := of_decide_eq_true hg
    have hb := sums_bd h c hok.lt
    have h3 : r * sumM g c ≤ s * sumM g c := Int.mul_le_mul_of_nonneg_right hrs (by omega)
    omega


/-! ### The equations of the latest times -/
def gE (ms : List (List Int)) (k e : Nat) : Int := (ms.getD k []).getD e 0

theorem getD_set {ms : List (List Int)} {k k' : Nat} {r : List Int} : (ms.set k r).getD k' [] = if k' = k ∧ k < ms.length then r else ms.getD k' [] := by
  rw [List.getD_eq_getElem?_getD, List.getD_eq_getElem?_getD]
  by_cases h : k' = k
  · subst h
    by_cases hl : k' < ms.length
    · rw [List.getElem?_set_self hl, if_pos ⟨rfl, hl⟩]; rfl
    · rw [if_neg (fun hh => hl hh.2), List.getElem?_eq_none (by simp; omega), List.getElem?_eq_none (by omega)]
  · rw [set_keep h, if_neg (fun hh => h hh.1)]

theorem gE_ne {ms : List (List Int)} {k e k' e' : Nat} {x : Int} (h : ¬ (k' = k ∧ e' = e)) : gE (ms.set k ((ms.getD k []).set e x)) k' e' = gE ms k' e' := by
  unfold gE
  rw [getD_set]
  split
  · rename_i h2
    rw [set_getD, if_neg (fun hh => h ⟨h2.1, hh.1⟩), h2.1]
  · rfl

theorem gE_eq {ms : List (List Int)} {k e : Nat} {x : Int} (hk : k < ms.length) (he : e < (ms.getD k []).length) : gE (ms.set k ((ms.getD k []).set e x)) k e = x := by
  unfold gE
  rw [getD_set, if_pos ⟨rfl, hk⟩, set_getD, if_pos ⟨rfl, he⟩]

theorem lstep_ne {g : GEventGraph} {n k e k' e' : Nat} {ms : List (List Int)} (i : Nat) (h : ¬ (k' = k ∧ e' = e)) : gE (lstep g n k e ms i) k' e' = gE ms k' e' := by
  unfold lstep
  cases ((plD g i).From == (e : Int) && decide ((k : Int) + (plD g i).Tokens < (n : Int))) with
  | false => rfl
  | true => simp only [cond_true]; exact gE_ne h

theorem lfold_ne {g : GEventGraph} {n k e k' e' : Nat} (h : ¬ (k' = k ∧ e' = e)) : ∀ (l : List Nat) (ms : List (List Int)), gE (l.foldl (lstep g n k e) ms) k' e' = gE ms k' e'
  | [], _ => rfl
  | i :: l, ms => by rw [List.foldl_cons, lfold_ne h l, lstep_ne i h]

theorem levent_ne {g : GEventGraph} {n k e k' e' : Nat} {ms : List (List Int)} (h : ¬ (k' = k ∧ e' = e)) : gE (levent g n k ms e) k' e' = gE ms k' e' := lfold_ne h _ _

theorem levs_ne {g : GEventGraph} {n k k' e' : Nat} : ∀ (es : List Nat) (ms : List (List Int)), (k' ≠ k ∨ e' ∉ es) → gE (es.foldl (levent g n k) ms) k' e' = gE ms k' e'
  | [], _, _ => rfl
  | e :: es, ms, h => by
    rw [List.foldl_cons, levs_ne es _ (h.imp id fun h2 hh => h2 (by simp [hh])), levent_ne]
    rintro ⟨h1, h2⟩
    rcases h with h | h
    · exact h h1
    · exact h (by simp [h2])

theorem lround_ne {g : GEventGraph} {n k k' e' : Nat} {o : List Nat} {ms : List (List Int)} (h : k' ≠ k) : gE (lround g n o ms k) k' e' = gE ms k' e' := levs_ne _ _ (.inl h)

theorem ldown_ne {g : GEventGraph} {n k' e' : Nat} {o : List Nat} : ∀ (m : Nat) (ms : List (List Int)), m ≤ k' → gE ((List.range m).reverse.foldl (lround g n o) ms) k' e' = gE ms k' e'
  | 0, _, _ => rfl
  | m + 1, ms, h => by
    rw [List.range_succ, List.reverse_append]
    simp only [List.reverse_cons, List.reverse_nil, List.nil_append, List.singleton_append, List.foldl_cons]
    rw [ldown_ne m _ (by omega), lround_ne (by omega)]

/-- the least of what the places behind an event allow -/
def lmin (g : GEventGraph) (n k e : Nat) (v : Nat → Nat → Int) (acc : Int) (i : Nat) : Int :=
  bif (plD g i).From == (e : Int) && decide ((k : Int) + (plD g i).Tokens < (n : Int)) then min acc (IntKind.i64.wrap (v (k + (plD g i).Tokens.toNat) (plD g i).To.toNat - (plD g i).Delay)) else acc

theorem lmin_congr {g : GEventGraph} {n k e : Nat} {v w : Nat → Nat → Int} : ∀ (l : List Nat) (acc : Int), (∀ i, i ∈ l → (plD g i).From = (e : Int) → (k : Int) + (plD g i).Tokens < (n : Int) → v (k + (plD g i).Tokens.toNat) (plD g i).To.toNat = w (k + (plD g i).Tokens.toNat) (plD g i).To.toNat) → l.foldl (lmin g n k e v) acc = l.foldl (lmin g n k e w) acc
  | [], _, _ => rfl
  | i :: l, acc, h => by
    rw [List.foldl_cons, List.foldl_cons]
    have e1 : lmin g n k e v acc i = lmin g n k e w acc i := by
      unfold lmin
      cases hc : ((plD g i).From == (e : Int) && decide ((k : Int) + (plD g i).Tokens < (n : Int))) with
      | false => rfl
      | true =>
        rw [Bool.and_eq_true, beq_iff_eq, decide_eq_true_eq] at hc
        simp only [cond_true]
        rw [h i (by simp) hc.1 hc.2]
    rw [e1]
    exact lmin_congr l _ fun j hj => h j (by simp [hj])

theorem levent_val {g : GEventGraph} {n k e : Nat} {ms : List (List Int)} (h : LOk g n ms) (hk : k < n) (he : e < g.Events.toNat) (hself : ∀ i, i < g.Places.length → (plD g i).From = (e : Int) → (plD g i).Tokens.toNat = 0 → (plD g i).To.toNat ≠ e) :
    ∀ m, m ≤ g.Places.length → gE ((List.range m).foldl (lstep g n k e) ms) k e = (List.range m).foldl (lmin g n k e (gE ms)) (gE ms k e) := by
  intro m
  induction m with
  | zero => intro _; rfl
  | succ m ih =>
    intro hm
    rw [List.range_succ, List.foldl_append, List.foldl_append, List.foldl_cons, List.foldl_nil, List.foldl_cons, List.foldl_nil, ← ih (by omega)]
    have hO : LOk g n ((List.range m).foldl (lstep g n k e) ms) := LOk.fold (fun _ i h => h.step hk i) _ h
    have hne : ∀ k' e', ¬ (k' = k ∧ e' = e) → gE ((List.range m).foldl (lstep g n k e) ms) k' e' = gE ms k' e' := fun k' e' hh => lfold_ne hh _ _
    generalize (List.range m).foldl (lstep g n k e) ms = ys at hO hne
    obtain ⟨_, hl⟩ := hO.at' hk
    unfold lstep lmin
    cases hc : ((plD g m).From == (e : Int) && decide ((k : Int) + (plD g m).Tokens < (n : Int))) with
    | false => rfl
    | true =>
      rw [Bool.and_eq_true, beq_iff_eq, decide_eq_true_eq] at hc
      simp only [cond_true]
      rw [gE_eq (by rw [hO.len]; exact hk) (by omega), ← hne _ _ (fun hh => hself m (by omega) hc.1 (by omega) hh.2)]
      rfl

theorem topo_after {E : Nat → Nat → Bool} {o A B : List Nat} {e t : Nat} (ho : o = B ++ e :: A) (hB : e ∉ B) (ht : Topo E o) (hE : E e t = true) (hm : t ∈ o) : t ∈ A := by
  subst ho
  rcases List.mem_append.1 hm with h | h
  · exfalso
    obtain ⟨j, hj, hj2⟩ := List.getElem_of_mem h
    have := ht j t e (by rw [List.getElem?_append_left hj, List.getElem?_eq_getElem hj, hj2]) hE
    rw [List.take_append_of_le_length (by omega)] at this
    exact hB (List.mem_of_mem_take this)
  · rcases List.mem_cons.1 h with h | h
    · exfalso
      subst h
      have := ht B.length t t (by rw [List.getElem?_append_right (Nat.le_refl _), Nat.sub_self]; rfl) hE
      rw [List.take_append_of_le_length (Nat.le_refl _), List.take_length] at this
      exact hB this
    · exact h

theorem eP_of {g : GEventGraph} {i u v : Nat} (hi : i < g.Places.length) (hf : (plD g i).From = (u : Int)) (ht : (plD g i).To = (v : Int)) (h0 : (plD g i).Tokens = 0) : eP g.Places u v = true := by
  unfold eP
  rw [List.any_eq_true]
  exact ⟨plD g i, List.mem_of_getElem? (plD_of hi), by rw [hf, ht, h0]; simp⟩

theorem no_self {g : GEventGraph} {o : List Nat} (hg : graphB g = true) (ho : fire (eP g.Places) g.Events.toNat g.Events.toNat [] = some o) {i e : Nat} (hi : i < g.Places.length) (hf : (plD g i).From = (e : Int)) (h0 : (plD g i).Tokens.toNat = 0) : (plD g i).To.toNat ≠ e := by
  intro h
  obtain ⟨_, ⟨v, hv, _⟩, ⟨w, hw, _⟩⟩ := PlOk.of hg hi
  rw [hv] at h
  simp only [Int.toNat_natCast] at h
  rw [hw] at h0
  simp only [Int.toNat_natCast] at h0
  exact fire_free (GOk.of hg).edge ho (v := e) (q := []) ⟨by simp, by simp, eP_of hi hf (by rw [hv, h]) (by rw [hw, h0]; rfl)⟩

theorem lround_val {g : GEventGraph} {n k e : Nat} {o : List Nat} {ms : List (List Int)} (hg : graphB g = true) (ho : fire (eP g.Places) g.Events.toNat g.Events.toNat [] = some o) (h : LOk g n ms) (hk : k < n) (he : e < g.Events.toNat) :
    gE (lround g n o ms k) k e = (List.range g.Places.length).foldl (lmin g n k e (gE (lround g n o ms k))) (gE ms k e) := by
  obtain ⟨hok, hol⟩ := fire_ok (GOk.of hg).edge _ [] o (OrderOk.nil _ _) ho
  have hol : o.length = g.Events.toNat := by simpa using hol
  have heo := full_mem hok.nodup hok.lt hol he
  obtain ⟨A, B, hAB⟩ := List.append_of_mem (show e ∈ o.reverse by simpa using heo)
  have hnd : o.reverse.Nodup := List.pairwise_reverse.2 (hok.nodup.imp fun h => Ne.symm h)
  rw [hAB] at hnd
  have hnA : e ∉ A := fun hh => by
    have := (List.nodup_append.1 hnd).2.2
    exact this e hh e (by simp) rfl
  have hnB : e ∉ B := by
    have := (List.nodup_append.1 hnd).2.1
    exact (List.nodup_cons.1 this).1
  have hoB : o = B.reverse ++ e :: A.reverse := by
    have := congrArg List.reverse hAB
    rw [List.reverse_reverse] at this
    rw [this]; simp
  have hR : lround g n o ms k = B.foldl (levent g n k) (levent g n k (A.foldl (levent g n k) ms) e) := by
    unfold lround
    rw [hAB, List.foldl_append, List.foldl_cons]
  have hO : LOk g n (A.foldl (levent g n k) ms) := LOk.fold (fun _ e h => h.event hk e) _ h
  have hv := levent_val hO hk he (fun i hi hf h0 => no_self hg ho hi hf h0) g.Places.length (Nat.le_refl _)
  have e1 : gE (lround g n o ms k) k e = gE (levent g n k (A.foldl (levent g n k) ms) e) k e := by
    rw [hR, levs_ne _ _ (.inr hnB)]
  have e2 : gE (A.foldl (levent g n k) ms) k e = gE ms k e := levs_ne _ _ (.inr hnA)
  rw [e1]
  show gE ((List.range g.Places.length).foldl (lstep g n k e) (A.foldl (levent g n k) ms)) k e = _
  rw [hv, e2]
  refine lmin_congr _ _ fun i hi hf hc => ?_
  have hi : i < g.Places.length := by simpa using hi
  obtain ⟨_, ⟨v, hv2, hvn⟩, ⟨w, hw, _⟩⟩ := PlOk.of hg hi
  rw [hv2, hw]
  simp only [Int.toNat_natCast]
  by_cases h0 : w = 0
  · subst h0
    have hE := eP_of (u := e) hi hf hv2 (by rw [hw]; rfl)
    have hvo := full_mem hok.nodup hok.lt hol hvn
    have hA : v ∈ A.reverse := topo_after hoB (by simpa using hnB) hok.topo hE hvo
    have hA : v ∈ A := by simpa using hA
    have hve : v ≠ e := fun hh => hnA (by rw [← hh]; exact hA)
    have hvB : v ∉ B := fun hh => (List.nodup_append.1 hnd).2.2 v hA v (by simp [hh]) rfl
    rw [hR, levs_ne _ _ (.inr hvB), levent_ne (fun hh => hve hh.2)]
  · rw [hR]
    exact ((levs_ne (g := g) (n := n) B (levent g n k (A.foldl (levent g n k) ms) e) (.inl (by omega))).trans (levent_ne (fun hh => absurd hh.1 (by omega)))).symm

theorem ldown_val {g : GEventGraph} {n e : Nat} {o : List Nat} (hg : graphB g = true) (ho : fire (eP g.Places) g.Events.toNat g.Events.toNat [] = some o) (he : e < g.Events.toNat) : ∀ (m : Nat) (ms : List (List Int)), m ≤ n → LOk g n ms → ∀ k, k < m →
    gE ((List.range m).reverse.foldl (lround g n o) ms) k e = (List.range g.Places.length).foldl (lmin g n k e (gE ((List.range m).reverse.foldl (lround g n o) ms))) (gE ms k e) := by
  intro m
  induction m with
  | zero => intro ms _ _ k hk; omega
  | succ m ih =>
    intro ms hm hO k hk
    have e0 : (List.range (m + 1)).reverse.foldl (lround g n o) ms = (List.range m).reverse.foldl (lround g n o) (lround g n o ms m) := by
      rw [List.range_succ, List.reverse_append]; rfl
    rw [e0]
    by_cases h : k = m
    · subst h
      rw [ldown_ne k _ (Nat.le_refl _), lround_val hg ho hO (by omega) he]
      refine lmin_congr _ _ fun i hi hf hc => ?_
      rw [ldown_ne k _ (by omega)]
    · have := ih (lround g n o ms m) (by omega) (hO.round (by omega)) k (by omega)
      rw [lround_ne h] at this
      exact this

/-- the latest times solve their equations -/
theorem ltab_val {g : GEventGraph} {n k e : Nat} {o : List Nat} {due : List (List Int)} (hg : graphB g = true) (ho : fire (eP g.Places) g.Events.toNat g.Events.toNat [] = some o) (hO : LOk g n due) (hk : k < n) (he : e < g.Events.toNat) :
    gE (ltab g n o due) k e = (List.range g.Places.length).foldl (lmin g n k e (gE (ltab g n o due))) (gE due k e) := ldown_val hg ho he n due (Nat.le_refl _) hO k hk

theorem fstep_val {g : GEventGraph} {n k : Nat} {T ms : List (List Int)} (h : LOk g n ms) (hk : k < n) : ∀ m, m ≤ g.Events.toNat → ∀ k' j, gE ((List.range m).foldl (fstep T k) ms) k' j = if k' = k ∧ j < m then IntKind.i64.wrap (gE ms k' j - gE T k' j) else gE ms k' j := by
  intro m
  induction m with
  | zero => intro _ k' j; rw [if_neg (fun hh => absurd hh.2 (by omega))]; rfl
  | succ m ih =>
    intro hm k' j
    rw [List.range_succ, List.foldl_append, List.foldl_cons, List.foldl_nil]
    have hI := ih (by omega)
    have hO : LOk g n ((List.range m).foldl (fstep T k) ms) := LOk.fold (fun _ j h => h.fstep hk j) _ h
    generalize (List.range m).foldl (fstep T k) ms = ys at hI hO
    obtain ⟨_, hl⟩ := hO.at' hk
    unfold fstep
    by_cases hc : k' = k ∧ j = m
    · obtain ⟨rfl, rfl⟩ := hc
      rw [gE_eq (by rw [hO.len]; exact hk) (by omega), if_pos ⟨rfl, by omega⟩]
      have := hI k' j
      rw [if_neg (by omega)] at this
      show IntKind.i64.wrap (gE ys k' j - gE T k' j) = _
      rw [this]
    · rw [gE_ne hc, hI k' j]
      by_cases h2 : k' = k ∧ j < m
      · rw [if_pos h2, if_pos ⟨h2.1, by omega⟩]
      · rw [if_neg h2, if_neg (by omega)]

theorem ftab_val {g : GEventGraph} {n : Nat} {T ms : List (List Int)} (h : LOk g n ms) : ∀ m, m ≤ n → ∀ k j, gE ((List.range m).foldl (frow T g.Events.toNat) ms) k j = if k < m ∧ j < g.Events.toNat then IntKind.i64.wrap (gE ms k j - gE T k j) else gE ms k j := by
  intro m
  induction m with
  | zero => intro _ k j; rw [if_neg (fun hh => absurd hh.1 (by omega))]; rfl
  | succ m ih =>
    intro hm k j
    rw [List.range_succ, List.foldl_append, List.foldl_cons, List.foldl_nil]
    have hI := ih (by omega)
    have hO : LOk g n ((List.range m).foldl (frow T g.Events.toNat) ms) := h.foldk m (by omega)
    generalize (List.range m).foldl (frow T g.Events.toNat) ms = ys at hI hO
    unfold frow
    rw [fstep_val hO (by omega) g.Events.toNat (Nat.le_refl _) k j]
    have hIk := hI k j
    by_cases hc : k = m ∧ j < g.Events.toNat
    · rw [if_pos hc, if_pos ⟨by omega, hc.2⟩]
      rw [if_neg (by omega)] at hIk
      rw [hIk]
    · rw [if_neg hc, hIk]
      by_cases h2 : k < m ∧ j < g.Events.toNat
      · rw [if_pos h2, if_pos ⟨by omega, h2.2⟩]
      · rw [if_neg h2, if_neg (by omega)]

/-! ### The firing times, with their code -/
def fireCode (g : GEventGraph) (n : Int) : Int := bif !graphB g then 1 else bif !inB n 0 50 then 2 else bif !liveB g g.Events.toNat then 5 else 0

theorem fireCode_zero {g : GEventGraph} {n : Int} (h : fireCode g n = 0) : graphB g = true ∧ 0 ≤ n ∧ n ≤ 50 ∧ ∃ o, fire (eP g.Places) g.Events.toNat g.Events.toNat [] = some o := by
  unfold fireCode at h
  have : graphB g = true ∧ inB n 0 50 = true ∧ liveB g g.Events.toNat = true := by
    revert h
    cases graphB g <;> cases inB n 0 50 <;> cases liveB g g.Events.toNat <;> simp
  obtain ⟨a, b, c⟩ := this
  exact ⟨a, (inB_true.1 b).1, (inB_true.1 b).2, liveB_some c⟩

theorem implFCode_is {F : Nat} {g : GEventGraph} {n : Int} (hF : 134217728 ≤ F) (hP : g.Places.length ≤ 1048576) : impl_checkFirings F g n = some (fireCode g n) := by
  unfold impl_checkFirings fireCode
  rw [implGraph_is hF hP, Option.bind_some]
  cases hg : graphB g with
  | false => rfl
  | true =>
    simp only [Bool.not_true, cond_false, within_is, Option.bind_some, implLive_is hF (GOk.of hg)]
    cases liveB g g.Events.toNat <;> cases inB n 0 50 <;> rfl

theorem implFiring_is {F : Nat} {g : GEventGraph} {n : Nat} {o : List Nat} (hF : 134217728 ≤ F) (hg : graphB g = true) (hn : n ≤ 50) (ho : fire (eP g.Places) g.Events.toNat g.Events.toNat [] = some o) : impl_FiringTimes F g (n : Int) = some (ttab g o (zeros g) n, 0) := by
  unfold impl_FiringTimes
  have hG := GOk.of hg
  have h10 := hG.n10
  have hc : fireCode g (n : Int) = 0 := by
    unfold fireCode
    rw [hg, inB_true.2 (show (0 : Int) ≤ (n : Int) ∧ (n : Int) ≤ 50 by omega), show liveB g g.Events.toNat = true by unfold liveB; rw [ho]; rfl]
    rfl
  have hmk : mk g.Events (0 : Int) = some (zeros g) := by rw [hG.ev, mk_nat _ (by omega)]; rfl
  have hz : (zeros g).length = g.Events.toNat := by unfold zeros; simp
  rw [implFCode_is hF (show g.Places.length ≤ 1048576 by have := hG.len; omega), Option.bind_some, bF (neF hc), hmk, Option.bind_some, implTimes13_is (F := F) hF hg ho hz hn]
  rfl

/-! ### Runs as folds, responses as powers; runs are convolutions -/
theorem okw_val {x : Int} (h : valB x = true) : Okw 1000000 x := by
  unfold valB at h
  rw [Bool.or_eq_true, beq_iff_eq, inB_true] at h
  exact h

theorem val_okw {x : Int} (h : Okw 1000000 x) : valB x = true := by
  unfold valB
  rw [Bool.or_eq_true, beq_iff_eq, inB_true]
  exact h

theorem all_okw {xs : List Int} (h : xs.all valB = true) {i : Nat} (hi : i < xs.length) : Okw 1000000 (xs.getD i 0) :=
  okw_val (List.all_eq_true.1 h _ (List.mem_of_getElem? (getD_of hi)))

theorem ta_assoc {M K L a b c : Int} (ha : Okw M a) (hb : Okw K b) (hc : Okw L c) (h0 : 0 ≤ M) (h1 : 0 ≤ K) (h2 : 0 ≤ L) (h : M + K + L < 1000000000000000) : ta (ta a b) c = ta a (ta b c) := by
  unfold Okw at ha hb hc
  by_cases ea : a = -1000000000000000
  · rw [ea, ta_botl, ta_botl, ta_botl]
  · by_cases eb : b = -1000000000000000
    · rw [eb, ta_botr, ta_botl, ta_botr]
    · by_cases ec : c = -1000000000000000
      · rw [ec, ta_botr, ta_botr, ta_botr]
      · rw [ta_fin ea eb, ta_fin eb ec, ta_fin (by omega) ec, ta_fin ea (by omega)]; omega

theorem ta_comm2 (x y : Int) : ta x y = ta y x := by
  unfold ta
  by_cases e : x = -1000000000000000 ∨ y = -1000000000000000
  · rw [if_pos e, if_pos e.symm]
  · rw [if_neg e, if_neg (fun h => e h.symm)]; omega

theorem mx_swap {n k : Nat} {a u : Nat → Int} {f : Nat → Nat → Int} (ha : ∀ q, q < n → Okw 10000000 (a q)) (hf : ∀ m q, m < k → q < n → Okw 10000000 (f m q)) (hu : ∀ m, m < k → Okw 10000000 (u m)) :
    (mx n fun q => ta (a q) (mx k fun m => ta (f m q) (u m))) = mx k fun m => ta (mx n fun q => ta (a q) (f m q)) (u m) := by
  have hin : ∀ m, m < k → Okw 20000000 (mx n fun q => ta (a q) (f m q)) := fun m hm => mx_ok fun q hq => ta_ok (ha q hq) (hf m q hm hq)
  have hin2 : ∀ q, q < n → Okw 20000000 (mx k fun m => ta (f m q) (u m)) := fun q hq => mx_ok fun m hm => ta_ok (hf m q hm hq) (hu m hm)
  refine Int.le_antisymm (mx_le (mx_bot _ _) fun q hq => ?_) (mx_le (mx_bot _ _) fun m hm => ?_)
  · rcases mx_cases (fun m => ta (f m q) (u m)) k with h | ⟨m, hm, h⟩
    · rw [h, ta_botr]; exact mx_bot _ _
    · rw [h, ← ta_assoc (ha q hq) (hf m q hm hq) (hu m hm) (by omega) (by omega) (by omega) (by omega)]
      refine Int.le_trans ?_ (mx_ge (g := fun m => ta (mx n fun q => ta (a q) (f m q)) (u m)) hm)
      exact ta_mono (ta_ok (ha q hq) (hf m q hm hq)) (hu m hm) (hin m hm) (hu m hm) (by omega) (by omega) (by omega) (mx_ge (g := fun q => ta (a q) (f m q)) hq) (Int.le_refl _)
  · rcases mx_cases (fun q => ta (a q) (f m q)) n with h | ⟨q, hq, h⟩
    · rw [h, ta_botl]; exact mx_bot _ _
    · rw [h, ta_assoc (ha q hq) (hf m q hm hq) (hu m hm) (by omega) (by omega) (by omega) (by omega)]
      refine Int.le_trans ?_ (mx_ge (g := fun q => ta (a q) (mx k fun m => ta (f m q) (u m))) hq)
      exact ta_mono (ha q hq) (ta_ok (hf m q hm hq) (hu m hm)) (ha q hq) (hin2 q hq) (by omega) (by omega) (by omega) (Int.le_refl _) (mx_ge (g := fun m => ta (f m q) (u m)) hm)

theorem mx_first {k : Nat} {g : Nat → Int} (h0 : -1000000000000000 ≤ g 0) : mx (k + 1) g = max (g 0) (mx k fun j => g (j + 1)) := by
  induction k with
  | zero => rw [mx_succ]; show max (-1000000000000000) (g 0) = max (g 0) (-1000000000000000); omega
  | succ k ih => rw [mx_succ, ih, mx_succ]; omega

theorem dotv_mx {c x : List Int} {M K : Int} : ∀ n : Nat, (∀ q, q < n → Okw M (c.getD q 0)) → (∀ q, q < n → Okw K (x.getD q 0)) → M ≤ 10000000000 → K ≤ 10000000000 → dotv c x n = mx n fun q => ta (c.getD q 0) (x.getD q 0)
  | 0, _, _, _, _ => rfl
  | n + 1, hc, hx, hM, hK => by
    have ih := dotv_mx n (fun q hq => hc q (by omega)) (fun q hq => hx q (by omega)) hM hK
    rw [mx_succ, ← ih, ← tms_ta (hc n (by omega)) (hx n (by omega)) hM hK]
    unfold dotv
    rw [List.range_succ, List.foldl_append]; rfl


theorem applyv_len' (A : List (List Int)) (x : List Int) : (applyv A x).length = A.length := by unfold applyv; rw [List.length_map]

/-! ### Draws of matrices -/
def Shp (m n : Nat) (ms : List (List Int)) : Prop := ms.length = m ∧ ∀ r, r ∈ ms → r.length = n

theorem idxM_tot {m n : Nat} {ms : List (List Int)} {i : Int} (h : Shp m n ms) (h0 : 0 ≤ i) (h1 : i < (m : Int)) : Tot (fun r => r.length = n) (idx ms i) := (idx_tot h0 (by rw [h.1]; exact h1)).mono fun r hr => h.2 r hr

theorem updM_tot {m n : Nat} {ms : List (List Int)} {i : Int} {r : List Int} (h : Shp m n ms) (h0 : 0 ≤ i) (h1 : i < (m : Int)) (hr : r.length = n) : Tot (Shp m n) (upd ms i r) := by
  refine ⟨_, upd_int r h0 (by rw [h.1]; exact h1), by rw [List.length_set]; exact h.1, fun q hq => ?_⟩
  rcases List.mem_or_eq_of_mem_set hq with h2 | h2
  · exact h.2 q h2
  · rw [h2]; exact hr

theorem tabM_shp (m n : Nat) (f : Nat → Nat → Int) : Shp m n (tabM m n f) := ⟨tabM_len _ _ _, tabM_rows⟩

/-! ### Systems in series -/
theorem tms_comm (a b : Int) : tms a b = tms b a := by
  unfold tms
  rw [Int.add_comm, Bool.or_comm]

/-! ### Responses in series and in parallel -/
theorem mx_split (g : Nat → Int) (n : Nat) : ∀ k, mx (n + k) g = max (mx n g) (mx k fun j => g (n + j))
  | 0 => by
    have := mx_bot g n
    show mx n g = max (mx n g) (-1000000000000000)
    omega
  | k + 1 => by
    have ih := mx_split g n k
    rw [show n + (k + 1) = (n + k) + 1 by omega, mx_succ, ih, mx_succ]; omega

theorem mx_none {n : Nat} {g : Nat → Int} (h : ∀ q, q < n → g q = -1000000000000000) : mx n g = -1000000000000000 :=
  Int.le_antisymm (mx_le (Int.le_refl _) fun q hq => by rw [h q hq]; exact Int.le_refl _) (mx_bot _ _)

theorem mx_rev {k : Nat} {g : Nat → Int} : mx (k + 1) g = mx (k + 1) fun m => g (k - m) := by
  refine Int.le_antisymm (mx_le (mx_bot _ _) fun q hq => ?_) (mx_le (mx_bot _ _) fun q hq => ?_)
  · have := mx_ge (g := fun m => g (k - m)) (show k - q < k + 1 by omega)
    simp only [show k - (k - q) = q by omega] at this
    exact this
  · exact mx_ge (g := g) (show k - q < k + 1 by omega)

theorem mx_one {g : Int} (h : -1000000000000000 ≤ g) : (mx 1 fun _ => g) = g := by
  rw [mx_succ]; show max (-1000000000000000) g = g; omega

theorem all_of {xs : List Int} (h : ∀ i, i < xs.length → Okw 1000000 (xs.getD i 0)) : xs.all valB = true := by
  rw [List.all_eq_true]; intro y hy
  obtain ⟨i, hi, rfl⟩ := List.getElem_of_mem hy
  have := h i hi
  rw [List.getD_eq_getElem?_getD, List.getElem?_eq_getElem hi] at this
  exact val_okw this

theorem blk_mx1 {A B C : List (List Int)} {X : Nat → Int} {i : Nat} (hi : i < A.length) : (mx (A.length + B.length) fun q => ta (blk A B C i q) (X q)) = mx A.length fun q => ta (entryOf A i q) (X q) := by
  rw [mx_split, mx_none (g := fun j => ta (blk A B C i (A.length + j)) (X (A.length + j))) (fun q hq => by
    unfold blk; rw [if_pos hi, if_neg (by omega)]; exact ta_botl)]
  have := mx_bot (fun q => ta (blk A B C i q) (X q)) A.length
  rw [show max (mx A.length fun q => ta (blk A B C i q) (X q)) (-1000000000000000) = mx A.length fun q => ta (blk A B C i q) (X q) by omega]
  exact mx_congr fun q hq => by unfold blk; rw [if_pos hi, if_pos hq]; rfl

theorem blk_mx2 {A B C : List (List Int)} {X : Nat → Int} {i : Nat} : (mx (A.length + B.length) fun q => ta (blk A B C (A.length + i) q) (X q)) = max (mx A.length fun q => ta (ent C i q) (X q)) (mx B.length fun j => ta (entryOf B i j) (X (A.length + j))) := by
  rw [mx_split]
  rw [mx_congr (h := fun q => ta (ent C i q) (X q)) (fun q hq => by unfold blk; rw [if_neg (by omega), if_pos hq, Nat.add_sub_cancel_left]), mx_congr (g := fun j => ta (blk A B C (A.length + i) (A.length + j)) (X (A.length + j))) (h := fun j => ta (entryOf B i j) (X (A.length + j))) (fun q hq => by unfold blk; rw [if_neg (by omega), if_neg (by omega), Nat.add_sub_cancel_left, Nat.add_sub_cancel_left]; rfl)]

theorem getD_app1 {xs ys : List Int} {i : Nat} (h : i < xs.length) : (xs ++ ys).getD i 0 = xs.getD i 0 := by
  rw [List.getD_eq_getElem?_getD, List.getElem?_append_left h, ← List.getD_eq_getElem?_getD]

theorem getD_app2 {xs ys : List Int} {n i : Nat} (h : xs.length = n) : (xs ++ ys).getD (n + i) 0 = ys.getD i 0 := by
  rw [List.getD_eq_getElem?_getD, List.getElem?_append_right (by omega), show n + i - xs.length = i by omega, ← List.getD_eq_getElem?_getD]

theorem getD_rep {n i : Nat} {c : Int} (h : i < n) : (List.replicate n c).getD i 0 = c := by
  rw [List.getD_eq_getElem?_getD, List.getElem?_replicate, if_pos h]; rfl

theorem shift_at {x : List Int} {g K : Int} {i : Nat} (hx : x.all valB = true) (hi : i < x.length) (hg : Okw K g) (hK : K ≤ 10000000000) : (shiftv x g).getD i 0 = ta (x.getD i 0) g := by
  unfold shiftv
  rw [List.getD_eq_getElem?_getD, List.getElem?_map, getD_of hi]
  exact tms_ta (all_okw hx hi) hg (by omega) hK

theorem ta_mx_row {n : Nat} {b : Int} {r x : Nat → Int} (hb : Okw 1000000 b) (hr : ∀ q, q < n → Okw 2000000 (r q)) (hx : ∀ q, q < n → Okw 1000000 (x q)) : (mx n fun q => ta (ta b (r q)) (x q)) = ta b (mx n fun q => ta (r q) (x q)) := by
  have h := mx_swap (n := 1) (k := n) (a := fun _ => b) (f := fun m _ => r m) (u := x) (fun _ _ => ok_up hb (by omega)) (fun m _ hm _ => ok_up (hr m hm) (by omega)) (fun m hm => ok_up (hx m hm) (by omega))
  rw [mx_one (ok_ge (ta_ok hb (mx_ok fun q hq => ta_ok (hr q hq) (hx q hq))) (by omega))] at h
  rw [h]
  exact mx_congr fun q hq => by rw [mx_one (ok_ge (ta_ok hb (hr q hq)) (by omega))]

/-! ### The firing times by their equations -/
def FTs (g : GEventGraph) (n : Nat) (T : Nat → Nat → Int) : Prop := ∀ k, k < n → ∀ e, e < g.Events.toNat → 0 ≤ T k e ∧ (∀ p, p ∈ g.Places → p.To = (e : Int) → p.Tokens ≤ (k : Int) → T (k - p.Tokens.toNat) p.From.toNat + p.Delay ≤ T k e) ∧ (T k e = 0 ∨ ∃ p, p ∈ g.Places ∧ p.To = (e : Int) ∧ p.Tokens ≤ (k : Int) ∧ T k e = T (k - p.Tokens.toNat) p.From.toNat + p.Delay)

theorem order_rank {g : GEventGraph} {o : List Nat} (hg : graphB g = true) (ho : fire (eP g.Places) g.Events.toNat g.Events.toNat [] = some o) : ∀ u v, eP g.Places u v = true → o.idxOf u < o.idxOf v := by
  intro u v huv
  have hE := (GOk.of hg).edge
  obtain ⟨h1, h2⟩ := fire_ok hE _ [] o (OrderOk.nil _ _) ho
  have hn : o.length = g.Events.toNat := by simpa using h2
  have hw := full_mem h1.nodup h1.lt hn (hE u v huv).2
  have hi : o.idxOf v < o.length := List.idxOf_lt_length_of_mem hw
  have hmem := h1.topo (o.idxOf v) v u (by rw [List.getElem?_eq_getElem hi, List.getElem_idxOf]) huv
  obtain ⟨j, hj, hj2⟩ := List.getElem_of_mem hmem
  rw [List.length_take] at hj
  rw [List.getElem_take] at hj2
  have : o.idxOf u ≤ j := by
    rw [← hj2]
    rw [List.Nodup.idxOf_getElem h1.nodup]
    exact Nat.le_refl _
  omega

theorem live_rank {g : GEventGraph} (hg : graphB g = true) : liveB g g.Events.toNat = true ↔ ∃ ρ : Nat → Nat, ∀ u v, eP g.Places u v = true → ρ u < ρ v := by
  constructor
  · intro h
    unfold liveB at h
    cases ho : fire (eP g.Places) g.Events.toNat g.Events.toNat [] with
    | none => rw [ho] at h; cases h
    | some o => exact ⟨fun u => o.idxOf u, order_rank hg ho⟩
  · rintro ⟨ρ, h⟩
    unfold liveB
    cases ho : fire (eP g.Places) g.Events.toNat g.Events.toNat [] with
    | some o => rfl
    | none =>
      obtain ⟨v, q, _, hc⟩ := fire_stuck (GOk.of hg).edge _ [] (OrderOk.nil _ _) (by simp) ho
      exact absurd hc (no_cyc h)

theorem eP_mem {ps : List GPlace} {p : GPlace} {u v : Nat} (hp : p ∈ ps) (h0 : p.Tokens = 0) (hf : p.From = (u : Int)) (ht : p.To = (v : Int)) : eP ps u v = true := by
  unfold eP; rw [List.any_eq_true]; exact ⟨p, hp, by rw [h0, hf, ht]; simp⟩

theorem mem_eP {ps : List GPlace} {u v : Nat} (h : eP ps u v = true) : ∃ p, p ∈ ps ∧ p.Tokens = 0 ∧ p.From = (u : Int) ∧ p.To = (v : Int) := by
  unfold eP at h
  rw [List.any_eq_true] at h
  obtain ⟨p, hp, h⟩ := h
  simp only [Bool.and_eq_true, beq_iff_eq] at h
  exact ⟨p, hp, h.1, h.2.2, h.2.1⟩

theorem ft_unique {g : GEventGraph} {n : Nat} {T T' : Nat → Nat → Int} {ρ : Nat → Nat} (hg : graphB g = true) (hρ : ∀ u v, eP g.Places u v = true → ρ u < ρ v) (h : FTs g n T) (h' : FTs g n T') : ∀ k, k < n → ∀ e, e < g.Events.toNat → T k e = T' k e := by
  intro k
  induction k using Nat.strongRecOn with
  | ind k ihk =>
    intro hk
    have key : ∀ r e, ρ e = r → e < g.Events.toNat → T k e = T' k e := by
      intro r
      induction r using Nat.strongRecOn with
      | ind r ihr =>
        intro e hr he
        have step : ∀ p, p ∈ g.Places → p.To = (e : Int) → p.Tokens ≤ (k : Int) → T (k - p.Tokens.toNat) p.From.toNat = T' (k - p.Tokens.toNat) p.From.toNat := by
          intro p hp ht hw
          obtain ⟨r1, r2, r3, r4, r5, r6, r7, r8⟩ := graphB_range hg p hp
          by_cases h0 : p.Tokens = 0
          · have hE := eP_mem (u := p.From.toNat) (v := e) hp h0 (by omega) ht
            have hl := hρ _ _ hE
            rw [show k - p.Tokens.toNat = k by omega]
            exact ihr (ρ p.From.toNat) (by omega) _ rfl (by omega)
          · exact ihk (k - p.Tokens.toNat) (by omega) (by omega) _ (by omega)
        obtain ⟨a1, a2, a3⟩ := h k hk e he
        obtain ⟨b1, b2, b3⟩ := h' k hk e he
        apply Int.le_antisymm
        · rcases a3 with a3 | ⟨p, hp, ht, hw, a3⟩
          · omega
          · have := b2 p hp ht hw; rw [← step p hp ht hw] at this; omega
        · rcases b3 with b3 | ⟨p, hp, ht, hw, b3⟩
          · omega
          · have := a2 p hp ht hw; rw [step p hp ht hw] at this; omega
    exact fun e he => key _ e rfl he

theorem fold_max {α : Type} (c : α → Bool) (v : α → Int) : ∀ (l : List α) (a : Int), a ≤ l.foldl (fun acc p => bif c p then max acc (v p) else acc) a ∧ (∀ p, p ∈ l → c p = true → v p ≤ l.foldl (fun acc p => bif c p then max acc (v p) else acc) a) ∧ (l.foldl (fun acc p => bif c p then max acc (v p) else acc) a = a ∨ ∃ p, p ∈ l ∧ c p = true ∧ l.foldl (fun acc p => bif c p then max acc (v p) else acc) a = v p)
  | [], a => ⟨Int.le_refl _, fun p hp => by simp at hp, .inl rfl⟩
  | q :: l, a => by
    rw [List.foldl_cons]
    cases hq : c q with
    | false =>
      rw [cond_false]
      obtain ⟨h1, h2, h3⟩ := fold_max c v l a
      refine ⟨h1, fun p hp hc => ?_, ?_⟩
      · rcases List.mem_cons.1 hp with rfl | hp
        · rw [hq] at hc; cases hc
        · exact h2 p hp hc
      · rcases h3 with h3 | ⟨p, hp, hc, h3⟩
        · exact .inl h3
        · exact .inr ⟨p, List.mem_cons_of_mem _ hp, hc, h3⟩
    | true =>
      rw [cond_true]
      obtain ⟨h1, h2, h3⟩ := fold_max c v l (max a (v q))
      refine ⟨by omega, fun p hp hc => ?_, ?_⟩
      · rcases List.mem_cons.1 hp with rfl | hp
        · omega
        · exact h2 p hp hc
      · rcases h3 with h3 | ⟨p, hp, hc, h3⟩
        · rcases Int.le_total a (v q) with h | h
          · exact .inr ⟨q, List.mem_cons_self, hq, by omega⟩
          · exact .inl (by omega)
        · exact .inr ⟨p, List.mem_cons_of_mem _ hp, hc, h3⟩

theorem tstep_ne {g : GEventGraph} {pre : List (List Int)} {e e' : Nat} {xs : List Int} (i : Nat) (h : e' ≠ e) : (tstep g pre e xs i).getD e' 0 = xs.getD e' 0 := by
  unfold tstep
  cases ((plD g i).To == (e : Int) && decide ((plD g i).Tokens ≤ (pre.length : Int))) with
  | false => rfl
  | true =>
    rw [cond_true, List.getD_eq_getElem?_getD, List.getElem?_set, if_neg (Ne.symm h), ← List.getD_eq_getElem?_getD]

theorem tfold_ne {g : GEventGraph} {pre : List (List Int)} {e e' : Nat} (h : e' ≠ e) : ∀ (l : List Nat) (xs : List Int), (l.foldl (tstep g pre e) xs).getD e' 0 = xs.getD e' 0
  | [], _ => rfl
  | i :: l, xs => by rw [List.foldl_cons, tfold_ne h l, tstep_ne i h]

theorem tevs_ne {g : GEventGraph} {pre : List (List Int)} {e' : Nat} : ∀ (l : List Nat) (xs : List Int), e' ∉ l → (l.foldl (tevent g pre) xs).getD e' 0 = xs.getD e' 0
  | [], _, _ => rfl
  | e :: l, xs, h => by
    rw [List.foldl_cons, tevs_ne l _ (fun hh => h (List.mem_cons_of_mem _ hh))]
    exact tfold_ne (fun hh => h (by rw [hh]; exact List.mem_cons_self)) _ _

/-- the condition and the value of a place -/
def tc (g : GEventGraph) (k e i : Nat) : Bool := (plD g i).To == (e : Int) && decide ((plD g i).Tokens ≤ (k : Int))

def tv (g : GEventGraph) (T : Nat → Nat → Int) (k i : Nat) : Int := IntKind.i64.wrap (T (k - (plD g i).Tokens.toNat) (plD g i).From.toNat + (plD g i).Delay)

def tfold (g : GEventGraph) (T : Nat → Nat → Int) (k e : Nat) (l : List Nat) (a : Int) : Int := l.foldl (fun acc i => bif tc g k e i then max acc (tv g T k i) else acc) a

theorem tfold_congr {g : GEventGraph} {T T' : Nat → Nat → Int} {k e : Nat} : ∀ (l : List Nat) (a : Int), (∀ i, i ∈ l → tc g k e i = true → tv g T k i = tv g T' k i) → tfold g T k e l a = tfold g T' k e l a
  | [], _, _ => rfl
  | i :: l, a, h => by
    unfold tfold
    rw [List.foldl_cons, List.foldl_cons]
    have e1 : (bif tc g k e i then max a (tv g T k i) else a) = bif tc g k e i then max a (tv g T' k i) else a := by
      cases hc : tc g k e i with
      | false => rfl
      | true => rw [h i List.mem_cons_self hc]
    rw [e1]
    exact tfold_congr l _ fun j hj => h j (List.mem_cons_of_mem _ hj)

theorem gE_last {pre : List (List Int)} {xs : List Int} {e : Nat} : gE (pre ++ [xs]) pre.length e = xs.getD e 0 := by
  have h : (pre ++ [xs]).getD pre.length [] = xs := by rw [List.getD_eq_getElem?_getD, last_at]; rfl
  unfold gE; rw [h]

theorem gE_pre {pre : List (List Int)} {xs : List Int} {k e : Nat} (h : k < pre.length) : gE (pre ++ [xs]) k e = gE pre k e := by
  have h : (pre ++ [xs]).getD k [] = pre.getD k [] := by rw [List.getD_eq_getElem?_getD, List.getElem?_append_left h, ← List.getD_eq_getElem?_getD]
  unfold gE; rw [h]

theorem tevent_val {g : GEventGraph} {pre : List (List Int)} {xs : List Int} {e : Nat} (he : e < xs.length) (hns : ∀ i, i < g.Places.length → (plD g i).To = (e : Int) → (plD g i).Tokens.toNat = 0 → (plD g i).From.toNat ≠ e) (hnt : ∀ i, i < g.Places.length → 0 ≤ (plD g i).Tokens) :
    ∀ m, m ≤ g.Places.length → ((List.range m).foldl (tstep g pre e) xs).getD e 0 = tfold g (gE (pre ++ [xs])) pre.length e (List.range m) (xs.getD e 0) := by
  intro m
  induction m with
  | zero => intro _; rfl
  | succ m ih =>
    intro hm
    have ih' := ih (by omega)
    have hl : ((List.range m).foldl (tstep g pre e) xs).length = xs.length := foldl_len (tstep_len g pre e) _ _
    have hne : ∀ e', e' ≠ e → ((List.range m).foldl (tstep g pre e) xs).getD e' 0 = xs.getD e' 0 := fun e' h => tfold_ne h _ _
    unfold tfold at ih' ⊢
    rw [List.range_succ, List.foldl_append, List.foldl_append, List.foldl_cons, List.foldl_nil, List.foldl_cons, List.foldl_nil, ← ih']
    generalize (List.range m).foldl (tstep g pre e) xs = ys at hl hne
    have hst : tstep g pre e ys m = bif tc g pre.length e m then ys.set e (max (ys.getD e 0) (tv g (gE (pre ++ [ys])) pre.length m)) else ys := rfl
    rw [hst]
    cases hc : tc g pre.length e m with
    | false => rfl
    | true =>
      rw [cond_true, cond_true, List.getD_eq_getElem?_getD, List.getElem?_set, if_pos rfl, if_pos (by omega), Option.getD_some]
      unfold tv
      refine congrArg (fun z => max (ys.getD e 0) (IntKind.i64.wrap (z + _))) ?_
      unfold tc at hc
      simp only [Bool.and_eq_true, beq_iff_eq, decide_eq_true_eq] at hc
      have h0 := hnt m (by omega)
      show gE (pre ++ [ys]) _ _ = gE (pre ++ [xs]) _ _
      by_cases hz : (plD g m).Tokens.toNat = 0
      · rw [hz, Nat.sub_zero, gE_last, gE_last]
        exact hne _ (hns m (by omega) hc.1 hz)
      · rw [gE_pre (by omega), gE_pre (by omega)]

theorem tround_val {g : GEventGraph} {o : List Nat} {pre : List (List Int)} {e : Nat} (hg : graphB g = true) (ho : fire (eP g.Places) g.Events.toNat g.Events.toNat [] = some o) (he : e < g.Events.toNat) :
    (tround g o pre (zeros g)).getD e 0 = tfold g (gE (pre ++ [tround g o pre (zeros g)])) pre.length e (List.range g.Places.length) 0 := by
  obtain ⟨hok, hol⟩ := fire_ok (GOk.of hg).edge _ [] o (OrderOk.nil _ _) ho
  have hol : o.length = g.Events.toNat := by simpa using hol
  have heo := full_mem hok.nodup hok.lt hol he
  obtain ⟨A, B, hAB⟩ := List.append_of_mem heo
  have hnd := hok.nodup
  have htp := hok.topo
  rw [hAB] at hnd htp
  have hnA : e ∉ A := fun hh => (List.nodup_append.1 hnd).2.2 e hh e (by simp) rfl
  have hnB : e ∉ B := (List.nodup_cons.1 (List.nodup_append.1 hnd).2.1).1
  have hX : tround g o pre (zeros g) = B.foldl (tevent g pre) (tevent g pre (A.foldl (tevent g pre) (zeros g)) e) := by
    unfold tround; rw [hAB, List.foldl_append, List.foldl_cons]
  have hzl : (zeros g).length = g.Events.toNat := by unfold zeros; simp
  have hYl : (A.foldl (tevent g pre) (zeros g)).length = g.Events.toNat := by rw [foldl_len (tevent_len g pre)]; exact hzl
  have hY0 : (A.foldl (tevent g pre) (zeros g)).getD e 0 = 0 := by
    rw [tevs_ne _ _ hnA]; unfold zeros
    rw [List.getD_eq_getElem?_getD, List.getElem?_replicate, if_pos he]; rfl
  have hrk := order_rank hg ho
  have hns : ∀ i, i < g.Places.length → (plD g i).To = (e : Int) → (plD g i).Tokens.toNat = 0 → (plD g i).From.toNat ≠ e := by
    intro i hi ht h0 hf
    obtain ⟨⟨u, hu, _⟩, _, ⟨w, hw, _⟩⟩ := PlOk.of hg hi
    have := hrk e e (eP_of hi (by omega) ht (by omega))
    omega
  have hv := tevent_val (pre := pre) (xs := A.foldl (tevent g pre) (zeros g)) (by omega) hns (fun i hi => by obtain ⟨_, _, ⟨w, hw, _⟩⟩ := PlOk.of hg hi; omega) _ (Nat.le_refl _)
  have e1 : (tround g o pre (zeros g)).getD e 0 = ((List.range g.Places.length).foldl (tstep g pre e) (A.foldl (tevent g pre) (zeros g))).getD e 0 := by
    rw [hX, tevs_ne _ _ hnB]; rfl
  rw [e1, hv, hY0]
  refine tfold_congr _ _ fun i hi hc => ?_
  have hi : i < g.Places.length := by simpa using hi
  unfold tc at hc
  simp only [Bool.and_eq_true, beq_iff_eq, decide_eq_true_eq] at hc
  obtain ⟨⟨u, hu, hun⟩, _, ⟨w, hw, _⟩⟩ := PlOk.of hg hi
  unfold tv
  refine congrArg (fun z => IntKind.i64.wrap (z + _)) ?_
  rw [hu, hw]
  simp only [Int.toNat_natCast]
  by_cases hz : w = 0
  · subst hz
    have hE := eP_of (u := u) (v := e) hi hu hc.1 (by rw [hw]; rfl)
    have hA : u ∈ A := by
      have := htp A.length e u (by simp) hE
      simpa using this
    have hue : u ≠ e := fun h => hnA (by rw [← h]; exact hA)
    have huB : u ∉ B := fun hh => (List.nodup_append.1 hnd).2.2 u hA u (by simp [hh]) rfl
    rw [Nat.sub_zero, gE_last, gE_last, hX, tevs_ne _ _ huB]
    exact (tfold_ne hue _ _).symm
  · rw [gE_pre (by omega), gE_pre (by omega)]

theorem ttab_row {g : GEventGraph} {o : List Nat} {xs : List Int} {k : Nat} : ∀ n, k < n → (ttab g o xs n).getD k [] = tround g o (ttab g o xs k) xs
  | 0, h => by omega
  | n + 1, h => by
    have hl := ttab_len g o xs n
    show (ttab g o xs n ++ [tround g o (ttab g o xs n) xs]).getD k [] = _
    rw [List.getD_eq_getElem?_getD]
    by_cases e : k = n
    · subst e
      rw [List.getElem?_append_right (by omega), hl, Nat.sub_self]; rfl
    · rw [List.getElem?_append_left (by omega), ← List.getD_eq_getElem?_getD]
      exact ttab_row n (by omega)

theorem ttab_val {g : GEventGraph} {o : List Nat} {n k e : Nat} (hg : graphB g = true) (ho : fire (eP g.Places) g.Events.toNat g.Events.toNat [] = some o) (hk : k < n) (he : e < g.Events.toNat) :
    gE (ttab g o (zeros g) n) k e = tfold g (gE (ttab g o (zeros g) n)) k e (List.range g.Places.length) 0 := by
  have hl := ttab_len g o (zeros g) k
  have h1 : gE (ttab g o (zeros g) n) k e = (tround g o (ttab g o (zeros g) k) (zeros g)).getD e 0 := by
    unfold gE; rw [ttab_row n hk]
  have h2 : ∀ k' e', k' ≤ k → gE (ttab g o (zeros g) k ++ [tround g o (ttab g o (zeros g) k) (zeros g)]) k' e' = gE (ttab g o (zeros g) n) k' e' := by
    intro k' e' hk'
    show gE (ttab g o (zeros g) (k + 1)) k' e' = _
    unfold gE; rw [ttab_row n (by omega), ttab_row (k + 1) (by omega)]
  rw [h1, tround_val hg ho he, hl]
  refine tfold_congr _ _ fun i hi hc => ?_
  unfold tv
  rw [h2 _ _ (by omega)]

theorem ttab_spec {g : GEventGraph} {o : List Nat} {n : Nat} (hg : graphB g = true) (ho : fire (eP g.Places) g.Events.toNat g.Events.toNat [] = some o) (hn : n ≤ 50) : FTs g n (gE (ttab g o (zeros g) n)) := by
  obtain ⟨hok, hol⟩ := fire_ok (GOk.of hg).edge _ [] o (OrderOk.nil _ _) ho
  have hol : o.length = g.Events.toNat := by simpa using hol
  obtain ⟨g1, g10, _, _, _⟩ := graphB_true hg
  have hrk := order_rank hg ho
  have hix : ∀ e, e < g.Events.toNat → o.idxOf e < 10 := fun e he => by
    have := List.idxOf_lt_length_of_mem (full_mem hok.nodup hok.lt hol he)
    omega
  have key : ∀ k, k < n → ∀ r e, o.idxOf e = r → e < g.Events.toNat → (0 ≤ gE (ttab g o (zeros g) n) k e ∧ gE (ttab g o (zeros g) n) k e ≤ 1000 * (10 * k + o.idxOf e + 1)) ∧ (∀ p, p ∈ g.Places → p.To = (e : Int) → p.Tokens ≤ (k : Int) → gE (ttab g o (zeros g) n) (k - p.Tokens.toNat) p.From.toNat + p.Delay ≤ gE (ttab g o (zeros g) n) k e) ∧ (gE (ttab g o (zeros g) n) k e = 0 ∨ ∃ p, p ∈ g.Places ∧ p.To = (e : Int) ∧ p.Tokens ≤ (k : Int) ∧ gE (ttab g o (zeros g) n) k e = gE (ttab g o (zeros g) n) (k - p.Tokens.toNat) p.From.toNat + p.Delay) := by
    intro k
    induction k using Nat.strongRecOn with
    | ind k ihk =>
      intro hk r
      induction r using Nat.strongRecOn with
      | ind r ihr =>
        intro e hr he
        have hb : ∀ i, i < g.Places.length → tc g k e i = true → tv g (gE (ttab g o (zeros g) n)) k i = gE (ttab g o (zeros g) n) (k - (plD g i).Tokens.toNat) (plD g i).From.toNat + (plD g i).Delay ∧ 0 ≤ tv g (gE (ttab g o (zeros g) n)) k i ∧ tv g (gE (ttab g o (zeros g) n)) k i ≤ 1000 * (10 * k + o.idxOf e + 1) := by
          intro i hi hc
          unfold tc at hc
          simp only [Bool.and_eq_true, beq_iff_eq, decide_eq_true_eq] at hc
          obtain ⟨r1, r2, r3, r4, r5, r6, r7, r8⟩ := graphB_range hg _ (List.mem_of_getElem? (plD_of hi))
          have hb1 : 0 ≤ gE (ttab g o (zeros g) n) (k - (plD g i).Tokens.toNat) (plD g i).From.toNat ∧ gE (ttab g o (zeros g) n) (k - (plD g i).Tokens.toNat) (plD g i).From.toNat ≤ 1000 * (10 * k + o.idxOf e) := by
            by_cases h0 : (plD g i).Tokens = 0
            · have hE := eP_of (u := (plD g i).From.toNat) (v := e) hi (by omega) hc.1 h0
              have hl := hrk _ _ hE
              rw [show k - (plD g i).Tokens.toNat = k by omega]
              have := (ihr (o.idxOf (plD g i).From.toNat) (by omega) _ rfl (by omega)).1
              omega
            · have := (ihk (k - (plD g i).Tokens.toNat) (by omega) (by omega) _ (plD g i).From.toNat rfl (by omega)).1
              have h10 := hix (plD g i).From.toNat (by omega)
              omega
          have he10 := hix e he
          unfold tv
          rw [wr (by omega) (by omega)]
          omega
        obtain ⟨f1, f2, f3⟩ := fold_max (tc g k e) (tv g (gE (ttab g o (zeros g) n)) k) (List.range g.Places.length) 0
        have hv := ttab_val hg ho hk he
        unfold tfold at hv
        rw [← hv] at f1 f2 f3
        refine ⟨⟨f1, ?_⟩, fun p hp ht hw => ?_, ?_⟩
        · rcases f3 with f3 | ⟨i, hi, hc, f3⟩
          · omega
          · have := (hb i (by simpa using hi) hc).2.2; omega
        · obtain ⟨i, hi, hpi⟩ := List.getElem_of_mem hp
          have hpi2 : plD g i = p := by unfold plD; rw [List.getD_eq_getElem?_getD, List.getElem?_eq_getElem hi, hpi]; rfl
          have hc : tc g k e i = true := by unfold tc; rw [hpi2, ht, decide_eq_true hw]; simp
          have h3 := f2 i (by simpa using hi) hc
          rw [(hb i hi hc).1, hpi2] at h3
          exact h3
        · rcases f3 with f3 | ⟨i, hi, hc, f3⟩
          · exact .inl f3
          · have hi : i < g.Places.length := by simpa using hi
            rw [(hb i hi hc).1] at f3
            unfold tc at hc
            simp only [Bool.and_eq_true, beq_iff_eq, decide_eq_true_eq] at hc
            exact .inr ⟨plD g i, List.mem_of_getElem? (plD_of hi), hc.1, hc.2, f3⟩
  exact fun k hk e he => by
    obtain ⟨h1, h2, h3⟩ := key k hk _ e rfl he
    exact ⟨h1.1, h2, h3⟩

/-! ### The pointers of a search for a better circuit -/
structure PtrOk {α : Type} (t f : α → Nat) (w : α → Int) (ps : List α) (x : Nat → Int) (vs : List Nat) (S : Nat → Prop) (τ : Nat → Nat) (T : Nat) : Prop where
  ptr : ∀ v, S v → ∃ k p, vs[v]? = some k ∧ ps[k]? = some p ∧ t p = v ∧ (x v < x (f p) + w p ∨ (x v = x (f p) + w p ∧ τ (f p) < τ v))
  tim : ∀ v, τ v ≤ T
  non : ∀ v, ¬ S v → x v = 0

theorem PtrOk.p_nil {α : Type} {t f : α → Nat} {w : α → Int} {ps : List α} {vs : List Nat} : PtrOk t f w ps (fun _ => 0) vs (fun _ => False) (fun _ => 0) 0 :=
  ⟨fun _ h => h.elim, fun _ => Nat.le_refl _, fun _ _ => rfl⟩

theorem PtrOk.p_step {α : Type} {t f : α → Nat} {w : α → Int} {ps : List α} {x : Nat → Int} {vs : List Nat} {S : Nat → Prop} {τ : Nat → Nat} {T k : Nat} {p : α} (h : PtrOk t f w ps x vs S τ T) (hp : ps[k]? = some p) (hv : t p < vs.length) (hc : x (t p) < x (f p) + w p) :
    PtrOk t f w ps (stp t f w x p) (vs.set (t p) k) (fun v => v = t p ∨ S v) (fun v => if v = t p then T + 1 else τ v) (T + 1) := by
  have hx : ∀ v, stp t f w x p v = if v = t p then x (f p) + w p else x v := by
    intro v; unfold stp
    by_cases e : v = t p
    · rw [if_pos e, if_pos e]; omega
    · rw [if_neg e, if_neg e]
  refine ⟨fun v hS => ?_, fun v => ?_, fun v hS => ?_⟩
  · by_cases e : v = t p
    · subst e
      refine ⟨k, p, by rw [List.getElem?_set, if_pos rfl, if_pos hv], hp, rfl, ?_⟩
      rw [hx, hx, if_pos rfl, if_pos rfl]
      by_cases e2 : f p = t p
      · rw [if_pos e2]; left; rw [e2] at hc ⊢; omega
      · rw [if_neg e2, if_neg e2]
        right; exact ⟨rfl, by have := h.tim (f p); omega⟩
    · have hS' : S v := hS.resolve_left e
      obtain ⟨k', q, a1, a2, a3, a4⟩ := h.ptr v hS'
      refine ⟨k', q, by rw [List.getElem?_set, if_neg (fun hh => e hh.symm)]; exact a1, a2, a3, ?_⟩
      rw [hx, hx, if_neg e, if_neg e]
      by_cases e2 : f q = t p
      · rw [if_pos e2]; left
        rw [e2] at a4
        rcases a4 with a4 | ⟨a4, _⟩ <;> omega
      · rw [if_neg e2, if_neg e2]; exact a4
  · show (if v = t p then T + 1 else τ v) ≤ T + 1
    split
    · exact Nat.le_refl _
    · have := h.tim v; omega
  · have e : v ≠ t p := fun e => hS (.inl e)
    rw [hx, if_neg e]
    exact h.non v fun h2 => hS (.inr h2)

/-- the place that an event points to, and the event before it -/
def viaP {α : Type} (ps : List α) (d : α) (vs : List Nat) (v : Nat) : α := (ps[(vs[v]?).getD 0]?).getD d

theorem viaP_of {α : Type} {ps : List α} {d p : α} {vs : List Nat} {v k : Nat} (h1 : vs[v]? = some k) (h2 : ps[k]? = some p) : viaP ps d vs v = p := by
  unfold viaP; rw [h1, Option.getD_some, h2, Option.getD_some]

theorem its_le {α : Type} {t f : α → Nat} {w : α → Int} (x : Nat → Int) (ps : List α) (v : Nat) : ∀ d k, its t f w x ps k v ≤ its t f w x ps (k + d) v
  | 0, _ => Int.le_refl _
  | d + 1, k => Int.le_trans (its_le x ps v d k) (rnd_ge ps _ v)

/-- a chain of pointers does not end early -/
theorem PtrOk.p_chain {α : Type} {t f : α → Nat} {w : α → Int} {ps : List α} {x : Nat → Int} {vs : List Nat} {S : Nat → Prop} {τ : Nat → Nat} {T : Nat} {d : α} (h : PtrOk t f w ps x vs S τ T) :
    ∀ (k v : Nat), (∀ i, i < k → S (itn (fun v => f (viaP ps d vs v)) i v)) → ¬ S (itn (fun v => f (viaP ps d vs v)) k v) → x v ≤ its t f w (fun _ => 0) ps k v
  | 0, v, _, h2 => by
    have h2 : ¬ S v := h2
    rw [h.non v h2]; exact Int.le_refl _
  | k + 1, v, h1, h2 => by
    have hS : S v := h1 0 (by omega)
    obtain ⟨k', p, a1, a2, a3, a4⟩ := h.ptr v hS
    have hv : viaP ps d vs v = p := viaP_of a1 a2
    have ih := PtrOk.p_chain h k (f (viaP ps d vs v)) (fun i hi => h1 (i + 1) (by omega)) h2
    have ha := rnd_arc (t := t) (f := f) (w := w) ps (its t f w (fun _ => 0) ps k) p (List.mem_of_getElem? a2)
    rw [hv] at ih
    rw [a3] at ha
    show x v ≤ rnd t f w (its t f w (fun _ => 0) ps k) ps v
    rcases a4 with a4 | ⟨a4, _⟩ <;> omega

/-- the weights along a chain -/
def chainW (φ : Nat → Nat) (ω : Nat → Int) : Nat → Nat → Int
  | 0, _ => 0
  | m + 1, v => ω v + chainW φ ω m (φ v)

theorem PtrOk.p_sum {α : Type} {t f : α → Nat} {w : α → Int} {ps : List α} {x : Nat → Int} {vs : List Nat} {S : Nat → Prop} {τ : Nat → Nat} {T : Nat} {d : α} (h : PtrOk t f w ps x vs S τ T) :
    ∀ (m v : Nat), (∀ i, i < m → S (itn (fun v => f (viaP ps d vs v)) i v)) → (m : Int) ≤ ((T : Int) + 1) * (x (itn (fun v => f (viaP ps d vs v)) m v) + chainW (fun v => f (viaP ps d vs v)) (fun v => w (viaP ps d vs v)) m v - x v) + ((τ v : Int) - (τ (itn (fun v => f (viaP ps d vs v)) m v) : Int))
  | 0, v, _ => by
    show ((0 : Nat) : Int) ≤ ((T : Int) + 1) * (x v + 0 - x v) + ((τ v : Int) - (τ v : Int))
    rw [show x v + 0 - x v = 0 by omega, Int.mul_zero]; omega
  | m + 1, v, h1 => by
    have hS : S v := h1 0 (by omega)
    obtain ⟨k', p, a1, a2, a3, a4⟩ := h.ptr v hS
    have hv : viaP ps d vs v = p := viaP_of a1 a2
    have ih := PtrOk.p_sum h m (f (viaP ps d vs v)) (fun i hi => h1 (i + 1) (by omega))
    have e1 : itn (fun v => f (viaP ps d vs v)) (m + 1) v = itn (fun v => f (viaP ps d vs v)) m (f (viaP ps d vs v)) := rfl
    have e2 : chainW (fun v => f (viaP ps d vs v)) (fun v => w (viaP ps d vs v)) (m + 1) v = w (viaP ps d vs v) + chainW (fun v => f (viaP ps d vs v)) (fun v => w (viaP ps d vs v)) m (f (viaP ps d vs v)) := rfl
    rw [e1, e2]
    rw [hv] at ih ⊢
    generalize itn (fun v => f (viaP ps d vs v)) m (f p) = u at ih ⊢
    generalize chainW (fun v => f (viaP ps d vs v)) (fun v => w (viaP ps d vs v)) m (f p) = c at ih ⊢
    have t1 := h.tim (f p)
    have t2 := h.tim v
    have e3 : ((T : Int) + 1) * (x u + (w p + c) - x v) = ((T : Int) + 1) * (x u + c - x (f p)) + ((T : Int) + 1) * (x (f p) + w p - x v) := by
      rw [← Int.mul_add]; congr 1; omega
    rw [e3]
    rcases a4 with a4 | ⟨a4, a5⟩
    · have h5 : ((T : Int) + 1) * 1 ≤ ((T : Int) + 1) * (x (f p) + w p - x v) := Int.mul_le_mul_of_nonneg_left (by omega) (by omega)
      rw [Int.mul_one] at h5
      omega
    · rw [show x (f p) + w p - x v = 0 by omega, Int.mul_zero]
      omega

/-- a cycle of pointers is positive -/
theorem PtrOk.p_cycle {α : Type} {t f : α → Nat} {w : α → Int} {ps : List α} {x : Nat → Int} {vs : List Nat} {S : Nat → Prop} {τ : Nat → Nat} {T : Nat} {d : α} (h : PtrOk t f w ps x vs S τ T) {m v : Nat} (hm : 0 < m) (hS : ∀ i, i < m → S (itn (fun v => f (viaP ps d vs v)) i v)) (hv : itn (fun v => f (viaP ps d vs v)) m v = v) :
    0 < chainW (fun v => f (viaP ps d vs v)) (fun v => w (viaP ps d vs v)) m v := by
  have h1 := h.p_sum m v hS
  rw [hv] at h1
  generalize chainW (fun v => f (viaP ps d vs v)) (fun v => w (viaP ps d vs v)) m v = c at h1 ⊢
  rw [show x v + c - x v = c by omega] at h1
  refine Int.not_le.1 fun hc => ?_
  have h2 : ((T : Int) + 1) * c ≤ ((T : Int) + 1) * 0 := Int.mul_le_mul_of_nonneg_left hc (by omega)
  rw [Int.mul_zero] at h2
  omega

/-- from the event that the last round changed, every pointer is a true one -/
theorem PtrOk.p_whole {α : Type} {t f : α → Nat} {w : α → Int} {ps : List α} {x : Nat → Int} {vs : List Nat} {S : Nat → Prop} {τ : Nat → Nat} {T n e : Nat} {d : α} (h : PtrOk t f w ps x vs S τ T) (hlt : ∀ v, v < n → f (viaP ps d vs v) < n) (he : e < n) (hx : its t f w (fun _ => 0) ps n e < x e) : ∀ k, S (itn (fun v => f (viaP ps d vs v)) k e) := by
  have first : ∀ k, k ≤ n → S (itn (fun v => f (viaP ps d vs v)) k e) := by
    intro k
    induction k using Nat.strongRecOn with
    | ind k ih =>
      intro hk
      refine Classical.byContradiction fun hS => ?_
      have h1 := h.p_chain k e (fun i hi => ih i hi (by omega)) hS
      have h2 := its_le (t := t) (f := f) (w := w) (fun _ => 0) ps e (n - k) k
      rw [show k + (n - k) = n by omega] at h2
      omega
  obtain ⟨p, q, h1, h2, h3⟩ := pigeon_n (n := n) (c := fun k => itn (fun v => f (viaP ps d vs v)) k e) (fun k _ => itn_lt hlt k he)
  have h3 : itn (fun v => f (viaP ps d vs v)) p e = itn (fun v => f (viaP ps d vs v)) q e := h3
  intro k
  induction k using Nat.strongRecOn with
  | ind k ih =>
    by_cases hk : k ≤ n
    · exact first k hk
    · have e1 : itn (fun v => f (viaP ps d vs v)) k e = itn (fun v => f (viaP ps d vs v)) (k - q + p) e := by
        rw [itn_add, h3, ← itn_add, show k - q + q = k by omega]
      rw [e1]
      exact ih _ (by omega)

/-! ### The search for a better circuit, at any ratio -/
def qW (r : GRatio) (p : GPlace) : Int := r.Den * p.Delay - r.Num * p.Tokens

def RatOk (r : GRatio) : Prop := 0 ≤ r.Num ∧ r.Num ≤ 100000 ∧ 1 ≤ r.Den ∧ r.Den ≤ 100

theorem qW_bd {g : GEventGraph} (h : graphB g = true) {r : GRatio} (hr : RatOk r) {p : GPlace} (hp : p ∈ g.Places) : -1000000 ≤ qW r p ∧ qW r p ≤ 1000000 ∧ IntKind.i64.wrap (IntKind.i64.wrap (r.Den * p.Delay) - IntKind.i64.wrap (r.Num * p.Tokens)) = qW r p := by
  obtain ⟨h0, h1, h2, h3⟩ := hr
  obtain ⟨r1, r2, r3, r4, r5, r6, r7, r8⟩ := graphB_range h p hp
  have a1 : 0 ≤ r.Num * p.Tokens := Int.mul_nonneg h0 (by omega)
  have a2 : r.Num * p.Tokens ≤ 100000 * 5 := Int.mul_le_mul h1 (by omega) (by omega) (by omega)
  have a3 : 0 ≤ r.Den * p.Delay := Int.mul_nonneg (by omega) (by omega)
  have a4 : r.Den * p.Delay ≤ 100 * 1000 := Int.mul_le_mul h3 (by omega) (by omega) (by omega)
  unfold qW
  refine ⟨by omega, by omega, ?_⟩
  rw [wr (n := r.Den * p.Delay) (by omega) (by omega), wr (n := r.Num * p.Tokens) (by omega) (by omega), wr (by omega) (by omega)]

/-- pointers and times that are kept somewhere -/
def PtrEx (g : GEventGraph) (r : GRatio) (x : Nat → Int) (vs : List Nat) : Prop := ∃ S τ T, PtrOk plT plF (qW r) g.Places x vs S τ T

theorem btr_round {F : Nat} {g : GEventGraph} {r : GRatio} (hF : 134217728 ≤ F) (h : graphB g = true) (hr : RatOk r) {x : Nat → Int} {M : Int} (hM : 0 ≤ M) (hM1 : M ≤ 1000000000000) (hx : ∀ i, i < g.Events.toNat → -M ≤ x i ∧ x i ≤ M) {vs : List Nat} (hv : ViaOk g.Events.toNat g.Places.length vs) (hP : PtrEx g r x vs) :
    ∃ vs' e, impl_betterCircuit_L5 F g r F (tb g.Events.toNat x) (nl vs) (-1) 0 = some (tb g.Events.toNat (rnd plT plF (qW r) x g.Places), nl vs', e) ∧ ViaOk g.Events.toNat g.Places.length vs' ∧ PtrEx g r (rnd plT plF (qW r) x g.Places) vs' ∧ ((e = -1 ∧ chd plT plF (qW r) x g.Places = false) ∨ ∃ e' : Nat, e = (e' : Int) ∧ e' < g.Events.toNat ∧ x e' < rnd plT plF (qW r) x g.Places e') := by
  obtain ⟨e1, e2, e3, _, _⟩ := graphB_true h
  refine for0 (L := fun m (s : List Int × List Int × Int) i => impl_betterCircuit_L5 F g r m s.1 s.2.1 s.2.2 i) (len := g.Places.length)
    (fun k s => s.1 = tb g.Events.toNat (rnd plT plF (qW r) x (g.Places.take k)) ∧ ∃ vs', s.2.1 = nl vs' ∧ ViaOk g.Events.toNat g.Places.length vs' ∧ PtrEx g r (rnd plT plF (qW r) x (g.Places.take k)) vs' ∧ ((s.2.2 = -1 ∧ chd plT plF (qW r) x (g.Places.take k) = false) ∨ ∃ e' : Nat, s.2.2 = (e' : Int) ∧ e' < g.Events.toNat ∧ x e' < rnd plT plF (qW r) x (g.Places.take k) e'))
    (R := fun o => ∃ vs' e, o = some (tb g.Events.toNat (rnd plT plF (qW r) x g.Places), nl vs', e) ∧ ViaOk g.Events.toNat g.Places.length vs' ∧ PtrEx g r (rnd plT plF (qW r) x g.Places) vs' ∧ ((e = -1 ∧ chd plT plF (qW r) x g.Places = false) ∨ ∃ e' : Nat, e = (e' : Int) ∧ e' < g.Events.toNat ∧ x e' < rnd plT plF (qW r) x g.Places e')) (s := (tb g.Events.toNat x, nl vs, -1)) ?_ ?_ ⟨rfl, vs, rfl, hv, hP, .inl ⟨rfl, rfl⟩⟩ (by omega)
  · rintro m k ⟨xs, us, e⟩ hk ⟨rfl, vs', rfl, hv', hP', he⟩
    have hp : g.Places[k]? = some g.Places[k] := List.getElem?_eq_getElem hk
    have hmem := List.getElem_mem hk
    have hge := rnd_ge (t := plT) (f := plF) (w := qW r) (g.Places.take k) x
    rw [List.take_add_one, hp, Option.toList_some, rnd_snoc, chd_snoc]
    have hy := rnd_bd (t := plT) (f := plF) (w := qW r) (n := g.Events.toNat) (ps := g.Places.take k) (x := x) (M := M) (fun p hp => ⟨⟨(pl_at h (List.mem_of_mem_take hp)).2.2.1, (pl_at h (List.mem_of_mem_take hp)).2.2.2⟩, (qW_bd h hr (List.mem_of_mem_take hp)).1, (qW_bd h hr (List.mem_of_mem_take hp)).2.1⟩) hx
    have hl : (g.Places.take k).length ≤ 30 := by rw [List.length_take]; omega
    generalize (g.Places.take k).length = l at hy hl
    generalize rnd plT plF (qW r) x (g.Places.take k) = y at hy he hP' hge
    generalize chd plT plF (qW r) x (g.Places.take k) = b at he
    generalize g.Places[k] = p at hp hmem
    obtain ⟨a1, a2, a3, a4⟩ := pl_at h hmem
    obtain ⟨b1, b2, a5⟩ := qW_bd h hr hmem
    have y1 := hy _ a3
    have y2 := hy _ a4
    have hw : IntKind.i64.wrap (y (plF p) + qW r p) = y (plF p) + qW r p := wr (by omega) (by omega)
    have hwk : IntKind.i64.wrap ((k : Int) + 1) = ((k + 1 : Nat) : Int) := wrN (by omega)
    by_cases hc : y (plT p) < y (plF p) + qW r p
    · obtain ⟨S, τ, T, hQ⟩ := hP'
      refine .inl ⟨(tb g.Events.toNat (stp plT plF (qW r) y p), nl (vs'.set (plT p) k), (plT p : Int)), ?_, rfl, _, rfl, via_set hv' hk _, ⟨_, _, _, hQ.p_step hp (by rw [hv'.1]; exact a3) hc⟩, .inr ⟨plT p, rfl, a3, ?_⟩⟩
      · simp only [impl_betterCircuit_L5, impl_placeWeight, bdT (show (k : Int) < (g.Places.length : Int) by omega), idx_nat, hp, Option.bind_some, a5]
        rw [a1, a2]
        simp only [idx_nat, tb_at a3, tb_at a4, Option.bind_some, hw, bdT hc, upd_nat _ (show plT p < (tb g.Events.toNat y).length by rw [tb_len]; exact a3), nl_at, List.getElem?_eq_getElem (show plT p < vs'.length by rw [hv'.1]; exact a3), Option.map_some, upd_nat _ (show plT p < (nl vs').length by rw [nl_len, hv'.1]; exact a3), nl_set, tb_set, hwk]
        congr 2
        funext i
        unfold stp
        by_cases ei : i = plT p
        · rw [if_pos ei, if_pos ei]; omega
        · rw [if_neg ei, if_neg ei]
      · have h1 := hge (plT p)
        have h2 := stp_arc (t := plT) (f := plF) (w := qW r) y p
        omega
    · refine .inl ⟨(tb g.Events.toNat (stp plT plF (qW r) y p), nl vs', e), ?_, rfl, _, rfl, hv', ?_, ?_⟩
      · rw [stp_same (show y (plF p) + qW r p ≤ y (plT p) by omega)]
        simp only [impl_betterCircuit_L5, impl_placeWeight, bdT (show (k : Int) < (g.Places.length : Int) by omega), idx_nat, hp, Option.bind_some, a5]
        rw [a1, a2]
        simp only [idx_nat, tb_at a3, tb_at a4, Option.bind_some, hw, bdF hc, hwk]
      · rw [stp_same (show y (plF p) + qW r p ≤ y (plT p) by omega)]; exact hP'
      · have : chg plT plF (qW r) y p = false := chg_false.2 (by omega)
        rw [this, Bool.or_false, stp_same (show y (plF p) + qW r p ≤ y (plT p) by omega)]; exact he
  · rintro m ⟨xs, us, e⟩ ⟨rfl, vs', rfl, hv', hP', he⟩
    rw [List.take_length] at he hP'
    refine ⟨vs', e, ?_, hv', hP', he⟩
    simp only [impl_betterCircuit_L5, bdF (show ¬ (g.Places.length : Int) < (g.Places.length : Int) by omega), List.take_length]

theorem itsq_small {g : GEventGraph} {r : GRatio} (h : graphB g = true) (hr : RatOk r) : ∀ (k i : Nat), i < g.Events.toNat → -(30000000 * (k : Int)) ≤ its plT plF (qW r) (fun _ => 0) g.Places k i ∧ its plT plF (qW r) (fun _ => 0) g.Places k i ≤ 30000000 * (k : Int) := by
  intro k
  obtain ⟨_, _, e3, _, _⟩ := graphB_true h
  induction k with
  | zero => intro i hi; show -(30000000 * ((0 : Nat) : Int)) ≤ (0 : Int) ∧ (0 : Int) ≤ _; omega
  | succ k ih =>
    intro i hi
    have := rnd_bd (t := plT) (f := plF) (w := qW r) (n := g.Events.toNat) (ps := g.Places) (fun p hp => ⟨⟨(pl_at h hp).2.2.1, (pl_at h hp).2.2.2⟩, (qW_bd h hr hp).1, (qW_bd h hr hp).2.1⟩) ih i hi
    show -(30000000 * ((k + 1 : Nat) : Int)) ≤ rnd plT plF (qW r) (its plT plF (qW r) (fun _ => 0) g.Places k) g.Places i ∧ rnd plT plF (qW r) (its plT plF (qW r) (fun _ => 0) g.Places k) g.Places i ≤ _
    omega

theorem btr_rounds {F : Nat} {g : GEventGraph} {r : GRatio} (hF : 134217728 ≤ F) (h : graphB g = true) (hr : RatOk r) {vs : List Nat} (hv : ViaOk g.Events.toNat g.Places.length vs) :
    (impl_betterCircuit_L4 F g r F (tb g.Events.toNat fun _ => 0) (nl vs) (-1) 0 = some (.inl []) ∧ ∃ x : Nat → Int, ∀ p, p ∈ g.Places → x (plF p) + qW r p ≤ x (plT p)) ∨ ∃ vs' e x, impl_betterCircuit_L4 F g r F (tb g.Events.toNat fun _ => 0) (nl vs) (-1) 0 = some (.inr (nl vs', ((e : Nat) : Int))) ∧ ViaOk g.Events.toNat g.Places.length vs' ∧ e < g.Events.toNat ∧ PtrEx g r x vs' ∧ its plT plF (qW r) (fun _ => 0) g.Places g.Events.toNat e < x e := by
  obtain ⟨e1, e2, e3, _, _⟩ := graphB_true h
  have hw1 : IntKind.i64.wrap (g.Events + 1) = ((g.Events.toNat + 1 : Nat) : Int) := by rw [wr (by omega) (by omega)]; omega
  refine for0 (L := fun m (s : List Int × List Int × Int) i => impl_betterCircuit_L4 F g r m s.1 s.2.1 s.2.2 i) (len := g.Events.toNat + 1)
    (fun k s => s.1 = tb g.Events.toNat (its plT plF (qW r) (fun _ => 0) g.Places k) ∧ (∃ vs', s.2.1 = nl vs' ∧ ViaOk g.Events.toNat g.Places.length vs' ∧ PtrEx g r (its plT plF (qW r) (fun _ => 0) g.Places k) vs') ∧ (k = 0 ∨ ∃ e' : Nat, s.2.2 = (e' : Int) ∧ e' < g.Events.toNat ∧ its plT plF (qW r) (fun _ => 0) g.Places (k - 1) e' < its plT plF (qW r) (fun _ => 0) g.Places k e'))
    (R := fun o => (o = some (.inl []) ∧ ∃ x : Nat → Int, ∀ p, p ∈ g.Places → x (plF p) + qW r p ≤ x (plT p)) ∨ ∃ vs' e x, o = some (.inr (nl vs', ((e : Nat) : Int))) ∧ ViaOk g.Events.toNat g.Places.length vs' ∧ e < g.Events.toNat ∧ PtrEx g r x vs' ∧ its plT plF (qW r) (fun _ => 0) g.Places g.Events.toNat e < x e) (s := (tb g.Events.toNat fun _ => 0, nl vs, -1)) ?_ ?_ ⟨rfl, ⟨vs, rfl, hv, _, _, _, PtrOk.p_nil⟩, .inl rfl⟩ (by omega)
  · intro m k s hk hs
    have hwk : IntKind.i64.wrap ((k : Int) + 1) = ((k + 1 : Nat) : Int) := wrN (by omega)
    have hlt : (k : Int) < ((g.Events.toNat + 1 : Nat) : Int) := by omega
    revert hs
    obtain ⟨xs, us, e⟩ := s
    rintro ⟨rfl, ⟨vs', rfl, hv', hP'⟩, _⟩
    have hb := itsq_small h hr k
    obtain ⟨vs2, e2, hrd, hv2, hP2, he⟩ := btr_round hF h hr (x := its plT plF (qW r) (fun _ => 0) g.Places k) (M := 30000000 * (k : Int)) (by omega) (by omega) hb hv' hP'
    have S : impl_betterCircuit_L4 F g r (m + 1) (tb g.Events.toNat (its plT plF (qW r) (fun _ => 0) g.Places k)) (nl vs') e (k : Int) = bif decide (e2 < 0) then some (.inl []) else impl_betterCircuit_L4 F g r m (tb g.Events.toNat (its plT plF (qW r) (fun _ => 0) g.Places (k + 1))) (nl vs2) e2 ((k + 1 : Nat) : Int) := by
      simp only [impl_betterCircuit_L4, hw1, bdT hlt, hrd, Option.bind_some, hwk]
      rfl
    rcases he with ⟨rfl, hc⟩ | ⟨e', rfl, he', hc⟩
    · exact .inr (.inl ⟨S.trans rfl, _, (chd_false hc).2⟩)
    · refine .inl ⟨(tb g.Events.toNat (its plT plF (qW r) (fun _ => 0) g.Places (k + 1)), nl vs2, (e' : Int)), ?_, rfl, ⟨vs2, rfl, hv2, hP2⟩, .inr ⟨e', rfl, he', hc⟩⟩
      exact S.trans (by rw [bdF (show ¬ (e' : Int) < 0 by omega)])
  · rintro m ⟨xs, us, e⟩ ⟨rfl, ⟨vs', rfl, hv', hP'⟩, he⟩
    rcases he with he | ⟨e', rfl, he', hc⟩
    · omega
    · refine .inr ⟨vs', e', _, ?_, hv', he', hP', hc⟩
      simp only [impl_betterCircuit_L4, hw1, bdF (show ¬ ((g.Events.toNat + 1 : Nat) : Int) < ((g.Events.toNat + 1 : Nat) : Int) by omega)]

/-- the circuit that the pointers hold is better -/
theorem btr_cycle {g : GEventGraph} {r : GRatio} (h : graphB g = true) {vs : List Nat} {x : Nat → Int} {e : Nat} (hv : ViaOk g.Events.toNat g.Places.length vs) (hP : PtrEx g r x vs) (he : e < g.Events.toNat) (hx : its plT plF (qW r) (fun _ => 0) g.Places g.Events.toNat e < x e) {m : Nat} (hm : 0 < m) (hc : itn (backN g vs) m (itn (backN g vs) g.Events.toNat e) = itn (backN g vs) g.Events.toNat e) :
    0 < chainW (backN g vs) (fun v => qW r (viaP g.Places ⟨0, 0, 0, 0⟩ vs v)) m (itn (backN g vs) g.Events.toNat e) ∧ ∀ i, plT (viaP g.Places ⟨0, 0, 0, 0⟩ vs (itn (backN g vs) i e)) = itn (backN g vs) i e := by
  obtain ⟨S, τ, T, hQ⟩ := hP
  have hb : (backN g vs) = fun v => plF (viaP g.Places ⟨0, 0, 0, 0⟩ vs v) := rfl
  have hlt : ∀ v, v < g.Events.toNat → backN g vs v < g.Events.toNat := fun v hn => by
    obtain ⟨_, _, _, _, _, hb⟩ := back_at h hv hn
    exact hb
  have hall := hQ.p_whole (d := GPlace.mk 0 0 0 0) (n := g.Events.toNat) (e := e) hlt he hx
  refine ⟨?_, fun i => ?_⟩
  · refine hQ.p_cycle (d := GPlace.mk 0 0 0 0) hm (fun i _ => ?_) hc
    have := hall (i + g.Events.toNat)
    rw [itn_add] at this
    exact this
  · obtain ⟨k, p, a1, a2, a3, _⟩ := hQ.ptr _ (hall i)
    rw [hb, viaP_of a1 a2]; exact a3

/-! ### The circuit that is gathered -/
def chainL (vs : List Nat) (φ : Nat → Nat) : Nat → Nat → List Int
  | 0, _ => []
  | m + 1, v => (((vs[v]?).getD 0 : Nat) : Int) :: chainL vs φ m (φ v)

theorem btr_gather {F : Nat} {g : GEventGraph} (h : graphB g = true) {vs : List Nat} (hv : ViaOk g.Events.toNat g.Places.length vs) {s : Nat} : ∀ (m : Nat) {x : Nat} {xs : List Int} {fuel : Nat}, x < g.Events.toNat → itn (backN g vs) (m + 1) x = s → m < fuel → xs.length + m + 1 ≤ 1000 →
    ∃ d, d ≤ m ∧ impl_betterCircuit_L7 F g (nl vs) (s : Int) fuel xs (x : Int) = some (xs ++ chainL vs (backN g vs) (d + 1) x) ∧ itn (backN g vs) (d + 1) x = s := by
  intro m
  induction m with
  | zero =>
    intro x xs fuel hx hs hf hl
    obtain ⟨fuel, rfl⟩ : ∃ k, fuel = k + 1 := ⟨fuel - 1, by omega⟩
    obtain ⟨u, p, h1, h2, h3, _⟩ := back_at h hv hx
    have hs' : backN g vs x = s := hs
    have hch : chainL vs (backN g vs) (0 + 1) x = [(u : Int)] := by unfold chainL chainL; rw [h1]; rfl
    refine ⟨0, Nat.le_refl _, ?_, hs⟩
    rw [hch]
    simp only [impl_betterCircuit_L7, idx_nat, nl_at, h1, Option.map_some, Option.bind_some, app_le (show xs.length + [(u : Int)].length ≤ 67108864 by simp only [List.length_singleton]; omega), h2, h3, hs', beq_self_eq_true, cond_true]
  | succ m ih =>
    intro x xs fuel hx hs hf hl
    obtain ⟨fuel, rfl⟩ : ∃ k, fuel = k + 1 := ⟨fuel - 1, by omega⟩
    obtain ⟨u, p, h1, h2, h3, h4⟩ := back_at h hv hx
    by_cases hc : backN g vs x = s
    · have hch : chainL vs (backN g vs) (0 + 1) x = [(u : Int)] := by unfold chainL chainL; rw [h1]; rfl
      refine ⟨0, by omega, ?_, hc⟩
      rw [hch]
      simp only [impl_betterCircuit_L7, idx_nat, nl_at, h1, Option.map_some, Option.bind_some, app_le (show xs.length + [(u : Int)].length ≤ 67108864 by simp only [List.length_singleton]; omega), h2, h3, hc, beq_self_eq_true, cond_true]
    · obtain ⟨d, h5, h6, h7⟩ := ih (x := backN g vs x) (xs := xs ++ [(u : Int)]) (fuel := fuel) h4 hs (by omega) (by rw [List.length_append, List.length_singleton]; omega)
      refine ⟨d + 1, by omega, ?_, h7⟩
      have hch : chainL vs (backN g vs) (d + 1 + 1) x = (u : Int) :: chainL vs (backN g vs) (d + 1) (backN g vs x) := by
        show (((vs[x]?).getD 0 : Nat) : Int) :: _ = _
        rw [h1]; rfl
      rw [hch]
      rw [List.append_assoc] at h6
      simp only [impl_betterCircuit_L7, idx_nat, nl_at, h1, Option.map_some, Option.bind_some, app_le (show xs.length + [(u : Int)].length ≤ 67108864 by simp only [List.length_singleton]; omega), h2, h3, beq_false_of_ne (show ((backN g vs x : Nat) : Int) ≠ (s : Int) by omega), cond_false, h6]
      rfl

theorem reverse_perm {F : Nat} : ∀ (m : Nat) {fuel : Nat} {xs : List Int} {i j : Int}, 0 ≤ i → j < (xs.length : Int) → -1 ≤ j → j - i ≤ (m : Int) → m < fuel → xs.length ≤ 1048576 → i ≤ 1048576 → ∃ ys, slices_Reverse_int64_L1 F fuel xs i j = some ys ∧ List.Perm ys xs := by
  intro m
  induction m with
  | zero =>
    intro fuel xs i j h0 h1 h2 h3 h4 h5 h6
    obtain ⟨fuel, rfl⟩ : ∃ k, fuel = k + 1 := ⟨fuel - 1, by omega⟩
    exact ⟨xs, by simp only [slices_Reverse_int64_L1, bdF (show ¬ i < j by omega)], List.Perm.refl _⟩
  | succ m ih =>
    intro fuel xs i j h0 h1 h2 h3 h4 h5 h6
    obtain ⟨fuel, rfl⟩ : ∃ k, fuel = k + 1 := ⟨fuel - 1, by omega⟩
    by_cases hc : i < j
    · obtain ⟨i', rfl⟩ : ∃ k : Nat, i = (k : Int) := ⟨i.toNat, by omega⟩
      obtain ⟨j', rfl⟩ : ∃ k : Nat, j = (k : Int) := ⟨j.toNat, by omega⟩
      have li : i' < xs.length := by omega
      have lj : j' < xs.length := by omega
      obtain ⟨ys, e1, e2⟩ := ih (fuel := fuel) (xs := (xs.set i' xs[j']).set j' xs[i']) (i := ((i' + 1 : Nat) : Int)) (j := (j' : Int) - 1) (by omega) (by rw [List.length_set, List.length_set]; omega) (by omega) (by omega) (by omega) (by rw [List.length_set, List.length_set]; omega) (by omega)
      refine ⟨ys, ?_, e2.trans (List.set_set_perm li lj)⟩
      have l2 : j' < (xs.set i' xs[j']).length := by rw [List.length_set]; exact lj
      simp only [slices_Reverse_int64_L1, bdT hc, idx_nat, List.getElem?_eq_getElem li, List.getElem?_eq_getElem lj, List.getElem?_eq_getElem l2, Option.bind_some, upd_nat _ li, upd_nat _ l2, wrN (show i' ≤ 67108864 by omega), wr (show -9223372036854775808 ≤ (j' : Int) - 1 by omega) (by omega), e1]
    · exact ⟨xs, by simp only [slices_Reverse_int64_L1, bdF hc], List.Perm.refl _⟩

/-! ### Sums over a circuit -/
def pS (g : GEventGraph) (f : GPlace → Int) (c : List Int) : Int := c.foldr (fun i s => f (plD g i.toNat) + s) 0

theorem pS_cons (g : GEventGraph) (f : GPlace → Int) (i : Int) (c : List Int) : pS g f (i :: c) = f (plD g i.toNat) + pS g f c := rfl

theorem pS_perm {g : GEventGraph} {f : GPlace → Int} {a b : List Int} (h : List.Perm a b) : pS g f a = pS g f b := by
  induction h with
  | nil => rfl
  | cons i _ ih => rw [pS_cons, pS_cons, ih]
  | swap i j l => rw [pS_cons, pS_cons, pS_cons, pS_cons]; omega
  | trans _ _ h1 h2 => exact h1.trans h2

theorem pS_add (g : GEventGraph) (f f' : GPlace → Int) : ∀ c : List Int, pS g (fun p => f p + f' p) c = pS g f c + pS g f' c
  | [] => rfl
  | i :: c => by rw [pS_cons, pS_cons, pS_cons, pS_add g f f' c]; omega

theorem pS_mul (g : GEventGraph) (k : Int) (f : GPlace → Int) : ∀ c : List Int, pS g (fun p => k * f p) c = k * pS g f c
  | [] => by show (0 : Int) = k * 0; rw [Int.mul_zero]
  | i :: c => by rw [pS_cons, pS_cons, pS_mul g k f c, Int.mul_add]

theorem pS_le {g : GEventGraph} {f f' : GPlace → Int} : ∀ c : List Int, (∀ i, i ∈ c → f (plD g i.toNat) ≤ f' (plD g i.toNat)) → pS g f c ≤ pS g f' c
  | [], _ => Int.le_refl _
  | i :: c, h => by
    have h1 := h i List.mem_cons_self
    have h2 := pS_le c fun j hj => h j (List.mem_cons_of_mem _ hj)
    rw [pS_cons, pS_cons]; omega

/-- a circuit, for all that is asked of it: every potential has the same sum over the heads as over the tails -/
structure Clo (g : GEventGraph) (c : List Int) : Prop where
  rng : ∀ i, i ∈ c → 0 ≤ i ∧ i < (g.Places.length : Int)
  bal : ∀ y : Nat → Int, pS g (fun p => y (plT p)) c = pS g (fun p => y (plF p)) c

theorem chain_sum {g : GEventGraph} {vs : List Nat} (f : GPlace → Int) : ∀ (m v : Nat), pS g f (chainL vs (backN g vs) m v) = chainW (backN g vs) (fun v => f (viaP g.Places ⟨0, 0, 0, 0⟩ vs v)) m v
  | 0, _ => rfl
  | m + 1, v => by
    show pS g f ((((vs[v]?).getD 0 : Nat) : Int) :: chainL vs (backN g vs) m (backN g vs v)) = _
    rw [pS_cons, chain_sum f m]
    have e : plD g (((vs[v]?).getD 0 : Nat) : Int).toNat = viaP g.Places ⟨0, 0, 0, 0⟩ vs v := by
      unfold plD viaP; rw [Int.toNat_natCast, List.getD_eq_getElem?_getD]
    rw [e]; rfl

theorem chain_tele {g : GEventGraph} {vs : List Nat} (y : Nat → Int) : ∀ (m v : Nat), (∀ i, i < m → plT (viaP g.Places ⟨0, 0, 0, 0⟩ vs (itn (backN g vs) i v)) = itn (backN g vs) i v) → chainW (backN g vs) (fun v => y (plT (viaP g.Places ⟨0, 0, 0, 0⟩ vs v))) m v - chainW (backN g vs) (fun v => y (plF (viaP g.Places ⟨0, 0, 0, 0⟩ vs v))) m v = y v - y (itn (backN g vs) m v)
  | 0, v, _ => by show (0 : Int) - 0 = y v - y v; omega
  | m + 1, v, h => by
    have ih := chain_tele y m (backN g vs v) fun i hi => h (i + 1) (by omega)
    have h0 : plT (viaP g.Places ⟨0, 0, 0, 0⟩ vs v) = v := h 0 (by omega)
    have e1 : itn (backN g vs) (m + 1) v = itn (backN g vs) m (backN g vs v) := rfl
    have e2 : plF (viaP g.Places ⟨0, 0, 0, 0⟩ vs v) = backN g vs v := rfl
    show (y (plT (viaP g.Places ⟨0, 0, 0, 0⟩ vs v)) + chainW (backN g vs) (fun v => y (plT (viaP g.Places ⟨0, 0, 0, 0⟩ vs v))) m (backN g vs v)) - (y (plF (viaP g.Places ⟨0, 0, 0, 0⟩ vs v)) + chainW (backN g vs) (fun v => y (plF (viaP g.Places ⟨0, 0, 0, 0⟩ vs v))) m (backN g vs v)) = _
    rw [h0, e1, e2]; omega

theorem chain_rng {g : GEventGraph} {vs : List Nat} (h : graphB g = true) (hv : ViaOk g.Events.toNat g.Places.length vs) : ∀ (m v : Nat), v < g.Events.toNat → ∀ i, i ∈ chainL vs (backN g vs) m v → 0 ≤ i ∧ i < (g.Places.length : Int)
  | 0, _, _, i, hi => by cases hi
  | m + 1, v, hn, i, hi => by
    obtain ⟨u, p, h1, h2, h3, h4⟩ := back_at h hv hn
    have hi : i ∈ (((vs[v]?).getD 0 : Nat) : Int) :: chainL vs (backN g vs) m (backN g vs v) := hi
    rcases List.mem_cons.1 hi with rfl | hi
    · have := (List.getElem?_eq_some_iff.1 h2).1
      rw [h1, Option.getD_some]; omega
    · exact chain_rng h hv m _ h4 i hi

/-- betterCircuit: a potential, or a circuit that is better -/
theorem btr_is {F : Nat} {g : GEventGraph} {r : GRatio} (hF : 134217728 ≤ F) (h : graphB g = true) (hr : RatOk r) (hne : g.Places ≠ []) :
    (impl_betterCircuit F g r = some [] ∧ ∃ x : Nat → Int, ∀ p, p ∈ g.Places → x (plF p) + qW r p ≤ x (plT p)) ∨ ∃ c, impl_betterCircuit F g r = some c ∧ c ≠ [] ∧ c.length ≤ 10 ∧ Clo g c ∧ 0 < pS g (qW r) c := by
  obtain ⟨e1, e2, e3, _, _⟩ := graphB_true h
  have hmk : mk g.Events (0 : Int) = some (List.replicate g.Events.toNat 0) := mk_int 0 (by omega) (by omega)
  have hnl : List.replicate g.Events.toNat (0 : Int) = nl (List.replicate g.Events.toNat 0) := by unfold nl; simp
  have hv : ViaOk g.Events.toNat g.Places.length (List.replicate g.Events.toNat 0) := ⟨by simp, fun v hv => by
    have := List.length_pos_iff.2 hne
    have := (List.mem_replicate.1 hv).2
    omega⟩
  unfold impl_betterCircuit
  rw [hmk, Option.bind_some, Option.bind_some]
  rcases btr_rounds hF h hr hv with ⟨hrd, hx⟩ | ⟨vs', e, x, hrd, hv', he, hP, hx⟩
  · rw [← tb_zero, ← hnl] at hrd
    rw [hrd]
    exact .inl ⟨rfl, hx⟩
  · rw [← tb_zero, ← hnl] at hrd
    have hlt : ∀ v, v < g.Events.toNat → backN g vs' v < g.Events.toNat := fun v hn => by
      obtain ⟨_, _, _, _, _, hb⟩ := back_at h hv' hn
      exact hb
    obtain ⟨d, hd, hback⟩ := itn_back hlt he
    obtain ⟨d', h4, h5, h6⟩ := btr_gather (F := F) h hv' d (x := itn (backN g vs') g.Events.toNat e) (xs := []) (fuel := F) (itn_lt hlt _ he) hback (by omega) (by simp only [List.length_nil]; omega)
    rw [List.nil_append] at h5
    have hln : ∀ (m v : Nat), (chainL vs' (backN g vs') m v).length = m := by
      intro m
      induction m with
      | zero => intro _; rfl
      | succ m ih => intro v; show (_ :: chainL vs' (backN g vs') m _).length = _; rw [List.length_cons, ih]
    obtain ⟨q1, q2⟩ := btr_cycle h hv' hP he hx (m := d' + 1) (by omega) h6
    have hl := hln (d' + 1) (itn (backN g vs') g.Events.toNat e)
    obtain ⟨ys, r1, r2⟩ := reverse_perm (F := F) (chainL vs' (backN g vs') (d' + 1) (itn (backN g vs') g.Events.toNat e)).length (fuel := F) (xs := chainL vs' (backN g vs') (d' + 1) (itn (backN g vs') g.Events.toNat e)) (i := 0) (j := ((chainL vs' (backN g vs') (d' + 1) (itn (backN g vs') g.Events.toNat e)).length : Int) - 1) (by omega) (by omega) (by omega) (by omega) (by omega) (by omega) (by omega)
    have hrv : slices_Reverse_int64 F (chainL vs' (backN g vs') (d' + 1) (itn (backN g vs') g.Events.toNat e)) = some ((), ys) := by
      unfold slices_Reverse_int64
      rw [wr (by omega) (by omega), r1]; rfl
    have hyl := r2.length_eq
    have hz : ys ≠ [] := fun hz => by rw [hz, List.length_nil] at hyl; omega
    have hne2 : nonE ys = some () := by
      cases ys with
      | nil => exact absurd rfl hz
      | cons _ _ => rfl
    refine .inr ⟨ys, ?_, hz, by omega, ⟨fun i hi => chain_rng h hv' _ _ (itn_lt hlt _ he) i (r2.mem_iff.1 hi), fun y => ?_⟩, ?_⟩
    · rw [hrd]
      simp only [Option.bind_some, better_back hF h hv' he, h5, hrv, hne2]
    · rw [pS_perm r2, pS_perm r2, chain_sum, chain_sum]
      have ht := chain_tele (g := g) (vs := vs') y (d' + 1) (itn (backN g vs') g.Events.toNat e) (fun i _ => by rw [← itn_add]; exact q2 _)
      rw [h6] at ht
      omega
    · rw [pS_perm r2, chain_sum]; exact q1

/-! ### The sums of a circuit and what they bound -/
def sDel (g : GEventGraph) (c : List Int) : Int := pS g (fun p => p.Delay) c

def sTok (g : GEventGraph) (c : List Int) : Int := pS g (fun p => p.Tokens) c

theorem pS_qW (g : GEventGraph) (r : GRatio) (c : List Int) : pS g (qW r) c = r.Den * sDel g c - r.Num * sTok g c := by
  have h := pS_add g (fun p => r.Den * p.Delay) (fun p => (-r.Num) * p.Tokens) c
  rw [pS_mul, pS_mul] at h
  have e : (qW r) = fun p => r.Den * p.Delay + (-r.Num) * p.Tokens := by
    funext p; unfold qW; rw [Int.neg_mul]; omega
  rw [e, h, Int.neg_mul]
  unfold sDel sTok
  exact (Int.sub_eq_add_neg).symm

theorem Clo.pot {g : GEventGraph} {c : List Int} (h : Clo g c) {r : GRatio} {x : Nat → Int} (hx : ∀ p, p ∈ g.Places → x (plF p) + qW r p ≤ x (plT p)) : r.Den * sDel g c ≤ r.Num * sTok g c := by
  have h1 := pS_le (g := g) (f := fun p => x (plF p) + qW r p) (f' := fun p => x (plT p)) c fun i hi => by
    obtain ⟨i0, i1⟩ := h.rng i hi
    exact hx _ (List.mem_of_getElem? (plD_of (by omega)))
  have h2 := h.bal x
  have h3 := pS_add g (fun p => x (plF p)) (qW r) c
  rw [h3, pS_qW] at h1
  omega

theorem pS_bd {g : GEventGraph} {f : GPlace → Int} {M : Int} : ∀ c : List Int, (∀ i, i ∈ c → 0 ≤ f (plD g i.toNat) ∧ f (plD g i.toNat) ≤ M) → 0 ≤ pS g f c ∧ pS g f c ≤ M * c.length
  | [], _ => by show (0 : Int) ≤ 0 ∧ (0 : Int) ≤ M * ((0 : Nat) : Int); simp
  | i :: c, h => by
    have h1 := h i List.mem_cons_self
    have h2 := pS_bd c fun j hj => h j (List.mem_cons_of_mem _ hj)
    rw [pS_cons, List.length_cons, Int.natCast_succ, Int.mul_add, Int.mul_one]
    omega

theorem pS_zero {g : GEventGraph} {f : GPlace → Int} : ∀ c : List Int, (∀ i, i ∈ c → 0 ≤ f (plD g i.toNat)) → pS g f c ≤ 0 → ∀ i, i ∈ c → f (plD g i.toNat) = 0
  | [], _, _, i, hi => by cases hi
  | j :: c, h, h0, i, hi => by
    have h1 := h j List.mem_cons_self
    have h2 : 0 ≤ pS g f c := by
      have := pS_le (g := g) (f := fun _ => 0) (f' := f) c fun k hk => h k (List.mem_cons_of_mem _ hk)
      have e := pS_mul g 0 (fun _ => 0) c
      rw [Int.zero_mul] at e
      simp only at e
      omega
    rw [pS_cons] at h0
    rcases List.mem_cons.1 hi with rfl | hi
    · omega
    · exact pS_zero c (fun k hk => h k (List.mem_cons_of_mem _ hk)) (by omega) i hi

theorem Clo.tok {g : GEventGraph} {c : List Int} (hg : graphB g = true) (h : Clo g c) (hne : c ≠ []) {ρ : Nat → Nat} (hρ : ∀ u v, eP g.Places u v = true → ρ u < ρ v) : 0 < sTok g c := by
  refine Int.not_le.1 fun h0 => ?_
  have hz := pS_zero (g := g) (f := fun p => p.Tokens) c (fun i hi => by
    obtain ⟨i0, i1⟩ := h.rng i hi
    exact (graphB_range hg _ (List.mem_of_getElem? (plD_of (g := g) (k := i.toNat) (by omega)))).2.2.2.2.2.2.1) h0
  have h1 := pS_le (g := g) (f := fun p => (ρ (plF p) : Int) + 1) (f' := fun p => (ρ (plT p) : Int)) c fun i hi => by
    obtain ⟨i0, i1⟩ := h.rng i hi
    obtain ⟨a1, a2, _, _⟩ := pl_at hg (List.mem_of_getElem? (plD_of (g := g) (k := i.toNat) (by omega)))
    have := hρ _ _ (eP_mem (List.mem_of_getElem? (plD_of (g := g) (k := i.toNat) (by omega))) (hz i hi) a2 a1)
    show ((ρ (plF (plD g i.toNat)) : Nat) : Int) + 1 ≤ _
    omega
  have h2 := h.bal fun v => (ρ v : Int)
  have h3 := pS_add g (fun p => (ρ (plF p) : Int)) (fun _ => 1) c
  rw [h3, h2] at h1
  have h4 : 0 < pS g (fun _ => 1) c := by
    cases c with
    | nil => exact absurd rfl hne
    | cons i c =>
      rw [pS_cons]
      have := (pS_bd (g := g) (f := fun _ => 1) (M := 1) c (fun _ _ => ⟨by decide, by decide⟩)).1
      omega
  omega

theorem sums_is {F : Nat} {g : GEventGraph} {c : List Int} (hF : 134217728 ≤ F) (hg : graphB g = true) (hc : c.length ≤ 10) (h : ∀ i, i ∈ c → 0 ≤ i ∧ i < (g.Places.length : Int)) : impl_circuitSums F g c = some (sDel g c, sTok g c) := by
  unfold impl_circuitSums
  have key : ∀ (d : List Int) (pre : List Int) (a b : Int) (fuel : Nat), c = pre ++ d → d.length < fuel → 0 ≤ a ∧ a ≤ 1000 * pre.length → 0 ≤ b ∧ b ≤ 5 * pre.length → impl_circuitSums_L1 F g c fuel a b (pre.length : Int) = some (a + sDel g d, b + sTok g d) := by
    intro d
    induction d with
    | nil =>
      intro pre a b fuel e hf ha hb
      obtain ⟨fuel, rfl⟩ : ∃ k, fuel = k + 1 := ⟨fuel - 1, by simp at hf; omega⟩
      rw [List.append_nil] at e
      subst e
      simp only [impl_circuitSums_L1, bdF (show ¬ (c.length : Int) < (c.length : Int) by omega)]
      show some (a, b) = some (a + 0, b + 0)
      rw [Int.add_zero, Int.add_zero]
    | cons i d ih =>
      intro pre a b fuel e hf ha hb
      obtain ⟨fuel, rfl⟩ : ∃ k, fuel = k + 1 := ⟨fuel - 1, by simp at hf; omega⟩
      have hcl : c.length = pre.length + (d.length + 1) := by rw [e, List.length_append, List.length_cons]
      have hci : c[pre.length]? = some i := by rw [e]; simp
      obtain ⟨i0, i1⟩ := h i (List.mem_of_getElem? hci)
      have hx : idx g.Places i = some (plD g i.toNat) := by
        have := idx_nat g.Places i.toNat
        rw [show ((i.toNat : Nat) : Int) = i by omega] at this
        rw [this, plD_of (by omega)]
      obtain ⟨r1, r2, r3, r4, r5, r6, r7, r8⟩ := graphB_range hg _ (List.mem_of_getElem? (plD_of (g := g) (k := i.toNat) (by omega)))
      have hl : ((pre ++ [i]).length : Int) = (pre.length : Int) + 1 := by rw [List.length_append, List.length_singleton]; omega
      have ih' := ih (pre ++ [i]) (a + (plD g i.toNat).Delay) (b + (plD g i.toNat).Tokens) fuel (by rw [List.append_assoc]; exact e) (by simp at hf; omega) (by rw [hl]; omega) (by rw [hl]; omega)
      rw [hl] at ih'
      simp only [impl_circuitSums_L1, bdT (show (pre.length : Int) < (c.length : Int) by omega), idx_nat, hci, Option.bind_some, hx, wr (n := a + (plD g i.toNat).Delay) (by omega) (by omega), wr (n := b + (plD g i.toNat).Tokens) (by omega) (by omega), wr (n := (pre.length : Int) + 1) (by omega) (by omega), ih']
      unfold sDel sTok
      rw [pS_cons, pS_cons, Int.add_assoc, Int.add_assoc]
  have := key c [] 0 0 F rfl (by omega) (by simp) (by simp)
  rw [show ((([] : List Int).length : Nat) : Int) = 0 from rfl] at this
  rw [this, Option.bind_some, Int.zero_add, Int.zero_add]

/-! ### Fractions in lowest terms -/
theorem divisor_is {F : Nat} : ∀ (m : Nat) {fuel a b : Nat}, b ≤ m → m < fuel → impl_divisorOf_L1 F fuel (a : Int) (b : Int) = some ((Nat.gcd a b : Nat) : Int)
  | 0, fuel, a, b, hb, hf => by
    obtain ⟨fuel, rfl⟩ : ∃ k, fuel = k + 1 := ⟨fuel - 1, by omega⟩
    obtain rfl : b = 0 := by omega
    simp only [impl_divisorOf_L1, bdF (show ¬ (0 : Int) < ((0 : Nat) : Int) by omega), Nat.gcd_zero_right]
  | m + 1, fuel, a, b, hb, hf => by
    obtain ⟨fuel, rfl⟩ : ∃ k, fuel = k + 1 := ⟨fuel - 1, by omega⟩
    by_cases h0 : b = 0
    · subst h0
      simp only [impl_divisorOf_L1, bdF (show ¬ (0 : Int) < ((0 : Nat) : Int) by omega), Nat.gcd_zero_right]
    · have hlt := Nat.mod_lt a (show 0 < b by omega)
      have ih := divisor_is (F := F) m (fuel := fuel) (a := b) (b := a % b) (by omega) (by omega)
      have ht : ((a : Int)).tmod (b : Int) = ((a % b : Nat) : Int) := by rw [Int.ofNat_tmod]
      have hg : Nat.gcd b (a % b) = Nat.gcd a b := by rw [Nat.gcd_comm a b, Nat.gcd_rec b a, Nat.gcd_comm]
      simp only [impl_divisorOf_L1, bdT (show (0 : Int) < (b : Int) by omega), if_neg (show ¬ (b : Int) = 0 by omega), Option.bind_some, ht, ih, hg]

theorem ratio_is {F a b : Nat} (hF : 134217728 ≤ F) (ha : a ≤ 1000000) (hb0 : 0 < b) (hb : b ≤ 1000000) : impl_ratioOf F (a : Int) (b : Int) = some ⟨((a / Nat.gcd a b : Nat) : Int), ((b / Nat.gcd a b : Nat) : Int)⟩ := by
  have hg : 0 < Nat.gcd a b := Nat.gcd_pos_of_pos_right a hb0
  have hd := divisor_is (F := F) b (fuel := F) (a := a) (b := b) (Nat.le_refl _) (by omega)
  have q1 : a / Nat.gcd a b ≤ a := Nat.div_le_self _ _
  have q2 : b / Nat.gcd a b ≤ b := Nat.div_le_self _ _
  have t1 : ((a : Int)).tdiv ((Nat.gcd a b : Nat) : Int) = ((a / Nat.gcd a b : Nat) : Int) := by rw [Int.ofNat_tdiv]
  have t2 : ((b : Int)).tdiv ((Nat.gcd a b : Nat) : Int) = ((b / Nat.gcd a b : Nat) : Int) := by rw [Int.ofNat_tdiv]
  unfold impl_ratioOf impl_divisorOf impl_absOf
  rw [bdF (show ¬ (b : Int) < 0 by omega)]
  simp only [Option.bind_some]
  rw [bdF (show ¬ (a : Int) < 0 by omega)]
  simp only [Option.bind_some, hd, if_neg (show ¬ ((Nat.gcd a b : Nat) : Int) = 0 by omega), t1, t2]
  generalize a / Nat.gcd a b = u at q1 ⊢
  generalize b / Nat.gcd a b = v at q2 ⊢
  rw [wr (n := (u : Int)) (by omega) (by omega), wr (n := (v : Int)) (by omega) (by omega)]

/-! ### The cycle time -/
def Pot (g : GEventGraph) (r : GRatio) : Prop := ∃ x : Nat → Int, ∀ p, p ∈ g.Places → x (plF p) + qW r p ≤ x (plT p)

def Att (g : GEventGraph) (r : GRatio) : Prop := ∃ c, Clo g c ∧ 0 < sTok g c ∧ r.Den * sDel g c = r.Num * sTok g c

def Red (r : GRatio) : Prop := ∃ a b : Nat, r = ⟨(a : Int), (b : Int)⟩ ∧ 0 < b ∧ Nat.gcd a b = 1

theorem circ_bd {g : GEventGraph} {c : List Int} (hg : graphB g = true) (hc : Clo g c) (hl : c.length ≤ 10) : (0 ≤ sDel g c ∧ sDel g c ≤ 10000) ∧ 0 ≤ sTok g c ∧ sTok g c ≤ 50 := by
  have h1 := pS_bd (g := g) (f := fun p => p.Delay) (M := 1000) c fun i hi => by
    obtain ⟨i0, i1⟩ := hc.rng i hi
    obtain ⟨r1, r2, r3, r4, r5, r6, r7, r8⟩ := graphB_range hg _ (List.mem_of_getElem? (plD_of (g := g) (k := i.toNat) (by omega)))
    exact ⟨r5, r6⟩
  have h2 := pS_bd (g := g) (f := fun p => p.Tokens) (M := 5) c fun i hi => by
    obtain ⟨i0, i1⟩ := hc.rng i hi
    obtain ⟨r1, r2, r3, r4, r5, r6, r7, r8⟩ := graphB_range hg _ (List.mem_of_getElem? (plD_of (g := g) (k := i.toNat) (by omega)))
    exact ⟨r7, r8⟩
  unfold sDel sTok
  omega

/-- two answers are one fraction -/
theorem att_le {g : GEventGraph} {r r' : GRatio} (hd : 0 ≤ r.Den) (hA : Att g r) (hP : Pot g r') : r.Num * r'.Den ≤ r'.Num * r.Den := by
  obtain ⟨c, hc, ht, he⟩ := hA
  obtain ⟨x, hx⟩ := hP
  have h1 := hc.pot hx
  have h2 : r.Den * (r'.Den * sDel g c) ≤ r.Den * (r'.Num * sTok g c) := Int.mul_le_mul_of_nonneg_left h1 hd
  have e1 : r.Den * (r'.Den * sDel g c) = r.Num * r'.Den * sTok g c := by
    rw [Int.mul_left_comm, he, Int.mul_left_comm, ← Int.mul_assoc]
  have e2 : r.Den * (r'.Num * sTok g c) = r'.Num * r.Den * sTok g c := by
    rw [← Int.mul_assoc, Int.mul_comm r.Den r'.Num]
  rw [e1, e2] at h2
  exact Int.le_of_mul_le_mul_right h2 ht

theorem rise {a b d w q : Nat} (hb : 0 < b) (hb2 : b ≤ 50) (hw : 0 < w) (hw2 : w ≤ 50) (h : a * w < d * b) (hq : q = 2500 * a / b) : q + 1 ≤ 2500 * (d / Nat.gcd d w) / (w / Nat.gcd d w) := by
  have hg : 0 < Nat.gcd d w := Nat.gcd_pos_of_pos_right d hw
  have e1 : 2500 * (d / Nat.gcd d w) / (w / Nat.gcd d w) = 2500 * d / w := by
    have h1 : d = d / Nat.gcd d w * Nat.gcd d w := (Nat.div_mul_cancel (Nat.gcd_dvd_left d w)).symm
    have h2 : w = w / Nat.gcd d w * Nat.gcd d w := (Nat.div_mul_cancel (Nat.gcd_dvd_right d w)).symm
    generalize hγ : Nat.gcd d w = γ at *
    generalize d / γ = u at *
    generalize w / γ = v at *
    subst h1 h2
    rw [← Nat.mul_assoc, Nat.mul_div_mul_right _ _ hg]
  rw [e1, Nat.le_div_iff_mul_le hw]
  have h3 : q * b ≤ 2500 * a := by rw [hq]; exact Nat.div_mul_le_self _ _
  have h4 : q * b * w ≤ 2500 * a * w := Nat.mul_le_mul_right w h3
  have h5 : w * b ≤ 50 * 50 := Nat.mul_le_mul hw2 hb2
  have h6 : 2500 * (a * w + 1) ≤ 2500 * (d * b) := Nat.mul_le_mul_left 2500 h
  refine Nat.le_of_mul_le_mul_right (c := b) ?_ hb
  have e2 : (q + 1) * w * b = q * b * w + w * b := by
    rw [Nat.add_mul, Nat.one_mul, Nat.add_mul, Nat.mul_right_comm]
  have e3 : 2500 * d * b = 2500 * (d * b) := Nat.mul_assoc _ _ _
  have e4 : 2500 * a * w = 2500 * (a * w) := Nat.mul_assoc _ _ _
  rw [e2, e3]
  omega

theorem red_rat {d w : Nat} (hw : 0 < w) (hw2 : w ≤ 50) (hd : d ≤ 10000) : RatOk ⟨((d / Nat.gcd d w : Nat) : Int), ((w / Nat.gcd d w : Nat) : Int)⟩ ∧ 0 < w / Nat.gcd d w ∧ w / Nat.gcd d w ≤ 50 ∧ d / Nat.gcd d w ≤ 10000 ∧ Nat.gcd (d / Nat.gcd d w) (w / Nat.gcd d w) = 1 ∧ (w / Nat.gcd d w) * d = (d / Nat.gcd d w) * w := by
  have hg : 0 < Nat.gcd d w := Nat.gcd_pos_of_pos_right d hw
  have q1 : d / Nat.gcd d w ≤ d := Nat.div_le_self _ _
  have q2 : w / Nat.gcd d w ≤ w := Nat.div_le_self _ _
  have q3 : 0 < w / Nat.gcd d w := Nat.div_pos (Nat.le_of_dvd hw (Nat.gcd_dvd_right d w)) hg
  have q4 : Nat.gcd (d / Nat.gcd d w) (w / Nat.gcd d w) = 1 := Nat.gcd_div_gcd_div_gcd_of_pos_right hw
  have q5 : (w / Nat.gcd d w) * d = (d / Nat.gcd d w) * w := by
    have h1 : d = d / Nat.gcd d w * Nat.gcd d w := (Nat.div_mul_cancel (Nat.gcd_dvd_left d w)).symm
    have h2 : w = w / Nat.gcd d w * Nat.gcd d w := (Nat.div_mul_cancel (Nat.gcd_dvd_right d w)).symm
    generalize Nat.gcd d w = γ at *
    generalize d / γ = u at *
    generalize w / γ = v at *
    subst h1 h2
    rw [Nat.mul_left_comm]
  refine ⟨?_, q3, by omega, by omega, q4, q5⟩
  generalize d / Nat.gcd d w = u at *
  generalize w / Nat.gcd d w = v at *
  exact ⟨by show (0 : Int) ≤ (u : Int); omega, by show (u : Int) ≤ 100000; omega, by show 1 ≤ (v : Int); omega, by show (v : Int) ≤ 100; omega⟩

def CytSt (g : GEventGraph) (a b : Nat) (c : List Int) : Prop := (c = [] ∧ Pot g ⟨(a : Int), (b : Int)⟩ ∧ (Att g ⟨(a : Int), (b : Int)⟩ ∨ (a = 0 ∧ b = 1))) ∨ (c ≠ [] ∧ c.length ≤ 10 ∧ Clo g c ∧ 0 < pS g (qW ⟨(a : Int), (b : Int)⟩) c)

theorem cyt_loop {F : Nat} {g : GEventGraph} (hF : 134217728 ≤ F) (hg : graphB g = true) (hne : g.Places ≠ []) {ρ : Nat → Nat} (hρ : ∀ u v, eP g.Places u v = true → ρ u < ρ v) : ∀ (m fuel a b : Nat) (c : List Int), 25000001 ≤ m + 2500 * a / b → m < fuel → 0 < b → b ≤ 50 → a ≤ 10000 → Nat.gcd a b = 1 → CytSt g a b c →
    ∃ a' b' : Nat, impl_cycleTime_L1 F g fuel (a : Int) (b : Int) c = some ((a' : Int), (b' : Int)) ∧ 0 < b' ∧ b' ≤ 50 ∧ a' ≤ 10000 ∧ Nat.gcd a' b' = 1 ∧ Pot g ⟨(a' : Int), (b' : Int)⟩ ∧ (Att g ⟨(a' : Int), (b' : Int)⟩ ∨ (a' = 0 ∧ b' = 1)) := by
  intro m
  induction m with
  | zero =>
    intro fuel a b c hm _ hb _ ha _ _
    have : 2500 * a / b ≤ 2500 * a := Nat.div_le_self _ _
    omega
  | succ m ih =>
    intro fuel a b c hm hf hb hb2 ha hgc hst
    obtain ⟨fuel, rfl⟩ : ∃ k, fuel = k + 1 := ⟨fuel - 1, by omega⟩
    rcases hst with ⟨rfl, hP, hA⟩ | ⟨hc, hl, hC, hpos⟩
    · exact ⟨a, b, by simp only [impl_cycleTime_L1, List.isEmpty_nil, Bool.not_true, cond_false], hb, hb2, ha, hgc, hP, hA⟩
    · obtain ⟨⟨d0, d1⟩, w0, w1⟩ := circ_bd hg hC hl
      have ht := hC.tok hg hc hρ
      rw [pS_qW] at hpos
      have hsum := sums_is (F := F) hF hg hl hC.rng
      obtain ⟨d, hd⟩ : ∃ d : Nat, sDel g c = (d : Int) := ⟨(sDel g c).toNat, by omega⟩
      obtain ⟨w, hw⟩ : ∃ w : Nat, sTok g c = (w : Int) := ⟨(sTok g c).toNat, by omega⟩
      rw [hd, hw] at hsum hpos
      simp only at hpos
      have hlt : a * w < d * b := by
        have h1 : (a : Int) * (w : Int) < (d : Int) * (b : Int) := by rw [Int.mul_comm (d : Int)]; omega
        exact_mod_cast h1
      obtain ⟨r1, r2, r3, r4, r5, r6⟩ := red_rat (d := d) (w := w) (by omega) (by omega) (by omega)
      have hrise := rise hb hb2 (show 0 < w by omega) (by omega) hlt rfl
      have hrat := ratio_is (F := F) (a := d) (b := w) hF (by omega) (by omega) (by omega)
      have hAt : Att g ⟨((d / Nat.gcd d w : Nat) : Int), ((w / Nat.gcd d w : Nat) : Int)⟩ := ⟨c, hC, ht, by
        rw [hd, hw]
        show ((w / Nat.gcd d w : Nat) : Int) * (d : Int) = ((d / Nat.gcd d w : Nat) : Int) * (w : Int)
        exact_mod_cast r6⟩
      have hem : (!c.isEmpty) = true := by
        cases c with
        | nil => exact absurd rfl hc
        | cons _ _ => rfl
      rcases btr_is (F := F) hF hg r1 hne with ⟨hbt, hP⟩ | ⟨c', hbt, hc', hl', hC', hp'⟩
      · obtain ⟨a', b', h1, h2⟩ := ih fuel (d / Nat.gcd d w) (w / Nat.gcd d w) [] (by omega) (by omega) r2 r3 r4 r5 (.inl ⟨rfl, hP, .inl hAt⟩)
        refine ⟨a', b', ?_, h2⟩
        simp only [impl_cycleTime_L1, hem, cond_true, hsum, Option.bind_some, hrat, hbt, h1]
      · obtain ⟨a', b', h1, h2⟩ := ih fuel (d / Nat.gcd d w) (w / Nat.gcd d w) c' (by omega) (by omega) r2 r3 r4 r5 (.inr ⟨hc', hl', hC', hp'⟩)
        refine ⟨a', b', ?_, h2⟩
        simp only [impl_cycleTime_L1, hem, cond_true, hsum, Option.bind_some, hrat, hbt, h1]

/-! ### What is reached along the places -/
def sN : Nat → (Nat → Nat) → Nat
  | 0, _ => 0
  | n + 1, h => sN n h + h n

theorem sN_same {h k : Nat → Nat} : ∀ n, (∀ v, v < n → h v = k v) → sN n h = sN n k
  | 0, _ => rfl
  | n + 1, e => by show sN n h + h n = sN n k + k n; rw [sN_same n (fun v hv => e v (by omega)), e n (by omega)]

theorem sN_upd {h k : Nat → Nat} {i : Nat} : ∀ n, i < n → (∀ v, v < n → v ≠ i → h v = k v) → sN n h + k i = sN n k + h i
  | 0, hi, _ => by omega
  | n + 1, hi, e => by
    show sN n h + h n + k i = sN n k + k n + h i
    by_cases hn : i = n
    · subst hn
      rw [sN_same i (fun v hv => e v (by omega) (by omega))]; omega
    · have := sN_upd n (by omega) fun v hv => e v (by omega)
      rw [e n (by omega) (by omega)]; omega

theorem sN_le {h k : Nat → Nat} : ∀ n, (∀ v, v < n → h v ≤ k v) → sN n h ≤ sN n k
  | 0, _ => Nat.le_refl _
  | n + 1, e => by show sN n h + h n ≤ sN n k + k n; have := sN_le n (fun v hv => e v (by omega)); have := e n (by omega); omega

theorem sN_const (c : Nat) : ∀ n, sN n (fun _ => c) = n * c
  | 0 => by show 0 = 0 * c; rw [Nat.zero_mul]
  | n + 1 => by show sN n _ + c = (n + 1) * c; rw [sN_const c n, Nat.add_mul, Nat.one_mul]

/-- how many are reached, and what is left to do -/
def cnt (n : Nat) (t : Nat → Int) : Nat := sN n fun v => if 0 ≤ t v then 1 else 0

def togo (n : Nat) (t : Nat → Int) : Nat := sN n fun v => if 0 ≤ t v then (t v).toNat else 100

structure TdOk (g : GEventGraph) (u : Nat) (t : Nat → Int) : Prop where
  low : ∀ v, v < g.Events.toNat → -1 ≤ t v ∧ t v ≤ 5 * cnt g.Events.toNat t
  start : 0 ≤ t u
  ind : ∀ Q : Nat → Prop, Q u → (∀ p, p ∈ g.Places → Q (plF p) → Q (plT p)) → ∀ v, v < g.Events.toNat → 0 ≤ t v → Q v

theorem cnt_le (n : Nat) (t : Nat → Int) : cnt n t ≤ n := by
  have h := sN_le (h := fun v => if 0 ≤ t v then 1 else 0) (k := fun _ => 1) n fun v _ => by
    show (if 0 ≤ t v then 1 else 0) ≤ 1
    split <;> omega
  rw [sN_const] at h
  unfold cnt; omega

def tdc (t : Nat → Int) (p : GPlace) : Prop := 0 ≤ t (plF p) ∧ (t (plT p) < 0 ∨ t (plF p) + p.Tokens < t (plT p))

def tds (t : Nat → Int) (p : GPlace) (v : Nat) : Int := if v = plT p then t (plF p) + p.Tokens else t v

theorem TdOk.t_step {g : GEventGraph} {u : Nat} {t : Nat → Int} {p : GPlace} (hg : graphB g = true) (h : TdOk g u t) (hp : p ∈ g.Places) (hc : tdc t p) : TdOk g u (tds t p) ∧ togo g.Events.toNat (tds t p) < togo g.Events.toNat t := by
  obtain ⟨a1, a2, a3, a4⟩ := pl_at hg hp
  obtain ⟨r1, r2, r3, r4, r5, r6, r7, r8⟩ := graphB_range hg p hp
  obtain ⟨c1, c2⟩ := hc
  obtain ⟨g1, g10, _, _, _⟩ := graphB_true hg
  have hfl := h.low _ a4
  have htl := h.low _ a3
  have hcn := cnt_le g.Events.toNat t
  have hT : tds t p (plT p) = t (plF p) + p.Tokens := by unfold tds; rw [if_pos rfl]
  have hO : ∀ v, v ≠ plT p → tds t p v = t v := fun v hv => by unfold tds; rw [if_neg hv]
  have hcu := sN_upd (h := fun v => if 0 ≤ tds t p v then 1 else 0) (k := fun v => if 0 ≤ t v then 1 else 0) (i := plT p) g.Events.toNat a3 fun v _ hv => by
    show (if 0 ≤ tds t p v then 1 else 0) = if 0 ≤ t v then 1 else 0
    rw [hO v hv]
  have hlu := sN_upd (h := fun v => if 0 ≤ tds t p v then (tds t p v).toNat else 100) (k := fun v => if 0 ≤ t v then (t v).toNat else 100) (i := plT p) g.Events.toNat a3 fun v _ hv => by
    show (if 0 ≤ tds t p v then (tds t p v).toNat else 100) = if 0 ≤ t v then (t v).toNat else 100
    rw [hO v hv]
  have hcu : cnt g.Events.toNat (tds t p) + (if 0 ≤ t (plT p) then 1 else 0) = cnt g.Events.toNat t + (if 0 ≤ tds t p (plT p) then 1 else 0) := hcu
  have hlu : togo g.Events.toNat (tds t p) + (if 0 ≤ t (plT p) then (t (plT p)).toNat else 100) = togo g.Events.toNat t + (if 0 ≤ tds t p (plT p) then (tds t p (plT p)).toNat else 100) := hlu
  rw [hT, if_pos (show 0 ≤ t (plF p) + p.Tokens by omega)] at hcu hlu
  refine ⟨⟨fun v hv => ?_, ?_, fun Q q0 q1 v hv hn => ?_⟩, ?_⟩
  · have hvl := h.low v hv
    by_cases e : v = plT p
    · subst e
      rw [hT]
      by_cases h0 : 0 ≤ t (plT p)
      · rw [if_pos h0] at hcu; omega
      · rw [if_neg h0] at hcu; omega
    · rw [hO v e]
      by_cases h0 : 0 ≤ t (plT p)
      · rw [if_pos h0] at hcu; omega
      · rw [if_neg h0] at hcu; omega
  · by_cases e : u = plT p
    · rw [e, hT]; omega
    · rw [hO u e]; exact h.start
  · by_cases e : v = plT p
    · rw [e]; exact q1 p hp (h.ind Q q0 q1 _ a4 c1)
    · rw [hO v e] at hn; exact h.ind Q q0 q1 v hv hn
  · by_cases h0 : 0 ≤ t (plT p)
    · rw [if_pos h0] at hlu; omega
    · rw [if_neg h0] at hlu; omega

theorem tds_set {N : Nat} {t : Nat → Int} {p : GPlace} : (tb N t).set (plT p) (t (plF p) + p.Tokens) = tb N (tds t p) := by
  rw [tb_set]; rfl

theorem td_round {F : Nat} {g : GEventGraph} {u : Nat} {t : Nat → Int} (hF : 134217728 ≤ F) (hg : graphB g = true) (h : TdOk g u t) :
    ∃ t' b', impl_tokenDistances_L6 F g F (tb g.Events.toNat t) false 0 = some (tb g.Events.toNat t', b') ∧ TdOk g u t' ∧ ((b' = false ∧ t' = t ∧ ∀ p, p ∈ g.Places → ¬ tdc t p) ∨ (b' = true ∧ togo g.Events.toNat t' < togo g.Events.toNat t)) := by
  obtain ⟨g1, g10, g3, _, _⟩ := graphB_true hg
  refine for0 (L := fun m (s : List Int × Bool) i => impl_tokenDistances_L6 F g m s.1 s.2 i) (len := g.Places.length)
    (fun k s => ∃ t', s.1 = tb g.Events.toNat t' ∧ TdOk g u t' ∧ ((s.2 = false ∧ t' = t ∧ ∀ p, p ∈ g.Places.take k → ¬ tdc t p) ∨ (s.2 = true ∧ togo g.Events.toNat t' < togo g.Events.toNat t)))
    (R := fun o => ∃ t' b', o = some (tb g.Events.toNat t', b') ∧ TdOk g u t' ∧ ((b' = false ∧ t' = t ∧ ∀ p, p ∈ g.Places → ¬ tdc t p) ∨ (b' = true ∧ togo g.Events.toNat t' < togo g.Events.toNat t))) (s := (tb g.Events.toNat t, false)) ?_ ?_ ⟨t, rfl, h, .inl ⟨rfl, rfl, fun p hp => by simp at hp⟩⟩ (by omega)
  · rintro m k ⟨xs, b⟩ hk ⟨t', rfl, hT, hb⟩
    have hp : g.Places[k]? = some g.Places[k] := List.getElem?_eq_getElem hk
    have hmem := List.getElem_mem hk
    have htk : g.Places.take (k + 1) = g.Places.take k ++ [g.Places[k]] := by rw [List.take_add_one, hp]; rfl
    generalize g.Places[k] = p at hp hmem htk
    obtain ⟨a1, a2, a3, a4⟩ := pl_at hg hmem
    obtain ⟨r1, r2, r3, r4, r5, r6, r7, r8⟩ := graphB_range hg p hmem
    have hfl := hT.low _ a4
    have htl := hT.low _ a3
    have hcn := cnt_le g.Events.toNat t'
    have hw : IntKind.i64.wrap (t' (plF p) + p.Tokens) = t' (plF p) + p.Tokens := wr (by omega) (by omega)
    have hwk : IntKind.i64.wrap ((k : Int) + 1) = ((k + 1 : Nat) : Int) := wrN (by omega)
    have hu := upd_nat (xs := tb g.Events.toNat t') (t' (plF p) + p.Tokens) (show plT p < (tb g.Events.toNat t').length by rw [tb_len]; exact a3)
    rw [tds_set] at hu
    by_cases hc : tdc t' p
    · obtain ⟨h1, h2⟩ := hT.t_step hg hmem hc
      refine .inl ⟨(tb g.Events.toNat (tds t' p), true), ?_, tds t' p, rfl, h1, .inr ⟨rfl, ?_⟩⟩
      · obtain ⟨c1, c2⟩ := hc
        have hcond : (bif decide (t' (plT p) < 0) then some true else (idx (tb g.Events.toNat t') ((plT p : Nat) : Int)).bind fun q1037 => some (decide (IntKind.i64.wrap (t' (plF p) + p.Tokens) < q1037))) = some true := by
          by_cases h0 : t' (plT p) < 0
          · rw [bdT h0]
          · rw [bdF h0, idx_nat, tb_at a3, Option.bind_some, hw, decide_eq_true (by omega)]
        simp only [impl_tokenDistances_L6, bdT (show (k : Int) < (g.Places.length : Int) by omega), idx_nat, hp, Option.bind_some]
        rw [a1, a2]
        simp only [idx_nat, tb_at a3, tb_at a4, Option.bind_some, bdF (show ¬ t' (plF p) < 0 by omega)]
        simp only [idx_nat, tb_at a3, Option.bind_some, hw] at hcond
        simp only [hw, hcond, Option.bind_some, cond_true, hu, hwk]
      · rcases hb with ⟨_, e, _⟩ | ⟨_, hl⟩
        · rw [← e]; exact h2
        · omega
    · refine .inl ⟨(tb g.Events.toNat t', b), ?_, t', rfl, hT, ?_⟩
      · simp only [impl_tokenDistances_L6, bdT (show (k : Int) < (g.Places.length : Int) by omega), idx_nat, hp, Option.bind_some]
        rw [a1, a2]
        simp only [idx_nat, tb_at a3, tb_at a4, Option.bind_some]
        by_cases c1 : t' (plF p) < 0
        · simp only [bdT c1, Option.bind_some, hwk]
        · have c2 : ¬ t' (plT p) < 0 := fun c2 => hc ⟨by omega, .inl c2⟩
          have c3 : ¬ t' (plF p) + p.Tokens < t' (plT p) := fun c3 => hc ⟨by omega, .inr c3⟩
          simp only [bdF c1, bdF c2, hw, decide_eq_false c3, cond_false, Option.bind_some, hwk]
      · rcases hb with ⟨e1, e2, e3⟩ | hb
        · refine .inl ⟨e1, e2, fun q hq => ?_⟩
          rw [htk] at hq
          rcases List.mem_append.1 hq with hq | hq
          · exact e3 q hq
          · have : q = p := by simpa using hq
            rw [this, ← e2]; exact hc
        · exact .inr hb
  · rintro m ⟨xs, b⟩ ⟨t', rfl, hT, hb⟩
    rw [List.take_length] at hb
    exact ⟨t', b, by simp only [impl_tokenDistances_L6, bdF (show ¬ (g.Places.length : Int) < (g.Places.length : Int) by omega)], hT, hb⟩

theorem td_rounds {F : Nat} {g : GEventGraph} {u : Nat} (hF : 134217728 ≤ F) (hg : graphB g = true) : ∀ (m fuel : Nat) (t : Nat → Int), togo g.Events.toNat t ≤ m → m + 1 < fuel → TdOk g u t → ∃ t', impl_tokenDistances_L5 F g fuel (tb g.Events.toNat t) true = some (tb g.Events.toNat t') ∧ TdOk g u t' ∧ ∀ p, p ∈ g.Places → ¬ tdc t' p := by
  intro m
  induction m with
  | zero =>
    intro fuel t hm hf h
    obtain ⟨fuel, rfl⟩ : ∃ k, fuel = k + 2 := ⟨fuel - 2, by omega⟩
    obtain ⟨t', b', h1, h2, h3⟩ := td_round hF hg h
    rcases h3 with ⟨rfl, rfl, h4⟩ | ⟨_, h4⟩
    · exact ⟨t', by simp only [impl_tokenDistances_L5, cond_true, h1, Option.bind_some, cond_false], h2, h4⟩
    · omega
  | succ m ih =>
    intro fuel t hm hf h
    obtain ⟨fuel, rfl⟩ : ∃ k, fuel = k + 2 := ⟨fuel - 2, by omega⟩
    obtain ⟨t', b', h1, h2, h3⟩ := td_round hF hg h
    rcases h3 with ⟨rfl, rfl, h4⟩ | ⟨rfl, h4⟩
    · exact ⟨t', by simp only [impl_tokenDistances_L5, cond_true, h1, Option.bind_some, cond_false], h2, h4⟩
    · obtain ⟨t2, q1, q2, q3⟩ := ih (fuel + 1) t' (by omega) (by omega) h2
      refine ⟨t2, ?_, q2, q3⟩
      have : impl_tokenDistances_L5 F g (fuel + 1 + 1) (tb g.Events.toNat t) true = impl_tokenDistances_L5 F g (fuel + 1) (tb g.Events.toNat t') true := by
        rw [impl_tokenDistances_L5]
        simp only [cond_true, h1, Option.bind_some]
      rw [this]; exact q1

/-! ### Circuits or ranks -/
def Live (g : GEventGraph) : Prop := ∃ ρ : Nat → Nat, ∀ u v, eP g.Places u v = true → ρ u < ρ v

def Acy (g : GEventGraph) : Prop := ∃ x : Nat → Int, ∀ p, p ∈ g.Places → x (plF p) + 1 ≤ x (plT p)

theorem clo_noacy {g : GEventGraph} {c : List Int} (h : Clo g c) (hne : c ≠ []) (ha : Acy g) : False := by
  obtain ⟨x, hx⟩ := ha
  have h1 := pS_le (g := g) (f := fun p => x (plF p) + 1) (f' := fun p => x (plT p)) c fun i hi => by
    obtain ⟨i0, i1⟩ := h.rng i hi
    exact hx _ (List.mem_of_getElem? (plD_of (g := g) (k := i.toNat) (by omega)))
  have h2 := h.bal x
  have h3 := pS_add g (fun p => x (plF p)) (fun _ => 1) c
  rw [h3, h2] at h1
  have h4 : 0 < pS g (fun _ => 1) c := by
    cases c with
    | nil => exact absurd rfl hne
    | cons i c =>
      rw [pS_cons]
      have := (pS_bd (g := g) (f := fun _ => 1) (M := 1) c (fun _ _ => ⟨by decide, by decide⟩)).1
      omega
  omega

/-- a walk along places, for all that is asked of it -/
def Wlk (g : GEventGraph) (u v : Nat) : Prop := ∃ c : List Int, (∀ i, i ∈ c → 0 ≤ i ∧ i < (g.Places.length : Int)) ∧ ∀ y : Nat → Int, pS g (fun p => y (plT p)) c - pS g (fun p => y (plF p)) c = y v - y u

theorem Wlk.w_refl (g : GEventGraph) (u : Nat) : Wlk g u u := ⟨[], fun i hi => (by cases hi), fun y => by show (0 : Int) - 0 = y u - y u; omega⟩

theorem Wlk.w_step {g : GEventGraph} {u : Nat} {p : GPlace} (hp : p ∈ g.Places) (h : Wlk g u (plF p)) : ∃ c : List Int, c ≠ [] ∧ (∀ i, i ∈ c → 0 ≤ i ∧ i < (g.Places.length : Int)) ∧ ∀ y : Nat → Int, pS g (fun p => y (plT p)) c - pS g (fun p => y (plF p)) c = y (plT p) - y u := by
  obtain ⟨c, h1, h2⟩ := h
  obtain ⟨k, hk, hk2⟩ := List.getElem_of_mem hp
  have hd : plD g ((k : Nat) : Int).toNat = p := by
    unfold plD; rw [Int.toNat_natCast, List.getD_eq_getElem?_getD, List.getElem?_eq_getElem hk, hk2]; rfl
  refine ⟨(k : Int) :: c, fun h => (by cases h), fun i hi => ?_, fun y => ?_⟩
  · rcases List.mem_cons.1 hi with rfl | hi
    · omega
    · exact h1 i hi
  · rw [pS_cons, pS_cons, hd]
    have := h2 y
    omega

theorem Wlk.w_place {g : GEventGraph} {u : Nat} {p : GPlace} (hp : p ∈ g.Places) (h : Wlk g u (plF p)) : Wlk g u (plT p) := by
  obtain ⟨c, _, h1, h2⟩ := h.w_step hp
  exact ⟨c, h1, h2⟩

theorem Wlk.w_clo {g : GEventGraph} {p : GPlace} (hp : p ∈ g.Places) (h : Wlk g (plT p) (plF p)) : ∃ c, c ≠ [] ∧ Clo g c := by
  obtain ⟨c, h0, h1, h2⟩ := h.w_step hp
  exact ⟨c, h0, h1, fun y => by have := h2 y; omega⟩

theorem sN_lt {h k : Nat → Nat} {i : Nat} : ∀ n, (∀ v, v < n → h v ≤ k v) → i < n → h i < k i → sN n h < sN n k
  | 0, _, hi, _ => by omega
  | n + 1, e, hi, hl => by
    show sN n h + h n < sN n k + k n
    have h1 := e n (by omega)
    by_cases hn : i = n
    · subst hn
      have := sN_le i fun v hv => e v (by omega)
      omega
    · have := sN_lt n (fun v hv => e v (by omega)) (by omega) hl
      omega

/-- what is reached from each event: a place that closes a circuit, or a rank -/
theorem reach_rank {g : GEventGraph} {T : Nat → Nat → Int} (hg : graphB g = true) (hT : ∀ u, u < g.Events.toNat → TdOk g u (T u) ∧ ∀ p, p ∈ g.Places → ¬ tdc (T u) p) (hno : ∀ p, p ∈ g.Places → ¬ 0 ≤ T (plT p) (plF p)) : Acy g := by
  refine ⟨fun v => -(cnt g.Events.toNat (T v) : Int), fun p hp => ?_⟩
  obtain ⟨a1, a2, a3, a4⟩ := pl_at hg hp
  obtain ⟨f1, f2⟩ := hT _ a4
  obtain ⟨t1, t2⟩ := hT _ a3
  have hcl : ∀ q, q ∈ g.Places → 0 ≤ T (plF p) (plF q) → 0 ≤ T (plF p) (plT q) := fun q hq h0 => by
    refine Int.not_lt.1 fun h1 => f2 q hq ⟨h0, .inl h1⟩
  have hsub : ∀ v, v < g.Events.toNat → 0 ≤ T (plT p) v → 0 ≤ T (plF p) v := fun v hv h0 => t1.ind (fun v => 0 ≤ T (plF p) v) (hcl p hp f1.start) hcl v hv h0
  have hlt : cnt g.Events.toNat (T (plT p)) < cnt g.Events.toNat (T (plF p)) := by
    refine sN_lt (i := plF p) _ (fun v hv => ?_) a4 ?_
    · show (if 0 ≤ T (plT p) v then 1 else 0) ≤ if 0 ≤ T (plF p) v then 1 else 0
      by_cases h0 : 0 ≤ T (plT p) v
      · rw [if_pos h0, if_pos (hsub v hv h0)]; exact Nat.le_refl _
      · rw [if_neg h0]; exact Nat.zero_le _
    · show (if 0 ≤ T (plT p) (plF p) then 1 else 0) < if 0 ≤ T (plF p) (plF p) then 1 else 0
      rw [if_neg (hno p hp), if_pos f1.start]; exact Nat.one_pos
  show -(cnt g.Events.toNat (T (plF p)) : Int) + 1 ≤ -(cnt g.Events.toNat (T (plT p)) : Int)
  omega

theorem td_fill {F : Nat} {n : Nat} (hn : n ≤ 100) {fuel : Nat} (hf : n < fuel) : impl_tokenDistances_L1 F (List.replicate n 0) fuel (List.replicate n 0) 0 = some (List.replicate n (-1)) := by
  have h := fill_loop (ps := List.replicate n (0 : Int)) (f := fun _ => (-1 : Int)) (L := impl_tokenDistances_L1 F (List.replicate n 0)) (xs := List.replicate n (0 : Int)) (n := fuel) ?_ ?_ rfl (by rw [List.length_replicate]; exact hf)
  · rw [h]; simp
  · intro m xs k x hk _ hl
    rw [List.length_replicate] at hk hl
    simp only [impl_tokenDistances_L1, List.length_replicate, bdT (show (k : Int) < (n : Int) by omega), idx_lt (show k < xs.length by omega), upd_nat _ (show k < xs.length by omega), Option.bind_some, wrN (show k ≤ 67108864 by omega)]
  · intro m xs
    simp only [impl_tokenDistances_L1, List.length_replicate, bdF (show ¬ (n : Int) < (n : Int) by omega)]

theorem td_is {F : Nat} {g : GEventGraph} {u : Nat} (hF : 134217728 ≤ F) (hg : graphB g = true) (hu : u < g.Events.toNat) : ∃ t, impl_tokenDistances F g (u : Int) = some (tb g.Events.toNat t) ∧ TdOk g u t ∧ ∀ p, p ∈ g.Places → ¬ tdc t p := by
  obtain ⟨g1, g10, g3, _, _⟩ := graphB_true hg
  have hmk : mk g.Events (0 : Int) = some (List.replicate g.Events.toNat 0) := mk_int 0 (by omega) (by omega)
  have hset : (List.replicate g.Events.toNat (-1 : Int)).set u 0 = tb g.Events.toNat fun v => if v = u then 0 else -1 := by
    have : List.replicate g.Events.toNat (-1 : Int) = tb g.Events.toNat fun _ => -1 := by
      unfold tb; apply List.ext_getElem?; intro i
      rw [List.getElem?_map, List.getElem?_replicate]
      by_cases hi : i < g.Events.toNat
      · rw [if_pos hi, List.getElem?_range hi]; rfl
      · rw [if_neg hi, List.getElem?_eq_none (by simp; omega)]; rfl
    rw [this, tb_set]
  have hup := upd_nat (xs := List.replicate g.Events.toNat (-1 : Int)) (k := u) 0 (by rw [List.length_replicate]; exact hu)
  rw [hset] at hup
  have h0 : TdOk g u fun v => if v = u then 0 else -1 := by
    refine ⟨fun v _ => ?_, ?_, fun Q q0 _ v _ hv => ?_⟩
    · show -1 ≤ (if v = u then (0 : Int) else -1) ∧ (if v = u then (0 : Int) else -1) ≤ _
      split <;> omega
    · show 0 ≤ (if u = u then (0 : Int) else -1)
      rw [if_pos rfl]; exact Int.le_refl _
    · by_cases e : v = u
      · rw [e]; exact q0
      · rw [if_neg e] at hv; omega
  have hl : togo g.Events.toNat (fun v => if v = u then 0 else -1) ≤ 1000 := by
    have h := sN_le (h := fun v => if 0 ≤ (if v = u then (0 : Int) else -1) then (if v = u then (0 : Int) else -1).toNat else 100) (k := fun _ => 100) g.Events.toNat fun v _ => by
      by_cases e : v = u
      · simp only [if_pos e]; decide
      · simp only [if_neg e]; decide
    rw [sN_const] at h
    exact Nat.le_trans h (by omega)
  obtain ⟨t, h1, h2, h3⟩ := td_rounds (F := F) hF hg 1000 F _ hl (by omega) h0
  refine ⟨t, ?_, h2, h3⟩
  unfold impl_tokenDistances
  simp only [hmk, Option.bind_some, td_fill (F := F) (n := g.Events.toNat) (fuel := F) (by omega) (by omega), idx_lt (show u < (List.replicate g.Events.toNat (-1 : Int)).length by rw [List.length_replicate]; exact hu), hup, h1]

/-- hasCircuit -/
theorem has_is {F : Nat} {g : GEventGraph} (hF : 134217728 ≤ F) (hg : graphB g = true) : (impl_hasCircuit F g = some true ∧ ∃ c, c ≠ [] ∧ Clo g c) ∨ (impl_hasCircuit F g = some false ∧ Acy g) := by
  obtain ⟨g1, g10, g3, _, _⟩ := graphB_true hg
  have hall : ∀ u, ∃ t, u < g.Events.toNat → impl_tokenDistances F g (u : Int) = some (tb g.Events.toNat t) ∧ TdOk g u t ∧ ∀ p, p ∈ g.Places → ¬ tdc t p := fun u => by
    by_cases hu : u < g.Events.toNat
    · obtain ⟨t, ht⟩ := td_is hF hg hu
      exact ⟨t, fun _ => ht⟩
    · exact ⟨fun _ => 0, fun h => absurd h hu⟩
  obtain ⟨T, hT⟩ := Classical.axiomOfChoice hall
  have hc : impl_hasCircuit F g = some (g.Places.any fun p => decide (0 ≤ T (plT p) (plF p))) := by
    unfold impl_hasCircuit
    rw [slices_ContainsFunc_Place_is (h := fun p => decide (0 ≤ T (plT p) (plF p))) hF (show g.Places.length ≤ 16777216 by omega) (fun p hp => ?_)]
    · rfl
    · obtain ⟨a1, a2, a3, a4⟩ := pl_at hg hp
      obtain ⟨h1, h2, h3⟩ := hT _ a3
      simp only [impl_hasCircuit_c1]
      rw [a1, a2, h1]
      simp only [Option.bind_some, idx_nat, tb_at a4]
  rw [hc]
  cases hb : g.Places.any fun p => decide (0 ≤ T (plT p) (plF p)) with
  | true =>
    left
    refine ⟨rfl, ?_⟩
    obtain ⟨p, hp, h0⟩ := List.any_eq_true.1 hb
    have h0 := of_decide_eq_true h0
    obtain ⟨a1, a2, a3, a4⟩ := pl_at hg hp
    obtain ⟨_, h2, _⟩ := hT _ a3
    exact Wlk.w_clo hp (h2.ind (fun v => Wlk g (plT p) v) (Wlk.w_refl _ _) (fun q hq hw => hw.w_place hq) _ a4 h0)
  | false =>
    right
    refine ⟨rfl, reach_rank hg (fun u hu => (hT u hu).2) fun p hp h0 => ?_⟩
    have := List.any_eq_false.1 hb p hp
    exact this (decide_eq_true h0)

/-- what CycleTime answers -/
def CtOk (g : GEventGraph) (r : GRatio) (code : Int) : Prop := (code = 5 ∧ ¬ Live g ∧ r = ⟨0, 0⟩) ∨ (code = 4 ∧ Live g ∧ Acy g ∧ r = ⟨0, 0⟩) ∨ (code = 0 ∧ Live g ∧ ¬ Acy g ∧ Pot g r ∧ Att g r ∧ Red r ∧ r.Num ≤ 10000 ∧ r.Den ≤ 50)

theorem cyt_is {F : Nat} {g : GEventGraph} (hF : 134217728 ≤ F) (hg : graphB g = true) : ∃ r code, impl_CycleTime F g = some (r, code) ∧ CtOk g r code := by
  obtain ⟨g1, g10, g3, _, _⟩ := graphB_true hg
  unfold impl_CycleTime
  rw [bind_of (implGraph_is hF (by omega)), hg]
  simp only [Bool.not_true, cond_false]
  have hlive := live_rank hg
  unfold impl_cycleTime
  rw [bind_of (implLive_is hF (GOk.of hg))]
  cases hL : liveB g g.Events.toNat with
  | false =>
    rw [hL] at hlive
    exact ⟨⟨0, 0⟩, 5, rfl, .inl ⟨rfl, fun h => (by have := hlive.2 h; cases this), rfl⟩⟩
  | true =>
    rw [hL] at hlive
    have hlv : Live g := hlive.1 rfl
    obtain ⟨ρ, hρ⟩ := hlv
    simp only [Bool.not_true, cond_false]
    rcases has_is hF hg with ⟨h1, c, hc, hC⟩ | ⟨h1, hA⟩
    · rw [bind_of h1]
      simp only [Bool.not_true, cond_false]
      have hne : g.Places ≠ [] := fun h => by
        cases c with
        | nil => exact hc rfl
        | cons i c =>
          obtain ⟨i0, i1⟩ := hC.rng i List.mem_cons_self
          rw [h] at i1
          simp only [List.length_nil] at i1
          omega
      have hno : ¬ Acy g := fun ha => clo_noacy hC hc ha
      have hr0 : RatOk ⟨((0 : Nat) : Int), ((1 : Nat) : Int)⟩ := ⟨by decide, by decide, by decide, by decide⟩
      have fin : ∀ c0, CytSt g 0 1 c0 → impl_betterCircuit F g ⟨((0 : Nat) : Int), ((1 : Nat) : Int)⟩ = some c0 → ∃ r code, (((impl_betterCircuit F g ⟨0, 1⟩).bind fun q => (impl_cycleTime_L1 F g F 0 1 q).bind fun s => some ((⟨s.1, s.2⟩ : GRatio), (0 : Int))).bind fun r6 => some ((⟨r6.1.Num, r6.1.Den⟩ : GRatio), r6.2)) = some (r, code) ∧ CtOk g r code := fun c0 hst hb => by
        have hb : impl_betterCircuit F g ⟨0, 1⟩ = some c0 := hb
        obtain ⟨a, b, e1, e2, e3, e4, e5, e6, e7⟩ := cyt_loop hF hg hne hρ 25000001 F 0 1 c0 (by omega) (by omega) (by omega) (by omega) (by omega) (by decide) hst
        have e1 : impl_cycleTime_L1 F g F 0 1 c0 = some ((a : Int), (b : Int)) := e1
        refine ⟨⟨(a : Int), (b : Int)⟩, 0, by rw [hb, Option.bind_some, e1]; rfl, .inr (.inr ⟨rfl, ⟨ρ, hρ⟩, hno, e6, ?_, ⟨a, b, rfl, e2, e5⟩, by show (a : Int) ≤ 10000; omega, by show (b : Int) ≤ 50; omega⟩)⟩
        rcases e7 with e7 | ⟨rfl, rfl⟩
        · exact e7
        · obtain ⟨x, hx⟩ := e6
          have hp := hC.pot hx
          have hd : 0 ≤ sDel g c := (pS_bd (g := g) (f := fun p => p.Delay) (M := 1000) c fun i hi => by
            obtain ⟨i0, i1⟩ := hC.rng i hi
            obtain ⟨r1, r2, r3, r4, r5, r6, r7, r8⟩ := graphB_range hg _ (List.mem_of_getElem? (plD_of (g := g) (k := i.toNat) (by omega)))
            exact ⟨r5, r6⟩).1
          refine ⟨c, hC, hC.tok hg hc hρ, ?_⟩
          simp only at hp ⊢
          omega
      rcases btr_is (F := F) hF hg hr0 hne with ⟨hbt, hP⟩ | ⟨c', hbt, hc', hl', hC', hp'⟩
      · exact fin [] (.inl ⟨rfl, hP, .inr ⟨rfl, rfl⟩⟩) hbt
      · exact fin c' (.inr ⟨hc', hl', hC', hp'⟩) hbt
    · rw [bind_of h1]
      exact ⟨⟨0, 0⟩, 4, rfl, .inr (.inl ⟨rfl, ⟨ρ, hρ⟩, hA, rfl⟩)⟩

/-! ### Two graphs with one cycle time -/
theorem live_of {g : GEventGraph} (ρ : Nat → Nat) (h : ∀ p, p ∈ g.Places → p.Tokens = 0 → ρ (plF p) < ρ (plT p)) : Live g := ⟨ρ, fun u v e => by
  obtain ⟨p, hp, h0, hf, ht⟩ := mem_eP e
  have := h p hp h0
  unfold plF plT at this
  rw [hf, ht] at this
  exact this⟩

theorem live_to {g : GEventGraph} (hg : graphB g = true) (h : Live g) : ∃ ρ : Nat → Nat, ∀ p, p ∈ g.Places → p.Tokens = 0 → ρ (plF p) < ρ (plT p) := by
  obtain ⟨ρ, hρ⟩ := h
  refine ⟨ρ, fun p hp h0 => ?_⟩
  obtain ⟨a1, a2, _, _⟩ := pl_at hg hp
  exact hρ _ _ (eP_mem hp h0 a2 a1)

theorem sN_mem {h : Nat → Nat} {v : Nat} : ∀ n, v < n → h v ≤ sN n h
  | 0, hv => by omega
  | n + 1, hv => by
    show h v ≤ sN n h + h n
    by_cases e : v = n
    · subst e; omega
    · have := sN_mem (h := h) (v := v) n (by omega); omega

/-- two reduced fractions that are one -/
theorem red_eq {r r' : GRatio} (h : Red r) (h' : Red r') (he : r.Num * r'.Den = r'.Num * r.Den) : r = r' := by
  obtain ⟨a, b, rfl, hb, hg⟩ := h
  obtain ⟨c, d, rfl, hd, hg'⟩ := h'
  have he : a * d = c * b := by
    have he : (a : Int) * (d : Int) = (c : Int) * (b : Int) := he
    exact_mod_cast he
  have h1 : b ∣ d := Nat.Coprime.dvd_of_dvd_mul_left (Nat.Coprime.symm hg) ⟨c, by rw [he, Nat.mul_comm]⟩
  have h2 : d ∣ b := Nat.Coprime.dvd_of_dvd_mul_left (Nat.Coprime.symm hg') ⟨a, by rw [← he, Nat.mul_comm]⟩
  have hbd : b = d := Nat.dvd_antisymm h1 h2
  subst hbd
  have : a = c := Nat.eq_of_mul_eq_mul_right hb he
  rw [this]

theorem red_den {r : GRatio} (h : Red r) : 0 < r.Den ∧ 0 ≤ r.Num := by
  obtain ⟨a, b, rfl, hb, _⟩ := h
  exact ⟨by show (0 : Int) < (b : Int); omega, by show (0 : Int) ≤ (a : Int); omega⟩

/-- the codes are alike when the ranks go over -/
theorem ctok_same {g g' : GEventGraph} {r r' : GRatio} {c c' : Int} (h : CtOk g r c) (h' : CtOk g' r' c') (hL : Live g ↔ Live g') (hA : Acy g ↔ Acy g') : c = c' ∧ ((c ≠ 0 ∧ r = r') ∨ (c = 0 ∧ Pot g r ∧ Att g r ∧ Red r ∧ (r.Num ≤ 10000 ∧ r.Den ≤ 50) ∧ Pot g' r' ∧ Att g' r' ∧ Red r' ∧ r'.Num ≤ 10000 ∧ r'.Den ≤ 50)) := by
  rcases h with ⟨e, a, q⟩ | ⟨e, a, b, q⟩ | ⟨e, a, b, p1, p2, p3, k1, k2⟩ <;> rcases h' with ⟨e', a', q'⟩ | ⟨e', a', b', q'⟩ | ⟨e', a', b', p1', p2', p3', k3, k4⟩
  · exact ⟨e.trans e'.symm, .inl ⟨by omega, q.trans q'.symm⟩⟩
  · exact absurd (hL.2 a') a
  · exact absurd (hL.2 a') a
  · exact absurd (hL.1 a) a'
  · exact ⟨e.trans e'.symm, .inl ⟨by omega, q.trans q'.symm⟩⟩
  · exact absurd (hA.1 b) b'
  · exact absurd (hL.1 a) a'
  · exact absurd (hA.2 b') b
  · exact ⟨e.trans e'.symm, .inr ⟨e, p1, p2, p3, ⟨k1, k2⟩, p1', p2', p3', k3, k4⟩⟩

/-! ### Turned around -/
def revP (p : GPlace) : GPlace := ⟨p.To, p.From, p.Delay, p.Tokens⟩

def revG (g : GEventGraph) : GEventGraph := ⟨g.Events, g.Places.map revP⟩

theorem revG_revG (g : GEventGraph) : revG (revG g) = g := by
  unfold revG
  simp only [List.map_map]
  rw [show revP ∘ revP = id from rfl, List.map_id]

theorem revG_ok {g : GEventGraph} (hg : graphB g = true) : graphB (revG g) = true := by
  have h5 := graphB_range hg
  obtain ⟨g1, g2, g3, gw, _⟩ := graphB_true hg
  unfold graphB
  simp only [Bool.and_eq_true, inB_true, decide_eq_true_eq, List.all_eq_true]
  refine ⟨fun q hq => ?_, ⟨g1, g2⟩, by show ((g.Places.map revP).length : Int) ≤ 30; rw [List.length_map]; omega⟩
  obtain ⟨p, hp, rfl⟩ := List.mem_map.1 hq
  have := h5 p hp
  show placeB (IntKind.i64.wrap (g.Events - 1)) (revP p) = true
  rw [gw]
  unfold placeB revP
  simp only [Bool.and_eq_true, inB_true]
  omega

theorem rev_live {g : GEventGraph} (hg : graphB g = true) (h : Live g) : Live (revG g) := by
  obtain ⟨ρ, hρ⟩ := live_to hg h
  refine live_of (fun v => sN g.Events.toNat ρ - ρ v) fun q hq h0 => ?_
  obtain ⟨p, hp, rfl⟩ := List.mem_map.1 hq
  have h1 := hρ p hp h0
  obtain ⟨_, _, a3, a4⟩ := pl_at hg hp
  have h2 := sN_mem (h := ρ) _ a3
  show sN g.Events.toNat ρ - ρ (plT p) < sN g.Events.toNat ρ - ρ (plF p)
  omega

theorem rev_acy {g : GEventGraph} (h : Acy g) : Acy (revG g) := by
  obtain ⟨x, hx⟩ := h
  refine ⟨fun v => -x v, fun q hq => ?_⟩
  obtain ⟨p, hp, rfl⟩ := List.mem_map.1 hq
  have := hx p hp
  show -x (plT p) + 1 ≤ -x (plF p)
  omega

theorem rev_pot {g : GEventGraph} {r : GRatio} (h : Pot g r) : Pot (revG g) r := by
  obtain ⟨x, hx⟩ := h
  refine ⟨fun v => -x v, fun q hq => ?_⟩
  obtain ⟨p, hp, rfl⟩ := List.mem_map.1 hq
  have := hx p hp
  show -x (plT p) + qW r p ≤ -x (plF p)
  omega

theorem rev_same {g : GEventGraph} {r r' : GRatio} {c c' : Int} (hg : graphB g = true) (h : CtOk g r c) (h' : CtOk (revG g) r' c') : c = c' ∧ r = r' := by
  obtain ⟨e, h1⟩ := ctok_same h h' ⟨rev_live hg, fun hh => by have := rev_live (revG_ok hg) hh; rw [revG_revG] at this; exact this⟩ ⟨rev_acy, fun hh => by have := rev_acy hh; rw [revG_revG] at this; exact this⟩
  refine ⟨e, ?_⟩
  rcases h1 with ⟨_, h1⟩ | ⟨_, p1, p2, p3, ⟨k1, k2⟩, p1', p2', p3', k3, k4⟩
  · exact h1
  · have q1 := red_den p3
    have q2 := red_den p3'
    have hb := rev_pot p1'
    rw [revG_revG] at hb
    exact red_eq p3 p3' (Int.le_antisymm (att_le (by omega) p2 hb) (att_le (by omega) p2' (rev_pot p1)))

/-! ### Stretched -/
def strP (n : Int) (p : GPlace) : GPlace := ⟨p.From, p.To, p.Delay * n, p.Tokens⟩

def strG (n : Int) (g : GEventGraph) : GEventGraph := ⟨g.Events, g.Places.map (strP n)⟩

theorem str_same {g : GEventGraph} {n : Int} {r r' : GRatio} {c c' : Int} (hg : graphB g = true) (hg' : graphB (strG n g) = true) (hn : 0 ≤ n) (h : CtOk g r c) (h' : CtOk (strG n g) r' c') : c = c' ∧ (c = 0 → r'.Num * r.Den = n * r.Num * r'.Den ∧ (0 ≤ r.Num ∧ r.Num ≤ 10000 ∧ 0 < r.Den ∧ r.Den ≤ 50) ∧ 0 ≤ r'.Num ∧ r'.Num ≤ 10000 ∧ 0 < r'.Den ∧ r'.Den ≤ 50) := by
  have hmem : ∀ p, p ∈ g.Places → strP n p ∈ (strG n g).Places := fun p hp => List.mem_map.2 ⟨p, hp, rfl⟩
  have hL : Live g ↔ Live (strG n g) := by
    constructor
    · intro hh
      obtain ⟨ρ, hρ⟩ := live_to hg hh
      refine live_of ρ fun q hq h0 => ?_
      obtain ⟨p, hp, rfl⟩ := List.mem_map.1 hq
      exact hρ p hp h0
    · intro hh
      obtain ⟨ρ, hρ⟩ := live_to hg' hh
      exact live_of ρ fun p hp h0 => hρ (strP n p) (hmem p hp) h0
  have hA : Acy g ↔ Acy (strG n g) := by
    constructor
    · rintro ⟨x, hx⟩
      refine ⟨x, fun q hq => ?_⟩
      obtain ⟨p, hp, rfl⟩ := List.mem_map.1 hq
      exact hx p hp
    · rintro ⟨x, hx⟩
      exact ⟨x, fun p hp => hx (strP n p) (hmem p hp)⟩
  obtain ⟨e, h1⟩ := ctok_same h h' hL hA
  refine ⟨e, fun h0 => ?_⟩
  rcases h1 with ⟨h1, _⟩ | ⟨_, p1, p2, p3, ⟨k1, k2⟩, p1', p2', p3', k3, k4⟩
  · exact absurd h0 h1
  · have q1 := red_den p3
    have q2 := red_den p3'
    have b1 : Pot g ⟨r'.Num, n * r'.Den⟩ := by
      obtain ⟨x, hx⟩ := p1'
      refine ⟨x, fun p hp => ?_⟩
      have := hx _ (hmem p hp)
      have e : qW ⟨r'.Num, n * r'.Den⟩ p = qW r' (strP n p) := by
        unfold qW strP
        show n * r'.Den * p.Delay - r'.Num * p.Tokens = r'.Den * (p.Delay * n) - r'.Num * p.Tokens
        rw [Int.mul_comm p.Delay n, ← Int.mul_assoc, Int.mul_comm n r'.Den]
      rw [e]
      exact this
    have b2 : Pot (strG n g) ⟨n * r.Num, r.Den⟩ := by
      obtain ⟨x, hx⟩ := p1
      refine ⟨fun v => n * x v, fun q hq => ?_⟩
      obtain ⟨p, hp, rfl⟩ := List.mem_map.1 hq
      have := Int.mul_le_mul_of_nonneg_left (hx p hp) hn
      have e : qW ⟨n * r.Num, r.Den⟩ (strP n p) = n * qW r p := by
        unfold qW strP
        show r.Den * (p.Delay * n) - n * r.Num * p.Tokens = n * (r.Den * p.Delay - r.Num * p.Tokens)
        rw [Int.mul_sub, ← Int.mul_assoc, Int.mul_comm _ n, Int.mul_assoc n r.Num]
      rw [e]
      show n * x (plF p) + n * qW r p ≤ n * x (plT p)
      rw [← Int.mul_add]
      exact this
    have l1 := att_le (by omega) p2 b1
    have l2 := att_le (by omega) p2' b2
    have e1 : r.Num * (n * r'.Den) = n * r.Num * r'.Den := by rw [Int.mul_left_comm, Int.mul_assoc]
    simp only at l1 l2
    rw [e1] at l1
    exact ⟨Int.le_antisymm l2 l1, ⟨q1.2, k1, q1.1, k2⟩, q2.2, k3, q2.1, k4⟩

/-! ### Unrolled -/
def unrP (E c : Nat) (p : GPlace) (j : Nat) : GPlace := ⟨((j * E + plF p : Nat) : Int), (((j + p.Tokens.toNat) % c * E + plT p : Nat) : Int), p.Delay, (((j + p.Tokens.toNat) / c : Nat) : Int)⟩

def unrG (c : Nat) (g : GEventGraph) : GEventGraph := ⟨((g.Events.toNat * c : Nat) : Int), g.Places.flatMap fun p => (List.range c).map (unrP g.Events.toNat c p)⟩

theorem unr_mem {c : Nat} {g : GEventGraph} {q : GPlace} : q ∈ (unrG c g).Places ↔ ∃ p, p ∈ g.Places ∧ ∃ j, j < c ∧ q = unrP g.Events.toNat c p j := by
  unfold unrG
  simp only [List.mem_flatMap, List.mem_map, List.mem_range]
  constructor
  · rintro ⟨p, hp, j, hj, e⟩; exact ⟨p, hp, j, hj, e.symm⟩
  · rintro ⟨p, hp, j, hj, e⟩; exact ⟨p, hp, j, hj, e.symm⟩

theorem unrP_F (E c : Nat) (p : GPlace) (j : Nat) : plF (unrP E c p j) = j * E + plF p := by unfold unrP; exact Int.toNat_natCast _

theorem unrP_T (E c : Nat) (p : GPlace) (j : Nat) : plT (unrP E c p j) = (j + p.Tokens.toNat) % c * E + plT p := by unfold unrP; exact Int.toNat_natCast _

theorem md_div {E j e : Nat} (he : e < E) : (j * E + e) / E = j := by
  rw [Nat.mul_comm, Nat.mul_add_div (by omega), Nat.div_eq_of_lt he, Nat.add_zero]

theorem md_mod {E j e : Nat} (he : e < E) : (j * E + e) % E = e := by
  rw [Nat.mul_comm, Nat.mul_add_mod, Nat.mod_eq_of_lt he]

/-- sums of integers -/
def sI : Nat → (Nat → Int) → Int
  | 0, _ => 0
  | n + 1, h => sI n h + h n

theorem sI_le {h k : Nat → Int} : ∀ n, (∀ v, v < n → h v ≤ k v) → sI n h ≤ sI n k
  | 0, _ => Int.le_refl _
  | n + 1, e => by show sI n h + h n ≤ sI n k + k n; have := sI_le n (fun v hv => e v (by omega)); have := e n (by omega); omega

theorem sI_same {h k : Nat → Int} : ∀ n, (∀ v, v < n → h v = k v) → sI n h = sI n k
  | 0, _ => rfl
  | n + 1, e => by show sI n h + h n = sI n k + k n; rw [sI_same n (fun v hv => e v (by omega)), e n (by omega)]

theorem sI_addc {h : Nat → Int} (a : Int) : ∀ n, sI n (fun v => h v + a) = sI n h + (n : Int) * a
  | 0 => by show (0 : Int) = 0 + ((0 : Nat) : Int) * a; simp
  | n + 1 => by
    show sI n (fun v => h v + a) + (h n + a) = sI n h + h n + ((n + 1 : Nat) : Int) * a
    rw [sI_addc a n, Int.natCast_add, Int.add_mul, Int.natCast_one, Int.one_mul]; omega

theorem sI_shift (h : Nat → Int) : ∀ n, sI n (fun v => h (v + 1)) + h 0 = sI n h + h n
  | 0 => rfl
  | n + 1 => by
    show sI n (fun v => h (v + 1)) + h (n + 1) + h 0 = sI n h + h n + h (n + 1)
    have := sI_shift h n; omega

theorem sI_turn {h : Nat → Int} {c : Nat} {a : Int} (hc : ∀ m, h (m + c) = h m + a) : ∀ w : Nat, sI c (fun v => h (v + w)) = sI c h + (w : Int) * a
  | 0 => by show sI c h = sI c h + ((0 : Nat) : Int) * a; simp
  | w + 1 => by
    have ih := sI_turn hc w
    have h1 := sI_shift (fun v => h (v + w)) c
    have h2 := hc w
    have e1 : sI c (fun v => h (v + 1 + w)) = sI c fun v => h (v + (w + 1)) := sI_same c fun v _ => by rw [Nat.add_assoc, Nat.add_comm 1 w]
    rw [e1, Nat.zero_add, Nat.add_comm c w, h2, ih] at h1
    rw [Int.natCast_add, Int.add_mul, Int.natCast_one, Int.one_mul]
    omega

/-- from the unrolled graph back: sums over the copies -/
theorem unr_sum {c : Nat} {x : Nat → Int} {E f t w : Nat} {d a : Int} (hc : 0 < c) (h : ∀ j, j < c → x (j * E + f) + d ≤ x ((j + w) % c * E + t) + a * (((j + w) / c : Nat) : Int)) : sI c (fun j => x (j * E + f)) + (c : Int) * d ≤ sI c (fun j => x (j * E + t)) + (w : Int) * a := by
  have hH : ∀ m, (fun m : Nat => x (m % c * E + t) + a * ((m / c : Nat) : Int)) (m + c) = (fun m : Nat => x (m % c * E + t) + a * ((m / c : Nat) : Int)) m + a := fun m => by
    show x ((m + c) % c * E + t) + a * (((m + c) / c : Nat) : Int) = x (m % c * E + t) + a * ((m / c : Nat) : Int) + a
    rw [Nat.add_mod_right, Nat.add_div_right _ hc, Int.natCast_add, Int.mul_add, Int.natCast_one, Int.mul_one, Int.add_assoc]
  have h1 := sI_turn (h := fun m : Nat => x (m % c * E + t) + a * ((m / c : Nat) : Int)) hH w
  have h2 := sI_le (h := fun j => x (j * E + f) + d) (k := fun j => x ((j + w) % c * E + t) + a * (((j + w) / c : Nat) : Int)) c h
  rw [sI_addc] at h2
  have h3 : sI c (fun m : Nat => x (m % c * E + t) + a * ((m / c : Nat) : Int)) = sI c fun j => x (j * E + t) := sI_same c fun v hv => by
    show x (v % c * E + t) + a * ((v / c : Nat) : Int) = x (v * E + t)
    rw [Nat.mod_eq_of_lt hv, Nat.div_eq_of_lt hv]; simp
  rw [h3] at h1
  rw [h1] at h2
  exact h2

theorem unr_live {g : GEventGraph} {c : Nat} (hg : graphB g = true) (hg' : graphB (unrG c g) = true) (hc : 0 < c) : Live g ↔ Live (unrG c g) := by
  constructor
  · intro hh
    obtain ⟨ρ, hρ⟩ := live_to hg hh
    refine live_of (fun v => v / g.Events.toNat * (sN g.Events.toNat ρ + 1) + ρ (v % g.Events.toNat)) fun q hq h0 => ?_
    obtain ⟨p, hp, j, hj, rfl⟩ := unr_mem.1 hq
    obtain ⟨_, _, a3, a4⟩ := pl_at hg hp
    have h0 : (j + p.Tokens.toNat) / c = 0 := by
      have h0 : (((j + p.Tokens.toNat) / c : Nat) : Int) = 0 := h0
      omega
    have hlt : j + p.Tokens.toNat < c := by
      have := (Nat.div_eq_zero_iff).1 h0
      omega
    show plF (unrP g.Events.toNat c p j) / g.Events.toNat * (sN g.Events.toNat ρ + 1) + ρ (plF (unrP g.Events.toNat c p j) % g.Events.toNat) < plT (unrP g.Events.toNat c p j) / g.Events.toNat * (sN g.Events.toNat ρ + 1) + ρ (plT (unrP g.Events.toNat c p j) % g.Events.toNat)
    rw [unrP_F, unrP_T, Nat.mod_eq_of_lt hlt, md_div a4, md_div a3, md_mod a4, md_mod a3]
    by_cases hw : p.Tokens = 0
    · have := hρ p hp hw
      rw [show j + p.Tokens.toNat = j by omega]
      omega
    · obtain ⟨r1, r2, r3, r4, r5, r6, r7, r8⟩ := graphB_range hg p hp
      have h2 := sN_mem (h := ρ) _ a4
      have h3 : (j + 1) * (sN g.Events.toNat ρ + 1) ≤ (j + p.Tokens.toNat) * (sN g.Events.toNat ρ + 1) := Nat.mul_le_mul_right _ (by omega)
      rw [Nat.add_mul j 1, Nat.one_mul] at h3
      omega
  · intro hh
    obtain ⟨ρ, hρ⟩ := live_to hg' hh
    refine live_of ρ fun p hp h0 => ?_
    have := hρ _ (unr_mem.2 ⟨p, hp, 0, hc, rfl⟩) (by show (((0 + p.Tokens.toNat) / c : Nat) : Int) = 0; rw [h0]; simp)
    rw [unrP_F, unrP_T, h0] at this
    simpa using this

theorem unr_acy {g : GEventGraph} {c : Nat} (hg : graphB g = true) (hc : 0 < c) : Acy g ↔ Acy (unrG c g) := by
  constructor
  · rintro ⟨x, hx⟩
    refine ⟨fun v => x (v % g.Events.toNat), fun q hq => ?_⟩
    obtain ⟨p, hp, j, hj, rfl⟩ := unr_mem.1 hq
    obtain ⟨_, _, a3, a4⟩ := pl_at hg hp
    simp only
    rw [unrP_F, unrP_T, md_mod a4, md_mod a3]
    exact hx p hp
  · rintro ⟨x, hx⟩
    refine ⟨fun e => sI c fun j => x (j * g.Events.toNat + e), fun p hp => ?_⟩
    have h := unr_sum (x := x) (E := g.Events.toNat) (f := plF p) (t := plT p) (w := p.Tokens.toNat) (d := 1) (a := 0) hc fun j hj => by
      have := hx _ (unr_mem.2 ⟨p, hp, j, hj, rfl⟩)
      rw [unrP_F, unrP_T] at this
      omega
    show sI c (fun j => x (j * g.Events.toNat + plF p)) + 1 ≤ sI c fun j => x (j * g.Events.toNat + plT p)
    omega

theorem unr_same {g : GEventGraph} {n : Nat} {r r' : GRatio} {c c' : Int} (hg : graphB g = true) (hg' : graphB (unrG n g) = true) (hn : 0 < n) (h : CtOk g r c) (h' : CtOk (unrG n g) r' c') : c = c' ∧ (c = 0 → r'.Num * r.Den = (n : Int) * r.Num * r'.Den ∧ (0 ≤ r.Num ∧ r.Num ≤ 10000 ∧ 0 < r.Den ∧ r.Den ≤ 50) ∧ 0 ≤ r'.Num ∧ r'.Num ≤ 10000 ∧ 0 < r'.Den ∧ r'.Den ≤ 50) := by
  obtain ⟨e, h1⟩ := ctok_same h h' (unr_live hg hg' hn) (unr_acy hg hn)
  refine ⟨e, fun h0 => ?_⟩
  rcases h1 with ⟨h1, _⟩ | ⟨_, p1, p2, p3, ⟨k1, k2⟩, p1', p2', p3', k3, k4⟩
  · exact absurd h0 h1
  · have q1 := red_den p3
    have q2 := red_den p3'
    have b1 : Pot g ⟨r'.Num, n * r'.Den⟩ := by
      obtain ⟨x, hx⟩ := p1'
      refine ⟨fun e => sI n fun j => x (j * g.Events.toNat + e), fun p hp => ?_⟩
      obtain ⟨_, _, _, _, _, _, r7, _⟩ := graphB_range hg p hp
      have h := unr_sum (x := x) (E := g.Events.toNat) (f := plF p) (t := plT p) (w := p.Tokens.toNat) (d := r'.Den * p.Delay) (a := r'.Num) hn fun j hj => by
        have := hx _ (unr_mem.2 ⟨p, hp, j, hj, rfl⟩)
        rw [unrP_F, unrP_T] at this
        have e : qW r' (unrP g.Events.toNat n p j) = r'.Den * p.Delay - r'.Num * (((j + p.Tokens.toNat) / n : Nat) : Int) := rfl
        rw [e] at this
        omega
      have e : qW ⟨r'.Num, n * r'.Den⟩ p = (n : Int) * (r'.Den * p.Delay) - ((p.Tokens.toNat : Nat) : Int) * r'.Num := by
        show (n : Int) * r'.Den * p.Delay - r'.Num * p.Tokens = _
        rw [Int.mul_assoc, show ((p.Tokens.toNat : Nat) : Int) = p.Tokens by omega, Int.mul_comm r'.Num]
      rw [e]
      show sI n (fun j => x (j * g.Events.toNat + plF p)) + _ ≤ sI n fun j => x (j * g.Events.toNat + plT p)
      omega
    have b2 : Pot (unrG n g) ⟨n * r.Num, r.Den⟩ := by
      obtain ⟨x, hx⟩ := p1
      refine ⟨fun v => x (v % g.Events.toNat) + r.Num * ((v / g.Events.toNat : Nat) : Int), fun q hq => ?_⟩
      obtain ⟨p, hp, j, hj, rfl⟩ := unr_mem.1 hq
      obtain ⟨_, _, a3, a4⟩ := pl_at hg hp
      obtain ⟨_, _, _, _, _, _, r7, _⟩ := graphB_range hg p hp
      have := hx p hp
      simp only
      rw [unrP_F, unrP_T, md_mod a4, md_mod a3, md_div a4, md_div a3]
      have e : qW ⟨n * r.Num, r.Den⟩ (unrP g.Events.toNat n p j) = r.Den * p.Delay - (n : Int) * r.Num * (((j + p.Tokens.toNat) / n : Nat) : Int) := rfl
      have e2 : qW r p = r.Den * p.Delay - r.Num * p.Tokens := rfl
      rw [e]
      rw [e2] at this
      have h1 : n * ((j + p.Tokens.toNat) / n) + (j + p.Tokens.toNat) % n = j + p.Tokens.toNat := Nat.div_add_mod _ _
      have h2 : (n : Int) * r.Num * (((j + p.Tokens.toNat) / n : Nat) : Int) + r.Num * (((j + p.Tokens.toNat) % n : Nat) : Int) = r.Num * (j : Int) + r.Num * p.Tokens := by
        rw [Int.mul_comm (n : Int), Int.mul_assoc, ← Int.mul_add, ← Int.mul_add]
        have : (n : Int) * (((j + p.Tokens.toNat) / n : Nat) : Int) + (((j + p.Tokens.toNat) % n : Nat) : Int) = (j : Int) + p.Tokens := by
          have h3 : ((n * ((j + p.Tokens.toNat) / n) + (j + p.Tokens.toNat) % n : Nat) : Int) = ((j + p.Tokens.toNat : Nat) : Int) := congrArg _ h1
          rw [Int.natCast_add, Int.natCast_mul] at h3
          omega
        rw [this]
      omega
    have l1 := att_le (by omega) p2 b1
    have l2 := att_le (by omega) p2' b2
    have e1 : r.Num * ((n : Int) * r'.Den) = (n : Int) * r.Num * r'.Den := by rw [Int.mul_left_comm, Int.mul_assoc]
    simp only at l1 l2
    rw [e1] at l1
    exact ⟨Int.le_antisymm l2 l1, ⟨q1.2, k1, q1.1, k2⟩, q2.2, k3, q2.1, k4⟩

/-- the firing times of the copies -/
theorem unr_ft {g : GEventGraph} {c n : Nat} {T : Nat → Nat → Int} (hg : graphB g = true) (hc : 0 < c) (h : FTs g (n * c) T) : FTs (unrG c g) n fun k v => T (k * c + v / g.Events.toNat) (v % g.Events.toNat) := by
  intro k hk v hv
  have hv : v < g.Events.toNat * c := by
    have : (unrG c g).Events.toNat = g.Events.toNat * c := Int.toNat_natCast _
    rwa [this] at hv
  obtain ⟨g1, _, _, _, _⟩ := graphB_true hg
  have hE : 0 < g.Events.toNat := by omega
  have hj : v / g.Events.toNat < c := (Nat.div_lt_iff_lt_mul hE).2 (by rw [Nat.mul_comm]; exact hv)
  have he : v % g.Events.toNat < g.Events.toNat := Nat.mod_lt _ hE
  have hdm := Nat.div_add_mod v g.Events.toNat
  show 0 ≤ T (k * c + v / g.Events.toNat) (v % g.Events.toNat) ∧ (∀ q, q ∈ (unrG c g).Places → q.To = (v : Int) → q.Tokens ≤ (k : Int) → T ((k - q.Tokens.toNat) * c + q.From.toNat / g.Events.toNat) (q.From.toNat % g.Events.toNat) + q.Delay ≤ T (k * c + v / g.Events.toNat) (v % g.Events.toNat)) ∧ (T (k * c + v / g.Events.toNat) (v % g.Events.toNat) = 0 ∨ ∃ q, q ∈ (unrG c g).Places ∧ q.To = (v : Int) ∧ q.Tokens ≤ (k : Int) ∧ T (k * c + v / g.Events.toNat) (v % g.Events.toNat) = T ((k - q.Tokens.toNat) * c + q.From.toNat / g.Events.toNat) (q.From.toNat % g.Events.toNat) + q.Delay)
  generalize v / g.Events.toNat = j at *
  generalize v % g.Events.toNat = e at *
  have hve : v = j * g.Events.toNat + e := by rw [← hdm, Nat.mul_comm]
  have hkc : (k + 1) * c ≤ n * c := Nat.mul_le_mul_right _ hk
  rw [Nat.add_mul, Nat.one_mul] at hkc
  obtain ⟨a1, a2, a3⟩ := h (k * c + j) (by omega) e he
  refine ⟨a1, fun q hq ht hw => ?_, ?_⟩
  · obtain ⟨p, hp, i, hi, rfl⟩ := unr_mem.1 hq
    obtain ⟨b1, b2, b3, b4⟩ := pl_at hg hp
    obtain ⟨_, _, _, _, _, _, r7, _⟩ := graphB_range hg p hp
    have ht : (i + p.Tokens.toNat) % c * g.Events.toNat + plT p = j * g.Events.toNat + e := by
      have ht : (((i + p.Tokens.toNat) % c * g.Events.toNat + plT p : Nat) : Int) = (v : Int) := ht
      omega
    have hm1 : (i + p.Tokens.toNat) % c = j := by
      have := congrArg (fun z => z / g.Events.toNat) ht
      rwa [md_div b3, md_div he] at this
    have hm2 : plT p = e := by
      have := congrArg (fun z => z % g.Events.toNat) ht
      rwa [md_mod b3, md_mod he] at this
    have hdiv := Nat.div_add_mod (i + p.Tokens.toNat) c
    rw [hm1] at hdiv
    have hw : (i + p.Tokens.toNat) / c ≤ k := by
      have hw : (((i + p.Tokens.toNat) / c : Nat) : Int) ≤ (k : Int) := hw
      omega
    have hf : (unrP g.Events.toNat c p i).From.toNat = i * g.Events.toNat + plF p := unrP_F _ _ _ _
    have htk : (unrP g.Events.toNat c p i).Tokens.toNat = (i + p.Tokens.toNat) / c := by unfold unrP; exact Int.toNat_natCast _
    have hd : (unrP g.Events.toNat c p i).Delay = p.Delay := rfl
    rw [hf, htk, hd]
    generalize (i + p.Tokens.toNat) / c = w' at *
    have hmul : k * c = (k - w') * c + c * w' := by
      rw [Nat.mul_comm c w', ← Nat.add_mul]; congr 1; omega
    have hx := a2 p hp (by rw [b1, hm2]) (by omega)
    rw [md_div b4, md_mod b4]
    rw [show k * c + j - p.Tokens.toNat = (k - w') * c + i by omega] at hx
    exact hx
  · rcases a3 with a3 | ⟨p, hp, ht, hw, a3⟩
    · exact .inl a3
    · right
      obtain ⟨b1, b2, b3, b4⟩ := pl_at hg hp
      obtain ⟨_, _, _, _, _, _, r7, _⟩ := graphB_range hg p hp
      have hdm2 := Nat.div_add_mod (k * c + j - p.Tokens.toNat) c
      have hi := Nat.mod_lt (k * c + j - p.Tokens.toNat) hc
      have hk0 : (k * c + j - p.Tokens.toNat) / c ≤ k := by
        have : (k * c + j - p.Tokens.toNat) / c < k + 1 := (Nat.div_lt_iff_lt_mul hc).2 (by rw [Nat.add_mul, Nat.one_mul]; omega)
        omega
      generalize hk0' : (k * c + j - p.Tokens.toNat) / c = k0 at *
      generalize hi' : (k * c + j - p.Tokens.toNat) % c = i at *
      have hmul : k * c = (k - k0) * c + c * k0 := by
        rw [Nat.mul_comm c k0, ← Nat.add_mul]; congr 1; omega
      have hsum : i + p.Tokens.toNat = (k - k0) * c + j := by omega
      have hs1 : (i + p.Tokens.toNat) / c = k - k0 := by rw [hsum]; exact md_div hj
      have hs2 : (i + p.Tokens.toNat) % c = j := by rw [hsum]; exact md_mod hj
      have hf : (unrP g.Events.toNat c p i).From.toNat = i * g.Events.toNat + plF p := unrP_F _ _ _ _
      have htk : (unrP g.Events.toNat c p i).Tokens.toNat = (i + p.Tokens.toNat) / c := by unfold unrP; exact Int.toNat_natCast _
      have htp : plT p = e := by omega
      refine ⟨_, unr_mem.2 ⟨p, hp, i, hi, rfl⟩, ?_, ?_, ?_⟩
      · show (((i + p.Tokens.toNat) % c * g.Events.toNat + plT p : Nat) : Int) = (v : Int)
        rw [hs2, htp, hve]
      · show (((i + p.Tokens.toNat) / c : Nat) : Int) ≤ (k : Int)
        rw [hs1]; omega
      · rw [hf, htk, hs1, md_div b4, md_mod b4, show k - (k - k0) = k0 by omega, show k0 * c + i = k * c + j - p.Tokens.toNat by rw [Nat.mul_comm]; omega]
        exact a3

end Go.Proofs.Ytgkgimglgjfcjaa
