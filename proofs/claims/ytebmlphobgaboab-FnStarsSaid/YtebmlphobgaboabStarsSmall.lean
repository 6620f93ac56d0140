/- Plain lemmas about the small functions of the laws. -/
import Derived.Test.YtebmlphobgaboabStarsModels
import Derived.Test.YtebmlphobgaboabBf
namespace Go.Proofs.Ytebmlphobgaboab

theorem slices_IndexFunc_int64_is {F : Nat} {ps : List Int} {m : Int → Option Bool} {h : Int → Bool} (hF : 134217728 ≤ F) (hl : ps.length ≤ 16777216) (hm : ∀ x, x ∈ ps → m x = some (h x)) :
    slices_IndexFunc_int64 F ps m = some (firstAt (ps.findIdx? h)) := by
  unfold slices_IndexFunc_int64
  rw [find_loop (ps := ps) (h := h) (v := fun k => (k : Int)) (L := slices_IndexFunc_int64_L1 F ps m) ?_ ?_ (by omega)]
  · cases ps.findIdx? h <;> rfl
  · intro n k x hk hx
    simp only [slices_IndexFunc_int64_L1, bdT (show (k : Int) < (ps.length : Int) by omega), idx_nat, hx, Option.bind_some, hm x (List.mem_of_getElem? hx), wrN (show k ≤ 67108864 by omega)]
  · intro n
    simp only [slices_IndexFunc_int64_L1, bdF (show ¬ (ps.length : Int) < (ps.length : Int) by omega)]
theorem slices_ContainsFunc_int64_is {F : Nat} {ps : List Int} {m : Int → Option Bool} {h : Int → Bool} (hF : 134217728 ≤ F) (hl : ps.length ≤ 16777216) (hm : ∀ x, x ∈ ps → m x = some (h x)) :
    slices_ContainsFunc_int64 F ps m = some (ps.any h) := by
  unfold slices_ContainsFunc_int64
  rw [bind_of (slices_IndexFunc_int64_is hF hl hm), find_any]

theorem slices_IndexFunc_sint64_is {F : Nat} {ps : List (List Int)} {m : (List Int) → Option Bool} {h : (List Int) → Bool} (hF : 134217728 ≤ F) (hl : ps.length ≤ 16777216) (hm : ∀ x, x ∈ ps → m x = some (h x)) :
    slices_IndexFunc_sint64 F ps m = some (firstAt (ps.findIdx? h)) := by
  unfold slices_IndexFunc_sint64
  rw [find_loop (ps := ps) (h := h) (v := fun k => (k : Int)) (L := slices_IndexFunc_sint64_L1 F ps m) ?_ ?_ (by omega)]
  · cases ps.findIdx? h <;> rfl
  · intro n k x hk hx
    simp only [slices_IndexFunc_sint64_L1, bdT (show (k : Int) < (ps.length : Int) by omega), idx_nat, hx, Option.bind_some, hm x (List.mem_of_getElem? hx), wrN (show k ≤ 67108864 by omega)]
  · intro n
    simp only [slices_IndexFunc_sint64_L1, bdF (show ¬ (ps.length : Int) < (ps.length : Int) by omega)]
theorem slices_ContainsFunc_sint64_is {F : Nat} {ps : List (List Int)} {m : (List Int) → Option Bool} {h : (List Int) → Bool} (hF : 134217728 ≤ F) (hl : ps.length ≤ 16777216) (hm : ∀ x, x ∈ ps → m x = some (h x)) :
    slices_ContainsFunc_sint64 F ps m = some (ps.any h) := by
  unfold slices_ContainsFunc_sint64
  rw [bind_of (slices_IndexFunc_sint64_is hF hl hm), find_any]

/-! ### What comes to an end -/
def Tot {α : Type} (P : α → Prop) (o : Option α) : Prop := ∃ x, o = some x ∧ P x

theorem Tot.pure {α : Type} {P : α → Prop} {x : α} (h : P x) : Tot P (some x) := ⟨x, rfl, h⟩

theorem Tot.bind {α β : Type} {P : α → Prop} {Q : β → Prop} {o : Option α} {f : α → Option β} (h : Tot P o) (k : ∀ x, P x → Tot Q (f x)) : Tot Q (o.bind f) := by
  obtain ⟨x, rfl, hx⟩ := h; exact k x hx

theorem Tot.cond {α : Type} {P : α → Prop} {b : Bool} {x y : Option α} (h1 : b = true → Tot P x) (h2 : b = false → Tot P y) : Tot P (bif b then x else y) := by
  cases b
  · exact h2 rfl
  · exact h1 rfl

theorem Tot.mono {α : Type} {P Q : α → Prop} {o : Option α} (h : Tot P o) (k : ∀ x, P x → Q x) : Tot Q o := by
  obtain ⟨x, e, hx⟩ := h; exact ⟨x, e, k x hx⟩

theorem app_tot {α : Type} {xs ys : List α} (h : xs.length + ys.length ≤ 67108864) : Tot (fun zs => zs = xs ++ ys) (app xs ys) := ⟨_, app_le h, rfl⟩

theorem idx_tot {α : Type} {xs : List α} {i : Int} (h0 : 0 ≤ i) (h1 : i < (xs.length : Int)) : Tot (fun x => x ∈ xs) (idx xs i) := ⟨_, idx_int h0 h1, List.getElem_mem _⟩

theorem upd_tot {α : Type} {xs : List α} {i : Int} {x : α} (h0 : 0 ≤ i) (h1 : i < (xs.length : Int)) : Tot (fun ys => ys.length = xs.length) (upd xs i x) := ⟨_, upd_int x h0 h1, List.length_set⟩

theorem cutTo_tot {α : Type} {xs : List α} {l : Int} (h0 : 0 ≤ l) (h1 : l ≤ (xs.length : Int)) : Tot (fun ys => ys.length ≤ xs.length) (cutTo xs l) := by
  refine ⟨xs.take l.toNat, ?_, by show (xs.take l.toNat).length ≤ xs.length; rw [List.length_take]; omega⟩
  unfold cutTo; rw [if_pos ⟨h0, h1⟩]

/-- how many numbers stand in the first i rows -/
def offR (rows : List (List Int)) (i : Nat) : Nat := ((rows.take i).map List.length).sum

theorem offR_zero (rows : List (List Int)) : offR rows 0 = 0 := rfl

theorem offR_succ {rows : List (List Int)} {i : Nat} {row : List Int} (h : rows[i]? = some row) : offR rows (i + 1) = offR rows i + row.length := by
  unfold offR
  rw [List.take_add_one, h]; simp

theorem offR_mono (rows : List (List Int)) (i : Nat) : offR rows i ≤ offR rows (i + 1) := by
  unfold offR
  rw [List.take_add_one, List.map_append, List.sum_append]; omega

theorem offR_le {rows : List (List Int)} {i j : Nat} (h : i ≤ j) : offR rows i ≤ offR rows j := by
  induction j with
  | zero => obtain rfl : i = 0 := by omega
            exact Nat.le_refl _
  | succ j ih =>
    by_cases e : i = j + 1
    · subst e; exact Nat.le_refl _
    · exact Nat.le_trans (ih (by omega)) (offR_mono rows j)


theorem rows_le {rows : List (List Int)} {N : Nat} (hr : offR rows rows.length ≤ N) : ∀ row, row ∈ rows → row.length ≤ N := by
  intro row hm
  obtain ⟨i, hi, rfl⟩ := List.getElem_of_mem hm
  have h1 := offR_succ (List.getElem?_eq_getElem hi)
  have h2 := offR_le (rows := rows) (show i + 1 ≤ rows.length by omega)
  omega

/-! ### Slices of matrices -/
def wtM (m : List (List Int)) : Nat := m.length + offR m m.length

def offW (ms : List (List (List Int))) (i : Nat) : Nat := ((ms.take i).map wtM).sum

def offD (ms : List (List (List Int))) (i : Nat) : Nat := ((ms.take i).map fun m => offR m m.length).sum

theorem offW_zero (ms : List (List (List Int))) : offW ms 0 = 0 := rfl

theorem offW_succ {ms : List (List (List Int))} {i : Nat} {m : List (List Int)} (h : ms[i]? = some m) : offW ms (i + 1) = offW ms i + wtM m := by
  unfold offW
  rw [List.take_add_one, h]; simp

theorem offD_succ {ms : List (List (List Int))} {i : Nat} {m : List (List Int)} (h : ms[i]? = some m) : offD ms (i + 1) = offD ms i + offR m m.length := by
  unfold offD
  rw [List.take_add_one, h]; simp

theorem offW_mono (ms : List (List (List Int))) (i : Nat) : offW ms i ≤ offW ms (i + 1) := by
  unfold offW
  rw [List.take_add_one, List.map_append, List.sum_append]; omega

theorem offW_le {ms : List (List (List Int))} {i j : Nat} (h : i ≤ j) : offW ms i ≤ offW ms j := by
  induction j with
  | zero => obtain rfl : i = 0 := by omega
            exact Nat.le_refl _
  | succ j ih =>
    by_cases e : i = j + 1
    · subst e; exact Nat.le_refl _
    · exact Nat.le_trans (ih (by omega)) (offW_mono ms j)

theorem offD_le (ms : List (List (List Int))) : ∀ i, offD ms i ≤ offW ms i
  | 0 => Nat.le_refl _
  | i + 1 => by
    have := offD_le ms i
    cases h : ms[i]? with
    | none =>
      have e1 : offW ms (i + 1) = offW ms i := by unfold offW; rw [List.take_add_one, h]; simp
      have e2 : offD ms (i + 1) = offD ms i := by unfold offD; rw [List.take_add_one, h]; simp
      omega
    | some m =>
      rw [offW_succ h, offD_succ h]
      unfold wtM; omega

theorem offW_at {ms : List (List (List Int))} {i : Nat} {m : List (List Int)} (h : ms[i]? = some m) : m.length + offR m m.length ≤ offW ms ms.length := by
  have h1 := offW_succ h
  have h2 := offW_le (ms := ms) (show i + 1 ≤ ms.length from (List.getElem?_eq_some_iff.1 h).1)
  unfold wtM at h1
  omega

theorem offW_mem {ms : List (List (List Int))} {m : List (List Int)} (h : m ∈ ms) : m.length + offR m m.length ≤ offW ms ms.length := by
  obtain ⟨i, hi, rfl⟩ := List.getElem_of_mem h
  exact offW_at (List.getElem?_eq_getElem hi)

def inB (n lo hi : Int) : Bool := decide (lo ≤ n) && decide (n ≤ hi)

theorem inB_true {n lo hi : Int} : inB n lo hi = true ↔ lo ≤ n ∧ n ≤ hi := by unfold inB; simp

theorem inB_false {n lo hi : Int} (h : ¬ (lo ≤ n ∧ n ≤ hi)) : inB n lo hi = false := by
  cases e : inB n lo hi with
  | false => rfl
  | true => exact absurd (inB_true.1 e) h

theorem specIn_is {F : Nat} {n lo hi : Int} : spec_l01In F n lo hi = some (inB n lo hi) := by
  simp only [spec_l01In, cond_and, Option.bind_some]; rfl

theorem within_is {F : Nat} {n lo hi : Int} : impl_within F n lo hi = some (inB n lo hi) := by
  simp only [impl_within, cond_and, Option.bind_some]; rfl


/-! ### Values and vectors -/
def valB (a : Int) : Bool := (a == (-1000000000000000)) || inB a (-1000000) 1000000

theorem specValue_is {F : Nat} {a : Int} : spec_IsValue F a = some (valB a) := by
  simp only [spec_IsValue, spec_l01Finite, specIn_is, cond_or, Option.bind_some]; rfl

theorem implValue_is {F : Nat} {a : Int} : impl_IsValue F a = some (valB a) := by
  simp only [impl_IsValue, impl_isFinite, within_is, cond_or, Option.bind_some]; rfl

theorem specAll_is {F : Nat} {xs : List Int} (hF : 134217728 ≤ F) (hl : xs.length ≤ 1048576) : spec_l01All F xs false = some (xs.all valB) := by
  unfold spec_l01All
  rw [all_loop (ps := xs) (g := valB) (r := false) (L := spec_l01All_L1 F xs false) ?_ ?_ (by omega)]
  · cases xs.all valB <;> rfl
  · intro n k x hk hx
    simp only [spec_l01All_L1, bdT (show (k : Int) < (xs.length : Int) by omega), idx_nat, hx, Option.bind_some, specValue_is, cond_false, condn, wrN (show k ≤ 67108864 by omega)]
    cases valB x <;> rfl
  · intro n
    simp only [spec_l01All_L1, bdF (show ¬ (xs.length : Int) < (xs.length : Int) by omega)]

theorem implAll_is {F : Nat} {xs : List Int} (hF : 134217728 ≤ F) (hl : xs.length ≤ 1048576) : impl_areValues F xs = some (xs.all valB) := by
  unfold impl_areValues
  rw [bind_of (slices_ContainsFunc_int64_is (h := fun x => !valB x) hF (show xs.length ≤ 16777216 by omega) (fun x _ => show impl_areValues_c1 F x = _ by simp only [impl_areValues_c1, implValue_is, Option.bind_some])), any_not, Bool.not_not]

/-! ### Sums of the algebra -/
def tms (a b : Int) : Int := bif (a == (-1000000000000000)) || (b == (-1000000000000000)) then (-1000000000000000) else IntKind.i64.wrap (a + b)

/-- the sum of the products -/
def dotv (c x : List Int) (n : Nat) : Int := (List.range n).foldl (fun acc i => max acc (tms (c.getD i 0) (x.getD i 0))) (-1000000000000000)

theorem specTimes_is {F : Nat} {a b : Int} : spec_l01Times F a b = some (tms a b) := by
  unfold spec_l01Times tms
  cases (a == (-1000000000000000)) <;> cases (b == (-1000000000000000)) <;> rfl

theorem implTimes_is {F : Nat} {a b : Int} : impl_times F a b = some (tms a b) := by
  unfold impl_times tms
  cases (a == (-1000000000000000)) <;> cases (b == (-1000000000000000)) <;> rfl

/-! ### Lists of finite numbers -/
theorem fin_val (x : Int) : (valB x && !(x == (-1000000000000000))) = inB x (-1000000) 1000000 := by
  unfold valB
  cases h : (x == (-1000000000000000)) with
  | false => simp
  | true =>
    rw [beq_iff_eq] at h
    subst h; rfl

theorem specAllFin_is {F : Nat} {xs : List Int} (hF : 134217728 ≤ F) (hl : xs.length ≤ 1048576) : spec_l01All F xs true = some (xs.all fun x => inB x (-1000000) 1000000) := by
  unfold spec_l01All
  rw [all_loop (ps := xs) (g := fun x => inB x (-1000000) 1000000) (r := false) (L := spec_l01All_L1 F xs true) ?_ ?_ (by omega)]
  · cases (xs.all fun x => inB x (-1000000) 1000000) <;> rfl
  · intro n k x hk hx
    simp only [spec_l01All_L1, bdT (show (k : Int) < (xs.length : Int) by omega), idx_nat, hx, Option.bind_some, specValue_is, cond_true, condn, wrN (show k ≤ 67108864 by omega)]
    rw [← fin_val x]
    cases valB x <;> cases (x == (-1000000000000000)) <;> rfl
  · intro n
    simp only [spec_l01All_L1, bdF (show ¬ (xs.length : Int) < (xs.length : Int) by omega)]

def applyv (a : List (List Int)) (x : List Int) : List Int := a.map fun row => dotv row x row.length

def vecB (x : List Int) : Bool := inB x.length 1 10 && x.all valB

theorem specVector_is {F : Nat} {x : List Int} (hF : 134217728 ≤ F) (hl : x.length ≤ 1048576) : spec_l02Vector F x = some (vecB x) := by
  simp only [spec_l02Vector, specIn_is, specAll_is hF hl, Option.bind_some, cond_and]; rfl

def firstL (a : List (List Int)) : Int := ((a.getD 0 []).length : Int)

def matB (a : List (List Int)) : Bool := inB a.length 1 10 && a.all (fun row => vecB row && ((row.length : Int) == firstL a))

theorem first_is {a : List (List Int)} (h : 0 < a.length) : idx a 0 = some (a.getD 0 []) := by
  rw [show (0 : Int) = ((0 : Nat) : Int) from rfl, idx_nat, List.getD_eq_getElem?_getD, List.getElem?_eq_getElem h]; rfl

theorem specMatrix_is {F : Nat} {a : List (List Int)} (hF : 134217728 ≤ F) (hr : ∀ row, row ∈ a → row.length ≤ 1048576) : spec_IsMatrix F a = some (matB a) := by
  unfold spec_IsMatrix matB
  simp only [cond_or, Option.bind_some]
  by_cases h : (1 : Int) ≤ a.length ∧ (a.length : Int) ≤ 10
  · have c1 : (decide ((a.length : Int) < 1) || decide (10 < (a.length : Int))) = false := by simp; omega
    rw [bF c1, inB_true.2 h, Bool.true_and]
    rw [all_loop (ps := a) (g := fun row => vecB row && ((row.length : Int) == firstL a)) (r := false) (L := spec_IsMatrix_L1 F a) ?_ ?_ (by omega)]
    · cases a.all (fun row => vecB row && ((row.length : Int) == firstL a)) <;> rfl
    · intro n k row hk hx
      simp only [spec_IsMatrix_L1, bdT (show (k : Int) < (a.length : Int) by omega), idx_nat, hx, first_is (show 0 < a.length by omega), Option.bind_some, specVector_is hF (hr row (List.mem_of_getElem? hx)), wrN (show k ≤ 67108864 by omega), bne, firstL]
      cases vecB row <;> cases ((row.length : Int) == ((a.getD 0 []).length : Int)) <;> rfl
    · intro n
      simp only [spec_IsMatrix_L1, bdF (show ¬ (a.length : Int) < (a.length : Int) by omega)]
  · have c1 : (decide ((a.length : Int) < 1) || decide (10 < (a.length : Int))) = true := by simp; omega
    rw [bT c1, inB_false h]; rfl

theorem implMatrix_is {F : Nat} {a : List (List Int)} (hF : 134217728 ≤ F) (hr : ∀ row, row ∈ a → row.length ≤ 1048576) : impl_IsMatrix F a = some (matB a) := by
  unfold impl_IsMatrix matB
  simp only [within_is, Option.bind_some]
  by_cases h : (1 : Int) ≤ a.length ∧ (a.length : Int) ≤ 10
  · have h0 := first_is (a := a) (by omega)
    have hm : a.getD 0 [] ∈ a := by
      rw [List.getD_eq_getElem?_getD, List.getElem?_eq_getElem (show 0 < a.length by omega)]; exact List.getElem_mem _
    rw [inB_true.2 h]
    simp only [Bool.not_true, cond_false, h0, Option.bind_some, Bool.true_and]
    by_cases h2 : (1 : Int) ≤ firstL a ∧ firstL a ≤ 10
    · rw [show inB ((a.getD 0 []).length : Int) 1 10 = true from inB_true.2 h2]
      simp only [Bool.not_true, cond_false]
      rw [bind_of (slices_ContainsFunc_sint64_is (h := fun row => !((row.length : Int) == firstL a && row.all valB)) hF (show a.length ≤ 16777216 by omega) (fun row hrow => ?_)), any_not, Bool.not_not]
      · refine congrArg some ?_
        apply Bool.eq_iff_iff.2
        rw [List.all_eq_true, List.all_eq_true]
        constructor
        · intro H row hrow
          have := H row hrow
          rw [Bool.and_eq_true, beq_iff_eq] at this
          rw [Bool.and_eq_true, beq_iff_eq]
          refine ⟨?_, this.1⟩
          unfold vecB
          rw [Bool.and_eq_true, this.1]
          exact ⟨inB_true.2 h2, this.2⟩
        · intro H row hrow
          have := H row hrow
          rw [Bool.and_eq_true, beq_iff_eq] at this
          rw [Bool.and_eq_true, beq_iff_eq]
          have h3 := this.1
          unfold vecB at h3
          rw [Bool.and_eq_true] at h3
          exact ⟨this.2, h3.2⟩
      · show impl_IsMatrix_c1 F row a = _
        simp only [impl_IsMatrix_c1, h0, Option.bind_some, implAll_is hF (hr row hrow), bne, firstL]
        cases ((row.length : Int) == ((a.getD 0 []).length : Int)) <;> cases row.all valB <;> rfl
    · rw [show inB ((a.getD 0 []).length : Int) 1 10 = false from inB_false h2]
      simp only [Bool.not_false, cond_true]
      refine congrArg some ?_
      symm
      rw [List.all_eq_false]
      refine ⟨_, hm, ?_⟩
      unfold vecB
      rw [show inB ((a.getD 0 []).length : Int) 1 10 = false from inB_false h2]
      simp
  · rw [inB_false h]; rfl

def squareB (a : List (List Int)) : Bool := matB a && ((a.length : Int) == firstL a)

theorem specSquare_is {F : Nat} {a : List (List Int)} (hF : 134217728 ≤ F) (hr : ∀ row, row ∈ a → row.length ≤ 1048576) : spec_l02Square F a = some (squareB a) := by
  unfold spec_l02Square squareB
  rw [bind_of (specMatrix_is hF hr)]
  cases hm : matB a with
  | false => rfl
  | true =>
    have h : 0 < a.length := by
      unfold matB at hm; rw [Bool.and_eq_true, inB_true] at hm; omega
    simp only [cond_true, first_is h, Option.bind_some, firstL, Bool.true_and]

theorem implSquare_is {F : Nat} {a : List (List Int)} (hF : 134217728 ≤ F) (hr : ∀ row, row ∈ a → row.length ≤ 1048576) : impl_isSquare F a = some (squareB a) := by
  unfold impl_isSquare squareB
  rw [bind_of (implMatrix_is hF hr)]
  cases hm : matB a with
  | false => rfl
  | true =>
    have h : 0 < a.length := by
      unfold matB at hm; rw [Bool.and_eq_true, inB_true] at hm; omega
    simp only [cond_true, first_is h, Option.bind_some, firstL, Bool.true_and]

/-! ### Matrices by their entries -/
def tabM (m n : Nat) (f : Nat → Nat → Int) : List (List Int) := (List.range m).map fun i => (List.range n).map fun j => f i j

theorem tabM_len (m n : Nat) (f : Nat → Nat → Int) : (tabM m n f).length = m := by unfold tabM; simp

theorem tabM_row {m n i : Nat} {f : Nat → Nat → Int} (h : i < m) : (tabM m n f)[i]? = some ((List.range n).map fun j => f i j) := by
  unfold tabM; rw [List.getElem?_map, List.getElem?_range h]; rfl

theorem tabM_rows {m n : Nat} {f : Nat → Nat → Int} : ∀ r, r ∈ tabM m n f → r.length = n := by
  intro r hr
  unfold tabM at hr
  rw [List.mem_map] at hr
  obtain ⟨i, _, rfl⟩ := hr
  simp

theorem tabM_of {m n : Nat} {f : Nat → Nat → Int} {t : List (List Int)} (hl : t.length = m) (h : ∀ i, i < m → t[i]? = some ((List.range n).map fun j => f i j)) : t = tabM m n f := by
  apply List.ext_getElem?; intro q
  by_cases hq : q < m
  · rw [h q hq, tabM_row hq]
  · rw [List.getElem?_eq_none (by omega), List.getElem?_eq_none (by rw [tabM_len]; omega)]

theorem row_of {n : Nat} {f : Nat → Int} {r : List Int} (hl : r.length = n) (h : ∀ j, j < n → r[j]? = some (f j)) : r = (List.range n).map f := by
  apply List.ext_getElem?; intro q
  by_cases hq : q < n
  · rw [h q hq, List.getElem?_map, List.getElem?_range hq]; rfl
  · rw [List.getElem?_eq_none (by omega), List.getElem?_eq_none (by simp; omega)]

theorem byRow {F n i : Nat} {en : Int → Int → Option Int} {f : Nat → Int} {ms : List (List Int)} {q : List Int} (hF : 134217728 ≤ F) (hn : n ≤ 1048576) (hen : ∀ j, j < n → en (i : Int) (j : Int) = some (f j)) (hq : ms[i]? = some q) (hql : q.length = n) :
    impl_matrixBy_L5 F en (i : Int) q F ms 0 = some (ms.set i ((List.range n).map f)) := by
  have him : i < ms.length := (List.getElem?_eq_some_iff.1 hq).1
  refine for0 (L := impl_matrixBy_L5 F en (i : Int) q) (len := q.length) (fun k t => ∃ r, t = ms.set i r ∧ r.length = n ∧ ∀ j, j < k → r[j]? = some (f j)) (R := fun o => o = some (ms.set i ((List.range n).map f))) ?_ ?_ ⟨q, (set_same hq).symm, hql, fun j hj => by omega⟩ (by omega)
  · rintro m k t hk ⟨r, rfl, hrl, h1⟩
    have hkr : k < r.length := by omega
    refine .inl ⟨ms.set i (r.set k (f k)), ?_, r.set k (f k), rfl, by rw [List.length_set]; exact hrl, fun j hj => ?_⟩
    · simp only [impl_matrixBy_L5, bdT (show (k : Int) < (q.length : Int) by omega), idx_nat, set_here him, hen k (by omega), getD_of hkr, Option.bind_some, upd_nat _ hkr, upd_nat _ (show i < (ms.set i r).length by rw [List.length_set]; exact him), List.set_set, wrN (show k ≤ 67108864 by omega)]
    · by_cases e : j = k
      · subst e; exact set_here hkr
      · rw [set_keep e]; exact h1 j (by omega)
  · rintro m t ⟨r, rfl, hrl, h1⟩
    simp only [impl_matrixBy_L5, bdF (show ¬ (q.length : Int) < (q.length : Int) by omega)]
    rw [row_of hrl (fun j hj => h1 j (by omega))]

theorem matrixBy_is {F m n : Nat} {en : Int → Int → Option Int} {f : Nat → Nat → Int} (hF : 134217728 ≤ F) (hm : m ≤ 1048576) (hn : n ≤ 1048576) (hen : ∀ i j, i < m → j < n → en (i : Int) (j : Int) = some (f i j)) : impl_matrixBy F (m : Int) (n : Int) en = some (tabM m n f) := by
  unfold impl_matrixBy
  rw [mk_nat _ (by omega)]
  simp only [Option.bind_some]
  have H := for0 (L := impl_matrixBy_L4 F (n : Int) en (List.replicate m [])) (len := m) (fun k t => t.length = m ∧ ∀ i, i < k → t[i]? = some ((List.range n).map fun j => f i j)) (R := fun o => o = some (tabM m n f)) (s := List.replicate m []) (n := F) ?_ ?_ ⟨by simp, fun i hi => by omega⟩ (by omega)
  · rw [H]; rfl
  · rintro q k t hk ⟨hl, h1⟩
    have hkt : k < t.length := by omega
    have hmk : mk (n : Int) (0 : Int) = some (List.replicate n 0) := mk_nat _ (by omega)
    have ht : t[k]? = some t[k] := List.getElem?_eq_getElem hkt
    have hrow := byRow (F := F) (n := n) (i := k) (en := en) (f := fun j => f k j) (ms := t.set k (List.replicate n 0)) (q := List.replicate n 0) hF hn (fun j hj => hen k j hk hj) (set_here hkt) (by simp)
    refine .inl ⟨t.set k ((List.range n).map fun j => f k j), ?_, by rw [List.length_set]; exact hl, fun i hi => ?_⟩
    · rw [List.set_set] at hrow
      simp only [impl_matrixBy_L4, List.length_replicate, bdT (show (k : Int) < (m : Int) by omega), hmk, idx_nat, ht, Option.bind_some, upd_nat _ hkt, set_here hkt, hrow, wrN (show k ≤ 67108864 by omega)]
    · by_cases e : i = k
      · subst e; exact set_here hkt
      · rw [set_keep e]; exact h1 i (by omega)
  · rintro q t ⟨hl, h1⟩
    simp only [impl_matrixBy_L4, List.length_replicate, bdF (show ¬ (m : Int) < (m : Int) by omega)]
    rw [tabM_of hl h1]

theorem specBotM_is {F m n : Nat} (hF : 134217728 ≤ F) (hm : m ≤ 1048576) (hn : n ≤ 1048576) : spec_l02Bottom F (m : Int) (n : Int) = some (tabM m n fun _ _ => (-1000000000000000)) := by
  unfold spec_l02Bottom
  rw [tab_loop (len := m) (f := fun _ => (List.range n).map fun _ => (-1000000000000000)) (L := spec_l02Bottom_L4 F (m : Int) (n : Int)) ?_ ?_ (by omega)]
  · rfl
  · intro k xs j hj hx
    have inner : spec_l02Bottom_L5 F (n : Int) F [] 0 = some ((List.range n).map fun _ => (-1000000000000000)) := by
      refine tab_loop (len := n) (f := fun _ => (-1000000000000000)) (L := spec_l02Bottom_L5 F (n : Int)) ?_ ?_ (by omega)
      · intro k xs j hj hx
        simp only [spec_l02Bottom_L5, bdT (show (j : Int) < (n : Int) by omega), app_le (show xs.length + [(-1000000000000000 : Int)].length ≤ 67108864 by simp only [List.length_singleton]; omega), Option.bind_some, wrN (show j ≤ 67108864 by omega)]
      · intro k xs _
        simp only [spec_l02Bottom_L5, bdF (show ¬ (n : Int) < (n : Int) by omega)]
    simp only [spec_l02Bottom_L4, bdT (show (j : Int) < (m : Int) by omega), inner, app_le (show xs.length + [(List.range n).map fun _ => (-1000000000000000 : Int)].length ≤ 67108864 by simp only [List.length_singleton]; omega), Option.bind_some, wrN (show j ≤ 67108864 by omega)]
  · intro k xs _
    simp only [spec_l02Bottom_L4, bdF (show ¬ (m : Int) < (m : Int) by omega)]

def unitM (n : Nat) : List (List Int) := tabM n n fun i j => if i = j then 0 else (-1000000000000000)

theorem specUnit_is {F n : Nat} (hF : 134217728 ≤ F) (hn : n ≤ 1048576) : spec_l02Unit F (n : Int) = some (unitM n) := by
  unfold spec_l02Unit
  rw [bind_of (specBotM_is hF hn hn)]
  have H := for0 (L := spec_l02Unit_L1 F (n : Int)) (len := n) (fun k t => t.length = n ∧ (∀ i, i < k → t[i]? = some ((List.range n).map fun j => if i = j then 0 else (-1000000000000000))) ∧ ∀ i, k ≤ i → i < n → t[i]? = some ((List.range n).map fun _ => (-1000000000000000))) (R := fun o => o = some (unitM n)) (s := tabM n n fun _ _ => (-1000000000000000)) (n := F) ?_ ?_ ⟨tabM_len _ _ _, fun i hi => by omega, fun i _ hi => tabM_row hi⟩ (by omega)
  · rw [H]; rfl
  · rintro q k t hk ⟨hl, h1, h2⟩
    have hkt : k < t.length := by omega
    have hrow := h2 k (Nat.le_refl _) hk
    have hc : ((List.range n).map fun _ => (-1000000000000000 : Int))[k]? = some (-1000000000000000) := by rw [List.getElem?_map, List.getElem?_range hk]; rfl
    refine .inl ⟨t.set k (((List.range n).map fun _ => (-1000000000000000 : Int)).set k 0), ?_, by rw [List.length_set]; exact hl, fun i hi => ?_, fun i hi hin => ?_⟩
    · simp only [spec_l02Unit_L1, bdT (show (k : Int) < (n : Int) by omega), idx_nat, hrow, hc, Option.bind_some, upd_nat _ (show k < ((List.range n).map fun _ => (-1000000000000000 : Int)).length by simpa using hk), upd_nat _ hkt, wrN (show k ≤ 67108864 by omega)]
    · by_cases e : i = k
      · subst e
        rw [set_here hkt]
        refine congrArg some (row_of (by simp) (fun j hj => ?_))
        by_cases e2 : j = i
        · subst e2; rw [set_here (by simpa using hj), if_pos rfl]
        · rw [set_keep e2, List.getElem?_map, List.getElem?_range hj, if_neg (Ne.symm e2)]; rfl
      · rw [set_keep e]; exact h1 i (by omega)
    · rw [set_keep (by omega)]; exact h2 i (by omega) hin
  · rintro q t ⟨hl, h1, _⟩
    simp only [spec_l02Unit_L1, bdF (show ¬ (n : Int) < (n : Int) by omega)]
    rw [tabM_of hl h1]; rfl

theorem implUnit_is {F n : Nat} (hF : 134217728 ≤ F) (hn : n ≤ 1048576) : impl_unitMatrix F (n : Int) = some (unitM n) := by
  unfold impl_unitMatrix
  rw [matrixBy_is (f := fun i j => if i = j then 0 else (-1000000000000000)) hF hn hn (fun i j _ _ => ?_)]
  · rfl
  · show impl_unitMatrix_c1 F (i : Int) (j : Int) = _
    unfold impl_unitMatrix_c1
    by_cases e : i = j
    · subst e; rw [beq_self_eq_true, if_pos rfl]; rfl
    · rw [beq_false_of_ne (show (i : Int) ≠ (j : Int) by omega), if_neg e]; rfl

/-! ### Products -/
def dotM (a b : List (List Int)) (i j : Nat) (k : Nat) : Int := (List.range k).foldl (fun acc q => max acc (tms ((a.getD i []).getD q 0) ((b.getD q []).getD j 0))) (-1000000000000000)

theorem dotM_succ (a b : List (List Int)) (i j k : Nat) : dotM a b i j (k + 1) = max (dotM a b i j k) (tms ((a.getD i []).getD k 0) ((b.getD k []).getD j 0)) := by
  unfold dotM; rw [List.range_succ, List.foldl_append]; rfl

def mulM (a b : List (List Int)) (n : Nat) : List (List Int) := tabM a.length n fun i j => dotM a b i j b.length

theorem rowG {t : List (List Int)} {k : Nat} (h : k < t.length) : t[k]? = some (t.getD k []) := by
  rw [List.getD_eq_getElem?_getD, List.getElem?_eq_getElem h]; rfl

theorem specMulCell {F n i j : Nat} {a b ms : List (List Int)} {row : List Int} (hF : 134217728 ≤ F) (hb : b.length ≤ 1048576) (ha : ∀ r, r ∈ a → r.length = b.length) (hbr : ∀ r, r ∈ b → r.length = n) (hi : i < a.length) (hj : j < n) (hm : ms[i]? = some row) (hrl : row.length = n) (hc : row[j]? = some (-1000000000000000)) :
    spec_l02Multiply_L21 F a b (i : Int) (j : Int) F ms 0 = some (ms.set i (row.set j (dotM a b i j b.length))) := by
  have him : i < ms.length := (List.getElem?_eq_some_iff.1 hm).1
  refine for0 (L := spec_l02Multiply_L21 F a b (i : Int) (j : Int)) (len := b.length) (fun k t => t = ms.set i (row.set j (dotM a b i j k))) (R := fun o => o = some (ms.set i (row.set j (dotM a b i j b.length)))) ?_ ?_ ?_ (by omega)
  · rintro q k t hk rfl
    have hjr : j < row.length := by omega
    have har := rowG hi
    have hal := ha _ (List.mem_of_getElem? har)
    have hbk := rowG hk
    have hbl := hbr _ (List.mem_of_getElem? hbk)
    refine .inl ⟨_, ?_, rfl⟩
    simp only [spec_l02Multiply_L21, bdT (show (k : Int) < (b.length : Int) by omega), idx_nat, set_here him, set_here hjr, har, hbk, getD_of (show k < (a.getD i []).length by omega), getD_of (show j < (b.getD k []).length by omega), Option.bind_some, specTimes_is, upd_nat _ (show j < (row.set j (dotM a b i j k)).length by rw [List.length_set]; exact hjr), upd_nat _ (show i < (ms.set i (row.set j (dotM a b i j k))).length by rw [List.length_set]; exact him), List.set_set, dotM_succ, wrN (show k ≤ 67108864 by omega)]
  · rintro q t rfl
    simp only [spec_l02Multiply_L21, bdF (show ¬ (b.length : Int) < (b.length : Int) by omega)]
  · show ms = ms.set i (row.set j (-1000000000000000))
    rw [set_same hc, set_same hm]

theorem specMulRow {F n i : Nat} {a b ms : List (List Int)} {row : List Int} (hF : 134217728 ≤ F) (hb0 : 0 < b.length) (hb : b.length ≤ 1048576) (hn : n ≤ 1048576) (ha : ∀ r, r ∈ a → r.length = b.length) (hbr : ∀ r, r ∈ b → r.length = n) (hi : i < a.length) (hm : ms[i]? = some row) (hrl : row.length = n) (hc : ∀ j, j < n → row[j]? = some (-1000000000000000)) :
    spec_l02Multiply_L20 F a b (i : Int) F ms 0 = some (ms.set i ((List.range n).map fun j => dotM a b i j b.length)) := by
  have him : i < ms.length := (List.getElem?_eq_some_iff.1 hm).1
  have h0 : idx b 0 = some (b.getD 0 []) := (idx_nat b 0).trans (rowG hb0)
  have hl0 : (b.getD 0 []).length = n := hbr _ (List.mem_of_getElem? (rowG hb0))
  refine for0 (L := spec_l02Multiply_L20 F a b (i : Int)) (len := n) (fun k t => ∃ r, t = ms.set i r ∧ r.length = n ∧ (∀ j, j < k → r[j]? = some (dotM a b i j b.length)) ∧ ∀ j, k ≤ j → j < n → r[j]? = some (-1000000000000000)) (R := fun o => o = some (ms.set i ((List.range n).map fun j => dotM a b i j b.length))) ?_ ?_ ⟨row, (set_same hm).symm, hrl, fun j hj => by omega, fun j _ hj => hc j hj⟩ (by omega)
  · rintro q k t hk ⟨r, rfl, hl, h1, h2⟩
    have hkr : k < r.length := by omega
    have hcell := specMulCell (F := F) (ms := ms.set i r) hF hb ha hbr hi hk (set_here him) hl (h2 k (Nat.le_refl _) hk)
    rw [List.set_set] at hcell
    refine .inl ⟨ms.set i (r.set k (dotM a b i k b.length)), ?_, r.set k (dotM a b i k b.length), rfl, by rw [List.length_set]; exact hl, fun j hj => ?_, fun j hj hjn => ?_⟩
    · simp only [spec_l02Multiply_L20, h0, Option.bind_some, bdT (show (k : Int) < ((b.getD 0 []).length : Int) by omega), hcell, wrN (show k ≤ 67108864 by omega)]
    · by_cases e : j = k
      · subst e; exact set_here hkr
      · rw [set_keep e]; exact h1 j (by omega)
    · rw [set_keep (by omega)]; exact h2 j (by omega) hjn
  · rintro q t ⟨r, rfl, hl, h1, _⟩
    simp only [spec_l02Multiply_L20, h0, Option.bind_some, bdF (show ¬ (n : Int) < ((b.getD 0 []).length : Int) by omega)]
    rw [row_of hl h1]

theorem specMul_is {F n : Nat} {a b : List (List Int)} (hF : 134217728 ≤ F) (hal : a.length ≤ 1048576) (hb0 : 0 < b.length) (hb : b.length ≤ 1048576) (hn : n ≤ 1048576) (ha : ∀ r, r ∈ a → r.length = b.length) (hbr : ∀ r, r ∈ b → r.length = n) : spec_l02Multiply F a b = some (mulM a b n) := by
  have h0 : idx b 0 = some (b.getD 0 []) := (idx_nat b 0).trans (rowG hb0)
  have hl0 : (b.getD 0 []).length = n := hbr _ (List.mem_of_getElem? (rowG hb0))
  unfold spec_l02Multiply
  rw [bind_of h0, hl0, bind_of (specBotM_is hF hal hn)]
  have H := for0 (L := spec_l02Multiply_L16 F a b) (len := a.length) (fun k t => t.length = a.length ∧ (∀ i, i < k → t[i]? = some ((List.range n).map fun j => dotM a b i j b.length)) ∧ ∀ i, k ≤ i → i < a.length → t[i]? = some ((List.range n).map fun _ => (-1000000000000000))) (R := fun o => o = some (mulM a b n)) (s := tabM a.length n fun _ _ => (-1000000000000000)) (n := F) ?_ ?_ ⟨tabM_len _ _ _, fun i hi => by omega, fun i _ hi => tabM_row hi⟩ (by omega)
  · rw [H]; rfl
  · rintro q k t hk ⟨hl, h1, h2⟩
    have hkt : k < t.length := by omega
    have hrow := specMulRow (F := F) (ms := t) hF hb0 hb hn ha hbr hk (h2 k (Nat.le_refl _) hk) (by simp) (fun j hj => by rw [List.getElem?_map, List.getElem?_range hj]; rfl)
    refine .inl ⟨t.set k ((List.range n).map fun j => dotM a b k j b.length), ?_, by rw [List.length_set]; exact hl, fun i hi => ?_, fun i hi hin => ?_⟩
    · simp only [spec_l02Multiply_L16, bdT (show (k : Int) < (a.length : Int) by omega), hrow, Option.bind_some, wrN (show k ≤ 67108864 by omega)]
    · by_cases e : i = k
      · subst e; exact set_here hkt
      · rw [set_keep e]; exact h1 i (by omega)
    · rw [set_keep (by omega)]; exact h2 i (by omega) hin
  · rintro q t ⟨hl, h1, _⟩
    simp only [spec_l02Multiply_L16, bdF (show ¬ (a.length : Int) < (a.length : Int) by omega)]
    rw [tabM_of hl h1]; rfl

theorem mulM_len (a b : List (List Int)) (n : Nat) : (mulM a b n).length = a.length := tabM_len _ _ _

theorem mulM_rows {a b : List (List Int)} {n : Nat} : ∀ r, r ∈ mulM a b n → r.length = n := tabM_rows

theorem implMul_is {F n : Nat} {a b : List (List Int)} (hF : 134217728 ≤ F) (hal : a.length ≤ 1048576) (hb0 : 0 < b.length) (hb : b.length ≤ 1048576) (hn : n ≤ 1048576) (ha : ∀ r, r ∈ a → r.length = b.length) (hbr : ∀ r, r ∈ b → r.length = n) : impl_multiply F a b = some (mulM a b n) := by
  have h0 : idx b 0 = some (b.getD 0 []) := (idx_nat b 0).trans (rowG hb0)
  have hl0 : (b.getD 0 []).length = n := hbr _ (List.mem_of_getElem? (rowG hb0))
  unfold impl_multiply
  rw [bind_of h0, hl0, matrixBy_is (f := fun i j => dotM a b i j b.length) hF hal hn (fun i j hi hj => ?_)]
  · rfl
  · show impl_multiply_c1 F (i : Int) (j : Int) a b = _
    have har := rowG hi
    have hrl := ha _ (List.mem_of_getElem? har)
    unfold impl_multiply_c1
    rw [idx_nat, har]
    simp only [Option.bind_some]
    have H := for0 (L := impl_multiply_c1_L1 F (j : Int) b (a.getD i [])) (len := b.length) (fun k s => s = dotM a b i j k) (R := fun o => o = some (dotM a b i j b.length)) (s := -1000000000000000) (n := F) ?_ ?_ rfl (by omega)
    · rw [H]; rfl
    · rintro q k s hk rfl
      have hbk := rowG hk
      have hbl := hbr _ (List.mem_of_getElem? hbk)
      refine .inl ⟨_, ?_, rfl⟩
      simp only [impl_multiply_c1_L1, bdT (show (k : Int) < ((a.getD i []).length : Int) by omega), idx_nat, hbk, getD_of (show k < (a.getD i []).length by omega), getD_of (show j < (b.getD k []).length by omega), Option.bind_some, implTimes_is, dotM_succ, wrN (show k ≤ 67108864 by omega)]
    · rintro q s rfl
      simp only [impl_multiply_c1_L1, bdF (show ¬ (b.length : Int) < ((a.getD i []).length : Int) by omega)]

def valsM (a : List (List Int)) : Bool := a.all fun r => r.all valB

theorem implChecked_is {F : Nat} {a : List (List Int)} (hF : 134217728 ≤ F) (hl : a.length ≤ 1048576) (hr : ∀ r, r ∈ a → r.length ≤ 1048576) : impl_checkedMatrix F a = some (bif valsM a then (a, 0) else ([], 3)) := by
  unfold impl_checkedMatrix valsM
  rw [slices_ContainsFunc_sint64_is (h := fun r => !(r.all valB)) hF (by omega) (fun r hm => show impl_checkedMatrix_c1 F r = _ by simp only [impl_checkedMatrix_c1, implAll_is hF (hr r hm), Option.bind_some])]
  simp only [Option.bind_some, any_not]
  cases a.all (fun r => r.all valB) <;> rfl

/-! ### Modes -/
def firstN (ms : List (List (List Int))) : Int := ((ms.getD 0 []).length : Int)

def modesB (ms : List (List (List Int))) : Bool := inB ms.length 1 4 && ms.all fun m => squareB m && ((m.length : Int) == firstN ms)

theorem firstM_is {ms : List (List (List Int))} (h : 0 < ms.length) : idx ms 0 = some (ms.getD 0 []) := by
  rw [show (0 : Int) = ((0 : Nat) : Int) from rfl, idx_nat, List.getD_eq_getElem?_getD, List.getElem?_eq_getElem h]; rfl

/-- all matrices are squares of one size -/
theorem modesB_true {ms : List (List (List Int))} (h : modesB ms = true) : ∃ n : Nat, (ms.getD 0 []).length = n ∧ 1 ≤ n ∧ n ≤ 10 ∧ 1 ≤ ms.length ∧ ms.length ≤ 4 ∧ ∀ m, m ∈ ms → m.length = n ∧ ∀ row, row ∈ m → row.length = n := by
  unfold modesB at h
  rw [Bool.and_eq_true, inB_true, List.all_eq_true] at h
  have hm : ms.getD 0 [] ∈ ms := by
    rw [List.getD_eq_getElem?_getD, List.getElem?_eq_getElem (show 0 < ms.length by omega)]; exact List.getElem_mem _
  have sq : ∀ m, squareB m = true → 1 ≤ m.length ∧ m.length ≤ 10 ∧ ∀ row, row ∈ m → row.length = m.length := by
    intro m hs
    unfold squareB matB at hs
    simp only [Bool.and_eq_true, inB_true, beq_iff_eq, List.all_eq_true] at hs
    refine ⟨by omega, by omega, fun row hrow => ?_⟩
    have := (hs.1.2 row hrow).2
    omega
  have h0 := h.2 _ hm
  rw [Bool.and_eq_true] at h0
  obtain ⟨a1, a2, _⟩ := sq _ h0.1
  refine ⟨_, rfl, a1, a2, by omega, by omega, fun m hmm => ?_⟩
  have h2 := h.2 m hmm
  rw [Bool.and_eq_true, beq_iff_eq] at h2
  unfold firstN at h2
  obtain ⟨_, _, b3⟩ := sq _ h2.1
  exact ⟨by omega, fun row hrow => by rw [b3 row hrow]; omega⟩

def wordB (ms : List (List (List Int))) (w : List Int) : Bool := (w.all fun x => inB x 0 (IntKind.i64.wrap ((ms.length : Int) - 1))) && decide ((w.length : Int) ≤ 6)

theorem wordB_at {ms : List (List (List Int))} {w : List Int} (h : wordB ms w = true) (hm : 1 ≤ ms.length) (hm4 : ms.length ≤ 4) : w.length ≤ 6 ∧ ∀ k (hk : k < w.length), ∃ j : Nat, w[k] = (j : Int) ∧ j < ms.length := by
  unfold wordB at h
  simp only [Bool.and_eq_true, List.all_eq_true, inB_true, decide_eq_true_eq] at h
  refine ⟨by omega, fun k hk => ?_⟩
  have := h.1 _ (List.getElem_mem hk)
  rw [wr (by omega) (by omega)] at this
  exact ⟨(w[k]).toNat, by omega, by omega⟩

/-! ### Shifted vectors, sums of matrices -/
def shiftv (x : List Int) (g : Int) : List Int := x.map fun v => tms v g

/-! ### Sums of matrices -/
def addv (a b : List Int) : List Int := (List.range a.length).map fun i => max (a.getD i 0) (b.getD i 0)

theorem addv_len (a b : List Int) : (addv a b).length = a.length := by unfold addv; simp

def addm (a b : List (List Int)) : List (List Int) := (List.range a.length).map fun i => addv (a.getD i []) (b.getD i [])

theorem addv_of {r a b : List Int} (hl : r.length = a.length) (h : ∀ q, q < a.length → r[q]? = some (max (a.getD q 0) (b.getD q 0))) : r = addv a b := by
  apply List.ext_getElem?; intro q
  by_cases hq : q < a.length
  · rw [h q hq]; unfold addv; rw [List.getElem?_map, List.getElem?_range hq]; rfl
  · rw [List.getElem?_eq_none (by omega), List.getElem?_eq_none (by rw [addv_len]; omega)]

/-! ### Sums of matrices, by the reference -/
theorem specOwn_is {F : Nat} {x : List Int} (hx : x.length ≤ 1048576) : spec_l01Own F x = some x := by
  unfold spec_l01Own
  rw [app_le (by simp only [List.length_nil]; omega)]; rfl

theorem specOwnM_is {F : Nat} {a : List (List Int)} (hF : 134217728 ≤ F) (ha : a.length ≤ 1048576) (hr : ∀ row, row ∈ a → row.length ≤ 1048576) : spec_l02Own F a = some a := by
  unfold spec_l02Own
  rw [grow_loop (ps := a) (g := fun r => [r]) (L := spec_l02Own_L1 F a) (by simp) ?_ ?_ (by omega)]
  · rw [Option.bind_some, flatMap_one, List.map_id']
  · intro n xs k v hk hv hl
    simp only [spec_l02Own_L1, bdT (show (k : Int) < (a.length : Int) by omega), idx_nat, hv, Option.bind_some, specOwn_is (hr v (List.mem_of_getElem? hv)), app_le (show xs.length + [v].length ≤ 67108864 by simp only [List.length_singleton]; omega), wrN (show k ≤ 67108864 by omega)]
  · intro n xs
    simp only [spec_l02Own_L1, bdF (show ¬ (a.length : Int) < (a.length : Int) by omega)]

theorem specAddRow {F : Nat} {b ms : List (List Int)} {i : Nat} {row rb : List Int} (hF : 134217728 ≤ F) (hi : ms[i]? = some row) (hb : b[i]? = some rb) (hl : row.length ≤ 1048576) (hlb : row.length ≤ rb.length) :
    spec_l02Add_L5 F b (i : Int) F ms 0 = some (ms.set i (addv row rb)) := by
  have him : i < ms.length := (List.getElem?_eq_some_iff.1 hi).1
  refine for0 (L := spec_l02Add_L5 F b (i : Int)) (len := row.length) (fun j t => ∃ r, t = ms.set i r ∧ r.length = row.length ∧ (∀ q, q < j → r[q]? = some (max (row.getD q 0) (rb.getD q 0))) ∧ ∀ q, j ≤ q → r[q]? = row[q]?) (R := fun o => o = some (ms.set i (addv row rb))) ?_ ?_ ⟨row, (set_same hi).symm, rfl, by intro q hq; omega, fun _ _ => rfl⟩ (by omega)
  · rintro n j t hj ⟨r, rfl, hrl, h1, h2⟩
    have hjr : j < r.length := by omega
    have hrj : r[j]? = some (row.getD j 0) := by rw [h2 j (Nat.le_refl _), getD_of hj]
    refine .inl ⟨ms.set i (r.set j (max (row.getD j 0) (rb.getD j 0))), ?_, r.set j (max (row.getD j 0) (rb.getD j 0)), rfl, by rw [List.length_set]; exact hrl, ?_, ?_⟩
    · simp only [spec_l02Add_L5, idx_nat, set_here him, hb, hrj, getD_of (show j < rb.length by omega), Option.bind_some, bdT (show (j : Int) < (r.length : Int) by omega), upd_nat _ hjr, upd_nat _ (show i < (ms.set i r).length by rw [List.length_set]; exact him), List.set_set, wrN (show j ≤ 67108864 by omega)]
    · intro q hq
      by_cases e : q = j
      · subst e; exact set_here hjr
      · rw [set_keep e]; exact h1 q (by omega)
    · intro q hq
      rw [set_keep (by omega)]; exact h2 q (by omega)
  · rintro n t ⟨r, rfl, hrl, h1, _⟩
    simp only [spec_l02Add_L5, idx_nat, set_here him, Option.bind_some, bdF (show ¬ (row.length : Int) < (r.length : Int) by omega)]
    rw [addv_of hrl h1]

theorem specAdd_is {F : Nat} {a b : List (List Int)} (hF : 134217728 ≤ F) (ha : a.length ≤ 1048576) (hr : ∀ row, row ∈ a → row.length ≤ 1048576) (hab : b.length = a.length) (hrb : ∀ i, i < a.length → (a.getD i []).length ≤ (b.getD i []).length) : spec_l02Add F a b = some (addm a b) := by
  unfold spec_l02Add
  rw [bind_of (specOwnM_is hF ha hr)]
  have D : ∀ {m : List (List Int)} {i : Nat}, i < m.length → m[i]? = some (m.getD i []) := fun h => by rw [List.getD_eq_getElem?_getD, List.getElem?_eq_getElem h]; rfl
  have H := for0 (L := spec_l02Add_L4 F b) (len := a.length) (fun j t => t.length = a.length ∧ (∀ q, q < j → t[q]? = some (addv (a.getD q []) (b.getD q []))) ∧ ∀ q, j ≤ q → t[q]? = a[q]?) (R := fun o => o = some (addm a b)) (s := a) (n := F) ?_ ?_ ⟨rfl, by intro q hq; omega, fun _ _ => rfl⟩ (by omega)
  · rw [H]; rfl
  · rintro n j t hj ⟨hl, h1, h2⟩
    have hjt : j < t.length := by omega
    have hrow : t[j]? = some (a.getD j []) := by rw [h2 j (Nat.le_refl _), D hj]
    refine .inl ⟨t.set j (addv (a.getD j []) (b.getD j [])), ?_, by rw [List.length_set]; exact hl, ?_, ?_⟩
    · simp only [spec_l02Add_L4, bdT (show (j : Int) < (t.length : Int) by omega), specAddRow hF hrow (D (show j < b.length by omega)) (hr _ (List.mem_of_getElem? (D hj))) (hrb j hj), Option.bind_some, wrN (show j ≤ 67108864 by omega)]
    · intro q hq
      by_cases e : q = j
      · subst e; exact set_here hjt
      · rw [set_keep e]; exact h1 q (by omega)
    · intro q hq
      rw [set_keep (by omega)]; exact h2 q (by omega)
  · rintro n t ⟨hl, h1, _⟩
    simp only [spec_l02Add_L4, bdF (show ¬ (a.length : Int) < (t.length : Int) by omega)]
    refine congrArg some ?_
    apply List.ext_getElem?; intro q
    by_cases hq : q < a.length
    · rw [h1 q hq]; unfold addm; rw [List.getElem?_map, List.getElem?_range hq]; rfl
    · rw [List.getElem?_eq_none (by omega), List.getElem?_eq_none (by unfold addm; simp; omega)]

theorem addm_len (a b : List (List Int)) : (addm a b).length = a.length := by unfold addm; simp

theorem addm_rows {a b : List (List Int)} {n : Nat} (ha : ∀ r, r ∈ a → r.length = n) : ∀ r, r ∈ addm a b → r.length = n := by
  intro r hr
  unfold addm at hr
  rw [List.mem_map] at hr
  obtain ⟨i, hi, rfl⟩ := hr
  rw [addv_len]
  have hi' : i < a.length := by simpa using hi
  have e : a[i]? = some (a.getD i []) := by rw [List.getD_eq_getElem?_getD, List.getElem?_eq_getElem hi']; rfl
  exact ha _ (List.mem_of_getElem? e)

theorem implAdd_is {F n : Nat} {a b : List (List Int)} (hF : 134217728 ≤ F) (ha0 : 0 < a.length) (hal : a.length ≤ 1048576) (hn : n ≤ 1048576) (hab : b.length = a.length) (ha : ∀ r, r ∈ a → r.length = n) (hb : ∀ r, r ∈ b → r.length = n) : impl_addMatrices F a b = some (addm a b) := by
  have G : ∀ {t : List (List Int)} {k : Nat}, k < t.length → t[k]? = some (t.getD k []) := fun h => by rw [List.getD_eq_getElem?_getD, List.getElem?_eq_getElem h]; rfl
  have h0 : idx a 0 = some (a.getD 0 []) := (idx_nat a 0).trans (G ha0)
  have hl0 : (a.getD 0 []).length = n := ha _ (List.mem_of_getElem? (G ha0))
  unfold impl_addMatrices
  rw [bind_of h0, hl0, matrixBy_is (f := fun i j => max ((a.getD i []).getD j 0) ((b.getD i []).getD j 0)) hF hal hn (fun i j hi hj => ?_)]
  · simp only [Option.bind_some]
    refine congrArg some ?_
    unfold tabM addm
    apply List.map_congr_left
    intro i hi
    have hi' : i < a.length := by simpa using hi
    unfold addv
    rw [ha _ (List.mem_of_getElem? (G hi'))]
  · show impl_addMatrices_c1 F (i : Int) (j : Int) a b = _
    have har := G hi
    have hbr := G (t := b) (k := i) (by omega)
    have l1 := ha _ (List.mem_of_getElem? har)
    have l2 := hb _ (List.mem_of_getElem? hbr)
    simp only [impl_addMatrices_c1, idx_nat, har, hbr, getD_of (show j < (a.getD i []).length by omega), getD_of (show j < (b.getD i []).length by omega), Option.bind_some]

/-! ### Tables by their entries -/
theorem tabM_get {m n i j : Nat} {f : Nat → Nat → Int} (hi : i < m) (hj : j < n) : ((tabM m n f).getD i []).getD j 0 = f i j := by
  rw [List.getD_eq_getElem?_getD, List.getD_eq_getElem?_getD, tabM_row hi, Option.getD_some, List.getElem?_map, List.getElem?_range hj]; rfl

theorem tabM_congr {m n : Nat} {f g : Nat → Nat → Int} (h : ∀ i j, i < m → j < n → f i j = g i j) : tabM m n f = tabM m n g := by
  unfold tabM
  apply List.map_congr_left
  intro i hi
  apply List.map_congr_left
  intro j hj
  exact h i j (by simpa using hi) (by simpa using hj)

theorem tabM_at {n i : Nat} {f : Nat → Int} (h : i < n) : ((List.range n).map f)[i]? = some (f i) := by
  rw [List.getElem?_map, List.getElem?_range h]; rfl

theorem tabM_set {m n i j : Nat} {f : Nat → Nat → Int} {v : Int} (hi : i < m) (hj : j < n) : (tabM m n f).set i (((List.range n).map fun j => f i j).set j v) = tabM m n fun a b => if a = i ∧ b = j then v else f a b := by
  refine tabM_of (by rw [List.length_set, tabM_len]) (fun a ha => ?_)
  by_cases e : a = i
  · subst e
    rw [set_here (by rw [tabM_len]; exact ha)]
    refine congrArg some (row_of (by simp) (fun b hb => ?_))
    by_cases e2 : b = j
    · subst e2
      rw [set_here (by simpa using hb), if_pos ⟨rfl, rfl⟩]
    · rw [set_keep e2, tabM_at hb, if_neg (by omega)]
  · rw [set_keep e, tabM_row ha]
    refine congrArg some ?_
    apply List.map_congr_left
    intro b _
    rw [if_neg (by omega)]

theorem tabM_self {m n : Nat} {a : List (List Int)} (hl : a.length = m) (hr : ∀ r, r ∈ a → r.length = n) : a = tabM m n fun i j => (a.getD i []).getD j 0 := by
  refine tabM_of hl (fun i hi => ?_)
  have e : a[i]? = some (a.getD i []) := by rw [List.getD_eq_getElem?_getD, List.getElem?_eq_getElem (by omega)]; rfl
  rw [e]
  exact congrArg some (row_of (hr _ (List.mem_of_getElem? e)) (fun j hj => getD_of (by rw [hr _ (List.mem_of_getElem? e)]; exact hj)))

theorem tabM_inj {m n : Nat} {f g : Nat → Nat → Int} (h : tabM m n f = tabM m n g) {i j : Nat} (hi : i < m) (hj : j < n) : f i j = g i j := by
  rw [← tabM_get (f := f) hi hj, h, tabM_get hi hj]

/-! ### Tables of arcs -/
def arcT {α : Type} (t f : α → Nat) (w : α → Int) : List α → Nat → Nat → Int
  | l => fun i j => l.foldl (fun acc x => if t x = i ∧ f x = j then max acc (w x) else acc) (-1000000000000000)

theorem arcT_snoc {α : Type} (t f : α → Nat) (w : α → Int) (l : List α) (x : α) (i j : Nat) : arcT t f w (l ++ [x]) i j = if i = t x ∧ j = f x then max (arcT t f w l (t x) (f x)) (w x) else arcT t f w l i j := by
  unfold arcT
  rw [List.foldl_append]
  simp only [List.foldl_cons, List.foldl_nil]
  by_cases h : t x = i ∧ f x = j
  · obtain ⟨rfl, rfl⟩ := h
    rw [if_pos ⟨rfl, rfl⟩]
  · rw [if_neg h, if_neg (by omega)]

theorem arcT_le {α : Type} {t f : α → Nat} {w : α → Int} : ∀ (l : List α) (a0 : Int) (i j : Nat), a0 ≤ l.foldl (fun acc x => if t x = i ∧ f x = j then max acc (w x) else acc) a0
  | [], a0, _, _ => Int.le_refl _
  | x :: l, a0, i, j => by
    rw [List.foldl_cons]
    by_cases h : t x = i ∧ f x = j
    · rw [if_pos h]; exact Int.le_trans (by omega) (arcT_le l _ i j)
    · rw [if_neg h]; exact arcT_le l a0 i j

theorem arcT_ge' {α : Type} {t f : α → Nat} {w : α → Int} : ∀ (l : List α) (a0 : Int) (x : α), x ∈ l → w x ≤ l.foldl (fun acc y => if t y = t x ∧ f y = f x then max acc (w y) else acc) a0
  | [], _, x, h => by cases h
  | y :: l, a0, x, h => by
    rw [List.foldl_cons]
    rcases List.mem_cons.1 h with rfl | h
    · rw [if_pos ⟨rfl, rfl⟩]; exact Int.le_trans (by omega) (arcT_le l _ _ _)
    · exact arcT_ge' l _ x h

theorem arcT_ge {α : Type} {t f : α → Nat} {w : α → Int} {l : List α} {x : α} (h : x ∈ l) : w x ≤ arcT t f w l (t x) (f x) := arcT_ge' l _ x h

theorem arcT_cases' {α : Type} {t f : α → Nat} {w : α → Int} (i j : Nat) : ∀ (l : List α) (a0 : Int), l.foldl (fun acc x => if t x = i ∧ f x = j then max acc (w x) else acc) a0 = a0 ∨ ∃ x, x ∈ l ∧ t x = i ∧ f x = j ∧ l.foldl (fun acc x => if t x = i ∧ f x = j then max acc (w x) else acc) a0 = w x
  | [], a0 => .inl rfl
  | y :: l, a0 => by
    rw [List.foldl_cons]
    by_cases h : t y = i ∧ f y = j
    · rw [if_pos h]
      rcases arcT_cases' i j l (max a0 (w y)) with h1 | ⟨x, h1, h2, h3, h4⟩
      · by_cases h5 : w y ≤ a0
        · left; rw [h1]; omega
        · right; exact ⟨y, by simp, h.1, h.2, by rw [h1]; omega⟩
      · right; exact ⟨x, by simp [h1], h2, h3, h4⟩
    · rw [if_neg h]
      rcases arcT_cases' i j l a0 with h1 | ⟨x, h1, h2, h3, h4⟩
      · exact .inl h1
      · right; exact ⟨x, by simp [h1], h2, h3, h4⟩

theorem arcT_cases {α : Type} {t f : α → Nat} {w : α → Int} (l : List α) (i j : Nat) : arcT t f w l i j = -1000000000000000 ∨ ∃ x, x ∈ l ∧ t x = i ∧ f x = j ∧ arcT t f w l i j = w x := arcT_cases' i j l _

theorem arcT_ok {α : Type} {t f : α → Nat} {w : α → Int} {l : List α} (h : ∀ x, x ∈ l → -1000000 ≤ w x ∧ w x ≤ 1000000) (n : Nat) : TabOk (arcT t f w l) n := fun i j _ _ => by
  rcases arcT_cases (t := t) (f := f) (w := w) l i j with e | ⟨x, hx, _, _, e⟩
  · exact .inl e
  · rw [e]; exact .inr (h x hx)

/-- a loop that lays arcs into a table -/
theorem arc_loop {α : Type} {t f : α → Nat} {w : α → Int} {ps : List α} {n : Nat} {L : Nat → List (List Int) → Int → Option (List (List Int))}
    (hL : ∀ m k x h, k < ps.length → ps[k]? = some x → L (m + 1) (tabM n n h) (k : Int) = L m (tabM n n fun i j => if i = t x ∧ j = f x then max (h (t x) (f x)) (w x) else h i j) ((k + 1 : Nat) : Int))
    (hE : ∀ m h, L (m + 1) (tabM n n h) (ps.length : Int) = some (tabM n n h)) {F : Nat} (hn : ps.length < F) : L F (tabM n n fun _ _ => (-1000000000000000)) 0 = some (tabM n n (arcT t f w ps)) := by
  refine for0 (L := L) (len := ps.length) (fun k ms => ms = tabM n n (arcT t f w (ps.take k))) (R := fun o => o = some (tabM n n (arcT t f w ps))) ?_ ?_ rfl hn
  · rintro m k ms hk rfl
    have hx : ps[k]? = some ps[k] := List.getElem?_eq_getElem hk
    refine .inl ⟨_, hL m k ps[k] _ hk hx, tabM_congr fun i j _ _ => ?_⟩
    rw [List.take_add_one, hx]
    exact (arcT_snoc t f w (ps.take k) ps[k] i j).symm
  · rintro m ms rfl
    rw [hE m, List.take_length]

/-! ### The star, both ways -/
theorem tms_ta {M K a b : Int} (ha : Okw M a) (hb : Okw K b) (hM : M ≤ 10000000000) (hK : K ≤ 10000000000) : tms a b = ta a b := by
  unfold tms ta
  unfold Okw at ha hb
  by_cases h1 : a = -1000000000000000
  · subst h1; rw [if_pos (.inl rfl)]; rfl
  · by_cases h2 : b = -1000000000000000
    · subst h2; rw [if_pos (.inr rfl), beq_self_eq_true, Bool.or_true]; rfl
    · rw [if_neg (by omega), beq_false_of_ne h1, beq_false_of_ne h2]
      exact wr (by omega) (by omega)

theorem addm_tab {n : Nat} {f g : Nat → Nat → Int} : addm (tabM n n f) (tabM n n g) = tabM n n fun i j => max (f i j) (g i j) := by
  refine tabM_of (by rw [addm_len, tabM_len]) (fun i hi => ?_)
  unfold addm
  rw [List.getElem?_map, tabM_len, List.getElem?_range hi]
  refine congrArg some (row_of ?_ (fun j hj => ?_))
  · rw [addv_len, List.getD_eq_getElem?_getD, tabM_row hi]; simp
  · unfold addv
    have hl : ((tabM n n f).getD i []).length = n := by rw [List.getD_eq_getElem?_getD, tabM_row hi]; simp
    show ((List.range ((tabM n n f).getD i []).length).map fun q => max (((tabM n n f).getD i []).getD q 0) (((tabM n n g).getD i []).getD q 0))[j]? = _
    rw [hl, tabM_at hj, tabM_get hi hj, tabM_get hi hj]

theorem unitM_tab (n : Nat) : unitM n = tabM n n un := rfl

theorem rows_tab {n : Nat} {f : Nat → Nat → Int} (hn : n ≤ 10) : ∀ r, r ∈ tabM n n f → r.length ≤ 1048576 := fun r hr => by rw [tabM_rows r hr]; omega

theorem getD_tab {n i : Nat} {f : Nat → Nat → Int} (hi : i < n) : ((tabM n n f).getD i []).length = n := by
  rw [List.getD_eq_getElem?_getD, tabM_row hi]; simp


theorem mulM_tab {n : Nat} {f g : Nat → Nat → Int} {M K : Int} (hf : ∀ i j, i < n → j < n → Okw M (f i j)) (hg : ∀ i j, i < n → j < n → Okw K (g i j)) (hM : M ≤ 10000000000) (hK : K ≤ 10000000000) : mulM (tabM n n f) (tabM n n g) n = tabM n n fun i j => mx n fun q => ta (f i q) (g q j) := by
  unfold mulM
  rw [tabM_len, tabM_len]
  refine tabM_congr fun i j hi hj => ?_
  have : ∀ k, k ≤ n → dotM (tabM n n f) (tabM n n g) i j k = mx k fun q => ta (f i q) (g q j) := by
    intro k
    induction k with
    | zero => intro _; rfl
    | succ k ih =>
      intro hk
      rw [dotM_succ, mx_succ, ih (by omega), tabM_get hi (show k < n by omega), tabM_get (show k < n by omega) hj, tms_ta (hf i k hi (by omega)) (hg k j (by omega) hj) hM hK]
  exact this n (Nat.le_refl _)

theorem specSame1_is {F : Nat} {a b : List Int} (hF : 134217728 ≤ F) (hl : a.length ≤ 1048576) : ∃ q, spec_l01Same F a b = some q ∧ (q = true ↔ a = b) := by
  unfold spec_l01Same
  by_cases h : a.length = b.length
  · rw [bF (neF (show (a.length : Int) = (b.length : Int) by omega))]
    rw [all_loop (ps := List.range a.length) (g := fun k => decide (a.getD k 0 = b.getD k 0)) (r := false) (L := spec_l01Same_L1 F a b) (n := F) ?_ ?_ (by rw [List.length_range]; omega)]
    · refine ⟨(List.range a.length).all fun k => decide (a.getD k 0 = b.getD k 0), by cases (List.range a.length).all fun k => decide (a.getD k 0 = b.getD k 0) <;> rfl, ?_⟩
      rw [List.all_eq_true]
      constructor
      · intro H
        apply List.ext_getElem?; intro k
        by_cases hk : k < a.length
        · rw [getD_of hk, getD_of (show k < b.length by omega), of_decide_eq_true (H k (by simpa using hk))]
        · rw [List.getElem?_eq_none (by omega), List.getElem?_eq_none (by omega)]
      · rintro rfl k _
        exact decide_eq_true rfl
    · intro n k x hk hx
      rw [List.length_range] at hk
      have e : x = k := by rw [List.getElem?_range hk] at hx; cases hx; rfl
      subst e
      simp only [spec_l01Same_L1, bdT (show (x : Int) < (a.length : Int) by omega), idx_nat, getD_of hk, getD_of (show x < b.length by omega), Option.bind_some, wrN (show x ≤ 67108864 by omega)]
      by_cases e : a.getD x 0 = b.getD x 0
      · rw [e, bdT rfl, bF (neF rfl)]
      · rw [bdF e, bT (neT e)]
    · intro n
      rw [List.length_range]
      simp only [spec_l01Same_L1, bdF (show ¬ (a.length : Int) < (a.length : Int) by omega)]
  · rw [bT (neT (show (a.length : Int) ≠ (b.length : Int) by omega))]
    exact ⟨false, rfl, ⟨fun h => (by cases h), fun e => absurd (congrArg List.length e) h⟩⟩

theorem specSame_is {F n : Nat} {f g : Nat → Nat → Int} (hF : 134217728 ≤ F) (hn : n ≤ 10) : ∃ q, spec_l02Same F (tabM n n f) (tabM n n g) = some q ∧ (q = true ↔ ∀ i j, i < n → j < n → f i j = g i j) := by
  unfold spec_l02Same
  rw [tabM_len, tabM_len, bF (neF rfl)]
  rw [all_loop (ps := List.range n) (g := fun k => decide ((List.range n).map (f k) = (List.range n).map (g k))) (r := false) (L := spec_l02Same_L1 F (tabM n n f) (tabM n n g)) (n := F) ?_ ?_ (by rw [List.length_range]; omega)]
  · refine ⟨(List.range n).all fun k => decide ((List.range n).map (f k) = (List.range n).map (g k)), by cases (List.range n).all fun k => decide ((List.range n).map (f k) = (List.range n).map (g k)) <;> rfl, ?_⟩
    rw [List.all_eq_true]
    constructor
    · intro H i j hi hj
      have h1 := of_decide_eq_true (H i (by simpa using hi))
      have h2 := congrArg (fun l => l[j]?) h1
      simp only [tabM_at hj] at h2
      exact Option.some.inj h2
    · intro H i hi
      refine decide_eq_true (List.map_congr_left fun j hj => ?_)
      exact H i j (by simpa using hi) (by simpa using hj)
  · intro m k x hk hx
    rw [List.length_range] at hk
    have e : x = k := by rw [List.getElem?_range hk] at hx; cases hx; rfl
    subst e
    obtain ⟨q, h1, h2⟩ := specSame1_is (F := F) (a := (List.range n).map fun j => f x j) (b := (List.range n).map fun j => g x j) hF (by simp; omega)
    simp only [spec_l02Same_L1, tabM_len, bdT (show (x : Int) < (n : Int) by omega), idx_nat, tabM_row hk, Option.bind_some, h1, wrN (show x ≤ 67108864 by omega)]
    cases hq : q with
    | true => rw [bdT (h2.1 hq)]; rfl
    | false =>
      rw [bdF (fun e => by rw [h2.2 e] at hq; cases hq)]; rfl
  · intro m
    rw [List.length_range]
    simp only [spec_l02Same_L1, tabM_len, bdF (show ¬ (n : Int) < (n : Int) by omega)]


theorem specStar_is {F n : Nat} {f : Nat → Nat → Int} (hF : 134217728 ≤ F) (h1 : 1 ≤ n) (hn : n ≤ 10) (hf : TabOk f n) : ∃ q, spec_l03Star F (tabM n n f) = some (tabM n n (WW f n n), q) ∧ (q = true ↔ Stab f n) := by
  have step : ∀ k, k ≤ n → (spec_l02Unit F (n : Int)).bind (fun r99 => (spec_l02Multiply F (tabM n n f) (tabM n n (WW f n k))).bind fun r106 => spec_l02Add F r99 r106) = some (tabM n n (WW f n (k + 1))) := by
    intro k hk
    rw [specUnit_is hF (show n ≤ 1048576 by omega), Option.bind_some, specMul_is (n := n) hF (by rw [tabM_len]; omega) (by rw [tabM_len]; omega) (by rw [tabM_len]; omega) (by omega) (fun r hr => by rw [tabM_len]; exact tabM_rows r hr) tabM_rows, Option.bind_some,
      mulM_tab (M := 1000000) (K := 10000000) hf (fun i j hi hj => ok_up (WW_ok hf k hi hj) (by omega)) (by omega) (by omega), unitM_tab,
      specAdd_is hF (by rw [tabM_len]; omega) (rows_tab hn) (by rw [tabM_len, tabM_len]) (fun i hi => by rw [tabM_len] at hi; rw [getD_tab hi, getD_tab hi]; omega), addm_tab]
    rfl
  have step3 : ∀ (k : Nat), k ≤ n → ∀ {β : Type} (g : List (List Int) → Option β), ((spec_l02Unit F (n : Int)).bind fun r99 => ((spec_l02Multiply F (tabM n n f) (tabM n n (WW f n k))).bind fun r106 => ((spec_l02Add F r99 r106).bind fun r113 => g r113))) = g (tabM n n (WW f n (k + 1))) := by
    intro k hk β g
    have := step k hk
    have h2 : ((spec_l02Unit F (n : Int)).bind fun r99 => ((spec_l02Multiply F (tabM n n f) (tabM n n (WW f n k))).bind fun r106 => ((spec_l02Add F r99 r106).bind fun r113 => g r113))) = ((spec_l02Unit F (n : Int)).bind (fun r99 => (spec_l02Multiply F (tabM n n f) (tabM n n (WW f n k))).bind fun r106 => spec_l02Add F r99 r106)).bind g := by
      rw [Option.bind_assoc]
      refine congrArg _ (funext fun x => ?_)
      rw [Option.bind_assoc]
    rw [h2, this]; rfl
  have H : spec_l03Star_L1 F (tabM n n f) F (tabM n n un) 0 = some (tabM n n (WW f n n)) := by
    refine for0 (L := spec_l03Star_L1 F (tabM n n f)) (len := n) (fun k ms => ms = tabM n n (WW f n k)) (R := fun o => o = some (tabM n n (WW f n n))) ?_ ?_ rfl (by omega)
    · rintro m k ms hk rfl
      refine .inl ⟨_, ?_, rfl⟩
      simp only [spec_l03Star_L1, tabM_len, bdT (show (k : Int) < (n : Int) by omega), wrN (show k ≤ 67108864 by omega)]
      exact step3 k (by omega) _
    · rintro m ms rfl
      simp only [spec_l03Star_L1, tabM_len, bdF (show ¬ (n : Int) < (n : Int) by omega)]
  obtain ⟨q, hq1, hq2⟩ := specSame_is (F := F) (n := n) (f := WW f n (n + 1)) (g := WW f n n) hF hn
  refine ⟨q, ?_, hq2⟩
  unfold spec_l03Star
  rw [tabM_len, specUnit_is hF (show n ≤ 1048576 by omega), Option.bind_some, unitM_tab, H, Option.bind_some]
  have e := step3 n (Nat.le_refl _) (fun r134 => (spec_l02Same F r134 (tabM n n (WW f n n))).bind fun r141 => some (tabM n n (WW f n n), r141))
  rw [specUnit_is hF (show n ≤ 1048576 by omega), Option.bind_some, unitM_tab] at e
  rw [Option.bind_some, e, hq1]; rfl


/-- the reference's star: there is none, or it is the table -/
theorem specStars_is {F n : Nat} {f : Nat → Nat → Int} (hF : 134217728 ≤ F) (h1 : 1 ≤ n) (hn : n ≤ 10) (hf : TabOk f n) :
    (FwOk f n ∧ spec_l03Star F (tabM n n f) = some (tabM n n (fw f n), true)) ∨ (¬ FwOk f n ∧ ∃ z, spec_l03Star F (tabM n n f) = some (z, false)) := by
  obtain ⟨q, hq, hq2⟩ := specStar_is (F := F) hF h1 hn hf
  rw [stab_iff hf (by omega), ← fwok_iff hf (by omega)] at hq2
  by_cases h : FwOk f n
  · refine .inl ⟨h, ?_⟩
    rw [hq, hq2.2 h]
    exact congrArg (fun t => some (t, true)) (tabM_congr fun i j hi hj => (star_eq hf (by omega) h hi hj).symm)
  · refine .inr ⟨h, tabM n n (WW f n n), ?_⟩
    rw [hq]
    cases hqq : q with
    | true => exact absurd (hq2.1 hqq) h
    | false => rfl

theorem starCells {F n k i : Nat} {f : Nat → Nat → Int} {ms : List (List Int)} (hF : 134217728 ≤ F) (hn : n ≤ 10) (hf : TabOk f n) (hms : ms.length = n) (hk : k < n) (hi : i < n) (h0 : fw f k k k = 0) {h : Nat → Nat → Int} (hh : ∀ a b, a < n → b < n → h a b = if a < i then fw f (k + 1) a b else fw f k a b) :
    impl_starOf_L21 F (k : Int) ms (i : Int) F (tabM n n h) 0 = some (tabM n n fun a b => if a < i + 1 then fw f (k + 1) a b else fw f k a b) := by
  have ok : ∀ {i j : Nat}, i < n → j < n → Okw 10000000000 (fw f k i j) := fun hi hj => ok_up (fw_ok hf k (by omega) hi hj) (by have := bdw_le (show k ≤ 11 by omega); omega)
  refine for0 (L := impl_starOf_L21 F (k : Int) ms (i : Int)) (len := n) (fun j t => ∃ H : Nat → Nat → Int, t = tabM n n H ∧ ∀ a b, a < n → b < n → H a b = if a < i ∨ (a = i ∧ b < j) then fw f (k + 1) a b else fw f k a b) (R := fun o => o = some (tabM n n fun a b => if a < i + 1 then fw f (k + 1) a b else fw f k a b)) ?_ ?_ ?_ (by omega)
  · rintro m j t hj ⟨H, rfl, hH⟩
    have e1 : H i j = fw f k i j := by rw [hH i j hi hj]; exact if_neg (by omega)
    have e2 : H i k = fw f k i k := by
      rw [hH i k hi hk]
      by_cases c : i < i ∨ (i = i ∧ k < j)
      · rw [if_pos c]; exact fw_col hf (by omega) h0 hi hk
      · rw [if_neg c]
    have e3 : H k j = fw f k k j := by
      rw [hH k j hk hj]
      by_cases c : k < i ∨ (k = i ∧ j < j)
      · rw [if_pos c]; exact fw_row hf (by omega) h0 hj hk
      · rw [if_neg c]
    refine .inl ⟨_, ?_, fun a b => if a = i ∧ b = j then max (fw f k i j) (ta (fw f k i k) (fw f k k j)) else H a b, rfl, fun a b ha hb => ?_⟩
    · simp only [impl_starOf_L21, hms, bdT (show (j : Int) < (n : Int) by omega), idx_nat, tabM_row hi, tabM_row hk, tabM_at hj, tabM_at hk, e1, e2, e3, Option.bind_some, implTimes_is, tms_ta (ok hi hk) (ok hk hj) (Int.le_refl _) (Int.le_refl _), upd_nat _ (show j < ((List.range n).map fun b => H i b).length by simpa using hj), upd_nat _ (show i < (tabM n n H).length by rw [tabM_len]; exact hi), wrN (show j ≤ 67108864 by omega), tabM_set hi hj]
    · show (if a = i ∧ b = j then max (fw f k i j) (ta (fw f k i k) (fw f k k j)) else H a b) = _
      by_cases c : a = i ∧ b = j
      · rw [if_pos c, if_pos (by omega), c.1, c.2]; rfl
      · rw [if_neg c, hH a b ha hb]
        by_cases c2 : a < i ∨ (a = i ∧ b < j)
        · rw [if_pos c2, if_pos (by omega)]
        · rw [if_neg c2, if_neg (by omega)]
  · rintro m t ⟨H, rfl, hH⟩
    simp only [impl_starOf_L21, hms, bdF (show ¬ (n : Int) < (n : Int) by omega)]
    refine congrArg some (tabM_congr fun a b ha hb => ?_)
    rw [hH a b ha hb]
    by_cases c : a < i + 1
    · rw [if_pos c, if_pos (by omega)]
    · rw [if_neg c, if_neg (by omega)]
  · refine ⟨h, rfl, fun a b ha hb => ?_⟩
    rw [hh a b ha hb]
    by_cases c : a < i
    · rw [if_pos c, if_pos (.inl c)]
    · rw [if_neg c, if_neg (by omega)]

theorem starRound {F n k : Nat} {f : Nat → Nat → Int} {ms : List (List Int)} (hF : 134217728 ≤ F) (hn : n ≤ 10) (hf : TabOk f n) (hms : ms.length = n) (hk : k < n) (h0 : fw f k k k = 0) :
    impl_starOf_L20 F ms (k : Int) F (tabM n n (fw f k)) 0 = some (tabM n n (fw f (k + 1))) := by
  refine for0 (L := impl_starOf_L20 F ms (k : Int)) (len := n) (fun i t => t = tabM n n fun a b => if a < i then fw f (k + 1) a b else fw f k a b) (R := fun o => o = some (tabM n n (fw f (k + 1)))) ?_ ?_ ?_ (by omega)
  · rintro m i t hi rfl
    refine .inl ⟨_, ?_, rfl⟩
    simp only [impl_starOf_L20, hms, bdT (show (i : Int) < (n : Int) by omega), starCells (F := F) hF hn hf (tabM_len n n _) hk hi h0 (fun _ _ _ _ => rfl), Option.bind_some, wrN (show i ≤ 67108864 by omega)]
  · rintro m t rfl
    simp only [impl_starOf_L20, hms, bdF (show ¬ (n : Int) < (n : Int) by omega)]
    refine congrArg some (tabM_congr fun a b ha _ => ?_)
    rw [if_pos ha]
  · refine tabM_congr fun a b _ _ => ?_
    rw [if_neg (by omega)]

theorem implStar_is {F n : Nat} {f : Nat → Nat → Int} (hF : 134217728 ≤ F) (h1 : 1 ≤ n) (hn : n ≤ 10) (hf : TabOk f n) : (FwOk f n ∧ impl_starOf F (tabM n n f) = some (tabM n n (fw f n), true)) ∨ (¬ FwOk f n ∧ impl_starOf F (tabM n n f) = some ([], false)) := by
  unfold impl_starOf
  rw [tabM_len, implUnit_is hF (show n ≤ 1048576 by omega), Option.bind_some, unitM_tab, implAdd_is (n := n) hF (by rw [tabM_len]; omega) (by rw [tabM_len]; omega) (by omega) (by rw [tabM_len, tabM_len]) tabM_rows tabM_rows, Option.bind_some, addm_tab]
  have H := for0 (L := impl_starOf_L16 F (tabM n n (fw f 0))) (len := n) (fun k t => t = tabM n n (fw f k)) (R := fun o => (¬ FwOk f n ∧ o = some (.inl ([], false))) ∨ o = some (.inr (tabM n n (fw f n)))) (s := tabM n n (fw f 0)) (n := F) ?_ ?_ rfl (by omega)
  · have e0 : (tabM n n fun i j => max (f i j) (un i j)) = tabM n n (fw f 0) := rfl
    rw [e0]
    rcases H with ⟨h2, h3⟩ | h3
    · right
      exact ⟨h2, by rw [h3]; rfl⟩
    · rw [h3]
      simp only [Option.bind_some]
      rw [all_loop (ps := List.range n) (g := fun k => decide (fw f n k k ≤ 0)) (r := (([] : List (List Int)), false)) (L := impl_starOf_L22 F (tabM n n (fw f n))) (n := F) ?_ ?_ (by rw [List.length_range]; omega)]
      · by_cases c : FwOk f n
        · left
          refine ⟨c, ?_⟩
          rw [show ((List.range n).all fun k => decide (fw f n k k ≤ 0)) = true from List.all_eq_true.2 fun k hk => decide_eq_true (c k (by simpa using hk))]
          rfl
        · right
          refine ⟨c, ?_⟩
          rw [show ((List.range n).all fun k => decide (fw f n k k ≤ 0)) = false from ?_]
          · rfl
          · apply Classical.byContradiction
            intro hne
            rw [Bool.not_eq_false, List.all_eq_true] at hne
            exact c fun k hk => of_decide_eq_true (hne k (by simpa using hk))
      · intro m k x hk hx
        rw [List.length_range] at hk
        have e : x = k := by rw [List.getElem?_range hk] at hx; cases hx; rfl
        subst e
        simp only [impl_starOf_L22, tabM_len, bdT (show (x : Int) < (n : Int) by omega), idx_nat, tabM_row hk, tabM_at hk, Option.bind_some, wrN (show x ≤ 67108864 by omega)]
        by_cases c : fw f n x x ≤ 0
        · rw [bdT c, bdF (by omega)]
        · rw [bdF c, bdT (by omega)]
      · intro m
        rw [List.length_range]
        simp only [impl_starOf_L22, tabM_len, bdF (show ¬ (n : Int) < (n : Int) by omega)]
  · rintro m k t hk rfl
    by_cases c : 0 < fw f k k k
    · refine .inr (.inl ⟨fun h => ?_, ?_⟩)
      · have := fwok_step hf h k hk; omega
      · simp only [impl_starOf_L16, tabM_len, bdT (show (k : Int) < (n : Int) by omega), idx_nat, tabM_row hk, tabM_at hk, Option.bind_some, bdT c]
    · have h0 : fw f k k k = 0 := by have := fw_diag hf k k; omega
      refine .inl ⟨_, ?_, rfl⟩
      simp only [impl_starOf_L16, tabM_len, bdT (show (k : Int) < (n : Int) by omega), idx_nat, tabM_row hk, tabM_at hk, Option.bind_some, bdF c, starRound (F := F) hF hn hf (tabM_len n n _) hk h0, wrN (show k ≤ 67108864 by omega)]
  · rintro m t rfl
    refine .inr ?_
    simp only [impl_starOf_L16, tabM_len, bdF (show ¬ (n : Int) < (n : Int) by omega)]

/-- both stars: there is none, or it is one table -/
theorem stars_is {F n : Nat} {f : Nat → Nat → Int} (hF : 134217728 ≤ F) (h1 : 1 ≤ n) (hn : n ≤ 10) (hf : TabOk f n) :
    (FwOk f n ∧ impl_starOf F (tabM n n f) = some (tabM n n (fw f n), true) ∧ spec_l03Star F (tabM n n f) = some (tabM n n (fw f n), true)) ∨ (¬ FwOk f n ∧ impl_starOf F (tabM n n f) = some ([], false) ∧ ∃ z, spec_l03Star F (tabM n n f) = some (z, false)) := by
  obtain ⟨q, hq, hq2⟩ := specStar_is (F := F) hF h1 hn hf
  rw [stab_iff hf (by omega), ← fwok_iff hf (by omega)] at hq2
  rcases implStar_is (F := F) hF h1 hn hf with ⟨h, h2⟩ | ⟨h, h2⟩
  · refine .inl ⟨h, h2, ?_⟩
    rw [hq, hq2.2 h]
    exact congrArg (fun t => some (t, true)) (tabM_congr fun i j hi hj => (star_eq hf (by omega) h hi hj).symm)
  · refine .inr ⟨h, h2, tabM n n (WW f n n), ?_⟩
    rw [hq]
    cases hqq : q with
    | true => exact absurd (hq2.1 hqq) h
    | false => rfl

/-! ### Runs of a system -/
def sr : Option (List Int × List Int) → Sum (List Int × List Int × Bool) (List Int × List Int)
  | none => .inl ([], [], false)
  | some p => .inr p

def ir : Option (List Int × List Int) → Sum (List Int × List Int × Int) (List Int × List Int)
  | none => .inl ([], [], 3)
  | some p => .inr p

theorem specAdd1_is {F : Nat} {a b : List Int} (hF : 134217728 ≤ F) (ha : a.length ≤ 1048576) (hab : b.length = a.length) : spec_l02Add F [a] [b] = some [addv a b] := by
  rw [specAdd_is hF (by simp) (by simpa using ha) (by simp) (fun i hi => ?_)]
  · rfl
  · simp only [List.length_singleton] at hi
    obtain rfl : i = 0 := by omega
    simp [hab]

def so : Option (List Int) → Sum (List Int × Bool) (List Int)
  | none => .inl ([], false)
  | some l => .inr l

def io : Option (List Int) → Sum (List Int × Int) (List Int)
  | none => .inl ([], 3)
  | some l => .inr l

/-! ### Tables on vectors -/
theorem applyv_tab {n : Nat} {T : Nat → Nat → Int} {x : List Int} {M K : Int} (hT : ∀ i j, i < n → j < n → Okw M (T i j)) (hx : ∀ q, q < n → Okw K (x.getD q 0)) (hM : M ≤ 10000000000) (hK : K ≤ 10000000000) : applyv (tabM n n T) x = (List.range n).map fun i => mx n fun q => ta (T i q) (x.getD q 0) := by
  unfold applyv tabM
  rw [List.map_map]
  apply List.map_congr_left
  intro i hi
  have hi' : i < n := by simpa using hi
  show dotv ((List.range n).map fun j => T i j) x ((List.range n).map fun j => T i j).length = _
  rw [List.length_map, List.length_range]
  have : ∀ k, k ≤ n → (List.range k).foldl (fun acc q => max acc (tms (((List.range n).map fun j => T i j).getD q 0) (x.getD q 0))) (-1000000000000000) = mx k fun q => ta (T i q) (x.getD q 0) := by
    intro k
    induction k with
    | zero => intro _; rfl
    | succ k ih =>
      intro hk
      rw [List.range_succ, List.foldl_append, ih (by omega), mx_succ]
      show max _ (tms (((List.range n).map fun j => T i j).getD k 0) (x.getD k 0)) = _
      rw [List.getD_eq_getElem?_getD, tabM_at (show k < n by omega), Option.getD_some, tms_ta (hT i k hi' (by omega)) (hx k (by omega)) hM hK]
  exact this n (Nat.le_refl _)

theorem getI {xs : List Int} {i : Int} (h0 : 0 ≤ i) (h1 : i < (xs.length : Int)) : idx xs i = some (xs.getD i.toNat 0) := by
  rw [idx_int h0 h1, List.getD_eq_getElem?_getD, List.getElem?_eq_getElem (by omega)]; rfl

/-! ### Lists of nodes -/
def nl (o : List Nat) : List Int := o.map fun (x : Nat) => (x : Int)

theorem nl_len (o : List Nat) : (nl o).length = o.length := by unfold nl; simp

theorem nl_app (o : List Nat) (x : Nat) : nl o ++ [(x : Int)] = nl (o ++ [x]) := by unfold nl; simp

theorem nl_at (o : List Nat) (i : Nat) : (nl o)[i]? = (o[i]?).map fun (x : Nat) => (x : Int) := by unfold nl; simp

theorem nl_has (o : List Nat) (x : Nat) : ((nl o).any fun y => y == (x : Int)) = o.contains x := by
  apply Bool.eq_iff_iff.2
  simp only [nl, List.any_map, List.any_eq_true, Function.comp_apply, beq_iff_eq, List.contains_iff_mem]
  constructor
  · rintro ⟨y, hy, e⟩
    have : y = x := by omega
    exact this ▸ hy
  · intro h; exact ⟨x, h, rfl⟩

theorem specHas_is {F : Nat} {xs : List Int} {x : Int} (hF : 134217728 ≤ F) (hl : xs.length ≤ 1048576) : spec_l01Has F xs x = some (xs.any fun y => y == x) := by
  unfold spec_l01Has
  rw [all_loop (ps := xs) (g := fun y => !(y == x)) (r := true) (L := spec_l01Has_L1 F xs x) ?_ ?_ (by omega)]
  · have := any_not (g := fun y => !(y == x)) xs
    simp only [Bool.not_not] at this
    rw [this]
    cases xs.all (fun y => !(y == x)) <;> rfl
  · intro n k y hk hy
    simp only [spec_l01Has_L1, bdT (show (k : Int) < (xs.length : Int) by omega), idx_nat, hy, Option.bind_some, condn, wrN (show k ≤ 67108864 by omega)]
  · intro n
    simp only [spec_l01Has_L1, bdF (show ¬ (xs.length : Int) < (xs.length : Int) by omega)]

/-! ### Liveness -/
def mat0 (E : Nat → Nat → Bool) (n : Nat) : List (List Int) := (List.range n).map fun v => (List.range n).map fun u => bif E u v then 0 else (-1000000000000000)

theorem mat0_row {E : Nat → Nat → Bool} {n v : Nat} (hv : v < n) : (mat0 E n)[v]? = some ((List.range n).map fun u => bif E u v then 0 else (-1000000000000000)) := by
  unfold mat0; rw [List.getElem?_map, List.getElem?_range hv]; rfl

theorem map_range_set {α : Type} (f : Nat → α) (n i : Nat) (y : α) : ((List.range n).map f).set i y = (List.range n).map fun j => if j = i then y else f j := by
  apply List.ext_getElem?; intro q
  by_cases hq : q < n
  · by_cases e : q = i
    · subst e
      rw [set_here (by simpa using hq), List.getElem?_map, List.getElem?_range hq]; simp
    · rw [set_keep e, List.getElem?_map, List.getElem?_map, List.getElem?_range hq]; simp [e]
  · rw [List.getElem?_eq_none (by simp; omega), List.getElem?_eq_none (by simp; omega)]

theorem mat0_set {E : Nat → Nat → Bool} {n u v : Nat} : (mat0 E n).set v (((List.range n).map fun u' => bif E u' v then (0 : Int) else (-1000000000000000)).set u 0) = mat0 (fun u' v' => E u' v' || (v' == v && u' == u)) n := by
  unfold mat0
  rw [map_range_set, map_range_set]
  apply List.map_congr_left; intro v' _
  by_cases hv : v' = v
  · subst hv
    rw [if_pos rfl]
    apply List.map_congr_left; intro u' _
    by_cases hu : u' = u
    · subst hu; simp
    · rw [if_neg hu]; simp only [beq_false_of_ne hu, Bool.and_false, Bool.or_false]
  · rw [if_neg hv]
    apply List.map_congr_left; intro u' _
    simp only [beq_false_of_ne hv, Bool.false_and, Bool.or_false]

theorem specBottom_is {F m n : Nat} (hF : 134217728 ≤ F) (hm : m ≤ 1048576) (hn : n ≤ 1048576) : spec_l02Bottom F (m : Int) (n : Int) = some ((List.range m).map fun _ => (List.range n).map fun _ => (-1000000000000000)) := by
  unfold spec_l02Bottom
  rw [tab_loop (len := m) (f := fun _ => (List.range n).map fun _ => (-1000000000000000)) (L := spec_l02Bottom_L4 F (m : Int) (n : Int)) ?_ ?_ (by omega)]
  · rfl
  · intro k xs j hj hx
    have inner : spec_l02Bottom_L5 F (n : Int) F [] 0 = some ((List.range n).map fun _ => (-1000000000000000)) := by
      refine tab_loop (len := n) (f := fun _ => (-1000000000000000)) (L := spec_l02Bottom_L5 F (n : Int)) ?_ ?_ (by omega)
      · intro k xs j hj hx
        simp only [spec_l02Bottom_L5, bdT (show (j : Int) < (n : Int) by omega), app_le (show xs.length + [(-1000000000000000 : Int)].length ≤ 67108864 by simp only [List.length_singleton]; omega), Option.bind_some, wrN (show j ≤ 67108864 by omega)]
      · intro k xs _
        simp only [spec_l02Bottom_L5, bdF (show ¬ (n : Int) < (n : Int) by omega)]
    simp only [spec_l02Bottom_L4, bdT (show (j : Int) < (m : Int) by omega), inner, app_le (show xs.length + [(List.range n).map fun _ => (-1000000000000000 : Int)].length ≤ 67108864 by simp only [List.length_singleton]; omega), Option.bind_some, wrN (show j ≤ 67108864 by omega)]
  · intro k xs _
    simp only [spec_l02Bottom_L4, bdF (show ¬ (m : Int) < (m : Int) by omega)]

/-- a written cycle that goes on from a path -/
def Ext (E : Nat → Nat → Bool) (n f : Nat) (p : List Nat) (l : Nat) (q : List Nat) : Prop := (∀ x, x ∈ q → f < x ∧ x < n) ∧ (p ++ q).Nodup ∧ Chain E l q f

theorem grow_is {F n : Nat} {E : Nat → Nat → Bool} (hF : 134217728 ≤ F) (hn : n ≤ 1000) : ∀ (k : Nat) (p : List Nat) (f l : Nat), p[0]? = some f → p[p.length - 1]? = some l → p.Nodup → (∀ x, x ∈ p → x < n) → n + 1 ≤ k + p.length →
    ∃ r, spec_l03Grow_rec F k (mat0 E n) (nl p) 0 (-1) = some r ∧ (r ≠ [] ↔ ∃ q, Ext E n f p l q) := by
  intro k
  induction k with
  | zero =>
    intro p f l _ _ hd hl hk
    have := nodup_le n p hd hl
    omega
  | succ k ih =>
    intro p f l hf hl hd hlt hk
    have hp0 : 0 < p.length := (List.getElem?_eq_some_iff.1 hf).1
    have hpn := nodup_le n p hd hlt
    have hfn : f < n := hlt f (List.mem_of_getElem? hf)
    have hln : l < n := hlt l (List.mem_of_getElem? hl)
    have i1 : idx (nl p) 0 = some (f : Int) := by
      rw [show (0 : Int) = ((0 : Nat) : Int) from rfl, idx_nat, nl_at, hf]; rfl
    have i2 : idx (nl p) (IntKind.i64.wrap (((nl p).length : Int) - 1)) = some (l : Int) := by
      rw [nl_len, wr (by omega) (by omega), show (p.length : Int) - 1 = ((p.length - 1 : Nat) : Int) by omega, idx_nat, nl_at, hl]; rfl
    have cell : ∀ v, v < n → idx (mat0 E n) (v : Int) = some ((List.range n).map fun u => bif E u v then 0 else (-1000000000000000)) := fun v hv => by rw [idx_nat, mat0_row hv]
    have cel2 : ∀ v, idx ((List.range n).map fun u => bif E u v then (0 : Int) else (-1000000000000000)) (l : Int) = some (bif E l v then 0 else (-1000000000000000)) := fun v => by
      rw [idx_nat, List.getElem?_map, List.getElem?_range hln]; rfl
    unfold spec_l03Grow_rec
    simp only [i1, i2, cell f hfn, cel2, Option.bind_some]
    cases hE : E l f with
    | true =>
      refine ⟨nl p, rfl, ⟨fun _ => ⟨[], (fun x hx => (by cases hx)), by simpa using hd, hE⟩, fun _ e => ?_⟩⟩
      have := congrArg List.length e
      rw [nl_len] at this; simp at this; subst this; simp at hp0
    | false =>
      have H := for_ind (L := fun m (_ : Unit) i => spec_l03Grow_L1 F (mat0 E n) (nl p) 0 (-1) (l : Int) (spec_l03Grow_rec F k) m i) n
        (fun j _ => f < j ∧ ∀ v q, f < v → v < j → E l v = true → v ∉ p → ¬ Ext E n f (p ++ [v]) v q)
        (fun o => (∃ r, r ≠ [] ∧ o = some (.inl r) ∧ ∃ q, Ext E n f p l q) ∨ (o = some (.inr ()) ∧ ¬ ∃ q, Ext E n f p l q)) ?_ ?_ (n - (f + 1)) (f + 1) () F (by omega) ⟨by omega, fun v q h1 h2 => by omega⟩ (by omega)
      · have hw : IntKind.i64.wrap ((f : Int) + 1) = ((f + 1 : Nat) : Int) := wrN (by omega)
        have hc : ((-1000000000000000 : Int) != (-1000000000000000)) = false := rfl
        simp only [cond_false, hc, Option.bind_some, hw]
        rcases H with ⟨r, h1, h2, h3⟩ | ⟨h2, h3⟩
        · exact ⟨r, by simp only [h2, Option.bind_some], ⟨fun _ => h3, fun _ => h1⟩⟩
        · exact ⟨[], by simp only [h2, Option.bind_some], ⟨fun h => absurd rfl h, fun h => absurd h h3⟩⟩
      · rintro m j _ hj ⟨hfj, hI⟩
        have hown : spec_l01Own F (nl p) = some (nl p) := by
          unfold spec_l01Own
          rw [app_le (by rw [nl_len]; simp only [List.length_nil]; omega)]; rfl
        have happ : app (nl p) [(j : Int)] = some (nl (p ++ [j])) := by
          rw [app_le (by rw [nl_len]; simp only [List.length_singleton]; omega), nl_app]
        have hwj : IntKind.i64.wrap ((j : Int) + 1) = ((j + 1 : Nat) : Int) := wrN (by omega)
        have hml : ((mat0 E n).length : Int) = (n : Int) := by unfold mat0; simp
        cases hEj : E l j with
        | false =>
          refine .inl ⟨(), ?_, by omega, fun v q h1 h2 h3 h4 => ?_⟩
          · have hc : ((-1000000000000000 : Int) == (-1000000000000000)) = true := rfl
            simp only [spec_l03Grow_L1, hml, bdT (show (j : Int) < (n : Int) by omega), cell j hj, cel2, hEj, Option.bind_some, cond_false, hc, cond_true, hwj]
          · by_cases e : v = j
            · subst e; rw [hEj] at h3; cases h3
            · exact hI v q h1 (by omega) h3 h4
        | true =>
          have hc : ((0 : Int) == (-1000000000000000)) = false := rfl
          cases hpj : p.contains j with
          | true =>
            refine .inl ⟨(), ?_, by omega, fun v q h1 h2 h3 h4 => ?_⟩
            · simp only [spec_l03Grow_L1, hml, bdT (show (j : Int) < (n : Int) by omega), cell j hj, cel2, hEj, Option.bind_some, cond_true, hc, cond_false, specHas_is (F := F) (xs := nl p) (x := (j : Int)) hF (by rw [nl_len]; omega), nl_has, hpj, hwj]
            · by_cases e : v = j
              · subst e; exact absurd (by simpa using hpj) h4
              · exact hI v q h1 (by omega) h3 h4
          | false =>
            have hjp : j ∉ p := by simpa using hpj
            obtain ⟨r, hr, hriff⟩ := ih (p ++ [j]) f j (by rw [List.getElem?_append_left hp0]; exact hf) (by simp) (by
                rw [List.nodup_append]
                refine ⟨hd, by simp, fun a ha b hb e => ?_⟩
                simp only [List.mem_singleton] at hb
                exact hjp (by rw [← hb, ← e]; exact ha)) (fun x hx => by
                rcases List.mem_append.1 hx with hx | hx
                · exact hlt x hx
                · simp only [List.mem_singleton] at hx; omega) (by rw [List.length_append, List.length_singleton]; omega)
            have hw0 : IntKind.i64.wrap ((0 : Int) + 0) = 0 := rfl
            have S : spec_l03Grow_L1 F (mat0 E n) (nl p) 0 (-1) (l : Int) (spec_l03Grow_rec F k) (m + 1) (j : Int) = bif decide (0 < (r.length : Int)) then some (.inl r) else spec_l03Grow_L1 F (mat0 E n) (nl p) 0 (-1) (l : Int) (spec_l03Grow_rec F k) m ((j + 1 : Nat) : Int) := by
              simp only [spec_l03Grow_L1, hml, bdT (show (j : Int) < (n : Int) by omega), cell j hj, cel2, hEj, Option.bind_some, cond_true, hc, cond_false, specHas_is (F := F) (xs := nl p) (x := (j : Int)) hF (by rw [nl_len]; omega), nl_has, hpj, hown, happ, hw0, hr, hwj]
              cases decide (0 < (r.length : Int)) <;> rfl
            by_cases hre : r = []
            · refine .inl ⟨(), ?_, by omega, fun v q h1 h2 h3 h4 => ?_⟩
              · simp only [S, hre, List.length_nil, bdF (show ¬ (0 : Int) < ((0 : Nat) : Int) by omega)]
              · by_cases e : v = j
                · subst e
                  intro hx
                  exact (hriff.2 ⟨q, hx⟩) hre
                · exact hI v q h1 (by omega) h3 h4
            · refine .inr (.inl ⟨r, hre, ?_, ?_⟩)
              · have : 0 < r.length := List.length_pos_iff.2 hre
                simp only [S, bdT (show (0 : Int) < (r.length : Int) by omega)]
              · obtain ⟨q, h1, h2, h3⟩ := hriff.1 hre
                refine ⟨j :: q, fun x hx => ?_, by simpa using h2, hEj, h3⟩
                rcases List.mem_cons.1 hx with rfl | hx
                · exact ⟨hfj, hj⟩
                · exact h1 x hx
      · rintro m _ ⟨_, hI⟩
        refine .inr ⟨?_, ?_⟩
        · have hml : ((mat0 E n).length : Int) = (n : Int) := by unfold mat0; simp
          simp only [spec_l03Grow_L1, hml, bdF (show ¬ (n : Int) < (n : Int) by omega)]
        · rintro ⟨q, h1, h2, h3⟩
          cases q with
          | nil => rw [show Chain E l [] f = (E l f = true) from rfl, hE] at h3; cases h3
          | cons v q =>
            have hv := h1 v (by simp)
            refine hI v q hv.1 hv.2 h3.1 (fun hm => ?_) ⟨fun x hx => h1 x (by simp [hx]), by simpa using h2, h3.2⟩
            rw [List.nodup_append] at h2
            exact h2.2.2 v hm v (by simp) rfl

theorem specOver_is {F n : Nat} {E : Nat → Nat → Bool} (hF : 134217728 ≤ F) (hn : n ≤ 1000) : ∃ r, spec_l03Over F (mat0 E n) (-1) = some r ∧ (r ≠ [] ↔ ∃ v q, v < n ∧ Cyc E n v q) := by
  unfold spec_l03Over
  have hml : ((mat0 E n).length : Int) = (n : Int) := by unfold mat0; simp
  have H := for0 (L := fun m (_ : Unit) i => spec_l03Over_L1 F (mat0 E n) (-1) m i) (len := n) (fun j _ => ∀ v q, v < j → ¬ Cyc E n v q)
    (R := fun o => (∃ r, r ≠ [] ∧ o = some (.inl r) ∧ ∃ v q, v < n ∧ Cyc E n v q) ∨ (o = some (.inr ()) ∧ ¬ ∃ v q, v < n ∧ Cyc E n v q)) (s := ()) (n := F) ?_ ?_ (fun v q h => by omega) (by omega)
  · rcases H with ⟨r, h1, h2, h3⟩ | ⟨h2, h3⟩
    · exact ⟨r, by simp only [h2, Option.bind_some], ⟨fun _ => h3, fun _ => h1⟩⟩
    · exact ⟨[], by simp only [h2, Option.bind_some], ⟨fun h => absurd rfl h, fun h => absurd h h3⟩⟩
  · intro m j _ hj hI
    obtain ⟨r, hr, hriff⟩ := grow_is (F := F) (E := E) hF hn F [j] j j rfl rfl (by simp) (fun x hx => by simp only [List.mem_singleton] at hx; omega) (by simp only [List.length_singleton]; omega)
    have hgr : spec_l03Grow F (mat0 E n) [(j : Int)] 0 (-1) = some r := hr
    have hext : ∀ q, Ext E n j [j] j q ↔ Cyc E n j q := fun q => Iff.rfl
    by_cases hre : r = []
    · refine .inl ⟨(), ?_, fun v q hv hc => ?_⟩
      · simp only [spec_l03Over_L1, hml, bdT (show (j : Int) < (n : Int) by omega), hgr, Option.bind_some, hre, List.length_nil, bdF (show ¬ (0 : Int) < ((0 : Nat) : Int) by omega), wrN (show j ≤ 67108864 by omega)]
      · by_cases e : v = j
        · subst e
          exact (hriff.2 ⟨q, (hext q).2 hc⟩) hre
        · exact hI v q (by omega) hc
    · refine .inr (.inl ⟨r, hre, ?_, ?_⟩)
      · have : 0 < r.length := List.length_pos_iff.2 hre
        simp only [spec_l03Over_L1, hml, bdT (show (j : Int) < (n : Int) by omega), hgr, Option.bind_some, bdT (show (0 : Int) < (r.length : Int) by omega)]
      · obtain ⟨q, hq⟩ := hriff.1 hre
        exact ⟨j, q, hj, (hext q).1 hq⟩
  · intro m _ hI
    refine .inr ⟨?_, ?_⟩
    · simp only [spec_l03Over_L1, hml, bdF (show ¬ (n : Int) < (n : Int) by omega)]
    · rintro ⟨v, q, hv, hc⟩
      exact hI v q hv hc

def nextI : Option Nat → Int
  | some e => (e : Int)
  | none => -1

/-! ### Squares as tables -/
def entryOf (a : List (List Int)) (i j : Nat) : Int := (a.getD i []).getD j 0

theorem square_tab {a : List (List Int)} (h : squareB a = true) : 1 ≤ a.length ∧ a.length ≤ 10 ∧ a = tabM a.length a.length (entryOf a) ∧ TabOk (entryOf a) a.length := by
  unfold squareB at h
  rw [Bool.and_eq_true, beq_iff_eq] at h
  obtain ⟨hm, h2⟩ := h
  unfold matB at hm
  rw [Bool.and_eq_true, inB_true, List.all_eq_true] at hm
  obtain ⟨h3, h4⟩ := hm
  have hr : ∀ r, r ∈ a → r.length = a.length := fun r hr => by
    have := h4 r hr
    rw [Bool.and_eq_true, beq_iff_eq] at this
    omega
  refine ⟨by omega, by omega, tabM_self rfl hr, fun i j hi hj => ?_⟩
  have e : a[i]? = some (a.getD i []) := by rw [List.getD_eq_getElem?_getD, List.getElem?_eq_getElem hi]; rfl
  have hrow := List.mem_of_getElem? e
  have h5 := h4 _ hrow
  rw [Bool.and_eq_true] at h5
  have h6 := h5.1
  unfold vecB at h6
  rw [Bool.and_eq_true, List.all_eq_true] at h6
  have hjl : j < (a.getD i []).length := by rw [hr _ hrow]; exact hj
  have h7 := h6.2 _ (List.mem_of_getElem? (getD_of hjl))
  unfold valB at h7
  rw [Bool.or_eq_true, beq_iff_eq, inB_true] at h7
  exact h7

/-! ### Searches for cycles -/
theorem nl_first {p : List Nat} (h : p ≠ []) : idx (nl p) 0 = some (headN p : Int) := by
  cases p with
  | nil => exact absurd rfl h
  | cons x p => rw [show (0 : Int) = ((0 : Nat) : Int) from rfl, idx_nat, nl_at]; rfl

theorem nl_last {p : List Nat} (h : p ≠ []) (hl : p.length ≤ 1000) : idx (nl p) (IntKind.i64.wrap (((nl p).length : Int) - 1)) = some (lastN p : Int) := by
  have h0 := List.length_pos_iff.2 h
  rw [nl_len, wr (by omega) (by omega), show ((p.length : Int) - 1) = ((p.length - 1 : Nat) : Int) by omega, idx_nat, nl_at]
  unfold lastN
  rw [List.getLastD_eq_getLast?, List.getLast?_eq_getElem?]
  cases hp : p[p.length - 1]? with
  | none => rw [List.getElem?_eq_none_iff] at hp; omega
  | some x => rfl

theorem first_lt {n : Nat} {p : List Nat} (h : p ≠ []) (hp : ∀ x, x ∈ p → x < n) : headN p < n := by
  cases p with
  | nil => exact absurd rfl h
  | cons x p => exact hp x (by simp)

theorem last_mem {p : List Nat} (h : p ≠ []) : lastN p ∈ p := by
  unfold lastN
  rw [List.getLastD_eq_getLast?, List.getLast?_eq_some_getLast h]
  exact List.getLast_mem h

/-- a path of a search -/
structure PathOk (f : Nat → Nat → Int) (n : Nat) (p : List Nat) : Prop where
  ne : p ≠ []
  nodup : p.Nodup
  lt : ∀ x, x ∈ p → x < n
  w0 : -1000000 * (p.length : Int) ≤ pathw f p
  w1 : pathw f p ≤ 1000000 * (p.length : Int)

theorem PathOk.one (f : Nat → Nat → Int) {n v : Nat} (h : v < n) : PathOk f n [v] := ⟨by simp, by simp, fun x hx => by simp at hx; omega, by show _ ≤ (0 : Int); simp, by show (0 : Int) ≤ _; simp⟩

theorem PathOk.next {f : Nat → Nat → Int} {n v : Nat} {p : List Nat} (hf : TabOk f n) (h : PathOk f n p) (hv : v < n) (hc : candW f p v = true) : PathOk f n (p ++ [v]) ∧ pathw f (p ++ [v]) = pathw f p + f v (lastN p) ∧ f v (lastN p) ≠ -1000000000000000 := by
  unfold candW at hc
  rw [Bool.and_eq_true, Bool.and_eq_true] at hc
  have hnv : v ∉ p := by simpa using hc.2
  have ha := arcB_true.1 hc.1.2
  have hb := hf v (lastN p) hv (h.lt _ (last_mem h.ne))
  have e := pathw_snoc f v h.ne
  have h0 := h.w0
  have h1 := h.w1
  unfold Okw at hb
  refine ⟨⟨by simp, ?_, fun x hx => ?_, ?_, ?_⟩, e, ha⟩
  · rw [List.nodup_append]
    refine ⟨h.nodup, by simp, fun x hx y hy => ?_⟩
    simp only [List.mem_singleton] at hy
    subst hy
    exact fun e => hnv (e ▸ hx)
  · rcases List.mem_append.1 hx with hx | hx
    · exact h.lt x hx
    · simp only [List.mem_singleton] at hx; subst hx; exact hv
  · rw [e, List.length_append, List.length_singleton]; omega
  · rw [e, List.length_append, List.length_singleton]; omega

theorem specGrow_is {F n : Nat} {f : Nat → Nat → Int} {over : Int} (hF : 134217728 ≤ F) (hn : n ≤ 10) (hf : TabOk f n) : ∀ (k : Nat) (p : List Nat), PathOk f n p → n + 2 ≤ p.length + k →
    spec_l03Grow_rec F k (tabM n n f) (nl p) (pathw f p) over = some ((gdfs (accG f fun w => decide (over < w)) (candW f) n k p).elim [] nl) := by
  intro k
  induction k with
  | zero => intro p hp hk; have := nodup_le n p hp.nodup hp.lt; omega
  | succ k ih =>
    intro p hp hk
    have hpl := nodup_le n p hp.nodup hp.lt
    have hfl := first_lt hp.ne hp.lt
    have hll := hp.lt _ (last_mem hp.ne)
    have hcl := hf (headN p) (lastN p) hfl hll
    have h0 := hp.w0
    have h1 := hp.w1
    have hacc : (bif (f (headN p) (lastN p) != (-1000000000000000)) then some (decide (over < IntKind.i64.wrap (pathw f p + f (headN p) (lastN p)))) else some false) = some (accG f (fun w => decide (over < w)) p) := by
      unfold accG arcB
      by_cases e : f (headN p) (lastN p) = -1000000000000000
      · rw [bF (neF e), dF (by simpa using e), Bool.false_and]
      · unfold Okw at hcl
        rw [bT (neT e), dT e, Bool.true_and, wr (by omega) (by omega)]
    unfold spec_l03Grow_rec gdfs
    simp only [nl_first hp.ne, nl_last hp.ne (by omega), Option.bind_some, idx_nat, tabM_row hfl, tabM_at hll, hacc]
    cases ha : accG f (fun w => decide (over < w)) p with
    | true => rfl
    | false =>
      simp only [cond_false, Bool.false_eq_true, if_false]
      have hw1 : IntKind.i64.wrap ((headN p : Int) + 1) = ((headN p + 1 : Nat) : Int) := wrN (by omega)
      rw [hw1]
      have H := for_ind (L := fun m (_ : Unit) i => spec_l03Grow_L1 F (tabM n n f) (nl p) (pathw f p) over (lastN p : Int) (spec_l03Grow_rec F k) m i) n
        (fun j _ => headN p < j ∧ ∀ v, v < j → (if candW f p v = true then gdfs (accG f fun w => decide (over < w)) (candW f) n k (p ++ [v]) else none) = none)
        (fun o => (∃ r, r ≠ [] ∧ o = some (.inl (nl r)) ∧ ((List.range n).findSome? fun v => if candW f p v = true then gdfs (accG f fun w => decide (over < w)) (candW f) n k (p ++ [v]) else none) = some r) ∨ (o = some (.inr ()) ∧ ((List.range n).findSome? fun v => if candW f p v = true then gdfs (accG f fun w => decide (over < w)) (candW f) n k (p ++ [v]) else none) = none)) ?_ ?_ (n - (headN p + 1)) (headN p + 1) () F (by omega) ⟨by omega, fun v hv => ?_⟩ (by omega)
      · rcases H with ⟨r, h2, h3, h4⟩ | ⟨h3, h4⟩
        · simp only [h3, h4, Option.bind_some, Option.elim_some]
        · simp only [h3, h4, Option.bind_some, Option.elim_none]
      · rintro m j _ hj ⟨hfj, hI⟩
        have hcj := hf j (lastN p) hj hll
        have hown : spec_l01Own F (nl p) = some (nl p) := by
          unfold spec_l01Own
          rw [app_le (by rw [nl_len]; simp only [List.length_nil]; omega)]; rfl
        have happ : app (nl p) [(j : Int)] = some (nl (p ++ [j])) := by
          rw [app_le (by rw [nl_len]; simp only [List.length_singleton]; omega), nl_app]
        have hwj : IntKind.i64.wrap ((j : Int) + 1) = ((j + 1 : Nat) : Int) := wrN (by omega)
        cases hc : candW f p j with
        | false =>
          refine .inl ⟨(), ?_, by omega, fun v hv => ?_⟩
          · by_cases e : f j (lastN p) = -1000000000000000
            · simp only [spec_l03Grow_L1, tabM_len, bdT (show (j : Int) < (n : Int) by omega), idx_nat, tabM_row hj, tabM_at hll, Option.bind_some, e, beq_self_eq_true, cond_true, hwj]
            · have hpj : p.contains j = true := by
                unfold candW arcB at hc
                rw [dT hfj, dT e, Bool.true_and, Bool.true_and, Bool.not_eq_false'] at hc
                exact hc
              simp only [spec_l03Grow_L1, tabM_len, bdT (show (j : Int) < (n : Int) by omega), idx_nat, tabM_row hj, tabM_at hll, Option.bind_some, beq_false_of_ne e, cond_false, specHas_is (F := F) (xs := nl p) (x := (j : Int)) hF (by rw [nl_len]; omega), nl_has, hpj, cond_true, hwj]
          · by_cases e : v = j
            · subst e; rw [hc]; rfl
            · exact hI v (by omega)
        | true =>
          obtain ⟨hp', hpw, hne⟩ := hp.next hf hj hc
          have hpj : p.contains j = false := by
            unfold candW at hc
            rw [Bool.and_eq_true, Bool.not_eq_true'] at hc
            exact hc.2
          have hw2 : IntKind.i64.wrap (pathw f p + f j (lastN p)) = pathw f (p ++ [j]) := by
            unfold Okw at hcj
            rw [hpw, wr (by omega) (by omega)]
          have hr := ih (p ++ [j]) hp' (by rw [List.length_append, List.length_singleton]; omega)
          have S : spec_l03Grow_L1 F (tabM n n f) (nl p) (pathw f p) over (lastN p : Int) (spec_l03Grow_rec F k) (m + 1) (j : Int) = bif decide (0 < (((gdfs (accG f fun w => decide (over < w)) (candW f) n k (p ++ [j])).elim [] nl).length : Int)) then some (.inl ((gdfs (accG f fun w => decide (over < w)) (candW f) n k (p ++ [j])).elim [] nl)) else spec_l03Grow_L1 F (tabM n n f) (nl p) (pathw f p) over (lastN p : Int) (spec_l03Grow_rec F k) m ((j + 1 : Nat) : Int) := by
            simp only [spec_l03Grow_L1, tabM_len, bdT (show (j : Int) < (n : Int) by omega), idx_nat, tabM_row hj, tabM_at hll, Option.bind_some, beq_false_of_ne hne, cond_false, specHas_is (F := F) (xs := nl p) (x := (j : Int)) hF (by rw [nl_len]; omega), nl_has, hpj, hown, happ, hw2, hr, hwj]
            cases decide (0 < (((gdfs (accG f fun w => decide (over < w)) (candW f) n k (p ++ [j])).elim [] nl).length : Int)) <;> rfl
          cases hg : gdfs (accG f fun w => decide (over < w)) (candW f) n k (p ++ [j]) with
          | none =>
            refine .inl ⟨(), ?_, by omega, fun v hv => ?_⟩
            · rw [S, hg]; rfl
            · by_cases e : v = j
              · subst e; rw [if_pos hc]; exact hg
              · exact hI v (by omega)
          | some r =>
            obtain ⟨_, q, hrq, _⟩ := gdfs_some hg
            have hne' : r ≠ [] := by rw [hrq]; simp
            have hlen := List.length_pos_iff.2 hne'
            refine .inr (.inl ⟨r, hne', ?_, fs_some hI (by rw [if_pos hc]; exact hg) hj⟩)
            rw [S, hg]
            show (bif decide (0 < ((nl r).length : Int)) then _ else _) = _
            rw [nl_len, bdT (by omega)]; rfl
      · rintro m _ ⟨_, hI⟩
        refine .inr ⟨?_, fs_none hI⟩
        simp only [spec_l03Grow_L1, tabM_len, bdF (show ¬ (n : Int) < (n : Int) by omega)]
      · have : candW f p v = false := by
          unfold candW
          rw [dF (by omega), Bool.false_and, Bool.false_and]
        rw [this]; rfl

theorem specOverT_is {F n : Nat} {f : Nat → Nat → Int} {over : Int} (hF : 134217728 ≤ F) (hn : n ≤ 10) (hf : TabOk f n) : spec_l03Over F (tabM n n f) over = some ((firstCyc f n (fun w => decide (over < w)) F).elim [] nl) := by
  unfold spec_l03Over
  have H := for0 (L := fun m (_ : Unit) i => spec_l03Over_L1 F (tabM n n f) over m i) (len := n) (fun j _ => ∀ v, v < j → gdfs (accG f fun w => decide (over < w)) (candW f) n F [v] = none)
    (R := fun o => (∃ r, o = some (.inl (nl r)) ∧ firstCyc f n (fun w => decide (over < w)) F = some r) ∨ (o = some (.inr ()) ∧ firstCyc f n (fun w => decide (over < w)) F = none)) (s := ()) (n := F) ?_ ?_ (fun v h => by omega) (by omega)
  · rcases H with ⟨r, h1, h2⟩ | ⟨h1, h2⟩
    · simp only [h1, h2, Option.bind_some, Option.elim_some]
    · simp only [h1, h2, Option.bind_some, Option.elim_none]
  · intro m j _ hj hI
    have hr : spec_l03Grow F (tabM n n f) [(j : Int)] 0 over = some ((gdfs (accG f fun w => decide (over < w)) (candW f) n F [j]).elim [] nl) := specGrow_is (F := F) hF hn hf F [j] (PathOk.one f hj) (by simp only [List.length_singleton]; omega)
    have S : spec_l03Over_L1 F (tabM n n f) over (m + 1) (j : Int) = bif decide (0 < (((gdfs (accG f fun w => decide (over < w)) (candW f) n F [j]).elim [] nl).length : Int)) then some (.inl ((gdfs (accG f fun w => decide (over < w)) (candW f) n F [j]).elim [] nl)) else spec_l03Over_L1 F (tabM n n f) over m ((j + 1 : Nat) : Int) := by
      simp only [spec_l03Over_L1, tabM_len, bdT (show (j : Int) < (n : Int) by omega), hr, Option.bind_some, wrN (show j ≤ 67108864 by omega)]
    cases hg : gdfs (accG f fun w => decide (over < w)) (candW f) n F [j] with
    | none =>
      refine .inl ⟨(), ?_, fun v hv => ?_⟩
      · rw [S, hg]; rfl
      · by_cases e : v = j
        · subst e; exact hg
        · exact hI v (by omega)
    | some r =>
      obtain ⟨_, q, hrq, _⟩ := gdfs_some hg
      have hlen := List.length_pos_iff.2 (show r ≠ [] by rw [hrq]; simp)
      refine .inr (.inl ⟨r, ?_, fs_some hI hg hj⟩)
      rw [S, hg]
      show (bif decide (0 < ((nl r).length : Int)) then _ else _) = _
      rw [nl_len, bdT (by omega)]; rfl
  · intro m _ hI
    refine .inr ⟨?_, fs_none hI⟩
    simp only [spec_l03Over_L1, tabM_len, bdF (show ¬ (n : Int) < (n : Int) by omega)]

/-- which nodes behind the first are used -/
def UsedOk (n : Nat) (p : List Nat) (u : List Bool) : Prop := u.length = n ∧ ∀ v, v < n → headN p < v → u[v]? = some (p.contains v)

theorem implGrow_is {F n : Nat} {f : Nat → Nat → Int} {good : Int → Bool} {W : List Int → Int → Option Bool} (hF : 134217728 ≤ F) (hn : n ≤ 10) (hf : TabOk f n) (hW : ∀ l w, W l w = some (good w)) : ∀ (k : Nat) (p : List Nat) (u : List Bool), PathOk f n p → UsedOk n p u → n + 2 ≤ p.length + k →
    ∃ u', impl_cycleSearch_goOn_rec F k (tabM n n f) W (nl p) u (pathw f p) = some ((gdfs (accG f good) (candW f) n k p).elim (false, nl p, u') (fun r => (true, nl r, u'))) ∧ UsedOk n p u' ∨ ∃ r, gdfs (accG f good) (candW f) n k p = some r ∧ impl_cycleSearch_goOn_rec F k (tabM n n f) W (nl p) u (pathw f p) = some (true, nl r, u') := by
  intro k
  induction k with
  | zero => intro p u hp _ hk; have := nodup_le n p hp.nodup hp.lt; omega
  | succ k ih =>
    intro p u hp hu hk
    have hpl := nodup_le n p hp.nodup hp.lt
    have hfl := first_lt hp.ne hp.lt
    have hll := hp.lt _ (last_mem hp.ne)
    have hcl := hf (headN p) (lastN p) hfl hll
    have h0 := hp.w0
    have h1 := hp.w1
    have hacc : (bif (f (headN p) (lastN p) != (-1000000000000000)) then ((W (nl p) (IntKind.i64.wrap (pathw f p + f (headN p) (lastN p)))).bind fun r23 => some r23) else some false) = some (accG f good p) := by
      unfold accG arcB
      by_cases e : f (headN p) (lastN p) = -1000000000000000
      · rw [bF (neF e), dF (by simpa using e), Bool.false_and]
      · unfold Okw at hcl
        rw [bT (neT e), hW, dT e, Bool.true_and, wr (by omega) (by omega)]; rfl
    unfold impl_cycleSearch_goOn_rec gdfs
    simp only [nl_first hp.ne, nl_last hp.ne (by omega), Option.bind_some, idx_nat, tabM_row hfl, tabM_at hll, hacc]
    cases ha : accG f good p with
    | true => exact ⟨u, .inr ⟨p, rfl, rfl⟩⟩
    | false =>
      simp only [cond_false, Bool.false_eq_true, if_false]
      have hw1 : IntKind.i64.wrap ((headN p : Int) + 1) = ((headN p + 1 : Nat) : Int) := wrN (by omega)
      rw [hw1]
      have H := for_ind (L := fun m (s : List Int × List Bool) i => impl_cycleSearch_goOn_L1 F (tabM n n f) W (pathw f p) (lastN p : Int) (impl_cycleSearch_goOn_rec F k) m s.1 s.2 i) n
        (fun j s => s.1 = nl p ∧ UsedOk n p s.2 ∧ headN p < j ∧ ∀ v, v < j → (if candW f p v = true then gdfs (accG f good) (candW f) n k (p ++ [v]) else none) = none)
        (fun o => (∃ r u', o = some (.inl (true, nl r, u')) ∧ ((List.range n).findSome? fun v => if candW f p v = true then gdfs (accG f good) (candW f) n k (p ++ [v]) else none) = some r) ∨ (∃ u', o = some (.inr (nl p, u')) ∧ UsedOk n p u' ∧ ((List.range n).findSome? fun v => if candW f p v = true then gdfs (accG f good) (candW f) n k (p ++ [v]) else none) = none)) ?_ ?_ (n - (headN p + 1)) (headN p + 1) (nl p, u) F (by omega) ⟨rfl, hu, by omega, fun v hv => ?_⟩ (by omega)
      · rcases H with ⟨r, u', h3, h4⟩ | ⟨u', h3, h5, h4⟩
        · exact ⟨u', .inr ⟨r, h4, by simp only [h3, Option.bind_some]⟩⟩
        · exact ⟨u', .inl ⟨by simp only [h3, h4, Option.bind_some, Option.elim_none], h5⟩⟩
      · rintro m j ⟨_, us⟩ hj ⟨rfl, hu2, hfj, hI⟩
        simp only at hu2
        obtain ⟨hul, hus⟩ := hu2
        have hcj := hf j (lastN p) hj hll
        have happ : app (nl p) [(j : Int)] = some (nl (p ++ [j])) := by
          rw [app_le (by rw [nl_len]; simp only [List.length_singleton]; omega), nl_app]
        have hwj : IntKind.i64.wrap ((j : Int) + 1) = ((j + 1 : Nat) : Int) := wrN (by omega)
        have huj := hus j hj hfj
        cases hc : candW f p j with
        | false =>
          refine .inl ⟨(nl p, us), ?_, rfl, ⟨hul, hus⟩, by omega, fun v hv => ?_⟩
          · by_cases e : f j (lastN p) = -1000000000000000
            · simp only [impl_cycleSearch_goOn_L1, tabM_len, bdT (show (j : Int) < (n : Int) by omega), idx_nat, tabM_row hj, tabM_at hll, Option.bind_some, e, beq_self_eq_true, cond_true, hwj]
            · have hpj : p.contains j = true := by
                unfold candW arcB at hc
                rw [dT hfj, dT e, Bool.true_and, Bool.true_and, Bool.not_eq_false'] at hc
                exact hc
              simp only [impl_cycleSearch_goOn_L1, tabM_len, bdT (show (j : Int) < (n : Int) by omega), idx_nat, tabM_row hj, tabM_at hll, Option.bind_some, beq_false_of_ne e, cond_false, huj, hpj, cond_true, hwj]
          · by_cases e : v = j
            · subst e; rw [hc]; rfl
            · exact hI v (by omega)
        | true =>
          obtain ⟨hp', hpw, hne⟩ := hp.next hf hj hc
          have hpj : p.contains j = false := by
            unfold candW at hc
            rw [Bool.and_eq_true, Bool.not_eq_true'] at hc
            exact hc.2
          have hw2 : IntKind.i64.wrap (pathw f p + f j (lastN p)) = pathw f (p ++ [j]) := by
            unfold Okw at hcj
            rw [hpw, wr (by omega) (by omega)]
          have hjl : j < us.length := by omega
          have hu3 : UsedOk n (p ++ [j]) (us.set j true) := by
            refine ⟨by rw [List.length_set]; exact hul, fun v hv hfv => ?_⟩
            rw [headN_snoc hp.ne] at hfv
            by_cases e : v = j
            · subst e; rw [set_here hjl]; simp
            · rw [set_keep e, hus v hv hfv]
              simp [e]
          obtain ⟨u', hr⟩ := ih (p ++ [j]) (us.set j true) hp' hu3 (by rw [List.length_append, List.length_singleton]; omega)
          have S : ∀ (b : Bool) (pp : List Int) (uu : List Bool), impl_cycleSearch_goOn_rec F k (tabM n n f) W (nl (p ++ [j])) (us.set j true) (pathw f (p ++ [j])) = some (b, pp, uu) → impl_cycleSearch_goOn_L1 F (tabM n n f) W (pathw f p) (lastN p : Int) (impl_cycleSearch_goOn_rec F k) (m + 1) (nl p) us (j : Int) = bif b then some (.inl (true, pp, uu)) else ((cutTo pp (IntKind.i64.wrap ((pp.length : Int) - 1))).bind fun xs509 => ((idx uu (j : Int)).bind fun _ => ((upd uu (j : Int) false).bind fun xs512 => impl_cycleSearch_goOn_L1 F (tabM n n f) W (pathw f p) (lastN p : Int) (impl_cycleSearch_goOn_rec F k) m xs509 xs512 ((j + 1 : Nat) : Int)))) := by
            intro b pp uu hrec
            simp only [impl_cycleSearch_goOn_L1, tabM_len, bdT (show (j : Int) < (n : Int) by omega), idx_nat, tabM_row hj, tabM_at hll, Option.bind_some, beq_false_of_ne hne, cond_false, huj, hpj, upd_nat _ hjl, happ, hw2, hrec, hwj]
            cases b with
            | true => rfl
            | false =>
              simp only [cond_false]
              cases cutTo pp (IntKind.i64.wrap ((pp.length : Int) - 1)) with
              | none => rfl
              | some x =>
                simp only [Option.bind_some]
                cases uu[j]? with
                | none => rfl
                | some y =>
                  simp only [Option.bind_some]
                  cases upd uu (j : Int) false <;> rfl
          rcases hr with ⟨hr, hu'⟩ | ⟨r, hg, hr⟩
          · cases hg : gdfs (accG f good) (candW f) n k (p ++ [j]) with
            | none =>
              rw [hg] at hr
              have hcut : cutTo (nl (p ++ [j])) (IntKind.i64.wrap (((nl (p ++ [j])).length : Int) - 1)) = some (nl p) := by
                rw [nl_len, List.length_append, List.length_singleton, wr (by omega) (by omega)]
                unfold cutTo
                rw [nl_len, List.length_append, List.length_singleton, if_pos ⟨by omega, by omega⟩, show (((p.length + 1 : Nat) : Int) - 1).toNat = p.length by omega]
                unfold nl
                rw [List.map_append, List.take_left' (by simp)]
              have hjl' : j < u'.length := by rw [hu'.1]; exact hj
              refine .inl ⟨(nl p, u'.set j false), ?_, rfl, ⟨by rw [List.length_set]; exact hu'.1, fun v hv hfv => ?_⟩, by omega, fun v hv => ?_⟩
              · simp only [Option.elim_none] at hr
                show impl_cycleSearch_goOn_L1 F (tabM n n f) W (pathw f p) (lastN p : Int) (impl_cycleSearch_goOn_rec F k) (m + 1) (nl p) us (j : Int) = _
                rw [S _ _ _ hr, hcut]
                simp only [cond_false, Option.bind_some, idx_nat, List.getElem?_eq_getElem hjl', upd_nat _ hjl']
              · by_cases e : v = j
                · subst e; rw [set_here hjl', hpj]
                · rw [set_keep e, hu'.2 v hv (by rw [headN_snoc hp.ne]; exact hfv)]
                  simp [e]
              · by_cases e : v = j
                · subst e; rw [if_pos hc]; exact hg
                · exact hI v (by omega)
            | some r =>
              rw [hg] at hr
              refine .inr (.inl ⟨r, u', ?_, fs_some hI (by rw [if_pos hc]; exact hg) hj⟩)
              show impl_cycleSearch_goOn_L1 F (tabM n n f) W (pathw f p) (lastN p : Int) (impl_cycleSearch_goOn_rec F k) (m + 1) (nl p) us (j : Int) = _
              simp only [Option.elim_some] at hr
              rw [S _ _ _ hr]; rfl
          · refine .inr (.inl ⟨r, u', ?_, fs_some hI (by rw [if_pos hc]; exact hg) hj⟩)
            show impl_cycleSearch_goOn_L1 F (tabM n n f) W (pathw f p) (lastN p : Int) (impl_cycleSearch_goOn_rec F k) (m + 1) (nl p) us (j : Int) = _
            rw [S _ _ _ hr]; rfl
      · rintro m ⟨_, us⟩ ⟨rfl, hu2, _, hI⟩
        refine .inr ⟨us, ?_, hu2, fs_none hI⟩
        simp only [impl_cycleSearch_goOn_L1, tabM_len, bdF (show ¬ (n : Int) < (n : Int) by omega)]
      · have : candW f p v = false := by
          unfold candW
          rw [dF (by omega), Bool.false_and, Bool.false_and]
        rw [this]; rfl

theorem gdfs_ne {acc : List Nat → Bool} {cand : List Nat → Nat → Bool} {N k v : Nat} {r : List Nat} (h : gdfs acc cand N k [v] = some r) : r ≠ [] := by
  obtain ⟨_, q, e, _⟩ := gdfs_some h
  rw [e]; simp

theorem nl_ne {p : List Nat} (h : p ≠ []) : nl p ≠ [] := by
  cases p with
  | nil => exact absurd rfl h
  | cons x p => exact List.cons_ne_nil _ _

theorem implFirst_is {F n : Nat} {f : Nat → Nat → Int} {good : Int → Bool} {W : List Int → Int → Option Bool} (hF : 134217728 ≤ F) (hn : n ≤ 10) (hf : TabOk f n) (hW : ∀ l w, W l w = some (good w)) : impl_firstCycle F (tabM n n f) W = some ((firstCyc f n good F).elim [] nl) := by
  unfold impl_firstCycle
  have H := for0 (L := fun m (_ : Unit) i => impl_firstCycle_L1 F (tabM n n f) W m i) (len := n) (fun j _ => ∀ v, v < j → gdfs (accG f good) (candW f) n F [v] = none)
    (R := fun o => (∃ r, o = some (.inl (nl r)) ∧ firstCyc f n good F = some r) ∨ (o = some (.inr ()) ∧ firstCyc f n good F = none)) (s := ()) (n := F) ?_ ?_ (fun v h => by omega) (by omega)
  · rcases H with ⟨r, h1, h2⟩ | ⟨h1, h2⟩
    · simp only [h1, h2, Option.bind_some, Option.elim_some]
    · simp only [h1, h2, Option.bind_some, Option.elim_none]
  · intro m j _ hj hI
    have hmk : mk (n : Int) false = some (List.replicate n false) := mk_nat false (by omega)
    have hu0 : UsedOk n [j] (List.replicate n false) := ⟨by simp, fun v hv hfv => by
      have : headN [j] = j := rfl
      rw [this] at hfv
      rw [List.getElem?_replicate, if_pos hv]
      simp; omega⟩
    have S : ∀ (b : Bool) (pp : List Int) (uu : List Bool), (b = true → pp ≠ []) → impl_cycleSearch_goOn F (tabM n n f) W [(j : Int)] (List.replicate n false) 0 = some (b, pp, uu) → impl_firstCycle_L1 F (tabM n n f) W (m + 1) (j : Int) = bif b then some (.inl pp) else impl_firstCycle_L1 F (tabM n n f) W m ((j + 1 : Nat) : Int) := by
      intro b pp uu hne h
      first
        | (simp only [impl_firstCycle_L1, tabM_len, bdT (show (j : Int) < (n : Int) by omega), hmk, h, Option.bind_some, wrN (show j ≤ 67108864 by omega)]; done)
        | (simp only [impl_firstCycle_L1, tabM_len, bdT (show (j : Int) < (n : Int) by omega), hmk, h, Option.bind_some, wrN (show j ≤ 67108864 by omega)]; have _ := hne; done)
        | (simp only [impl_firstCycle_L1, tabM_len, bdT (show (j : Int) < (n : Int) by omega), hmk, h, Option.bind_some, wrN (show j ≤ 67108864 by omega)]
           cases b with
           | false => rfl
           | true =>
             cases pp with
             | nil => exact absurd rfl (hne rfl)
             | cons x pp => rfl)
    obtain ⟨u', hr⟩ := implGrow_is (F := F) (good := good) (W := W) hF hn hf hW F [j] (List.replicate n false) (PathOk.one f hj) hu0 (by simp only [List.length_singleton]; omega)
    rcases hr with ⟨hr, _⟩ | ⟨r, hg, hr⟩
    · cases hg : gdfs (accG f good) (candW f) n F [j] with
      | none =>
        rw [hg] at hr
        refine .inl ⟨(), ?_, fun v hv => ?_⟩
        · exact (S _ _ _ (fun h => Bool.noConfusion h) hr).trans rfl
        · by_cases e : v = j
          · subst e; exact hg
          · exact hI v (by omega)
      | some r =>
        rw [hg] at hr
        exact .inr (.inl ⟨r, (S _ _ _ (fun _ => (nl_ne (gdfs_ne hg))) hr).trans rfl, fs_some hI hg hj⟩)
    · exact .inr (.inl ⟨r, (S _ _ _ (fun _ => (nl_ne (gdfs_ne hg))) hr).trans rfl, fs_some hI hg hj⟩)
  · intro m _ hI
    refine .inr ⟨?_, fs_none hI⟩
    simp only [impl_firstCycle_L1, tabM_len, bdF (show ¬ (n : Int) < (n : Int) by omega)]

/-! ### Positive cycles, by the program -/
theorem squareB_tab {n : Nat} {f : Nat → Nat → Int} (h1 : 1 ≤ n) (hn : n ≤ 10) (hf : TabOk f n) : squareB (tabM n n f) = true := by
  have h0 : firstL (tabM n n f) = (n : Int) := by
    unfold firstL
    rw [List.getD_eq_getElem?_getD, tabM_row (show 0 < n by omega)]; simp
  unfold squareB matB
  rw [h0, tabM_len, Bool.and_eq_true, Bool.and_eq_true, inB_true, List.all_eq_true, beq_iff_eq]
  refine ⟨⟨by omega, fun r hr => ?_⟩, rfl⟩
  have hl := tabM_rows r hr
  unfold vecB
  rw [Bool.and_eq_true, Bool.and_eq_true, inB_true, beq_iff_eq, List.all_eq_true, hl]
  refine ⟨⟨by omega, fun x hx => ?_⟩, rfl⟩
  obtain ⟨i, hi, rfl⟩ := List.getElem_of_mem hr
  rw [tabM_len] at hi
  have e : (tabM n n f)[i] = (List.range n).map fun j => f i j := by
    have := tabM_row (m := n) (n := n) (f := f) hi
    rw [List.getElem?_eq_getElem (by rw [tabM_len]; exact hi)] at this
    exact Option.some.inj this
  rw [e, List.mem_map] at hx
  obtain ⟨j, hj, rfl⟩ := hx
  have := hf i j hi (by simpa using hj)
  unfold valB
  rw [Bool.or_eq_true, beq_iff_eq, inB_true]
  exact this

theorem implPos_is {F n : Nat} {f : Nat → Nat → Int} (hF : 134217728 ≤ F) (n1 : 1 ≤ n) (n10 : n ≤ 10) (hk : TabOk f n) : impl_PositiveCycle F (tabM n n f) = some ((firstCyc f n (fun w => decide (0 < w)) F).elim ([], 4) (fun r => (nl r, 0))) := by
  unfold impl_PositiveCycle
  have hW : ∀ (l : List Int) (w : Int), (fun x0 x1 => impl_PositiveCycle_c1 F x0 x1) l w = some (decide (0 < w)) := fun l w => rfl
  have hI := implFirst_is (F := F) (good := fun w => decide (0 < w)) hF n10 hk hW
  have hp := firstCyc_pos (a := f) (n := n) (K := F) (by omega)
  rw [implSquare_is hF (rows_tab n10), squareB_tab n1 n10 hk]
  simp only [Bool.not_true, cond_false, Option.bind_some, hI]
  rcases implStar_is (F := F) hF n1 n10 hk with ⟨hok, h2⟩ | ⟨hno, h2⟩
  · have hc : firstCyc f n (fun w => decide (0 < w)) F = none := by
      cases h : firstCyc f n (fun w => decide (0 < w)) F with
      | none => rfl
      | some r => exact absurd (hp.1 (by rw [h]; rfl)) (fwok_none hk (by omega) hok)
    rw [h2, hc]; rfl
  · have hpos : PosCyc f n := Classical.byContradiction fun h => hno ((fwok_iff hk (by omega)).2 h)
    obtain ⟨r, hr⟩ := Option.isSome_iff_exists.1 (hp.2 hpos)
    rw [h2, hr]; rfl

/-! ### The program's search for a better circuit -/
def tb (n : Nat) (x : Nat → Int) : List Int := (List.range n).map x

theorem tb_len (n : Nat) (x : Nat → Int) : (tb n x).length = n := by unfold tb; simp

theorem tb_at {n i : Nat} {x : Nat → Int} (h : i < n) : (tb n x)[i]? = some (x i) := by unfold tb; rw [List.getElem?_map, List.getElem?_range h]; rfl

theorem tb_set (n i : Nat) (x : Nat → Int) (y : Int) : (tb n x).set i y = tb n fun j => if j = i then y else x j := by unfold tb; rw [map_range_set]

theorem tb_zero (n : Nat) : List.replicate n (0 : Int) = tb n fun _ => 0 := by
  unfold tb
  apply List.ext_getElem? ; intro i
  rw [List.getElem?_replicate, List.getElem?_map]
  by_cases h : i < n
  · rw [if_pos h, List.getElem?_range h]; rfl
  · rw [if_neg h, List.getElem?_eq_none (by simpa using h)]; rfl

/-- the places last taken -/
def ViaOk (n m : Nat) (vs : List Nat) : Prop := vs.length = n ∧ ∀ v, v ∈ vs → v < m

theorem via_set {n m : Nat} {vs : List Nat} (h : ViaOk n m vs) {k : Nat} (hk : k < m) (i : Nat) : ViaOk n m (vs.set i k) := ⟨by rw [List.length_set]; exact h.1, fun v hv => by
  rcases List.mem_or_eq_of_mem_set hv with h1 | h1
  · exact h.2 v h1
  · omega⟩

theorem nl_set (vs : List Nat) (i k : Nat) : (nl vs).set i (k : Int) = nl (vs.set i k) := by
  unfold nl; rw [List.map_set]

def itn (φ : Nat → Nat) : Nat → Nat → Nat
  | 0, v => v
  | k + 1, v => itn φ k (φ v)

theorem itn_succ (φ : Nat → Nat) : ∀ (k v : Nat), itn φ (k + 1) v = φ (itn φ k v)
  | 0, _ => rfl
  | k + 1, v => itn_succ φ k (φ v)

theorem itn_add (φ : Nat → Nat) (i : Nat) : ∀ (j v : Nat), itn φ (i + j) v = itn φ i (itn φ j v)
  | 0, _ => rfl
  | j + 1, v => itn_add φ i j (φ v)

theorem itn_lt {φ : Nat → Nat} {n : Nat} (h : ∀ v, v < n → φ v < n) : ∀ (k : Nat) {v : Nat}, v < n → itn φ k v < n
  | 0, _, hv => hv
  | k + 1, _, hv => itn_lt h k (h _ hv)

theorem itn_back {φ : Nat → Nat} {n : Nat} (h : ∀ v, v < n → φ v < n) {v : Nat} (hv : v < n) : ∃ d, d < n ∧ itn φ (d + 1) (itn φ n v) = itn φ n v := by
  obtain ⟨p, q, h1, h2, h3⟩ := pigeon_n (n := n) (c := fun t => itn φ t v) (fun t _ => itn_lt h t hv)
  have h3 : itn φ p v = itn φ q v := h3
  refine ⟨q - p - 1, by omega, ?_⟩
  rw [show q - p - 1 + 1 = q - p by omega, ← itn_add, show q - p + n = (n - p) + q by omega, itn_add, ← h3, ← itn_add, show n - p + p = n by omega]

theorem eqN (a b : Nat) : ((a : Int) == (b : Int)) = decide (a = b) := by
  by_cases e : a = b
  · subst e; simp
  · rw [beq_false_of_ne (by omega), dF e]

theorem neN (a b : Nat) : ((a : Int) != (b : Int)) = !decide (a = b) := by rw [bne, eqN]

theorem ltN (a b : Nat) : decide ((a : Int) < (b : Int)) = decide (a < b) := by
  by_cases e : a < b
  · rw [dT e, dT (by omega)]
  · rw [dF e, dF (by omega)]

theorem nl_cut {p : List Nat} {j : Nat} (hl : p.length ≤ 1000) : cutTo (nl (p ++ [j])) (IntKind.i64.wrap (((nl (p ++ [j])).length : Int) - 1)) = some (nl p) := by
  rw [nl_len, List.length_append, List.length_singleton, wr (by omega) (by omega)]
  unfold cutTo
  rw [nl_len, List.length_append, List.length_singleton, if_pos ⟨by omega, by omega⟩, show (((p.length + 1 : Nat) : Int) - 1).toNat = p.length by omega]
  unfold nl
  rw [List.map_append, List.take_left' (by simp)]

theorem foldl_len {α : Type} {f : List Int → α → List Int} (hf : ∀ xs a, (f xs a).length = xs.length) : ∀ (l : List α) (xs : List Int), (l.foldl f xs).length = xs.length
  | [], _ => rfl
  | a :: l, xs => by rw [List.foldl_cons, foldl_len hf l, hf]

theorem getN {xs : List Int} {i : Int} {u n : Nat} (h : i = (u : Int)) (hu : u < n) (hx : xs.length = n) : idx xs i = some (xs.getD i.toNat 0) := by
  subst h; rw [idx_nat, Int.toNat_natCast, getD_of (by omega)]

theorem upd_last {pre : List (List Int)} {xs ys : List Int} : upd (pre ++ [xs]) (pre.length : Int) ys = some (pre ++ [ys]) := by
  rw [upd_nat _ (by simp)]; simp

theorem foldl_range {S : Type} {f : S → Nat → S} {o : List Nat} {s : S} {k : Nat} (hk : k < o.length) : (o.take (k + 1)).foldl f s = f ((o.take k).foldl f s) (o.getD k 0) := by
  have : o[k]? = some (o.getD k 0) := by rw [List.getD_eq_getElem?_getD, List.getElem?_eq_getElem hk]; rfl
  rw [List.take_add_one, this, List.foldl_append]; rfl

theorem last_at {pre : List (List Int)} {xs : List Int} : (pre ++ [xs])[pre.length]? = some xs := by simp

/-! ### Floats -/
def fstep (T : List (List Int)) (k : Nat) (ms : List (List Int)) (j : Nat) : List (List Int) := ms.set k ((ms.getD k []).set j (IntKind.i64.wrap ((ms.getD k []).getD j 0 - (T.getD k []).getD j 0)))

def frow (T : List (List Int)) (e : Nat) (ms : List (List Int)) (k : Nat) : List (List Int) := (List.range e).foldl (fstep T k) ms

def ftab (T : List (List Int)) (e n : Nat) (ms : List (List Int)) : List (List Int) := (List.range n).foldl (frow T e) ms

theorem rowOf {T : List (List Int)} {k : Nat} (h : k < T.length) : T[k]? = some (T.getD k []) := by
  rw [List.getD_eq_getElem?_getD, List.getElem?_eq_getElem h]; rfl

/-! ### Firings picked out of a table -/
/-- the firings of one round, of all rounds -/
def pickRow (p : Nat → Nat → Bool) (k n : Nat) : List (List Int) := (List.range n).flatMap fun e => bif p k e then [[((k + 1 : Nat) : Int), (e : Int)]] else []

def pickAll (p : Nat → Nat → Bool) (n : Nat) (m : Nat) : List (List Int) := (List.range m).flatMap fun k => pickRow p k n

theorem pickRow_len (p : Nat → Nat → Bool) (k : Nat) : ∀ n, (pickRow p k n).length ≤ n
  | 0 => by simp [pickRow]
  | n + 1 => by
    have := pickRow_len p k n
    have e : pickRow p k (n + 1) = pickRow p k n ++ bif p k n then [[((k + 1 : Nat) : Int), (n : Int)]] else [] := by
      unfold pickRow; rw [List.range_succ, List.flatMap_append]; simp
    rw [e]
    cases p k n <;> simp <;> omega

theorem pickAll_len (p : Nat → Nat → Bool) (n : Nat) : ∀ m, (pickAll p n m).length ≤ m * n
  | 0 => by simp [pickAll]
  | m + 1 => by
    have := pickAll_len p n m
    have h2 := pickRow_len p m n
    have e : pickAll p n (m + 1) = pickAll p n m ++ pickRow p m n := by
      unfold pickAll; rw [List.range_succ, List.flatMap_append]; simp
    rw [e, List.length_append, Nat.succ_mul]; omega

theorem pickAll_rows (p : Nat → Nat → Bool) (n m : Nat) : ∀ r, r ∈ pickAll p n m → r.length = 2 := by
  intro r hr
  unfold pickAll pickRow at hr
  rw [List.mem_flatMap] at hr
  obtain ⟨k, _, hr⟩ := hr
  rw [List.mem_flatMap] at hr
  obtain ⟨e, _, hr⟩ := hr
  cases h : p k e with
  | false => rw [h] at hr; cases hr
  | true => rw [h] at hr; simp only [cond_true, List.mem_singleton] at hr; rw [hr]; rfl

/-- a loop over a round that appends -/
theorem row_loop {p : Nat → Nat → Bool} {k n : Nat} {acc : List (List Int)} {L : Nat → List (List Int) → Int → Option (List (List Int))} (ha : acc.length ≤ 1000) (hn : n ≤ 10)
    (hL : ∀ m ms e, e < n → ms.length ≤ 2000 → L (m + 1) ms (e : Int) = L m (ms ++ bif p k e then [[((k + 1 : Nat) : Int), (e : Int)]] else []) ((e + 1 : Nat) : Int))
    (hE : ∀ m ms, L (m + 1) ms (n : Int) = some ms) {F : Nat} (hF : 134217728 ≤ F) : L F acc 0 = some (acc ++ pickRow p k n) := by
  refine for0 (L := L) (len := n) (fun j s => s = acc ++ pickRow p k j) (R := fun q => q = some (acc ++ pickRow p k n)) ?_ ?_ (by unfold pickRow; simp) (by omega)
  · rintro m j s hj rfl
    have hl := pickRow_len p k j
    refine .inl ⟨_, hL m _ j hj (by rw [List.length_append]; omega), ?_⟩
    have e : pickRow p k (j + 1) = pickRow p k j ++ bif p k j then [[((k + 1 : Nat) : Int), (j : Int)]] else [] := by
      unfold pickRow; rw [List.range_succ, List.flatMap_append]; simp
    rw [e, List.append_assoc]
  · rintro m s rfl
    exact hE m _

theorem all_rounds {p : Nat → Nat → Bool} {n len : Nat} {L : Nat → List (List Int) → Int → Option (List (List Int))} (hn : n ≤ 10) (hlen : len ≤ 50)
    (hL : ∀ m k ms, k < len → ms.length ≤ 1000 → L (m + 1) ms (k : Int) = L m (ms ++ pickRow p k n) ((k + 1 : Nat) : Int))
    (hE : ∀ m ms, L (m + 1) ms (len : Int) = some ms) {F : Nat} (hF : 134217728 ≤ F) : L F [] 0 = some (pickAll p n len) := by
  refine for0 (L := L) (len := len) (fun j s => s = pickAll p n j) (R := fun q => q = some (pickAll p n len)) ?_ ?_ (by unfold pickAll; simp) (by omega)
  · rintro m j s hj rfl
    have hl := pickAll_len p n j
    have h2 := Nat.mul_le_mul (show j ≤ 50 by omega) hn
    refine .inl ⟨_, hL m j _ hj (by omega), ?_⟩
    unfold pickAll; rw [List.range_succ, List.flatMap_append]; simp
  · rintro m s rfl
    exact hE m _

theorem off_rows {rows : List (List Int)} {n : Nat} (h : ∀ r, r ∈ rows → r.length = n) : ∀ k, k ≤ rows.length → offR rows k = k * n := by
  intro k
  induction k with
  | zero => intro _; rw [offR_zero]; omega
  | succ k ih =>
    intro hk
    have hr : rows[k]? = some rows[k] := List.getElem?_eq_getElem (by omega)
    rw [offR_succ hr, ih (by omega), h _ (List.mem_of_getElem? hr), Nat.succ_mul]

theorem rowD {T : List (List Int)} {k : Nat} (h : k < T.length) : T[k]? = some (T.getD k []) := by
  rw [List.getD_eq_getElem?_getD, List.getElem?_eq_getElem h]; rfl

def lateP (T due : List (List Int)) (k e : Nat) : Bool := decide ((due.getD k []).getD e 0 < (T.getD k []).getD e 0)

/-! ### Delays lie in their range -/
theorem wr_range (n : Int) : -9223372036854775808 ≤ IntKind.i64.wrap n ∧ IntKind.i64.wrap n ≤ 9223372036854775807 := by
  simp [IntKind.wrap, IntKind.bits, IntKind.signed]; omega

def allIn (xs : List Int) : Prop := ∀ i, 0 ≤ xs.getD i 0 ∧ xs.getD i 0 ≤ 1000000

theorem allIn_mem {xs : List Int} (h : allIn xs) : ∀ x, x ∈ xs → 0 ≤ x ∧ x ≤ 1000000 := by
  intro x hx
  obtain ⟨i, hi, rfl⟩ := List.getElem_of_mem hx
  have := h i
  rw [List.getD_eq_getElem?_getD, List.getElem?_eq_getElem hi] at this
  exact this

theorem allIn_of {xs : List Int} (h : ∀ x, x ∈ xs → 0 ≤ x ∧ x ≤ 1000000) : allIn xs := by
  intro i
  by_cases hi : i < xs.length
  · rw [List.getD_eq_getElem?_getD, List.getElem?_eq_getElem hi]; exact h _ (List.getElem_mem hi)
  · rw [List.getD_eq_getElem?_getD, List.getElem?_eq_none (by omega)]; simp

theorem set_getD {xs : List Int} {e i : Nat} {y : Int} : (xs.set e y).getD i 0 = if i = e ∧ i < xs.length then y else xs.getD i 0 := by
  rw [List.getD_eq_getElem?_getD, List.getD_eq_getElem?_getD]
  by_cases h : i = e
  · subst h
    by_cases hl : i < xs.length
    · rw [set_here hl, if_pos ⟨rfl, hl⟩]; rfl
    · rw [if_neg (fun hc => hl hc.2), List.getElem?_eq_none (by simp; omega), List.getElem?_eq_none (by omega)]
  · rw [set_keep h, if_neg (fun hc => h hc.1)]

theorem foldl_in {α : Type} {f : List Int → α → List Int} (l : List α) (hf : ∀ xs a, a ∈ l → allIn xs → allIn (f xs a)) : ∀ xs, allIn xs → allIn (l.foldl f xs) := by
  induction l with
  | nil => intro xs h; exact h
  | cons a l ih => intro xs h; exact ih (fun xs b hb => hf xs b (by simp [hb])) _ (hf xs a (by simp) h)

theorem rowsD {T : List (List Int)} {k : Nat} (h : k < T.length) : T[k]? = some (T.getD k []) := by
  rw [List.getD_eq_getElem?_getD, List.getElem?_eq_getElem h]; rfl

/-! ### When delays are settled -/
def zB (xs : List Int) : Bool := xs.all fun x => inB x 0 0

theorem sum_pos {xs : List Int} (h : ∀ x, x ∈ xs → 0 ≤ x ∧ x ≤ 1000000) : 0 ≤ xs.sum ∧ xs.sum ≤ 1000000 * (xs.length : Int) ∧ decide (0 < xs.sum) = !zB xs := by
  induction xs with
  | nil => exact ⟨by simp, by simp, rfl⟩
  | cons x xs ih =>
    obtain ⟨h1, h2, h3⟩ := ih (fun y hy => h y (by simp [hy]))
    have hx := h x (by simp)
    rw [List.sum_cons]
    refine ⟨by omega, by simp only [List.length_cons]; omega, ?_⟩
    have e : zB (x :: xs) = (inB x 0 0 && zB xs) := rfl
    rw [e]
    by_cases h0 : x = 0
    · subst h0
      rw [show inB 0 0 0 = true from rfl, Bool.true_and, ← h3]; simp
    · rw [inB_false (show ¬ ((0 : Int) ≤ x ∧ x ≤ 0) by omega), Bool.false_and]
      exact decide_eq_true (by omega)

/-- behind the last row that is not zero -/
def lsz (T : List (List Int)) : Nat → Nat
  | 0 => 0
  | k + 1 => if zB (T.getD k []) = true then lsz T k else k + 1

theorem lsz_le (T : List (List Int)) : ∀ k, lsz T k ≤ k
  | 0 => Nat.le_refl _
  | k + 1 => by
    unfold lsz
    split
    · have := lsz_le T k; omega
    · exact Nat.le_refl _

/-! ### How far a delay spreads -/
theorem sum_nn {xs : List Int} (h : allIn xs) : 0 ≤ xs.sum := (sum_pos (allIn_mem h)).1

theorem sum_ge1 : ∀ {xs : List Int} (_ : ∀ x, x ∈ xs → 0 ≤ x) (i : Nat), xs.getD i 0 ≤ xs.sum
  | [], _, i => by simp
  | x :: xs, h, 0 => by
    have h0 : ∀ {ys : List Int}, (∀ y, y ∈ ys → 0 ≤ y) → 0 ≤ ys.sum := fun {ys} hy => by
      induction ys with
      | nil => simp
      | cons y ys ih => rw [List.sum_cons]; have := hy y (by simp); have := ih fun z hz => hy z (by simp [hz]); omega
    have := h0 (ys := xs) fun y hy => h y (by simp [hy])
    rw [List.sum_cons]; simp only [List.getD_cons_zero]; omega
  | x :: xs, h, i + 1 => by
    have := sum_ge1 (xs := xs) (fun y hy => h y (by simp [hy])) i
    have := h x (by simp)
    rw [List.sum_cons]; simp only [List.getD_cons_succ]; omega

theorem sum_ge2 : ∀ {xs : List Int} (_ : ∀ x, x ∈ xs → 0 ≤ x) {i j : Nat} (_ : i < j), xs.getD i 0 + xs.getD j 0 ≤ xs.sum
  | [], _, i, j, _ => by simp
  | x :: xs, h, 0, 0, hj => by omega
  | x :: xs, h, 0, j + 1, _ => by
    have := sum_ge1 (xs := xs) (fun y hy => h y (by simp [hy])) j
    rw [List.sum_cons]; simp only [List.getD_cons_zero, List.getD_cons_succ]; omega
  | x :: xs, h, i + 1, 0, hj => by omega
  | x :: xs, h, i + 1, j + 1, hj => by
    have := sum_ge2 (xs := xs) (fun y hy => h y (by simp [hy])) (show i < j by omega)
    have := h x (by simp)
    rw [List.sum_cons]; simp only [List.getD_cons_succ]; omega

theorem sum_rep : ∀ n : Nat, (List.replicate n (0 : Int)).sum = 0
  | 0 => rfl
  | n + 1 => by rw [List.replicate_succ, List.sum_cons, sum_rep n]; rfl

theorem sum_set : ∀ (n e : Nat) (x : Int), e < n → ((List.replicate n (0 : Int)).set e x).sum = x
  | 0, _, _, h => by omega
  | n + 1, 0, x, _ => by rw [List.replicate_succ, List.set_cons_zero, List.sum_cons, sum_rep n]; omega
  | n + 1, e + 1, x, h => by rw [List.replicate_succ, List.set_cons_succ, List.sum_cons, sum_set n e x (by omega)]; omega

theorem foldl_ge {α : Type} {f : List Int → α → List Int} (hf : ∀ xs a q, xs.getD q 0 ≤ (f xs a).getD q 0) : ∀ (l : List α) (xs : List Int) (q : Nat), xs.getD q 0 ≤ (l.foldl f xs).getD q 0
  | [], _, _ => Int.le_refl _
  | a :: l, xs, q => by
    have h1 := hf xs a q
    have h2 := foldl_ge hf l (f xs a) q
    rw [List.foldl_cons]; omega

theorem foldl_P {α : Type} {P : List Int → Prop} {f : List Int → α → List Int} : ∀ (l : List α) (_ : ∀ ys b, b ∈ l → P ys → P (f ys b)) (xs : List Int), P xs → P (l.foldl f xs)
  | [], _, _, h => h
  | a :: l, hf, xs, h => foldl_P l (fun ys b hb => hf ys b (by simp [hb])) _ (hf xs a (by simp) h)

theorem foldl_hit {α : Type} {f : List Int → α → List Int} {l : List α} {a : α} {v : Nat} {P : List Int → Prop} (hm : a ∈ l) (hP : ∀ ys b, b ∈ l → P ys → P (f ys b)) (hge : ∀ ys b q, ys.getD q 0 ≤ (f ys b).getD q 0) (hh : ∀ ys, P ys → 1 ≤ (f ys a).getD v 0) (xs : List Int) (hx : P xs) : 1 ≤ (l.foldl f xs).getD v 0 := by
  obtain ⟨s, r, rfl⟩ := List.append_of_mem hm
  rw [List.foldl_append, List.foldl_cons]
  have h1 := foldl_P s (fun ys b hb => hP ys b (by simp [hb])) xs hx
  have h2 := hh _ h1
  have h3 := foldl_ge hge r (f (s.foldl f xs) a) v
  omega

/-- what holds of a row while its round goes on -/
def Spr (pre : List (List Int)) (n e0 : Nat) (N : Int) (ys : List Int) : Prop := allIn ys ∧ ys.length = n ∧ N + 1 ≤ ((pre ++ [ys]).getD 0 []).getD e0 0

theorem Spr.of {pre : List (List Int)} {n e0 : Nat} {N : Int} {ys zs : List Int} (h : Spr pre n e0 N ys) (h1 : allIn zs) (h2 : zs.length = ys.length) (h3 : ∀ q, ys.getD q 0 ≤ zs.getD q 0) : Spr pre n e0 N zs := by
  obtain ⟨a, b, c⟩ := h
  refine ⟨h1, by omega, ?_⟩
  cases pre with
  | nil => have := h3 e0; simp only [List.nil_append, List.getD_cons_zero] at c ⊢; omega
  | cons r pre => exact c

/-- nothing moves -/
theorem foldl_fix {α : Type} {f : List Int → α → List Int} {xs : List Int} : ∀ (l : List α) (_ : ∀ a, a ∈ l → f xs a = xs), l.foldl f xs = xs
  | [], _ => rfl
  | a :: l, h => by rw [List.foldl_cons, h a (by simp)]; exact foldl_fix l fun b hb => h b (by simp [hb])

def Calm (e0 : Nat) (N : Int) (ys : List Int) : Prop := ∀ i, 0 ≤ ys.getD i 0 ∧ ys.getD i 0 ≤ if i = e0 then N else 0

/-! ### The greatest delays -/
def wmax (xs q : List Int) : List Int := (List.range xs.length).map fun i => max (xs.getD i 0) (q.getD i 0)

theorem wmax_len (xs q : List Int) : (wmax xs q).length = xs.length := by unfold wmax; simp

theorem wmax_of {r a b : List Int} (hl : r.length = a.length) (h : ∀ q, q < a.length → r[q]? = some (max (a.getD q 0) (b.getD q 0))) : r = wmax a b := by
  apply List.ext_getElem?; intro q
  by_cases hq : q < a.length
  · rw [h q hq]; unfold wmax; rw [List.getElem?_map, List.getElem?_range hq]; rfl
  · rw [List.getElem?_eq_none (by omega), List.getElem?_eq_none (by rw [wmax_len]; omega)]

theorem wfold_len (T : List (List Int)) (xs : List Int) : (T.foldl wmax xs).length = xs.length := foldl_len wmax_len T xs

theorem foldl_takeR {S : Type} {f : S → List Int → S} {T : List (List Int)} {s : S} {k : Nat} (hk : k < T.length) : (T.take (k + 1)).foldl f s = f ((T.take k).foldl f s) (T.getD k []) := by
  have : T[k]? = some (T.getD k []) := by rw [List.getD_eq_getElem?_getD, List.getElem?_eq_getElem hk]; rfl
  rw [List.take_add_one, this, List.foldl_append]; rfl

/-! ### Tables by blocks -/
theorem mapR_at {n j : Nat} {g : Nat → Int} (h : j < n) : ((List.range n).map g)[j]? = some (g j) := by
  rw [List.getElem?_map, List.getElem?_range h]; rfl

theorem mapR_upd {n j : Nat} {g : Nat → Int} {x : Int} (h : j < n) : upd ((List.range n).map g) (j : Int) x = some (((List.range n).map g).set j x) := upd_nat _ (by simpa using h)

theorem tabM_upd {m n i j : Nat} {f : Nat → Nat → Int} {x : Int} (hi : i < m) : upd (tabM m n f) (i : Int) (((List.range n).map fun b => f i b).set j x) = some (tabM m n fun a b => if a = i ∧ b = j then x else f a b) := by
  rw [upd_nat _ (by rw [tabM_len]; exact hi)]
  refine congrArg some (tabM_of (by rw [List.length_set, tabM_len]) fun a ha => ?_)
  by_cases e : a = i
  · subst e
    rw [set_here (by rw [tabM_len]; exact ha)]
    refine congrArg some (row_of (by simp) fun b hb => ?_)
    by_cases e : b = j
    · subst e; rw [set_here (by simpa using hb)]; simp
    · rw [set_keep e, mapR_at hb]; simp [e]
  · rw [set_keep e, tabM_row ha]
    refine congrArg some (List.map_congr_left fun b _ => ?_)
    simp [e]

def ent (A : List (List Int)) (i j : Nat) : Int := (A.getD i []).getD j 0

theorem ent_row {A : List (List Int)} {i : Nat} (h : i < A.length) : A[i]? = some (A.getD i []) := by
  rw [List.getD_eq_getElem?_getD, List.getElem?_eq_getElem h]; rfl

theorem ent_len {A : List (List Int)} {n i : Nat} (hr : ∀ row, row ∈ A → row.length = n) (h : i < A.length) : (A.getD i []).length = n := hr _ (List.mem_of_getElem? (ent_row h))

/-- a part of a row is filled -/
theorem fillRow {F M N r c len : Nat} {g : Nat → Int} {f : Nat → Nat → Int} {L : Nat → List (List Int) → Int → Option (List (List Int))}
    (hL : ∀ m k (f' : Nat → Nat → Int), k < len → L (m + 1) (tabM M N f') (k : Int) = L m (tabM M N fun a b => if a = r ∧ b = c + k then g k else f' a b) ((k + 1 : Nat) : Int))
    (hE : ∀ m ms, L (m + 1) ms (len : Int) = some ms) (hn : len < F) : L F (tabM M N f) 0 = some (tabM M N fun a b => if a = r ∧ c ≤ b ∧ b < c + len then g (b - c) else f a b) := by
  refine for0 (L := L) (len := len) (fun k s => s = tabM M N fun a b => if a = r ∧ c ≤ b ∧ b < c + k then g (b - c) else f a b) (R := fun o => o = some (tabM M N fun a b => if a = r ∧ c ≤ b ∧ b < c + len then g (b - c) else f a b)) ?_ ?_ ?_ hn
  · rintro m k s hk rfl
    refine .inl ⟨_, hL m k _ hk, tabM_congr fun a b _ _ => ?_⟩
    by_cases ha : a = r
    · by_cases hb : b = c + k
      · subst hb; simp [ha]
      · by_cases h1 : c ≤ b ∧ b < c + k
        · rw [if_neg (by omega), if_pos ⟨ha, h1⟩, if_pos (by omega)]
        · rw [if_neg (by omega), if_neg (by omega), if_neg (by omega)]
    · simp [ha]
  · rintro m s rfl
    exact hE m _
  · refine tabM_congr fun a b _ _ => ?_
    rw [if_neg (by omega)]

/-- rows are filled one by one -/
theorem fillRows {F M N r len : Nat} {P : Nat → Prop} [DecidablePred P] {G : Nat → Nat → Int} {f : Nat → Nat → Int} {L : Nat → List (List Int) → Int → Option (List (List Int))}
    (hL : ∀ m i (f' : Nat → Nat → Int), i < len → L (m + 1) (tabM M N f') (i : Int) = L m (tabM M N fun a b => if a = r + i ∧ P b then G i b else f' a b) ((i + 1 : Nat) : Int))
    (hE : ∀ m ms, L (m + 1) ms (len : Int) = some ms) (hn : len < F) : L F (tabM M N f) 0 = some (tabM M N fun a b => if (r ≤ a ∧ a < r + len) ∧ P b then G (a - r) b else f a b) := by
  refine for0 (L := L) (len := len) (fun k s => s = tabM M N fun a b => if (r ≤ a ∧ a < r + k) ∧ P b then G (a - r) b else f a b) (R := fun o => o = some (tabM M N fun a b => if (r ≤ a ∧ a < r + len) ∧ P b then G (a - r) b else f a b)) ?_ ?_ ?_ hn
  · rintro m k s hk rfl
    refine .inl ⟨_, hL m k _ hk, tabM_congr fun a b _ _ => ?_⟩
    by_cases hb : P b
    · simp only [hb, and_true]
      by_cases ha : a = r + k
      · subst ha; rw [if_pos rfl, if_pos (by omega), Nat.add_sub_cancel_left]
      · by_cases h1 : r ≤ a ∧ a < r + k
        · rw [if_neg ha, if_pos h1, if_pos (by omega)]
        · rw [if_neg ha, if_neg h1, if_neg (by omega)]
    · simp [hb]
  · rintro m s rfl
    exact hE m _
  · refine tabM_congr fun a b _ _ => ?_
    rw [if_neg (by omega)]

def blk (A B C : List (List Int)) (i j : Nat) : Int :=
  if i < A.length then (if j < A.length then ent A i j else -1000000000000000) else if j < A.length then ent C (i - A.length) j else ent B (i - A.length) (j - A.length)


theorem flat_sz {a : List (List Int)} (hr : ∀ r, r ∈ a → r.length ≤ 1000) : ∀ k, k ≤ a.length → (a.take k).flatten.length ≤ k * 1000
  | 0, _ => by simp
  | k + 1, h => by
    have hx : a[k]? = some a[k] := List.getElem?_eq_getElem (by omega)
    have := flat_sz hr k (by omega)
    have h2 := hr _ (List.getElem_mem (show k < a.length by omega))
    rw [List.take_add_one, hx, List.flatten_append, List.length_append]
    simp only [Option.toList_some, List.flatten_cons, List.flatten_nil, List.append_nil]
    omega

/-! ### The best word -/
def stepw (ms : List (List (List Int))) (m : Nat) (x : List Int) : Option (List Int) := bif (applyv (ms.getD m []) x).all valB then some (applyv (ms.getD m []) x) else none

def runw (ms : List (List (List Int))) : List Nat → List Int → Option (List Int)
  | [], x => some x
  | m :: w, x => (stepw ms m x).bind (runw ms w)

def iw (w : List Nat) : List Int := List.map (fun m : Nat => (m : Int)) w

def hgt (xs : List Int) : Int := (List.range xs.length).foldl (fun s k => max s (xs.getD k 0)) (-1000000000000000)

def updB (most : Bool) (s : List Int × Int × Bool) (w : List Int) (h : Int) : List Int × Int × Bool := bif (!s.2.2 || (bif most then decide (s.2.1 < h) else decide (h < s.2.1))) then (w, h, true) else s

def gfold (ms : List (List (List Int))) (most : Bool) (pre : List Nat) (x : List Int) : List (List Nat) → List Int × Int × Bool → Option (List Int × Int × Bool)
  | [], s => some s
  | w :: ws, s => (runw ms w x).bind fun y => gfold ms most pre x ws (updB most s (iw (pre ++ w)) (hgt y))

def wf (M : Nat) : Nat → List (List Nat)
  | 0 => [[]]
  | l + 1 => (List.range M).flatMap fun m => (wf M l).map (List.cons m)

def snocs (M : Nat) (w : List Nat) : List (List Nat) := (List.range M).map fun m => w ++ [m]

theorem gfold_append {ms : List (List (List Int))} {most : Bool} {pre : List Nat} {x : List Int} : ∀ (a b : List (List Nat)) (s : List Int × Int × Bool), gfold ms most pre x (a ++ b) s = (gfold ms most pre x a s).bind (gfold ms most pre x b)
  | [], b, s => rfl
  | w :: a, b, s => by
    rw [List.cons_append]
    simp only [gfold]
    cases runw ms w x with
    | none => rfl
    | some y => simp only [Option.bind_some]; exact gfold_append a b _

theorem gfold_cons {ms : List (List (List Int))} {most : Bool} {pre : List Nat} {x y : List Int} {m : Nat} (h : stepw ms m x = some y) : ∀ (a : List (List Nat)) (s : List Int × Int × Bool), gfold ms most pre x (a.map (List.cons m)) s = gfold ms most (pre ++ [m]) y a s
  | [], s => rfl
  | w :: a, s => by
    rw [List.map_cons]
    simp only [gfold, runw, h, Option.bind_some, List.append_assoc, List.singleton_append]
    cases runw ms w y with
    | none => rfl
    | some z => simp only [Option.bind_some]; exact gfold_cons h a _

theorem wf_ne {M : Nat} (h : 1 ≤ M) : ∀ l, wf M l ≠ []
  | 0 => by simp [wf]
  | l + 1 => by
    obtain ⟨w, ws, e⟩ := List.exists_cons_of_ne_nil (wf_ne h l)
    intro h0
    simp only [wf, List.flatMap_eq_nil_iff, List.mem_range] at h0
    have := h0 0 (by omega)
    rw [e] at this; simp at this

theorem wf_snoc {M : Nat} : ∀ l, (wf M l).flatMap (snocs M) = wf M (l + 1)
  | 0 => by
    simp only [wf, List.flatMap_cons, List.flatMap_nil, List.append_nil, List.map_cons, List.map_nil, snocs, List.nil_append]
    rw [flatMap_one]
  | l + 1 => by
    have ih := wf_snoc (M := M) l
    have e1 : wf M (l + 1) = (List.range M).flatMap fun m => (wf M l).map (List.cons m) := rfl
    calc (wf M (l + 1)).flatMap (snocs M) = ((List.range M).flatMap fun m => (wf M l).map (List.cons m)).flatMap (snocs M) := by rw [← e1]
      _ = (List.range M).flatMap fun m => ((wf M l).flatMap (snocs M)).map (List.cons m) := by
        rw [List.flatMap_assoc]
        congr 1; funext m
        rw [List.flatMap_map, List.map_flatMap]
        congr 1; funext w
        simp [snocs]
      _ = wf M (l + 1 + 1) := by rw [ih]; rfl

theorem wf_len {M : Nat} (hM : M ≤ 4) : ∀ l, (wf M l).length ≤ 4 ^ l
  | 0 => by simp [wf]
  | l + 1 => by
    have ih := wf_len hM l
    have e : ∀ ks : List Nat, (ks.flatMap fun m => (wf M l).map (List.cons m)).length = ks.length * (wf M l).length := by
      intro ks
      induction ks with
      | nil => simp
      | cons k ks ih => rw [List.flatMap_cons, List.length_append, ih, List.length_map, List.length_cons, Nat.add_mul]; omega
    show ((List.range M).flatMap fun m => (wf M l).map (List.cons m)).length ≤ 4 ^ (l + 1)
    rw [e, List.length_range, Nat.pow_succ, Nat.mul_comm]
    exact Nat.mul_le_mul ih hM

theorem wf_mem {M : Nat} : ∀ l w, w ∈ wf M l → w.length = l ∧ ∀ m, m ∈ w → m < M
  | 0, w, h => by
    simp only [wf, List.mem_singleton] at h
    subst h; simp
  | l + 1, w, h => by
    simp only [wf, List.mem_flatMap, List.mem_range, List.mem_map] at h
    obtain ⟨m, hm, v, hv, rfl⟩ := h
    obtain ⟨h1, h2⟩ := wf_mem l v hv
    refine ⟨by rw [List.length_cons, h1], fun k hk => ?_⟩
    rcases List.mem_cons.1 hk with rfl | hk
    · exact hm
    · exact h2 k hk

theorem hg_bd {xs : List Int} (h : xs.all valB = true) : -1000000000000000 ≤ hgt xs ∧ hgt xs ≤ 1000000000000000 := by
  have hk : ∀ k, -1000000000000000 ≤ xs.getD k 0 ∧ xs.getD k 0 ≤ 1000000000000000 := by
    intro k
    by_cases hk : k < xs.length
    · have := List.all_eq_true.1 h _ (List.mem_of_getElem? (getD_of hk))
      unfold valB at this
      rw [Bool.or_eq_true, beq_iff_eq, inB_true] at this
      omega
    · rw [List.getD_eq_getElem?_getD, List.getElem?_eq_none (by omega)]; simp
  have H : ∀ (ks : List Nat) (s : Int), (-1000000000000000 ≤ s ∧ s ≤ 1000000000000000) → -1000000000000000 ≤ ks.foldl (fun s k => max s (xs.getD k 0)) s ∧ ks.foldl (fun s k => max s (xs.getD k 0)) s ≤ 1000000000000000 := by
    intro ks
    induction ks with
    | nil => intro s hs; exact hs
    | cons k ks ih =>
      intro s hs
      have := hk k
      exact ih (max s (xs.getD k 0)) (by omega)
  exact H _ _ (by omega)

structure MsOk (ms : List (List (List Int))) (n : Nat) : Prop where
  n1 : 1 ≤ n
  n10 : n ≤ 10
  m1 : 1 ≤ ms.length
  m4 : ms.length ≤ 4
  sq : ∀ m, m ∈ ms → m.length = n ∧ ∀ row, row ∈ m → row.length = n

theorem MsOk.at' {ms : List (List (List Int))} {n m : Nat} (h : MsOk ms n) (hm : m < ms.length) : ms[m]? = some (ms.getD m []) ∧ (ms.getD m []).length = n ∧ ∀ row, row ∈ ms.getD m [] → row.length = n := by
  have e : ms[m]? = some (ms.getD m []) := by rw [List.getD_eq_getElem?_getD, List.getElem?_eq_getElem hm]; rfl
  exact ⟨e, h.sq _ (List.mem_of_getElem? e)⟩

theorem MsOk.aplen {ms : List (List (List Int))} {n m : Nat} (h : MsOk ms n) (hm : m < ms.length) (x : List Int) : (applyv (ms.getD m []) x).length = n := by
  unfold applyv; rw [List.length_map]; exact (h.at' hm).2.1

theorem stepw_some {ms : List (List (List Int))} {n m : Nat} {x y : List Int} (h : MsOk ms n) (hm : m < ms.length) (hs : stepw ms m x = some y) : y.length = n ∧ y.all valB = true := by
  unfold stepw at hs
  cases hv : (applyv (ms.getD m []) x).all valB with
  | false => rw [hv] at hs; cases hs
  | true => rw [hv] at hs; cases hs; exact ⟨h.aplen hm x, hv⟩

theorem runw_some {ms : List (List (List Int))} {n : Nat} (h : MsOk ms n) : ∀ {w : List Nat} {x y : List Int}, (∀ m, m ∈ w → m < ms.length) → x.length = n → x.all valB = true → runw ms w x = some y → y.length = n ∧ y.all valB = true
  | [], x, y, _, hx, hv, hr => by cases hr; exact ⟨hx, hv⟩
  | m :: w, x, y, hw, _, _, hr => by
    unfold runw at hr
    cases hs : stepw ms m x with
    | none => rw [hs] at hr; cases hr
    | some z =>
      rw [hs, Option.bind_some] at hr
      obtain ⟨h1, h2⟩ := stepw_some h (hw m (by simp)) hs
      exact runw_some h (fun k hk => hw k (List.mem_cons_of_mem _ hk)) h1 h2 hr

theorem updB_bd {most : Bool} {s : List Int × Int × Bool} {w : List Int} {h : Int} (hs : -1000000000000000 ≤ s.2.1 ∧ s.2.1 ≤ 1000000000000000) (hh : -1000000000000000 ≤ h ∧ h ≤ 1000000000000000) : -1000000000000000 ≤ (updB most s w h).2.1 ∧ (updB most s w h).2.1 ≤ 1000000000000000 := by
  unfold updB
  cases (!s.2.2 || (bif most then decide (s.2.1 < h) else decide (h < s.2.1)))
  · exact hs
  · exact hh

def signOk (sg : Int) (most : Bool) : Prop := (sg = 1 ∧ most = true) ∨ (sg = -1 ∧ most = false)

theorem sign_is {sg a b : Int} {most : Bool} (h : signOk sg most) (ha : -1000000000000000 ≤ a ∧ a ≤ 1000000000000000) (hb : -1000000000000000 ≤ b ∧ b ≤ 1000000000000000) : decide (IntKind.i64.wrap (sg * a) < IntKind.i64.wrap (sg * b)) = bif most then decide (a < b) else decide (b < a) := by
  rcases h with ⟨rfl, rfl⟩ | ⟨rfl, rfl⟩
  · rw [wr (by omega) (by omega), wr (by omega) (by omega), Int.one_mul, Int.one_mul]; rfl
  · rw [wr (by omega) (by omega), wr (by omega) (by omega)]
    simp only [cond_false]
    by_cases hc : b < a
    · rw [dT hc, dT (by omega)]
    · rw [dF hc, dF (by omega)]

theorem iw_snoc (w : List Nat) (m : Nat) : iw (w ++ [m]) = iw w ++ [(m : Int)] := by simp [iw]

theorem gfold_pre {ms : List (List (List Int))} {most : Bool} {pre : List Nat} {x : List Int} {g : Nat → List (List Nat)} {s : List Int × Int × Bool} {k : Nat} : ∀ d, gfold ms most pre x ((List.range k).flatMap g) s = none → gfold ms most pre x ((List.range (k + d)).flatMap g) s = none
  | 0, h => h
  | d + 1, h => by
    rw [← Nat.add_assoc, List.range_succ, List.flatMap_append, gfold_append, gfold_pre d h]; rfl

def sw : Option (List Int) → Sum (List Int × Int) (List Int)
  | none => .inl ([], 3)
  | some l => .inr l

/-! ### Draws -/
structure COk (code : List Int) : Prop where
  len : code.length ≤ 4096
  byte : ∀ x, x ∈ code → 0 ≤ x ∧ x ≤ 255

structure SOk (code : List Int) (p s : Int) : Prop where
  p0 : 0 ≤ p
  p1 : p ≤ (code.length : Int)
  s0 : 0 ≤ s
  s1 : s < 2147483647

theorem next_tot {F : Nat} {code : List Int} {p s n : Int} (hc : COk code) (hs : SOk code p s) : Tot (fun r : Int × Int × Int => SOk code r.2.1 r.2.2 ∧ 0 ≤ r.1 ∧ (r.1 < n ∨ r.1 = 0)) (spec_l01Next F code p s n) := by
  obtain ⟨p0, p1, s0, s1⟩ := hs
  have hcl := hc.len
  unfold spec_l01Next
  refine Tot.cond (fun _ => Tot.pure ⟨⟨p0, p1, s0, s1⟩, Int.le_refl _, .inr rfl⟩) (fun h1 => ?_)
  have hn : ¬ n ≤ 1 := of_decide_eq_false h1
  have w1 : IntKind.i64.wrap (s * 48271) = s * 48271 := wr (by omega) (by omega)
  have w2 : IntKind.i64.wrap (s * 48271 + 59) = s * 48271 + 59 := wr (by omega) (by omega)
  have w3 : (s * 48271 + 59).tmod 2147483647 = (s * 48271 + 59) % 2147483647 := Int.tmod_eq_emod_of_nonneg (by omega)
  rw [w1, w2, w3]
  obtain ⟨u, hu⟩ : ∃ u, u = (s * 48271 + 59) % 2147483647 := ⟨_, rfl⟩
  rw [← hu]
  have u0 : 0 ≤ u := by omega
  have u1 : u < 2147483647 := by omega
  have w4 : u.tdiv 31 = u / 31 := Int.tdiv_eq_ediv_of_nonneg u0
  rw [w4, wr (show -9223372036854775808 ≤ u / 31 by omega) (by omega)]
  refine Tot.bind (P := fun r : Int × Int => 0 ≤ r.1 ∧ r.1 ≤ (code.length : Int) ∧ 0 ≤ r.2) (Tot.cond (fun hp => ?_) (fun _ => Tot.pure ⟨p0, p1, by simp only; omega⟩)) ?_
  · have hp : p < (code.length : Int) := of_decide_eq_true hp
    have w5 : IntKind.i64.wrap (p + 1) = p + 1 := wr (by omega) (by omega)
    have w6 : IntKind.i64.wrap (p + 1 - 1) = p := by rw [wr (by omega) (by omega)]; omega
    refine Tot.bind (idx_tot p0 hp) fun q hq => ?_
    have hq2 := hc.byte q hq
    have w7 : IntKind.i64.wrap q = q := wr (by omega) (by omega)
    rw [w5, w6, w7, wr (show -9223372036854775808 ≤ u / 31 + q by omega) (by omega)]
    refine Tot.bind (P := fun _ => True) (Tot.cond (fun _ => Tot.pure trivial) fun _ => Tot.pure trivial) fun b _ => ?_
    refine Tot.cond (fun _ => Tot.bind (idx_tot p0 hp) fun q2 hq2 => ?_) (fun _ => Tot.pure ⟨by simp only; omega, by simp only; omega, by simp only; omega⟩)
    have hq3 := hc.byte q2 hq2
    exact Tot.pure ⟨by simp only; omega, by simp only; omega, by simp only; rw [wr (by omega) (by omega)]; omega⟩
  · rintro ⟨p', x⟩ ⟨h1, h2, h3⟩
    simp only at h1 h2 h3 ⊢
    rw [if_neg (show ¬ n = 0 by omega)]
    refine ⟨(x.tmod n, p', u), rfl, ⟨h1, h2, u0, u1⟩, Int.tmod_nonneg n h3, .inl (Int.tmod_lt_of_pos x (by omega))⟩

theorem pick_tot {F : Nat} {code list : List Int} {p s : Int} (hc : COk code) (hs : SOk code p s) (hl : 0 < list.length) : Tot (fun r : Int × Int × Int => SOk code r.2.1 r.2.2 ∧ r.1 ∈ list) (spec_l01Pick F code p s list) := by
  unfold spec_l01Pick
  refine Tot.bind (next_tot hc hs) fun r hr => Tot.bind (idx_tot hr.2.1 (by omega)) fun q hq => Tot.pure ⟨hr.1, hq⟩

theorem from_tot {F : Nat} {code : List Int} (hF : 134217728 ≤ F) (hc : COk code) : Tot (fun r : Int × Int => SOk code r.1 r.2) (spec_l01From F code) := by
  have hcl := hc.len
  unfold spec_l01From
  refine Tot.bind (P := fun s : Int => 0 ≤ s ∧ s < 2147483647) ?_ fun s hs => Tot.pure ⟨Int.le_refl _, by simp only; omega, hs.1, hs.2⟩
  refine for0 (L := spec_l01From_L1 F code) (len := min code.length 64) (fun _ s => 0 ≤ s ∧ s < 2147483647) (R := Tot fun s => 0 ≤ s ∧ s < 2147483647) ?_ ?_ (by omega) (by omega)
  · rintro n k s hk ⟨s0, s1⟩
    have hx : code[k]? = some (code[k]'(by omega)) := List.getElem?_eq_getElem _
    have hb := hc.byte _ (List.getElem_mem (show k < code.length by omega))
    generalize code[k]'(by omega) = q at hx hb
    have w1 : IntKind.i64.wrap (s * 67) = s * 67 := wr (by omega) (by omega)
    have w2 : IntKind.i64.wrap q = q := wr (by omega) (by omega)
    have w3 : IntKind.i64.wrap (s * 67 + q) = s * 67 + q := wr (by omega) (by omega)
    have w4 : (s * 67 + q).tmod 2147483647 = (s * 67 + q) % 2147483647 := Int.tmod_eq_emod_of_nonneg (by omega)
    refine .inl ⟨(s * 67 + q) % 2147483647, ?_, by omega⟩
    simp only [spec_l01From_L1, bdT (show (k : Int) < (code.length : Int) by omega), dT (show (k : Int) < 64 by omega), Option.bind_some, cond_true, idx_nat, hx, w1, w2, w3, w4, wrN (show k ≤ 67108864 by omega)]
  · rintro n s hs
    by_cases h : code.length < 64
    · have e : min code.length 64 = code.length := by omega
      simp only [spec_l01From_L1, e, bdF (show ¬ (code.length : Int) < (code.length : Int) by omega), Option.bind_some, cond_false]
      exact Tot.pure hs
    · have e : min code.length 64 = 64 := by omega
      rw [e]
      refine ⟨s, ?_, hs⟩
      by_cases h2 : 64 < code.length
      · simp only [spec_l01From_L1, bdT (show ((64 : Nat) : Int) < (code.length : Int) by omega), dF (show ¬ ((64 : Nat) : Int) < 64 by omega), Option.bind_some, cond_false]
      · simp only [spec_l01From_L1, bdF (show ¬ ((64 : Nat) : Int) < (code.length : Int) by omega), Option.bind_some, cond_false]

end Go.Proofs.Ytebmlphobgaboab
