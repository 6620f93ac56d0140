/- Plain lemmas about the small functions of the laws. -/
import Derived.Test.YtebmlphobgaboabLatestTablesModels
import Derived.Test.YtebmlphobgaboabBf
namespace Go.Proofs.Ytebmlphobgaboab

theorem slices_IndexFunc_Place_is {F : Nat} {ps : List GPlace} {m : GPlace → Option Bool} {h : GPlace → Bool} (hF : 134217728 ≤ F) (hl : ps.length ≤ 16777216) (hm : ∀ x, x ∈ ps → m x = some (h x)) :
    slices_IndexFunc_Place F ps m = some (firstAt (ps.findIdx? h)) := by
  unfold slices_IndexFunc_Place
  rw [find_loop (ps := ps) (h := h) (v := fun k => (k : Int)) (L := slices_IndexFunc_Place_L1 F ps m) ?_ ?_ (by omega)]
  · cases ps.findIdx? h <;> rfl
  · intro n k x hk hx
    simp only [slices_IndexFunc_Place_L1, bdT (show (k : Int) < (ps.length : Int) by omega), idx_nat, hx, Option.bind_some, hm x (List.mem_of_getElem? hx), wrN (show k ≤ 67108864 by omega)]
  · intro n
    simp only [slices_IndexFunc_Place_L1, bdF (show ¬ (ps.length : Int) < (ps.length : Int) by omega)]
theorem slices_ContainsFunc_Place_is {F : Nat} {ps : List GPlace} {m : GPlace → Option Bool} {h : GPlace → Bool} (hF : 134217728 ≤ F) (hl : ps.length ≤ 16777216) (hm : ∀ x, x ∈ ps → m x = some (h x)) :
    slices_ContainsFunc_Place F ps m = some (ps.any h) := by
  unfold slices_ContainsFunc_Place
  rw [bind_of (slices_IndexFunc_Place_is hF hl hm), find_any]

theorem slices_IndexFunc_int64_is {F : Nat} {ps : List Int} {m : Int → Option Bool} {h : Int → Bool} (hF : 134217728 ≤ F) (hl : ps.length ≤ 16777216) (hm : ∀ x, x ∈ ps → m x = some (h x)) :
    slices_IndexFunc_int64 F ps m = some (firstAt (ps.findIdx? h)) := by
  unfold slices_IndexFunc_int64
  rw [find_loop (ps := ps) (h := h) (v := fun k => (k : Int)) (L := slices_IndexFunc_int64_L1 F ps m) ?_ ?_ (by omega)]
  · cases ps.findIdx? h <;> rfl
  · intro n k x hk hx
    simp only [slices_IndexFunc_int64_L1, bdT (show (k : Int) < (ps.length : Int) by omega), idx_nat, hx, Option.bind_some, hm x (List.mem_of_getElem? hx), wrN (show k ≤ 67108864 by omega)]
  · intro n
    simp only [slices_IndexFunc_int64_L1, bdF (show ¬ (ps.length : Int) < (ps.length : Int) by omega)]
theorem slices_ContainsFunc_int64_is {F : Nat} {ps : List Int} {m : Int → Option Bool} {h : Int → Bool} (hF : 134217728 ≤ F) (hl : ps.length ≤ 16777216) (hm : ∀ x, x ∈ ps → m x = some (h x)) :
    slices_ContainsFunc_int64 F ps m = some (ps.any h) := by
  unfold slices_ContainsFunc_int64
  rw [bind_of (slices_IndexFunc_int64_is hF hl hm), find_any]

/-! ### What comes to an end -/
def Tot {α : Type} (P : α → Prop) (o : Option α) : Prop := ∃ x, o = some x ∧ P x

theorem Tot.pure {α : Type} {P : α → Prop} {x : α} (h : P x) : Tot P (some x) := ⟨x, rfl, h⟩

theorem Tot.bind {α β : Type} {P : α → Prop} {Q : β → Prop} {o : Option α} {f : α → Option β} (h : Tot P o) (k : ∀ x, P x → Tot Q (f x)) : Tot Q (o.bind f) := by
  obtain ⟨x, rfl, hx⟩ := h; exact k x hx

theorem Tot.cond {α : Type} {P : α → Prop} {b : Bool} {x y : Option α} (h1 : b = true → Tot P x) (h2 : b = false → Tot P y) : Tot P (bif b then x else y) := by
  cases b
  · exact h2 rfl
  · exact h1 rfl

theorem Tot.mono {α : Type} {P Q : α → Prop} {o : Option α} (h : Tot P o) (k : ∀ x, P x → Q x) : Tot Q o := by
  obtain ⟨x, e, hx⟩ := h; exact ⟨x, e, k x hx⟩

theorem app_tot {α : Type} {xs ys : List α} (h : xs.length + ys.length ≤ 67108864) : Tot (fun zs => zs = xs ++ ys) (app xs ys) := ⟨_, app_le h, rfl⟩

theorem idx_tot {α : Type} {xs : List α} {i : Int} (h0 : 0 ≤ i) (h1 : i < (xs.length : Int)) : Tot (fun x => x ∈ xs) (idx xs i) := ⟨_, idx_int h0 h1, List.getElem_mem _⟩

theorem upd_tot {α : Type} {xs : List α} {i : Int} {x : α} (h0 : 0 ≤ i) (h1 : i < (xs.length : Int)) : Tot (fun ys => ys.length = xs.length) (upd xs i x) := ⟨_, upd_int x h0 h1, List.length_set⟩

theorem cutTo_tot {α : Type} {xs : List α} {l : Int} (h0 : 0 ≤ l) (h1 : l ≤ (xs.length : Int)) : Tot (fun ys => ys.length ≤ xs.length) (cutTo xs l) := by
  refine ⟨xs.take l.toNat, ?_, by show (xs.take l.toNat).length ≤ xs.length; rw [List.length_take]; omega⟩
  unfold cutTo; rw [if_pos ⟨h0, h1⟩]

/-! ### Slices of matrices -/
def inB (n lo hi : Int) : Bool := decide (lo ≤ n) && decide (n ≤ hi)

theorem inB_true {n lo hi : Int} : inB n lo hi = true ↔ lo ≤ n ∧ n ≤ hi := by unfold inB; simp

theorem specIn_is {F : Nat} {n lo hi : Int} : spec_l01In F n lo hi = some (inB n lo hi) := by
  simp only [spec_l01In, cond_and, Option.bind_some]; rfl

theorem within_is {F : Nat} {n lo hi : Int} : impl_within F n lo hi = some (inB n lo hi) := by
  simp only [impl_within, cond_and, Option.bind_some]; rfl


theorem implAllWithin_is {F : Nat} {xs : List Int} {lo hi : Int} (hF : 134217728 ≤ F) (hl : xs.length ≤ 1048576) : impl_allWithin F xs lo hi = some (xs.all fun x => inB x lo hi) := by
  unfold impl_allWithin
  rw [all_loop (ps := xs) (g := fun x => inB x lo hi) (r := false) (L := impl_allWithin_L1 F xs lo hi) ?_ ?_ (by omega)]
  · cases (xs.all fun x => inB x lo hi) <;> rfl
  · intro n k x hk hx
    simp only [impl_allWithin_L1, bdT (show (k : Int) < (xs.length : Int) by omega), idx_nat, hx, Option.bind_some, within_is, condn, wrN (show k ≤ 67108864 by omega)]
  · intro n
    simp only [impl_allWithin_L1, bdF (show ¬ (xs.length : Int) < (xs.length : Int) by omega)]

/-! ### Values and vectors -/
/-! ### Sums of the algebra -/
def tms (a b : Int) : Int := bif (a == (-1000000000000000)) || (b == (-1000000000000000)) then (-1000000000000000) else IntKind.i64.wrap (a + b)

/-- the sum of the products -/
def dotv (c x : List Int) (n : Nat) : Int := (List.range n).foldl (fun acc i => max acc (tms (c.getD i 0) (x.getD i 0))) (-1000000000000000)

theorem specTimes_is {F : Nat} {a b : Int} : spec_l01Times F a b = some (tms a b) := by
  unfold spec_l01Times tms
  cases (a == (-1000000000000000)) <;> cases (b == (-1000000000000000)) <;> rfl

theorem implTimes_is {F : Nat} {a b : Int} : impl_times F a b = some (tms a b) := by
  unfold impl_times tms
  cases (a == (-1000000000000000)) <;> cases (b == (-1000000000000000)) <;> rfl

/-! ### Lists of finite numbers -/
def applyv (a : List (List Int)) (x : List Int) : List Int := a.map fun row => dotv row x row.length

theorem implApply_is {F : Nat} {a : List (List Int)} {x : List Int} (hF : 134217728 ≤ F) (ha : a.length ≤ 1048576) (hx : x.length ≤ 1048576) (hr : ∀ row, row ∈ a → row.length = x.length) : impl_timesVector F a x = some (applyv a x) := by
  unfold impl_timesVector
  rw [mk_nat _ (by omega)]
  simp only [Option.bind_some]
  rw [fill_loop (ps := a) (f := fun row => dotv row x row.length) (L := impl_timesVector_L4 F a x) ?_ ?_ (by simp) (by omega)]
  · rfl
  · intro n xs k row hk hrow hl
    have hlen := hr row (List.mem_of_getElem? hrow)
    have hk' : k < xs.length := by omega
    have hq : xs[k]? = some xs[k] := List.getElem?_eq_getElem hk'
    have inner : impl_timesVector_L5 F x (k : Int) row F (xs.set k (-1000000000000000)) 0 = some (xs.set k (dotv row x row.length)) := by
      refine for0 (L := impl_timesVector_L5 F x (k : Int) row) (len := row.length) (fun j t => t = xs.set k ((List.range j).foldl (fun acc i => max acc (tms (row.getD i 0) (x.getD i 0))) (-1000000000000000))) (R := fun r => r = some (xs.set k (dotv row x row.length))) ?_ ?_ rfl (by omega)
      · rintro n j t hj rfl
        refine .inl ⟨_, ?_, rfl⟩
        simp only [impl_timesVector_L5, bdT (show (j : Int) < (row.length : Int) by omega), idx_nat, set_here hk', getD_of hj, getD_of (show j < x.length by omega), Option.bind_some, implTimes_is, upd_nat _ (show k < (xs.set k ((List.range j).foldl (fun acc i => max acc (tms (row.getD i 0) (x.getD i 0))) (-1000000000000000))).length by rw [List.length_set]; exact hk'), List.set_set, wrN (show j ≤ 67108864 by omega), List.range_succ, List.foldl_append, List.foldl_cons, List.foldl_nil]
      · rintro n t rfl
        simp only [impl_timesVector_L5, bdF (show ¬ (row.length : Int) < (row.length : Int) by omega)]; rfl
    simp only [impl_timesVector_L4, bdT (show (k : Int) < (a.length : Int) by omega), idx_nat, hrow, hq, Option.bind_some, upd_nat _ hk', inner, wrN (show k ≤ 67108864 by omega)]
  · intro n xs
    simp only [impl_timesVector_L4, bdF (show ¬ (a.length : Int) < (a.length : Int) by omega)]

/-! ### Matrices by their entries -/
def tabM (m n : Nat) (f : Nat → Nat → Int) : List (List Int) := (List.range m).map fun i => (List.range n).map fun j => f i j

theorem tabM_len (m n : Nat) (f : Nat → Nat → Int) : (tabM m n f).length = m := by unfold tabM; simp

theorem tabM_row {m n i : Nat} {f : Nat → Nat → Int} (h : i < m) : (tabM m n f)[i]? = some ((List.range n).map fun j => f i j) := by
  unfold tabM; rw [List.getElem?_map, List.getElem?_range h]; rfl

theorem tabM_rows {m n : Nat} {f : Nat → Nat → Int} : ∀ r, r ∈ tabM m n f → r.length = n := by
  intro r hr
  unfold tabM at hr
  rw [List.mem_map] at hr
  obtain ⟨i, _, rfl⟩ := hr
  simp

theorem tabM_of {m n : Nat} {f : Nat → Nat → Int} {t : List (List Int)} (hl : t.length = m) (h : ∀ i, i < m → t[i]? = some ((List.range n).map fun j => f i j)) : t = tabM m n f := by
  apply List.ext_getElem?; intro q
  by_cases hq : q < m
  · rw [h q hq, tabM_row hq]
  · rw [List.getElem?_eq_none (by omega), List.getElem?_eq_none (by rw [tabM_len]; omega)]

theorem row_of {n : Nat} {f : Nat → Int} {r : List Int} (hl : r.length = n) (h : ∀ j, j < n → r[j]? = some (f j)) : r = (List.range n).map f := by
  apply List.ext_getElem?; intro q
  by_cases hq : q < n
  · rw [h q hq, List.getElem?_map, List.getElem?_range hq]; rfl
  · rw [List.getElem?_eq_none (by omega), List.getElem?_eq_none (by simp; omega)]

theorem byRow {F n i : Nat} {en : Int → Int → Option Int} {f : Nat → Int} {ms : List (List Int)} {q : List Int} (hF : 134217728 ≤ F) (hn : n ≤ 1048576) (hen : ∀ j, j < n → en (i : Int) (j : Int) = some (f j)) (hq : ms[i]? = some q) (hql : q.length = n) :
    impl_matrixBy_L5 F en (i : Int) q F ms 0 = some (ms.set i ((List.range n).map f)) := by
  have him : i < ms.length := (List.getElem?_eq_some_iff.1 hq).1
  refine for0 (L := impl_matrixBy_L5 F en (i : Int) q) (len := q.length) (fun k t => ∃ r, t = ms.set i r ∧ r.length = n ∧ ∀ j, j < k → r[j]? = some (f j)) (R := fun o => o = some (ms.set i ((List.range n).map f))) ?_ ?_ ⟨q, (set_same hq).symm, hql, fun j hj => by omega⟩ (by omega)
  · rintro m k t hk ⟨r, rfl, hrl, h1⟩
    have hkr : k < r.length := by omega
    refine .inl ⟨ms.set i (r.set k (f k)), ?_, r.set k (f k), rfl, by rw [List.length_set]; exact hrl, fun j hj => ?_⟩
    · simp only [impl_matrixBy_L5, bdT (show (k : Int) < (q.length : Int) by omega), idx_nat, set_here him, hen k (by omega), getD_of hkr, Option.bind_some, upd_nat _ hkr, upd_nat _ (show i < (ms.set i r).length by rw [List.length_set]; exact him), List.set_set, wrN (show k ≤ 67108864 by omega)]
    · by_cases e : j = k
      · subst e; exact set_here hkr
      · rw [set_keep e]; exact h1 j (by omega)
  · rintro m t ⟨r, rfl, hrl, h1⟩
    simp only [impl_matrixBy_L5, bdF (show ¬ (q.length : Int) < (q.length : Int) by omega)]
    rw [row_of hrl (fun j hj => h1 j (by omega))]

theorem matrixBy_is {F m n : Nat} {en : Int → Int → Option Int} {f : Nat → Nat → Int} (hF : 134217728 ≤ F) (hm : m ≤ 1048576) (hn : n ≤ 1048576) (hen : ∀ i j, i < m → j < n → en (i : Int) (j : Int) = some (f i j)) : impl_matrixBy F (m : Int) (n : Int) en = some (tabM m n f) := by
  unfold impl_matrixBy
  rw [mk_nat _ (by omega)]
  simp only [Option.bind_some]
  have H := for0 (L := impl_matrixBy_L4 F (n : Int) en (List.replicate m [])) (len := m) (fun k t => t.length = m ∧ ∀ i, i < k → t[i]? = some ((List.range n).map fun j => f i j)) (R := fun o => o = some (tabM m n f)) (s := List.replicate m []) (n := F) ?_ ?_ ⟨by simp, fun i hi => by omega⟩ (by omega)
  · rw [H]; rfl
  · rintro q k t hk ⟨hl, h1⟩
    have hkt : k < t.length := by omega
    have hmk : mk (n : Int) (0 : Int) = some (List.replicate n 0) := mk_nat _ (by omega)
    have ht : t[k]? = some t[k] := List.getElem?_eq_getElem hkt
    have hrow := byRow (F := F) (n := n) (i := k) (en := en) (f := fun j => f k j) (ms := t.set k (List.replicate n 0)) (q := List.replicate n 0) hF hn (fun j hj => hen k j hk hj) (set_here hkt) (by simp)
    refine .inl ⟨t.set k ((List.range n).map fun j => f k j), ?_, by rw [List.length_set]; exact hl, fun i hi => ?_⟩
    · rw [List.set_set] at hrow
      simp only [impl_matrixBy_L4, List.length_replicate, bdT (show (k : Int) < (m : Int) by omega), hmk, idx_nat, ht, Option.bind_some, upd_nat _ hkt, set_here hkt, hrow, wrN (show k ≤ 67108864 by omega)]
    · by_cases e : i = k
      · subst e; exact set_here hkt
      · rw [set_keep e]; exact h1 i (by omega)
  · rintro q t ⟨hl, h1⟩
    simp only [impl_matrixBy_L4, List.length_replicate, bdF (show ¬ (m : Int) < (m : Int) by omega)]
    rw [tabM_of hl h1]

theorem specBotM_is {F m n : Nat} (hF : 134217728 ≤ F) (hm : m ≤ 1048576) (hn : n ≤ 1048576) : spec_l02Bottom F (m : Int) (n : Int) = some (tabM m n fun _ _ => (-1000000000000000)) := by
  unfold spec_l02Bottom
  rw [tab_loop (len := m) (f := fun _ => (List.range n).map fun _ => (-1000000000000000)) (L := spec_l02Bottom_L4 F (m : Int) (n : Int)) ?_ ?_ (by omega)]
  · rfl
  · intro k xs j hj hx
    have inner : spec_l02Bottom_L5 F (n : Int) F [] 0 = some ((List.range n).map fun _ => (-1000000000000000)) := by
      refine tab_loop (len := n) (f := fun _ => (-1000000000000000)) (L := spec_l02Bottom_L5 F (n : Int)) ?_ ?_ (by omega)
      · intro k xs j hj hx
        simp only [spec_l02Bottom_L5, bdT (show (j : Int) < (n : Int) by omega), app_le (show xs.length + [(-1000000000000000 : Int)].length ≤ 67108864 by simp only [List.length_singleton]; omega), Option.bind_some, wrN (show j ≤ 67108864 by omega)]
      · intro k xs _
        simp only [spec_l02Bottom_L5, bdF (show ¬ (n : Int) < (n : Int) by omega)]
    simp only [spec_l02Bottom_L4, bdT (show (j : Int) < (m : Int) by omega), inner, app_le (show xs.length + [(List.range n).map fun _ => (-1000000000000000 : Int)].length ≤ 67108864 by simp only [List.length_singleton]; omega), Option.bind_some, wrN (show j ≤ 67108864 by omega)]
  · intro k xs _
    simp only [spec_l02Bottom_L4, bdF (show ¬ (m : Int) < (m : Int) by omega)]

def unitM (n : Nat) : List (List Int) := tabM n n fun i j => if i = j then 0 else (-1000000000000000)

theorem specUnit_is {F n : Nat} (hF : 134217728 ≤ F) (hn : n ≤ 1048576) : spec_l02Unit F (n : Int) = some (unitM n) := by
  unfold spec_l02Unit
  rw [bind_of (specBotM_is hF hn hn)]
  have H := for0 (L := spec_l02Unit_L1 F (n : Int)) (len := n) (fun k t => t.length = n ∧ (∀ i, i < k → t[i]? = some ((List.range n).map fun j => if i = j then 0 else (-1000000000000000))) ∧ ∀ i, k ≤ i → i < n → t[i]? = some ((List.range n).map fun _ => (-1000000000000000))) (R := fun o => o = some (unitM n)) (s := tabM n n fun _ _ => (-1000000000000000)) (n := F) ?_ ?_ ⟨tabM_len _ _ _, fun i hi => by omega, fun i _ hi => tabM_row hi⟩ (by omega)
  · rw [H]; rfl
  · rintro q k t hk ⟨hl, h1, h2⟩
    have hkt : k < t.length := by omega
    have hrow := h2 k (Nat.le_refl _) hk
    have hc : ((List.range n).map fun _ => (-1000000000000000 : Int))[k]? = some (-1000000000000000) := by rw [List.getElem?_map, List.getElem?_range hk]; rfl
    refine .inl ⟨t.set k (((List.range n).map fun _ => (-1000000000000000 : Int)).set k 0), ?_, by rw [List.length_set]; exact hl, fun i hi => ?_, fun i hi hin => ?_⟩
    · simp only [spec_l02Unit_L1, bdT (show (k : Int) < (n : Int) by omega), idx_nat, hrow, hc, Option.bind_some, upd_nat _ (show k < ((List.range n).map fun _ => (-1000000000000000 : Int)).length by simpa using hk), upd_nat _ hkt, wrN (show k ≤ 67108864 by omega)]
    · by_cases e : i = k
      · subst e
        rw [set_here hkt]
        refine congrArg some (row_of (by simp) (fun j hj => ?_))
        by_cases e2 : j = i
        · subst e2; rw [set_here (by simpa using hj), if_pos rfl]
        · rw [set_keep e2, List.getElem?_map, List.getElem?_range hj, if_neg (Ne.symm e2)]; rfl
      · rw [set_keep e]; exact h1 i (by omega)
    · rw [set_keep (by omega)]; exact h2 i (by omega) hin
  · rintro q t ⟨hl, h1, _⟩
    simp only [spec_l02Unit_L1, bdF (show ¬ (n : Int) < (n : Int) by omega)]
    rw [tabM_of hl h1]; rfl

theorem implUnit_is {F n : Nat} (hF : 134217728 ≤ F) (hn : n ≤ 1048576) : impl_unitMatrix F (n : Int) = some (unitM n) := by
  unfold impl_unitMatrix
  rw [matrixBy_is (f := fun i j => if i = j then 0 else (-1000000000000000)) hF hn hn (fun i j _ _ => ?_)]
  · rfl
  · show impl_unitMatrix_c1 F (i : Int) (j : Int) = _
    unfold impl_unitMatrix_c1
    by_cases e : i = j
    · subst e; rw [beq_self_eq_true, if_pos rfl]; rfl
    · rw [beq_false_of_ne (show (i : Int) ≠ (j : Int) by omega), if_neg e]; rfl

/-! ### Products -/
def dotM (a b : List (List Int)) (i j : Nat) (k : Nat) : Int := (List.range k).foldl (fun acc q => max acc (tms ((a.getD i []).getD q 0) ((b.getD q []).getD j 0))) (-1000000000000000)

theorem dotM_succ (a b : List (List Int)) (i j k : Nat) : dotM a b i j (k + 1) = max (dotM a b i j k) (tms ((a.getD i []).getD k 0) ((b.getD k []).getD j 0)) := by
  unfold dotM; rw [List.range_succ, List.foldl_append]; rfl

def mulM (a b : List (List Int)) (n : Nat) : List (List Int) := tabM a.length n fun i j => dotM a b i j b.length

theorem rowG {t : List (List Int)} {k : Nat} (h : k < t.length) : t[k]? = some (t.getD k []) := by
  rw [List.getD_eq_getElem?_getD, List.getElem?_eq_getElem h]; rfl

theorem specMulCell {F n i j : Nat} {a b ms : List (List Int)} {row : List Int} (hF : 134217728 ≤ F) (hb : b.length ≤ 1048576) (ha : ∀ r, r ∈ a → r.length = b.length) (hbr : ∀ r, r ∈ b → r.length = n) (hi : i < a.length) (hj : j < n) (hm : ms[i]? = some row) (hrl : row.length = n) (hc : row[j]? = some (-1000000000000000)) :
    spec_l02Multiply_L21 F a b (i : Int) (j : Int) F ms 0 = some (ms.set i (row.set j (dotM a b i j b.length))) := by
  have him : i < ms.length := (List.getElem?_eq_some_iff.1 hm).1
  refine for0 (L := spec_l02Multiply_L21 F a b (i : Int) (j : Int)) (len := b.length) (fun k t => t = ms.set i (row.set j (dotM a b i j k))) (R := fun o => o = some (ms.set i (row.set j (dotM a b i j b.length)))) ?_ ?_ ?_ (by omega)
  · rintro q k t hk rfl
    have hjr : j < row.length := by omega
    have har := rowG hi
    have hal := ha _ (List.mem_of_getElem? har)
    have hbk := rowG hk
    have hbl := hbr _ (List.mem_of_getElem? hbk)
    refine .inl ⟨_, ?_, rfl⟩
    simp only [spec_l02Multiply_L21, bdT (show (k : Int) < (b.length : Int) by omega), idx_nat, set_here him, set_here hjr, har, hbk, getD_of (show k < (a.getD i []).length by omega), getD_of (show j < (b.getD k []).length by omega), Option.bind_some, specTimes_is, upd_nat _ (show j < (row.set j (dotM a b i j k)).length by rw [List.length_set]; exact hjr), upd_nat _ (show i < (ms.set i (row.set j (dotM a b i j k))).length by rw [List.length_set]; exact him), List.set_set, dotM_succ, wrN (show k ≤ 67108864 by omega)]
  · rintro q t rfl
    simp only [spec_l02Multiply_L21, bdF (show ¬ (b.length : Int) < (b.length : Int) by omega)]
  · show ms = ms.set i (row.set j (-1000000000000000))
    rw [set_same hc, set_same hm]

theorem specMulRow {F n i : Nat} {a b ms : List (List Int)} {row : List Int} (hF : 134217728 ≤ F) (hb0 : 0 < b.length) (hb : b.length ≤ 1048576) (hn : n ≤ 1048576) (ha : ∀ r, r ∈ a → r.length = b.length) (hbr : ∀ r, r ∈ b → r.length = n) (hi : i < a.length) (hm : ms[i]? = some row) (hrl : row.length = n) (hc : ∀ j, j < n → row[j]? = some (-1000000000000000)) :
    spec_l02Multiply_L20 F a b (i : Int) F ms 0 = some (ms.set i ((List.range n).map fun j => dotM a b i j b.length)) := by
  have him : i < ms.length := (List.getElem?_eq_some_iff.1 hm).1
  have h0 : idx b 0 = some (b.getD 0 []) := (idx_nat b 0).trans (rowG hb0)
  have hl0 : (b.getD 0 []).length = n := hbr _ (List.mem_of_getElem? (rowG hb0))
  refine for0 (L := spec_l02Multiply_L20 F a b (i : Int)) (len := n) (fun k t => ∃ r, t = ms.set i r ∧ r.length = n ∧ (∀ j, j < k → r[j]? = some (dotM a b i j b.length)) ∧ ∀ j, k ≤ j → j < n → r[j]? = some (-1000000000000000)) (R := fun o => o = some (ms.set i ((List.range n).map fun j => dotM a b i j b.length))) ?_ ?_ ⟨row, (set_same hm).symm, hrl, fun j hj => by omega, fun j _ hj => hc j hj⟩ (by omega)
  · rintro q k t hk ⟨r, rfl, hl, h1, h2⟩
    have hkr : k < r.length := by omega
    have hcell := specMulCell (F := F) (ms := ms.set i r) hF hb ha hbr hi hk (set_here him) hl (h2 k (Nat.le_refl _) hk)
    rw [List.set_set] at hcell
    refine .inl ⟨ms.set i (r.set k (dotM a b i k b.length)), ?_, r.set k (dotM a b i k b.length), rfl, by rw [List.length_set]; exact hl, fun j hj => ?_, fun j hj hjn => ?_⟩
    · simp only [spec_l02Multiply_L20, h0, Option.bind_some, bdT (show (k : Int) < ((b.getD 0 []).length : Int) by omega), hcell, wrN (show k ≤ 67108864 by omega)]
    · by_cases e : j = k
      · subst e; exact set_here hkr
      · rw [set_keep e]; exact h1 j (by omega)
    · rw [set_keep (by omega)]; exact h2 j (by omega) hjn
  · rintro q t ⟨r, rfl, hl, h1, _⟩
    simp only [spec_l02Multiply_L20, h0, Option.bind_some, bdF (show ¬ (n : Int) < ((b.getD 0 []).length : Int) by omega)]
    rw [row_of hl h1]

theorem specMul_is {F n : Nat} {a b : List (List Int)} (hF : 134217728 ≤ F) (hal : a.length ≤ 1048576) (hb0 : 0 < b.length) (hb : b.length ≤ 1048576) (hn : n ≤ 1048576) (ha : ∀ r, r ∈ a → r.length = b.length) (hbr : ∀ r, r ∈ b → r.length = n) : spec_l02Multiply F a b = some (mulM a b n) := by
  have h0 : idx b 0 = some (b.getD 0 []) := (idx_nat b 0).trans (rowG hb0)
  have hl0 : (b.getD 0 []).length = n := hbr _ (List.mem_of_getElem? (rowG hb0))
  unfold spec_l02Multiply
  rw [bind_of h0, hl0, bind_of (specBotM_is hF hal hn)]
  have H := for0 (L := spec_l02Multiply_L16 F a b) (len := a.length) (fun k t => t.length = a.length ∧ (∀ i, i < k → t[i]? = some ((List.range n).map fun j => dotM a b i j b.length)) ∧ ∀ i, k ≤ i → i < a.length → t[i]? = some ((List.range n).map fun _ => (-1000000000000000))) (R := fun o => o = some (mulM a b n)) (s := tabM a.length n fun _ _ => (-1000000000000000)) (n := F) ?_ ?_ ⟨tabM_len _ _ _, fun i hi => by omega, fun i _ hi => tabM_row hi⟩ (by omega)
  · rw [H]; rfl
  · rintro q k t hk ⟨hl, h1, h2⟩
    have hkt : k < t.length := by omega
    have hrow := specMulRow (F := F) (ms := t) hF hb0 hb hn ha hbr hk (h2 k (Nat.le_refl _) hk) (by simp) (fun j hj => by rw [List.getElem?_map, List.getElem?_range hj]; rfl)
    refine .inl ⟨t.set k ((List.range n).map fun j => dotM a b k j b.length), ?_, by rw [List.length_set]; exact hl, fun i hi => ?_, fun i hi hin => ?_⟩
    · simp only [spec_l02Multiply_L16, bdT (show (k : Int) < (a.length : Int) by omega), hrow, Option.bind_some, wrN (show k ≤ 67108864 by omega)]
    · by_cases e : i = k
      · subst e; exact set_here hkt
      · rw [set_keep e]; exact h1 i (by omega)
    · rw [set_keep (by omega)]; exact h2 i (by omega) hin
  · rintro q t ⟨hl, h1, _⟩
    simp only [spec_l02Multiply_L16, bdF (show ¬ (a.length : Int) < (a.length : Int) by omega)]
    rw [tabM_of hl h1]; rfl

/-! ### Modes -/
/-! ### Words -/
theorem specWithin_is {F : Nat} {xs : List Int} {most lo hi : Int} (hF : 134217728 ≤ F) (hl : xs.length ≤ 1048576) : spec_l01Within F xs most lo hi = some ((xs.all fun x => inB x lo hi) && decide ((xs.length : Int) ≤ most)) := by
  unfold spec_l01Within
  rw [all_loop (ps := xs) (g := fun x => inB x lo hi) (r := false) (L := spec_l01Within_L1 F xs lo hi) ?_ ?_ (by omega)]
  · cases xs.all (fun x => inB x lo hi) <;> rfl
  · intro n k x hk hx
    simp only [spec_l01Within_L1, bdT (show (k : Int) < (xs.length : Int) by omega), idx_nat, hx, Option.bind_some, specIn_is, condn, wrN (show k ≤ 67108864 by omega)]
  · intro n
    simp only [spec_l01Within_L1, bdF (show ¬ (xs.length : Int) < (xs.length : Int) by omega)]

/-! ### Shifted vectors, sums of matrices -/
/-! ### Sums of matrices -/
def addv (a b : List Int) : List Int := (List.range a.length).map fun i => max (a.getD i 0) (b.getD i 0)

theorem addv_len (a b : List Int) : (addv a b).length = a.length := by unfold addv; simp

def addm (a b : List (List Int)) : List (List Int) := (List.range a.length).map fun i => addv (a.getD i []) (b.getD i [])

theorem addv_of {r a b : List Int} (hl : r.length = a.length) (h : ∀ q, q < a.length → r[q]? = some (max (a.getD q 0) (b.getD q 0))) : r = addv a b := by
  apply List.ext_getElem?; intro q
  by_cases hq : q < a.length
  · rw [h q hq]; unfold addv; rw [List.getElem?_map, List.getElem?_range hq]; rfl
  · rw [List.getElem?_eq_none (by omega), List.getElem?_eq_none (by rw [addv_len]; omega)]

/-! ### Sums of matrices, by the reference -/
theorem specOwn_is {F : Nat} {x : List Int} (hx : x.length ≤ 1048576) : spec_l01Own F x = some x := by
  unfold spec_l01Own
  rw [app_le (by simp only [List.length_nil]; omega)]; rfl

theorem specOwnM_is {F : Nat} {a : List (List Int)} (hF : 134217728 ≤ F) (ha : a.length ≤ 1048576) (hr : ∀ row, row ∈ a → row.length ≤ 1048576) : spec_l02Own F a = some a := by
  unfold spec_l02Own
  rw [grow_loop (ps := a) (g := fun r => [r]) (L := spec_l02Own_L1 F a) (by simp) ?_ ?_ (by omega)]
  · rw [Option.bind_some, flatMap_one, List.map_id']
  · intro n xs k v hk hv hl
    simp only [spec_l02Own_L1, bdT (show (k : Int) < (a.length : Int) by omega), idx_nat, hv, Option.bind_some, specOwn_is (hr v (List.mem_of_getElem? hv)), app_le (show xs.length + [v].length ≤ 67108864 by simp only [List.length_singleton]; omega), wrN (show k ≤ 67108864 by omega)]
  · intro n xs
    simp only [spec_l02Own_L1, bdF (show ¬ (a.length : Int) < (a.length : Int) by omega)]

theorem specAddRow {F : Nat} {b ms : List (List Int)} {i : Nat} {row rb : List Int} (hF : 134217728 ≤ F) (hi : ms[i]? = some row) (hb : b[i]? = some rb) (hl : row.length ≤ 1048576) (hlb : row.length ≤ rb.length) :
    spec_l02Add_L5 F b (i : Int) F ms 0 = some (ms.set i (addv row rb)) := by
  have him : i < ms.length := (List.getElem?_eq_some_iff.1 hi).1
  refine for0 (L := spec_l02Add_L5 F b (i : Int)) (len := row.length) (fun j t => ∃ r, t = ms.set i r ∧ r.length = row.length ∧ (∀ q, q < j → r[q]? = some (max (row.getD q 0) (rb.getD q 0))) ∧ ∀ q, j ≤ q → r[q]? = row[q]?) (R := fun o => o = some (ms.set i (addv row rb))) ?_ ?_ ⟨row, (set_same hi).symm, rfl, by intro q hq; omega, fun _ _ => rfl⟩ (by omega)
  · rintro n j t hj ⟨r, rfl, hrl, h1, h2⟩
    have hjr : j < r.length := by omega
    have hrj : r[j]? = some (row.getD j 0) := by rw [h2 j (Nat.le_refl _), getD_of hj]
    refine .inl ⟨ms.set i (r.set j (max (row.getD j 0) (rb.getD j 0))), ?_, r.set j (max (row.getD j 0) (rb.getD j 0)), rfl, by rw [List.length_set]; exact hrl, ?_, ?_⟩
    · simp only [spec_l02Add_L5, idx_nat, set_here him, hb, hrj, getD_of (show j < rb.length by omega), Option.bind_some, bdT (show (j : Int) < (r.length : Int) by omega), upd_nat _ hjr, upd_nat _ (show i < (ms.set i r).length by rw [List.length_set]; exact him), List.set_set, wrN (show j ≤ 67108864 by omega)]
    · intro q hq
      by_cases e : q = j
      · subst e; exact set_here hjr
      · rw [set_keep e]; exact h1 q (by omega)
    · intro q hq
      rw [set_keep (by omega)]; exact h2 q (by omega)
  · rintro n t ⟨r, rfl, hrl, h1, _⟩
    simp only [spec_l02Add_L5, idx_nat, set_here him, Option.bind_some, bdF (show ¬ (row.length : Int) < (r.length : Int) by omega)]
    rw [addv_of hrl h1]

theorem specAdd_is {F : Nat} {a b : List (List Int)} (hF : 134217728 ≤ F) (ha : a.length ≤ 1048576) (hr : ∀ row, row ∈ a → row.length ≤ 1048576) (hab : b.length = a.length) (hrb : ∀ i, i < a.length → (a.getD i []).length ≤ (b.getD i []).length) : spec_l02Add F a b = some (addm a b) := by
  unfold spec_l02Add
  rw [bind_of (specOwnM_is hF ha hr)]
  have D : ∀ {m : List (List Int)} {i : Nat}, i < m.length → m[i]? = some (m.getD i []) := fun h => by rw [List.getD_eq_getElem?_getD, List.getElem?_eq_getElem h]; rfl
  have H := for0 (L := spec_l02Add_L4 F b) (len := a.length) (fun j t => t.length = a.length ∧ (∀ q, q < j → t[q]? = some (addv (a.getD q []) (b.getD q []))) ∧ ∀ q, j ≤ q → t[q]? = a[q]?) (R := fun o => o = some (addm a b)) (s := a) (n := F) ?_ ?_ ⟨rfl, by intro q hq; omega, fun _ _ => rfl⟩ (by omega)
  · rw [H]; rfl
  · rintro n j t hj ⟨hl, h1, h2⟩
    have hjt : j < t.length := by omega
    have hrow : t[j]? = some (a.getD j []) := by rw [h2 j (Nat.le_refl _), D hj]
    refine .inl ⟨t.set j (addv (a.getD j []) (b.getD j [])), ?_, by rw [List.length_set]; exact hl, ?_, ?_⟩
    · simp only [spec_l02Add_L4, bdT (show (j : Int) < (t.length : Int) by omega), specAddRow hF hrow (D (show j < b.length by omega)) (hr _ (List.mem_of_getElem? (D hj))) (hrb j hj), Option.bind_some, wrN (show j ≤ 67108864 by omega)]
    · intro q hq
      by_cases e : q = j
      · subst e; exact set_here hjt
      · rw [set_keep e]; exact h1 q (by omega)
    · intro q hq
      rw [set_keep (by omega)]; exact h2 q (by omega)
  · rintro n t ⟨hl, h1, _⟩
    simp only [spec_l02Add_L4, bdF (show ¬ (a.length : Int) < (t.length : Int) by omega)]
    refine congrArg some ?_
    apply List.ext_getElem?; intro q
    by_cases hq : q < a.length
    · rw [h1 q hq]; unfold addm; rw [List.getElem?_map, List.getElem?_range hq]; rfl
    · rw [List.getElem?_eq_none (by omega), List.getElem?_eq_none (by unfold addm; simp; omega)]

theorem addm_len (a b : List (List Int)) : (addm a b).length = a.length := by unfold addm; simp

theorem implAdd_is {F n : Nat} {a b : List (List Int)} (hF : 134217728 ≤ F) (ha0 : 0 < a.length) (hal : a.length ≤ 1048576) (hn : n ≤ 1048576) (hab : b.length = a.length) (ha : ∀ r, r ∈ a → r.length = n) (hb : ∀ r, r ∈ b → r.length = n) : impl_addMatrices F a b = some (addm a b) := by
  have G : ∀ {t : List (List Int)} {k : Nat}, k < t.length → t[k]? = some (t.getD k []) := fun h => by rw [List.getD_eq_getElem?_getD, List.getElem?_eq_getElem h]; rfl
  have h0 : idx a 0 = some (a.getD 0 []) := (idx_nat a 0).trans (G ha0)
  have hl0 : (a.getD 0 []).length = n := ha _ (List.mem_of_getElem? (G ha0))
  unfold impl_addMatrices
  rw [bind_of h0, hl0, matrixBy_is (f := fun i j => max ((a.getD i []).getD j 0) ((b.getD i []).getD j 0)) hF hal hn (fun i j hi hj => ?_)]
  · simp only [Option.bind_some]
    refine congrArg some ?_
    unfold tabM addm
    apply List.map_congr_left
    intro i hi
    have hi' : i < a.length := by simpa using hi
    unfold addv
    rw [ha _ (List.mem_of_getElem? (G hi'))]
  · show impl_addMatrices_c1 F (i : Int) (j : Int) a b = _
    have har := G hi
    have hbr := G (t := b) (k := i) (by omega)
    have l1 := ha _ (List.mem_of_getElem? har)
    have l2 := hb _ (List.mem_of_getElem? hbr)
    simp only [impl_addMatrices_c1, idx_nat, har, hbr, getD_of (show j < (a.getD i []).length by omega), getD_of (show j < (b.getD i []).length by omega), Option.bind_some]

/-! ### Tables by their entries -/
theorem tabM_get {m n i j : Nat} {f : Nat → Nat → Int} (hi : i < m) (hj : j < n) : ((tabM m n f).getD i []).getD j 0 = f i j := by
  rw [List.getD_eq_getElem?_getD, List.getD_eq_getElem?_getD, tabM_row hi, Option.getD_some, List.getElem?_map, List.getElem?_range hj]; rfl

theorem tabM_congr {m n : Nat} {f g : Nat → Nat → Int} (h : ∀ i j, i < m → j < n → f i j = g i j) : tabM m n f = tabM m n g := by
  unfold tabM
  apply List.map_congr_left
  intro i hi
  apply List.map_congr_left
  intro j hj
  exact h i j (by simpa using hi) (by simpa using hj)

theorem tabM_at {n i : Nat} {f : Nat → Int} (h : i < n) : ((List.range n).map f)[i]? = some (f i) := by
  rw [List.getElem?_map, List.getElem?_range h]; rfl

theorem tabM_set {m n i j : Nat} {f : Nat → Nat → Int} {v : Int} (hi : i < m) (hj : j < n) : (tabM m n f).set i (((List.range n).map fun j => f i j).set j v) = tabM m n fun a b => if a = i ∧ b = j then v else f a b := by
  refine tabM_of (by rw [List.length_set, tabM_len]) (fun a ha => ?_)
  by_cases e : a = i
  · subst e
    rw [set_here (by rw [tabM_len]; exact ha)]
    refine congrArg some (row_of (by simp) (fun b hb => ?_))
    by_cases e2 : b = j
    · subst e2
      rw [set_here (by simpa using hb), if_pos ⟨rfl, rfl⟩]
    · rw [set_keep e2, tabM_at hb, if_neg (by omega)]
  · rw [set_keep e, tabM_row ha]
    refine congrArg some ?_
    apply List.map_congr_left
    intro b _
    rw [if_neg (by omega)]

/-! ### Tables of arcs -/
def arcT {α : Type} (t f : α → Nat) (w : α → Int) : List α → Nat → Nat → Int
  | l => fun i j => l.foldl (fun acc x => if t x = i ∧ f x = j then max acc (w x) else acc) (-1000000000000000)

theorem arcT_snoc {α : Type} (t f : α → Nat) (w : α → Int) (l : List α) (x : α) (i j : Nat) : arcT t f w (l ++ [x]) i j = if i = t x ∧ j = f x then max (arcT t f w l (t x) (f x)) (w x) else arcT t f w l i j := by
  unfold arcT
  rw [List.foldl_append]
  simp only [List.foldl_cons, List.foldl_nil]
  by_cases h : t x = i ∧ f x = j
  · obtain ⟨rfl, rfl⟩ := h
    rw [if_pos ⟨rfl, rfl⟩]
  · rw [if_neg h, if_neg (by omega)]

theorem arcT_le {α : Type} {t f : α → Nat} {w : α → Int} : ∀ (l : List α) (a0 : Int) (i j : Nat), a0 ≤ l.foldl (fun acc x => if t x = i ∧ f x = j then max acc (w x) else acc) a0
  | [], a0, _, _ => Int.le_refl _
  | x :: l, a0, i, j => by
    rw [List.foldl_cons]
    by_cases h : t x = i ∧ f x = j
    · rw [if_pos h]; exact Int.le_trans (by omega) (arcT_le l _ i j)
    · rw [if_neg h]; exact arcT_le l a0 i j

theorem arcT_ge' {α : Type} {t f : α → Nat} {w : α → Int} : ∀ (l : List α) (a0 : Int) (x : α), x ∈ l → w x ≤ l.foldl (fun acc y => if t y = t x ∧ f y = f x then max acc (w y) else acc) a0
  | [], _, x, h => by cases h
  | y :: l, a0, x, h => by
    rw [List.foldl_cons]
    rcases List.mem_cons.1 h with rfl | h
    · rw [if_pos ⟨rfl, rfl⟩]; exact Int.le_trans (by omega) (arcT_le l _ _ _)
    · exact arcT_ge' l _ x h

theorem arcT_ge {α : Type} {t f : α → Nat} {w : α → Int} {l : List α} {x : α} (h : x ∈ l) : w x ≤ arcT t f w l (t x) (f x) := arcT_ge' l _ x h

theorem arcT_cases' {α : Type} {t f : α → Nat} {w : α → Int} (i j : Nat) : ∀ (l : List α) (a0 : Int), l.foldl (fun acc x => if t x = i ∧ f x = j then max acc (w x) else acc) a0 = a0 ∨ ∃ x, x ∈ l ∧ t x = i ∧ f x = j ∧ l.foldl (fun acc x => if t x = i ∧ f x = j then max acc (w x) else acc) a0 = w x
  | [], a0 => .inl rfl
  | y :: l, a0 => by
    rw [List.foldl_cons]
    by_cases h : t y = i ∧ f y = j
    · rw [if_pos h]
      rcases arcT_cases' i j l (max a0 (w y)) with h1 | ⟨x, h1, h2, h3, h4⟩
      · by_cases h5 : w y ≤ a0
        · left; rw [h1]; omega
        · right; exact ⟨y, by simp, h.1, h.2, by rw [h1]; omega⟩
      · right; exact ⟨x, by simp [h1], h2, h3, h4⟩
    · rw [if_neg h]
      rcases arcT_cases' i j l a0 with h1 | ⟨x, h1, h2, h3, h4⟩
      · exact .inl h1
      · right; exact ⟨x, by simp [h1], h2, h3, h4⟩

theorem arcT_cases {α : Type} {t f : α → Nat} {w : α → Int} (l : List α) (i j : Nat) : arcT t f w l i j = -1000000000000000 ∨ ∃ x, x ∈ l ∧ t x = i ∧ f x = j ∧ arcT t f w l i j = w x := arcT_cases' i j l _

theorem arcT_ok {α : Type} {t f : α → Nat} {w : α → Int} {l : List α} (h : ∀ x, x ∈ l → -1000000 ≤ w x ∧ w x ≤ 1000000) (n : Nat) : TabOk (arcT t f w l) n := fun i j _ _ => by
  rcases arcT_cases (t := t) (f := f) (w := w) l i j with e | ⟨x, hx, _, _, e⟩
  · exact .inl e
  · rw [e]; exact .inr (h x hx)

/-- a loop that lays arcs into a table -/
theorem arc_loop {α : Type} {t f : α → Nat} {w : α → Int} {ps : List α} {n : Nat} {L : Nat → List (List Int) → Int → Option (List (List Int))}
    (hL : ∀ m k x h, k < ps.length → ps[k]? = some x → L (m + 1) (tabM n n h) (k : Int) = L m (tabM n n fun i j => if i = t x ∧ j = f x then max (h (t x) (f x)) (w x) else h i j) ((k + 1 : Nat) : Int))
    (hE : ∀ m h, L (m + 1) (tabM n n h) (ps.length : Int) = some (tabM n n h)) {F : Nat} (hn : ps.length < F) : L F (tabM n n fun _ _ => (-1000000000000000)) 0 = some (tabM n n (arcT t f w ps)) := by
  refine for0 (L := L) (len := ps.length) (fun k ms => ms = tabM n n (arcT t f w (ps.take k))) (R := fun o => o = some (tabM n n (arcT t f w ps))) ?_ ?_ rfl hn
  · rintro m k ms hk rfl
    have hx : ps[k]? = some ps[k] := List.getElem?_eq_getElem hk
    refine .inl ⟨_, hL m k ps[k] _ hk hx, tabM_congr fun i j _ _ => ?_⟩
    rw [List.take_add_one, hx]
    exact (arcT_snoc t f w (ps.take k) ps[k] i j).symm
  · rintro m ms rfl
    rw [hE m, List.take_length]

theorem implBotM_is {F m n : Nat} (hF : 134217728 ≤ F) (hm : m ≤ 1048576) (hn : n ≤ 1048576) : impl_bottomMatrix F (m : Int) (n : Int) = some (tabM m n fun _ _ => (-1000000000000000)) := by
  unfold impl_bottomMatrix
  rw [matrixBy_is (f := fun _ _ => (-1000000000000000)) hF hm hn (fun i j _ _ => rfl)]; rfl

/-! ### The star, both ways -/
theorem tms_ta {M K a b : Int} (ha : Okw M a) (hb : Okw K b) (hM : M ≤ 10000000000) (hK : K ≤ 10000000000) : tms a b = ta a b := by
  unfold tms ta
  unfold Okw at ha hb
  by_cases h1 : a = -1000000000000000
  · subst h1; rw [if_pos (.inl rfl)]; rfl
  · by_cases h2 : b = -1000000000000000
    · subst h2; rw [if_pos (.inr rfl), beq_self_eq_true, Bool.or_true]; rfl
    · rw [if_neg (by omega), beq_false_of_ne h1, beq_false_of_ne h2]
      exact wr (by omega) (by omega)

theorem addm_tab {n : Nat} {f g : Nat → Nat → Int} : addm (tabM n n f) (tabM n n g) = tabM n n fun i j => max (f i j) (g i j) := by
  refine tabM_of (by rw [addm_len, tabM_len]) (fun i hi => ?_)
  unfold addm
  rw [List.getElem?_map, tabM_len, List.getElem?_range hi]
  refine congrArg some (row_of ?_ (fun j hj => ?_))
  · rw [addv_len, List.getD_eq_getElem?_getD, tabM_row hi]; simp
  · unfold addv
    have hl : ((tabM n n f).getD i []).length = n := by rw [List.getD_eq_getElem?_getD, tabM_row hi]; simp
    show ((List.range ((tabM n n f).getD i []).length).map fun q => max (((tabM n n f).getD i []).getD q 0) (((tabM n n g).getD i []).getD q 0))[j]? = _
    rw [hl, tabM_at hj, tabM_get hi hj, tabM_get hi hj]

theorem unitM_tab (n : Nat) : unitM n = tabM n n un := rfl

theorem rows_tab {n : Nat} {f : Nat → Nat → Int} (hn : n ≤ 10) : ∀ r, r ∈ tabM n n f → r.length ≤ 1048576 := fun r hr => by rw [tabM_rows r hr]; omega

theorem getD_tab {n i : Nat} {f : Nat → Nat → Int} (hi : i < n) : ((tabM n n f).getD i []).length = n := by
  rw [List.getD_eq_getElem?_getD, tabM_row hi]; simp


theorem mulM_tab {n : Nat} {f g : Nat → Nat → Int} {M K : Int} (hf : ∀ i j, i < n → j < n → Okw M (f i j)) (hg : ∀ i j, i < n → j < n → Okw K (g i j)) (hM : M ≤ 10000000000) (hK : K ≤ 10000000000) : mulM (tabM n n f) (tabM n n g) n = tabM n n fun i j => mx n fun q => ta (f i q) (g q j) := by
  unfold mulM
  rw [tabM_len, tabM_len]
  refine tabM_congr fun i j hi hj => ?_
  have : ∀ k, k ≤ n → dotM (tabM n n f) (tabM n n g) i j k = mx k fun q => ta (f i q) (g q j) := by
    intro k
    induction k with
    | zero => intro _; rfl
    | succ k ih =>
      intro hk
      rw [dotM_succ, mx_succ, ih (by omega), tabM_get hi (show k < n by omega), tabM_get (show k < n by omega) hj, tms_ta (hf i k hi (by omega)) (hg k j (by omega) hj) hM hK]
  exact this n (Nat.le_refl _)

theorem specSame1_is {F : Nat} {a b : List Int} (hF : 134217728 ≤ F) (hl : a.length ≤ 1048576) : ∃ q, spec_l01Same F a b = some q ∧ (q = true ↔ a = b) := by
  unfold spec_l01Same
  by_cases h : a.length = b.length
  · rw [bF (neF (show (a.length : Int) = (b.length : Int) by omega))]
    rw [all_loop (ps := List.range a.length) (g := fun k => decide (a.getD k 0 = b.getD k 0)) (r := false) (L := spec_l01Same_L1 F a b) (n := F) ?_ ?_ (by rw [List.length_range]; omega)]
    · refine ⟨(List.range a.length).all fun k => decide (a.getD k 0 = b.getD k 0), by cases (List.range a.length).all fun k => decide (a.getD k 0 = b.getD k 0) <;> rfl, ?_⟩
      rw [List.all_eq_true]
      constructor
      · intro H
        apply List.ext_getElem?; intro k
        by_cases hk : k < a.length
        · rw [getD_of hk, getD_of (show k < b.length by omega), of_decide_eq_true (H k (by simpa using hk))]
        · rw [List.getElem?_eq_none (by omega), List.getElem?_eq_none (by omega)]
      · rintro rfl k _
        exact decide_eq_true rfl
    · intro n k x hk hx
      rw [List.length_range] at hk
      have e : x = k := by rw [List.getElem?_range hk] at hx; cases hx; rfl
      subst e
      simp only [spec_l01Same_L1, bdT (show (x : Int) < (a.length : Int) by omega), idx_nat, getD_of hk, getD_of (show x < b.length by omega), Option.bind_some, wrN (show x ≤ 67108864 by omega)]
      by_cases e : a.getD x 0 = b.getD x 0
      · rw [e, bdT rfl, bF (neF rfl)]
      · rw [bdF e, bT (neT e)]
    · intro n
      rw [List.length_range]
      simp only [spec_l01Same_L1, bdF (show ¬ (a.length : Int) < (a.length : Int) by omega)]
  · rw [bT (neT (show (a.length : Int) ≠ (b.length : Int) by omega))]
    exact ⟨false, rfl, ⟨fun h => (by cases h), fun e => absurd (congrArg List.length e) h⟩⟩

theorem specSame_is {F n : Nat} {f g : Nat → Nat → Int} (hF : 134217728 ≤ F) (hn : n ≤ 10) : ∃ q, spec_l02Same F (tabM n n f) (tabM n n g) = some q ∧ (q = true ↔ ∀ i j, i < n → j < n → f i j = g i j) := by
  unfold spec_l02Same
  rw [tabM_len, tabM_len, bF (neF rfl)]
  rw [all_loop (ps := List.range n) (g := fun k => decide ((List.range n).map (f k) = (List.range n).map (g k))) (r := false) (L := spec_l02Same_L1 F (tabM n n f) (tabM n n g)) (n := F) ?_ ?_ (by rw [List.length_range]; omega)]
  · refine ⟨(List.range n).all fun k => decide ((List.range n).map (f k) = (List.range n).map (g k)), by cases (List.range n).all fun k => decide ((List.range n).map (f k) = (List.range n).map (g k)) <;> rfl, ?_⟩
    rw [List.all_eq_true]
    constructor
    · intro H i j hi hj
      have h1 := of_decide_eq_true (H i (by simpa using hi))
      have h2 := congrArg (fun l => l[j]?) h1
      simp only [tabM_at hj] at h2
      exact Option.some.inj h2
    · intro H i hi
      refine decide_eq_true (List.map_congr_left fun j hj => ?_)
      exact H i j (by simpa using hi) (by simpa using hj)
  · intro m k x hk hx
    rw [List.length_range] at hk
    have e : x = k := by rw [List.getElem?_range hk] at hx; cases hx; rfl
    subst e
    obtain ⟨q, h1, h2⟩ := specSame1_is (F := F) (a := (List.range n).map fun j => f x j) (b := (List.range n).map fun j => g x j) hF (by simp; omega)
    simp only [spec_l02Same_L1, tabM_len, bdT (show (x : Int) < (n : Int) by omega), idx_nat, tabM_row hk, Option.bind_some, h1, wrN (show x ≤ 67108864 by omega)]
    cases hq : q with
    | true => rw [bdT (h2.1 hq)]; rfl
    | false =>
      rw [bdF (fun e => by rw [h2.2 e] at hq; cases hq)]; rfl
  · intro m
    rw [List.length_range]
    simp only [spec_l02Same_L1, tabM_len, bdF (show ¬ (n : Int) < (n : Int) by omega)]


theorem specStar_is {F n : Nat} {f : Nat → Nat → Int} (hF : 134217728 ≤ F) (h1 : 1 ≤ n) (hn : n ≤ 10) (hf : TabOk f n) : ∃ q, spec_l03Star F (tabM n n f) = some (tabM n n (WW f n n), q) ∧ (q = true ↔ Stab f n) := by
  have step : ∀ k, k ≤ n → (spec_l02Unit F (n : Int)).bind (fun r99 => (spec_l02Multiply F (tabM n n f) (tabM n n (WW f n k))).bind fun r106 => spec_l02Add F r99 r106) = some (tabM n n (WW f n (k + 1))) := by
    intro k hk
    rw [specUnit_is hF (show n ≤ 1048576 by omega), Option.bind_some, specMul_is (n := n) hF (by rw [tabM_len]; omega) (by rw [tabM_len]; omega) (by rw [tabM_len]; omega) (by omega) (fun r hr => by rw [tabM_len]; exact tabM_rows r hr) tabM_rows, Option.bind_some,
      mulM_tab (M := 1000000) (K := 10000000) hf (fun i j hi hj => ok_up (WW_ok hf k hi hj) (by omega)) (by omega) (by omega), unitM_tab,
      specAdd_is hF (by rw [tabM_len]; omega) (rows_tab hn) (by rw [tabM_len, tabM_len]) (fun i hi => by rw [tabM_len] at hi; rw [getD_tab hi, getD_tab hi]; omega), addm_tab]
    rfl
  have step3 : ∀ (k : Nat), k ≤ n → ∀ {β : Type} (g : List (List Int) → Option β), ((spec_l02Unit F (n : Int)).bind fun r99 => ((spec_l02Multiply F (tabM n n f) (tabM n n (WW f n k))).bind fun r106 => ((spec_l02Add F r99 r106).bind fun r113 => g r113))) = g (tabM n n (WW f n (k + 1))) := by
    intro k hk β g
    have := step k hk
    have h2 : ((spec_l02Unit F (n : Int)).bind fun r99 => ((spec_l02Multiply F (tabM n n f) (tabM n n (WW f n k))).bind fun r106 => ((spec_l02Add F r99 r106).bind fun r113 => g r113))) = ((spec_l02Unit F (n : Int)).bind (fun r99 => (spec_l02Multiply F (tabM n n f) (tabM n n (WW f n k))).bind fun r106 => spec_l02Add F r99 r106)).bind g := by
      rw [Option.bind_assoc]
      refine congrArg _ (funext fun x => ?_)
      rw [Option.bind_assoc]
    rw [h2, this]; rfl
  have H : spec_l03Star_L1 F (tabM n n f) F (tabM n n un) 0 = some (tabM n n (WW f n n)) := by
    refine for0 (L := spec_l03Star_L1 F (tabM n n f)) (len := n) (fun k ms => ms = tabM n n (WW f n k)) (R := fun o => o = some (tabM n n (WW f n n))) ?_ ?_ rfl (by omega)
    · rintro m k ms hk rfl
      refine .inl ⟨_, ?_, rfl⟩
      simp only [spec_l03Star_L1, tabM_len, bdT (show (k : Int) < (n : Int) by omega), wrN (show k ≤ 67108864 by omega)]
      exact step3 k (by omega) _
    · rintro m ms rfl
      simp only [spec_l03Star_L1, tabM_len, bdF (show ¬ (n : Int) < (n : Int) by omega)]
  obtain ⟨q, hq1, hq2⟩ := specSame_is (F := F) (n := n) (f := WW f n (n + 1)) (g := WW f n n) hF hn
  refine ⟨q, ?_, hq2⟩
  unfold spec_l03Star
  rw [tabM_len, specUnit_is hF (show n ≤ 1048576 by omega), Option.bind_some, unitM_tab, H, Option.bind_some]
  have e := step3 n (Nat.le_refl _) (fun r134 => (spec_l02Same F r134 (tabM n n (WW f n n))).bind fun r141 => some (tabM n n (WW f n n), r141))
  rw [specUnit_is hF (show n ≤ 1048576 by omega), Option.bind_some, unitM_tab] at e
  rw [Option.bind_some, e, hq1]; rfl


/-- the reference's star: there is none, or it is the table -/
theorem specStars_is {F n : Nat} {f : Nat → Nat → Int} (hF : 134217728 ≤ F) (h1 : 1 ≤ n) (hn : n ≤ 10) (hf : TabOk f n) :
    (FwOk f n ∧ spec_l03Star F (tabM n n f) = some (tabM n n (fw f n), true)) ∨ (¬ FwOk f n ∧ ∃ z, spec_l03Star F (tabM n n f) = some (z, false)) := by
  obtain ⟨q, hq, hq2⟩ := specStar_is (F := F) hF h1 hn hf
  rw [stab_iff hf (by omega), ← fwok_iff hf (by omega)] at hq2
  by_cases h : FwOk f n
  · refine .inl ⟨h, ?_⟩
    rw [hq, hq2.2 h]
    exact congrArg (fun t => some (t, true)) (tabM_congr fun i j hi hj => (star_eq hf (by omega) h hi hj).symm)
  · refine .inr ⟨h, tabM n n (WW f n n), ?_⟩
    rw [hq]
    cases hqq : q with
    | true => exact absurd (hq2.1 hqq) h
    | false => rfl

theorem starCells {F n k i : Nat} {f : Nat → Nat → Int} {ms : List (List Int)} (hF : 134217728 ≤ F) (hn : n ≤ 10) (hf : TabOk f n) (hms : ms.length = n) (hk : k < n) (hi : i < n) (h0 : fw f k k k = 0) {h : Nat → Nat → Int} (hh : ∀ a b, a < n → b < n → h a b = if a < i then fw f (k + 1) a b else fw f k a b) :
    impl_starOf_L21 F (k : Int) ms (i : Int) F (tabM n n h) 0 = some (tabM n n fun a b => if a < i + 1 then fw f (k + 1) a b else fw f k a b) := by
  have ok : ∀ {i j : Nat}, i < n → j < n → Okw 10000000000 (fw f k i j) := fun hi hj => ok_up (fw_ok hf k (by omega) hi hj) (by have := bdw_le (show k ≤ 11 by omega); omega)
  refine for0 (L := impl_starOf_L21 F (k : Int) ms (i : Int)) (len := n) (fun j t => ∃ H : Nat → Nat → Int, t = tabM n n H ∧ ∀ a b, a < n → b < n → H a b = if a < i ∨ (a = i ∧ b < j) then fw f (k + 1) a b else fw f k a b) (R := fun o => o = some (tabM n n fun a b => if a < i + 1 then fw f (k + 1) a b else fw f k a b)) ?_ ?_ ?_ (by omega)
  · rintro m j t hj ⟨H, rfl, hH⟩
    have e1 : H i j = fw f k i j := by rw [hH i j hi hj]; exact if_neg (by omega)
    have e2 : H i k = fw f k i k := by
      rw [hH i k hi hk]
      by_cases c : i < i ∨ (i = i ∧ k < j)
      · rw [if_pos c]; exact fw_col hf (by omega) h0 hi hk
      · rw [if_neg c]
    have e3 : H k j = fw f k k j := by
      rw [hH k j hk hj]
      by_cases c : k < i ∨ (k = i ∧ j < j)
      · rw [if_pos c]; exact fw_row hf (by omega) h0 hj hk
      · rw [if_neg c]
    refine .inl ⟨_, ?_, fun a b => if a = i ∧ b = j then max (fw f k i j) (ta (fw f k i k) (fw f k k j)) else H a b, rfl, fun a b ha hb => ?_⟩
    · simp only [impl_starOf_L21, hms, bdT (show (j : Int) < (n : Int) by omega), idx_nat, tabM_row hi, tabM_row hk, tabM_at hj, tabM_at hk, e1, e2, e3, Option.bind_some, implTimes_is, tms_ta (ok hi hk) (ok hk hj) (Int.le_refl _) (Int.le_refl _), upd_nat _ (show j < ((List.range n).map fun b => H i b).length by simpa using hj), upd_nat _ (show i < (tabM n n H).length by rw [tabM_len]; exact hi), wrN (show j ≤ 67108864 by omega), tabM_set hi hj]
    · show (if a = i ∧ b = j then max (fw f k i j) (ta (fw f k i k) (fw f k k j)) else H a b) = _
      by_cases c : a = i ∧ b = j
      · rw [if_pos c, if_pos (by omega), c.1, c.2]; rfl
      · rw [if_neg c, hH a b ha hb]
        by_cases c2 : a < i ∨ (a = i ∧ b < j)
        · rw [if_pos c2, if_pos (by omega)]
        · rw [if_neg c2, if_neg (by omega)]
  · rintro m t ⟨H, rfl, hH⟩
    simp only [impl_starOf_L21, hms, bdF (show ¬ (n : Int) < (n : Int) by omega)]
    refine congrArg some (tabM_congr fun a b ha hb => ?_)
    rw [hH a b ha hb]
    by_cases c : a < i + 1
    · rw [if_pos c, if_pos (by omega)]
    · rw [if_neg c, if_neg (by omega)]
  · refine ⟨h, rfl, fun a b ha hb => ?_⟩
    rw [hh a b ha hb]
    by_cases c : a < i
    · rw [if_pos c, if_pos (.inl c)]
    · rw [if_neg c, if_neg (by omega)]

theorem starRound {F n k : Nat} {f : Nat → Nat → Int} {ms : List (List Int)} (hF : 134217728 ≤ F) (hn : n ≤ 10) (hf : TabOk f n) (hms : ms.length = n) (hk : k < n) (h0 : fw f k k k = 0) :
    impl_starOf_L20 F ms (k : Int) F (tabM n n (fw f k)) 0 = some (tabM n n (fw f (k + 1))) := by
  refine for0 (L := impl_starOf_L20 F ms (k : Int)) (len := n) (fun i t => t = tabM n n fun a b => if a < i then fw f (k + 1) a b else fw f k a b) (R := fun o => o = some (tabM n n (fw f (k + 1)))) ?_ ?_ ?_ (by omega)
  · rintro m i t hi rfl
    refine .inl ⟨_, ?_, rfl⟩
    simp only [impl_starOf_L20, hms, bdT (show (i : Int) < (n : Int) by omega), starCells (F := F) hF hn hf (tabM_len n n _) hk hi h0 (fun _ _ _ _ => rfl), Option.bind_some, wrN (show i ≤ 67108864 by omega)]
  · rintro m t rfl
    simp only [impl_starOf_L20, hms, bdF (show ¬ (n : Int) < (n : Int) by omega)]
    refine congrArg some (tabM_congr fun a b ha _ => ?_)
    rw [if_pos ha]
  · refine tabM_congr fun a b _ _ => ?_
    rw [if_neg (by omega)]

theorem implStar_is {F n : Nat} {f : Nat → Nat → Int} (hF : 134217728 ≤ F) (h1 : 1 ≤ n) (hn : n ≤ 10) (hf : TabOk f n) : (FwOk f n ∧ impl_starOf F (tabM n n f) = some (tabM n n (fw f n), true)) ∨ (¬ FwOk f n ∧ impl_starOf F (tabM n n f) = some ([], false)) := by
  unfold impl_starOf
  rw [tabM_len, implUnit_is hF (show n ≤ 1048576 by omega), Option.bind_some, unitM_tab, implAdd_is (n := n) hF (by rw [tabM_len]; omega) (by rw [tabM_len]; omega) (by omega) (by rw [tabM_len, tabM_len]) tabM_rows tabM_rows, Option.bind_some, addm_tab]
  have H := for0 (L := impl_starOf_L16 F (tabM n n (fw f 0))) (len := n) (fun k t => t = tabM n n (fw f k)) (R := fun o => (¬ FwOk f n ∧ o = some (.inl ([], false))) ∨ o = some (.inr (tabM n n (fw f n)))) (s := tabM n n (fw f 0)) (n := F) ?_ ?_ rfl (by omega)
  · have e0 : (tabM n n fun i j => max (f i j) (un i j)) = tabM n n (fw f 0) := rfl
    rw [e0]
    rcases H with ⟨h2, h3⟩ | h3
    · right
      exact ⟨h2, by rw [h3]; rfl⟩
    · rw [h3]
      simp only [Option.bind_some]
      rw [all_loop (ps := List.range n) (g := fun k => decide (fw f n k k ≤ 0)) (r := (([] : List (List Int)), false)) (L := impl_starOf_L22 F (tabM n n (fw f n))) (n := F) ?_ ?_ (by rw [List.length_range]; omega)]
      · by_cases c : FwOk f n
        · left
          refine ⟨c, ?_⟩
          rw [show ((List.range n).all fun k => decide (fw f n k k ≤ 0)) = true from List.all_eq_true.2 fun k hk => decide_eq_true (c k (by simpa using hk))]
          rfl
        · right
          refine ⟨c, ?_⟩
          rw [show ((List.range n).all fun k => decide (fw f n k k ≤ 0)) = false from ?_]
          · rfl
          · apply Classical.byContradiction
            intro hne
            rw [Bool.not_eq_false, List.all_eq_true] at hne
            exact c fun k hk => of_decide_eq_true (hne k (by simpa using hk))
      · intro m k x hk hx
        rw [List.length_range] at hk
        have e : x = k := by rw [List.getElem?_range hk] at hx; cases hx; rfl
        subst e
        simp only [impl_starOf_L22, tabM_len, bdT (show (x : Int) < (n : Int) by omega), idx_nat, tabM_row hk, tabM_at hk, Option.bind_some, wrN (show x ≤ 67108864 by omega)]
        by_cases c : fw f n x x ≤ 0
        · rw [bdT c, bdF (by omega)]
        · rw [bdF c, bdT (by omega)]
      · intro m
        rw [List.length_range]
        simp only [impl_starOf_L22, tabM_len, bdF (show ¬ (n : Int) < (n : Int) by omega)]
  · rintro m k t hk rfl
    by_cases c : 0 < fw f k k k
    · refine .inr (.inl ⟨fun h => ?_, ?_⟩)
      · have := fwok_step hf h k hk; omega
      · simp only [impl_starOf_L16, tabM_len, bdT (show (k : Int) < (n : Int) by omega), idx_nat, tabM_row hk, tabM_at hk, Option.bind_some, bdT c]
    · have h0 : fw f k k k = 0 := by have := fw_diag hf k k; omega
      refine .inl ⟨_, ?_, rfl⟩
      simp only [impl_starOf_L16, tabM_len, bdT (show (k : Int) < (n : Int) by omega), idx_nat, tabM_row hk, tabM_at hk, Option.bind_some, bdF c, starRound (F := F) hF hn hf (tabM_len n n _) hk h0, wrN (show k ≤ 67108864 by omega)]
  · rintro m t rfl
    refine .inr ?_
    simp only [impl_starOf_L16, tabM_len, bdF (show ¬ (n : Int) < (n : Int) by omega)]

/-- both stars: there is none, or it is one table -/
theorem stars_is {F n : Nat} {f : Nat → Nat → Int} (hF : 134217728 ≤ F) (h1 : 1 ≤ n) (hn : n ≤ 10) (hf : TabOk f n) :
    (FwOk f n ∧ impl_starOf F (tabM n n f) = some (tabM n n (fw f n), true) ∧ spec_l03Star F (tabM n n f) = some (tabM n n (fw f n), true)) ∨ (¬ FwOk f n ∧ impl_starOf F (tabM n n f) = some ([], false) ∧ ∃ z, spec_l03Star F (tabM n n f) = some (z, false)) := by
  obtain ⟨q, hq, hq2⟩ := specStar_is (F := F) hF h1 hn hf
  rw [stab_iff hf (by omega), ← fwok_iff hf (by omega)] at hq2
  rcases implStar_is (F := F) hF h1 hn hf with ⟨h, h2⟩ | ⟨h, h2⟩
  · refine .inl ⟨h, h2, ?_⟩
    rw [hq, hq2.2 h]
    exact congrArg (fun t => some (t, true)) (tabM_congr fun i j hi hj => (star_eq hf (by omega) h hi hj).symm)
  · refine .inr ⟨h, h2, tabM n n (WW f n n), ?_⟩
    rw [hq]
    cases hqq : q with
    | true => exact absurd (hq2.1 hqq) h
    | false => rfl

/-! ### Runs of a system -/
def placeB (e : Int) (p : GPlace) : Bool := inB p.From 0 e && (inB p.To 0 e && (inB p.Delay 0 1000 && inB p.Tokens 0 5))

def graphB (g : GEventGraph) : Bool := g.Places.all (placeB (IntKind.i64.wrap (g.Events - 1))) && (inB g.Events 1 10 && decide ((g.Places.length : Int) ≤ 30))


theorem specPlace_is {F : Nat} {p : GPlace} {n : Int} : spec_l11Place F p n = some (placeB (IntKind.i64.wrap (n - 1)) p) := by
  simp only [spec_l11Place, specIn_is, Option.bind_some, cond_and]; rfl

theorem implPlace_is {F : Nat} {g : GEventGraph} {p : GPlace} : impl_isPlace F g p = some (placeB (IntKind.i64.wrap (g.Events - 1)) p) := by
  simp only [impl_isPlace, impl_isEvent, within_is, Option.bind_some, cond_and]; rfl


theorem specGraph_is {F : Nat} {g : GEventGraph} (hF : 134217728 ≤ F) (hl : g.Places.length ≤ 1048576) : spec_IsEventGraph F g = some (graphB g) := by
  unfold spec_IsEventGraph
  rw [all_loop (ps := g.Places) (g := placeB (IntKind.i64.wrap (g.Events - 1))) (r := false) (L := spec_IsEventGraph_L1 F g) ?_ ?_ (by omega)]
  · simp only [specIn_is, Option.bind_some, cond_and, graphB]
    cases g.Places.all (placeB (IntKind.i64.wrap (g.Events - 1))) <;> rfl
  · intro n k x hk hx
    simp only [spec_IsEventGraph_L1, bdT (show (k : Int) < (g.Places.length : Int) by omega), idx_nat, hx, Option.bind_some, specPlace_is, condn, wrN (show k ≤ 67108864 by omega)]
  · intro n
    simp only [spec_IsEventGraph_L1, bdF (show ¬ (g.Places.length : Int) < (g.Places.length : Int) by omega)]


theorem implGraph_is {F : Nat} {g : GEventGraph} (hF : 134217728 ≤ F) (hl : g.Places.length ≤ 1048576) : impl_IsEventGraph F g = some (graphB g) := by
  simp only [impl_IsEventGraph, within_is, Option.bind_some, slices_ContainsFunc_Place_is (h := fun p => !placeB (IntKind.i64.wrap (g.Events - 1)) p) hF (show g.Places.length ≤ 16777216 by omega) (fun x _ => show impl_IsEventGraph_c1 F x g = _ by simp only [impl_IsEventGraph_c1, implPlace_is, Option.bind_some]), cond_and, graphB]
  rw [any_not, Bool.not_not]
  cases g.Places.all (placeB (IntKind.i64.wrap (g.Events - 1))) <;> cases inB g.Events 1 10 <;> cases decide ((g.Places.length : Int) ≤ 30) <;> rfl


theorem graphB_true {g : GEventGraph} (h : graphB g = true) : 1 ≤ g.Events ∧ g.Events ≤ 10 ∧ g.Places.length ≤ 30 ∧ IntKind.i64.wrap (g.Events - 1) = g.Events - 1 ∧ ∀ p, p ∈ g.Places → 0 ≤ p.From ∧ p.From < g.Events ∧ 0 ≤ p.To ∧ p.To < g.Events := by
  unfold graphB at h
  simp only [Bool.and_eq_true, inB_true, decide_eq_true_eq, List.all_eq_true] at h
  obtain ⟨hp, ⟨h1, h2⟩, h3⟩ := h
  have hw : IntKind.i64.wrap (g.Events - 1) = g.Events - 1 := wr (by omega) (by omega)
  refine ⟨h1, h2, by omega, hw, fun p hm => ?_⟩
  have := hp p hm
  rw [hw] at this
  simp only [placeB, Bool.and_eq_true, inB_true] at this
  omega

theorem graphB_range {g : GEventGraph} (h : graphB g = true) : ∀ p, p ∈ g.Places → 0 ≤ p.From ∧ p.From < g.Events ∧ 0 ≤ p.To ∧ p.To < g.Events ∧ 0 ≤ p.Delay ∧ p.Delay ≤ 1000 ∧ 0 ≤ p.Tokens ∧ p.Tokens ≤ 5 := by
  have hw := (graphB_true h).2.2.2.1
  unfold graphB at h
  simp only [Bool.and_eq_true, inB_true, decide_eq_true_eq, List.all_eq_true] at h
  intro p hm
  have := h.1 p hm
  rw [hw] at this
  simp only [placeB, Bool.and_eq_true, inB_true] at this
  omega

/-! ### Weights of a graph's places at a period -/
def plT (p : GPlace) : Nat := p.To.toNat

def plF (p : GPlace) : Nat := p.From.toNat

/-- a place's weight at a period -/
def plW (r : Int) (p : GPlace) : Int := p.Delay - r * p.Tokens

theorem plW_bd {g : GEventGraph} (h : graphB g = true) {r : Int} (h0 : 0 ≤ r) (h1 : r ≤ 100000) {p : GPlace} (hp : p ∈ g.Places) : -1000000 ≤ plW r p ∧ plW r p ≤ 1000000 ∧ IntKind.i64.wrap (IntKind.i64.wrap (1 * p.Delay) - IntKind.i64.wrap (r * p.Tokens)) = plW r p := by
  have h5 := graphB_range h
  have := h5 p hp
  have h6 : 0 ≤ r * p.Tokens := Int.mul_nonneg h0 (by omega)
  have h7 : r * p.Tokens ≤ 100000 * 5 := Int.mul_le_mul h1 (by omega) (by omega) (by omega)
  unfold plW
  refine ⟨by omega, by omega, ?_⟩
  rw [wr (show -9223372036854775808 ≤ 1 * p.Delay by omega) (by omega), wr (show -9223372036854775808 ≤ r * p.Tokens by omega) (by omega), wr (by omega) (by omega)]
  omega

/-- the table of the weights -/
def wT (g : GEventGraph) (r : Int) : Nat → Nat → Int := arcT plT plF (plW r) g.Places

theorem wT_ok {g : GEventGraph} (h : graphB g = true) {r : Int} (h0 : 0 ≤ r) (h1 : r ≤ 100000) (n : Nat) : TabOk (wT g r) n := arcT_ok (fun _x hx => ⟨(plW_bd h h0 h1 hx).1, (plW_bd h h0 h1 hx).2.1⟩) n

theorem pl_at {g : GEventGraph} (h : graphB g = true) {p : GPlace} (hp : p ∈ g.Places) : p.To = (plT p : Int) ∧ p.From = (plF p : Int) ∧ plT p < g.Events.toNat ∧ plF p < g.Events.toNat := by
  have h5 := graphB_range h
  have := h5 p hp
  unfold plT plF
  omega

theorem specWeights_is {F : Nat} {g : GEventGraph} {r : Int} (hF : 134217728 ≤ F) (h : graphB g = true) (h0 : 0 ≤ r) (h1 : r ≤ 100000) : spec_l15Weights F g ⟨r, 1⟩ = some (tabM g.Events.toNat g.Events.toNat (wT g r)) := by
  obtain ⟨e1, e2, e3, _, _⟩ := graphB_true h
  unfold spec_l15Weights
  have hb := specBotM_is (F := F) (m := g.Events.toNat) (n := g.Events.toNat) hF (by omega) (by omega)
  rw [show ((g.Events.toNat : Nat) : Int) = g.Events by omega] at hb
  rw [hb, Option.bind_some, arc_loop (t := plT) (f := plF) (w := plW r) (ps := g.Places) (L := spec_l15Weights_L1 F g ⟨r, 1⟩) ?_ ?_ (by omega)]
  · rfl
  · intro m k p hm hk hp
    obtain ⟨a1, a2, a3, a4⟩ := pl_at h (List.mem_of_getElem? hp)
    obtain ⟨_, _, a5⟩ := plW_bd h h0 h1 (List.mem_of_getElem? hp)
    simp only [spec_l15Weights_L1, bdT (show (k : Int) < (g.Places.length : Int) by omega), idx_nat, hp, Option.bind_some, a5]
    rw [a1, a2]
    simp only [idx_nat, tabM_row a3, tabM_at a4, Option.bind_some, upd_nat _ (show plF p < ((List.range g.Events.toNat).map fun j => hm (plT p) j).length by simpa using a4), upd_nat _ (show plT p < (tabM g.Events.toNat g.Events.toNat hm).length by rw [tabM_len]; exact a3), wrN (show k ≤ 67108864 by omega), tabM_set a3 a4]
  · intro m hm
    simp only [spec_l15Weights_L1, bdF (show ¬ (g.Places.length : Int) < (g.Places.length : Int) by omega)]

theorem implWeights_is {F : Nat} {g : GEventGraph} {r : Int} (hF : 134217728 ≤ F) (h : graphB g = true) (h0 : 0 ≤ r) (h1 : r ≤ 100000) : impl_weightMatrix F g ⟨r, 1⟩ = some (tabM g.Events.toNat g.Events.toNat (wT g r)) := by
  obtain ⟨e1, e2, e3, _, _⟩ := graphB_true h
  unfold impl_weightMatrix
  have hb := implBotM_is (F := F) (m := g.Events.toNat) (n := g.Events.toNat) hF (by omega) (by omega)
  rw [show ((g.Events.toNat : Nat) : Int) = g.Events by omega] at hb
  rw [hb, Option.bind_some, arc_loop (t := plT) (f := plF) (w := plW r) (ps := g.Places) (L := impl_weightMatrix_L1 F g ⟨r, 1⟩) ?_ ?_ (by omega)]
  · rfl
  · intro m k p hm hk hp
    obtain ⟨a1, a2, a3, a4⟩ := pl_at h (List.mem_of_getElem? hp)
    obtain ⟨_, _, a5⟩ := plW_bd h h0 h1 (List.mem_of_getElem? hp)
    simp only [impl_weightMatrix_L1, impl_placeWeight, bdT (show (k : Int) < (g.Places.length : Int) by omega), idx_nat, hp, Option.bind_some, a5]
    rw [a1, a2]
    simp only [idx_nat, tabM_row a3, tabM_at a4, Option.bind_some, upd_nat _ (show plF p < ((List.range g.Events.toNat).map fun j => hm (plT p) j).length by simpa using a4), upd_nat _ (show plT p < (tabM g.Events.toNat g.Events.toNat hm).length by rw [tabM_len]; exact a3), wrN (show k ≤ 67108864 by omega), tabM_set a3 a4]
  · intro m hm
    simp only [impl_weightMatrix_L1, bdF (show ¬ (g.Places.length : Int) < (g.Places.length : Int) by omega)]

/-! ### Tables on vectors -/
theorem applyv_tab {n : Nat} {T : Nat → Nat → Int} {x : List Int} {M K : Int} (hT : ∀ i j, i < n → j < n → Okw M (T i j)) (hx : ∀ q, q < n → Okw K (x.getD q 0)) (hM : M ≤ 10000000000) (hK : K ≤ 10000000000) : applyv (tabM n n T) x = (List.range n).map fun i => mx n fun q => ta (T i q) (x.getD q 0) := by
  unfold applyv tabM
  rw [List.map_map]
  apply List.map_congr_left
  intro i hi
  have hi' : i < n := by simpa using hi
  show dotv ((List.range n).map fun j => T i j) x ((List.range n).map fun j => T i j).length = _
  rw [List.length_map, List.length_range]
  have : ∀ k, k ≤ n → (List.range k).foldl (fun acc q => max acc (tms (((List.range n).map fun j => T i j).getD q 0) (x.getD q 0))) (-1000000000000000) = mx k fun q => ta (T i q) (x.getD q 0) := by
    intro k
    induction k with
    | zero => intro _; rfl
    | succ k ih =>
      intro hk
      rw [List.range_succ, List.foldl_append, ih (by omega), mx_succ]
      show max _ (tms (((List.range n).map fun j => T i j).getD k 0) (x.getD k 0)) = _
      rw [List.getD_eq_getElem?_getD, tabM_at (show k < n by omega), Option.getD_some, tms_ta (hT i k hi' (by omega)) (hx k (by omega)) hM hK]
  exact this n (Nat.le_refl _)

/-! ### Greatest sub-solutions -/
theorem sub_cell {F n j : Nat} {T : Nat → Nat → Int} {b : List Int} {M : Int} (hF : 134217728 ≤ F) (hn : n ≤ 10) (hj : j < n) (hT : ∀ i j, i < n → j < n → Okw M (T i j)) (hM : M ≤ 10000000000) (hM0 : 0 ≤ M) (hb : b.length = n) (hbv : ∀ q, q < n → -10000000000 ≤ b.getD q 0 ∧ b.getD q 0 ≤ 10000000000) :
    spec_l08Sub_L5 F (tabM n n T) b (j : Int) F 0 false 0 = some (bif (List.range n).all (fun q => decide (T q j = -1000000000000000)) then 0 else - mx n fun q => ta (T q j) (- b.getD q 0)) := by
  refine for0 (L := fun m (s : Int × Bool) i => spec_l08Sub_L5 F (tabM n n T) b (j : Int) m s.1 s.2 i) (len := n) (fun k s => (s = (0, false) ∧ (∀ q, q < k → T q j = -1000000000000000)) ∨ (s = (- mx k fun q => ta (T q j) (- b.getD q 0), true) ∧ mx k (fun q => ta (T q j) (- b.getD q 0)) ≠ -1000000000000000 ∧ ∃ q, q < n ∧ T q j ≠ -1000000000000000)) (R := fun o => o = some (bif (List.range n).all (fun q => decide (T q j = -1000000000000000)) then 0 else - mx n fun q => ta (T q j) (- b.getD q 0))) (s := (0, false)) ?_ ?_ (.inl ⟨rfl, fun q hq => by omega⟩) (by omega)
  · intro m k s hk hI
    have hb1 := hbv k hk
    have hTk := hT k j hk hj
    have hmx : Okw 20000000000 (mx k fun q => ta (T q j) (- b.getD q 0)) := mx_ok fun q hq => ok_up (ta_ok (hT q j (by omega) hj) (show Okw 10000000000 (- b.getD q 0) by have := hbv q (by omega); exact .inr (by omega))) (by omega)
    have c0 : (b.getD k 0 != (-1000000000000000)) = true := neT (by omega)
    by_cases e : T k j = -1000000000000000
    · have S : spec_l08Sub_L5 F (tabM n n T) b (j : Int) (m + 1) s.1 s.2 (k : Int) = spec_l08Sub_L5 F (tabM n n T) b (j : Int) m s.1 s.2 ((k + 1 : Nat) : Int) := by
        simp only [spec_l08Sub_L5, tabM_len, bdT (show (k : Int) < (n : Int) by omega), idx_nat, tabM_row hk, tabM_at hj, Option.bind_some, e, beq_self_eq_true, cond_true, wrN (show k ≤ 67108864 by omega)]
      refine .inl ⟨s, S, ?_⟩
      rcases hI with ⟨h1, h2⟩ | ⟨h1, h2, h3⟩
      · refine .inl ⟨h1, fun q hq => ?_⟩
        by_cases e2 : q = k
        · subst e2; exact e
        · exact h2 q (by omega)
      · refine .inr ⟨?_, ?_, h3⟩
        · rw [h1, mx_succ, e, ta_botl]
          have := mx_bot (fun q => ta (T q j) (- b.getD q 0)) k
          rw [show max (mx k fun q => ta (T q j) (- b.getD q 0)) (-1000000000000000) = mx k fun q => ta (T q j) (- b.getD q 0) by omega]
        · rw [mx_succ, e, ta_botl]
          have := mx_bot (fun q => ta (T q j) (- b.getD q 0)) k
          rw [show max (mx k fun q => ta (T q j) (- b.getD q 0)) (-1000000000000000) = mx k fun q => ta (T q j) (- b.getD q 0) by omega]
          exact h2
    · unfold Okw at hTk
      have hta : ta (T k j) (- b.getD k 0) = T k j + - b.getD k 0 := ta_fin e (by omega)
      have hw : IntKind.i64.wrap (b.getD k 0 - T k j) = b.getD k 0 - T k j := wr (by omega) (by omega)
      have S : spec_l08Sub_L5 F (tabM n n T) b (j : Int) (m + 1) s.1 s.2 (k : Int) = bif (!s.2 || decide (b.getD k 0 - T k j < s.1)) then spec_l08Sub_L5 F (tabM n n T) b (j : Int) m (b.getD k 0 - T k j) true ((k + 1 : Nat) : Int) else spec_l08Sub_L5 F (tabM n n T) b (j : Int) m s.1 s.2 ((k + 1 : Nat) : Int) := by
        simp only [spec_l08Sub_L5, tabM_len, bdT (show (k : Int) < (n : Int) by omega), idx_nat, tabM_row hk, tabM_at hj, Option.bind_some, beq_false_of_ne e, cond_false, getD_of (show k < b.length by omega), c0, cond_true, hw, wrN (show k ≤ 67108864 by omega)]
        cases s.2 with
        | false => rfl
        | true => cases decide (b.getD k 0 - T k j < s.1) <;> rfl
      rw [S]
      rcases hI with ⟨h1, h2⟩ | ⟨h1, h2, h3⟩
      · have hk0 : mx k (fun q => ta (T q j) (- b.getD q 0)) = -1000000000000000 := by
          rcases mx_cases (fun q => ta (T q j) (- b.getD q 0)) k with h | ⟨q, hq, h⟩
          · exact h
          · rw [h, h2 q hq, ta_botl]
        refine .inl ⟨(b.getD k 0 - T k j, true), by rw [h1]; rfl, .inr ⟨?_, ?_, k, hk, e⟩⟩
        · rw [mx_succ, hk0, hta, show max (-1000000000000000) (T k j + - b.getD k 0) = T k j + - b.getD k 0 by omega]
          exact congrArg (fun z => (z, true)) (by omega)
        · rw [mx_succ, hk0, hta]; omega
      · unfold Okw at hmx
        by_cases c : b.getD k 0 - T k j < s.1
        · refine .inl ⟨(b.getD k 0 - T k j, true), by rw [dT c, Bool.or_true]; rfl, .inr ⟨?_, ?_, h3⟩⟩
          · rw [h1] at c
            simp only at c
            rw [mx_succ, hta, show max (mx k fun q => ta (T q j) (- b.getD q 0)) (T k j + - b.getD k 0) = T k j + - b.getD k 0 by omega]
            exact congrArg (fun z => (z, true)) (by omega)
          · rw [mx_succ, hta]; omega
        · refine .inl ⟨s, by rw [dF c, h1]; rfl, .inr ⟨?_, ?_, h3⟩⟩
          · rw [h1] at c ⊢
            simp only at c
            rw [mx_succ, hta, show max (mx k fun q => ta (T q j) (- b.getD q 0)) (T k j + - b.getD k 0) = mx k fun q => ta (T q j) (- b.getD q 0) by omega]
          · rw [mx_succ, hta]; omega
  · intro m s hI
    simp only [spec_l08Sub_L5, tabM_len, bdF (show ¬ (n : Int) < (n : Int) by omega)]
    rcases hI with ⟨h1, h2⟩ | ⟨h1, h2, q, hq, h3⟩
    · rw [show ((List.range n).all fun q => decide (T q j = -1000000000000000)) = true from List.all_eq_true.2 fun q hq => decide_eq_true (h2 q (by simpa using hq)), h1]; rfl
    · rw [show ((List.range n).all fun q => decide (T q j = -1000000000000000)) = false from by
        rw [List.all_eq_false]; exact ⟨q, by simpa using hq, by simpa using h3⟩, h1]; rfl

/-- all columns hold something -/
theorem specSub_is {F n : Nat} {T : Nat → Nat → Int} {b : List Int} {M : Int} (hF : 134217728 ≤ F) (h1 : 1 ≤ n) (hn : n ≤ 10) (hT : ∀ i j, i < n → j < n → Okw M (T i j)) (hM : M ≤ 10000000000) (hM0 : 0 ≤ M) (hd : ∀ i, i < n → T i i ≠ -1000000000000000) (hb : b.length = n) (hbv : ∀ q, q < n → -10000000000 ≤ b.getD q 0 ∧ b.getD q 0 ≤ 10000000000) :
    spec_l08Sub F (tabM n n T) b = some ((List.range n).map fun j => - mx n fun q => ta (T q j) (- b.getD q 0)) := by
  unfold spec_l08Sub
  rw [tab_loop (len := n) (f := fun j => - mx n fun q => ta (T q j) (- b.getD q 0)) (L := spec_l08Sub_L4 F (tabM n n T) b) ?_ ?_ (by omega)]
  · rfl
  · intro m xs j hj hx
    have h0 : idx (tabM n n T) 0 = some ((List.range n).map fun q => T 0 q) := (idx_nat _ 0).trans (tabM_row (by omega))
    have c := sub_cell (F := F) (b := b) hF hn hj hT hM hM0 hb hbv
    rw [show ((List.range n).all fun q => decide (T q j = -1000000000000000)) = false from by
        rw [List.all_eq_false]; exact ⟨j, by simpa using hj, by simpa using hd j hj⟩] at c
    simp only [spec_l08Sub_L4, h0, Option.bind_some, List.length_map, List.length_range, bdT (show (j : Int) < (n : Int) by omega), c, cond_false, app_le (show xs.length + [- mx n fun q => ta (T q j) (- b.getD q 0)].length ≤ 67108864 by simp only [List.length_singleton]; omega), wrN (show j ≤ 67108864 by omega)]
  · intro m xs _
    have h0 : idx (tabM n n T) 0 = some ((List.range n).map fun q => T 0 q) := (idx_nat _ 0).trans (tabM_row (by omega))
    simp only [spec_l08Sub_L4, h0, Option.bind_some, List.length_map, List.length_range, bdF (show ¬ (n : Int) < (n : Int) by omega)]

/-! ### The delay matrix of a token count -/
def startsB (g : GEventGraph) (xs : List Int) : Bool := ((xs.length : Int) == g.Events) && xs.all fun x => inB x 0 1000000

def tableB (g : GEventGraph) (t : GTimetable) : Bool := inB t.Period 0 100000 && startsB g t.Starts

theorem implTable_is {F : Nat} {g : GEventGraph} {t : GTimetable} (hF : 134217728 ≤ F) (hl : t.Starts.length ≤ 1048576) : impl_isTimetable F g t = some (tableB g t) := by
  simp only [impl_isTimetable, within_is, implAllWithin_is hF hl, Option.bind_some]
  unfold tableB startsB
  cases inB t.Period 0 100000 <;> cases ((t.Starts.length : Int) == g.Events) <;> cases (t.Starts.all fun x => inB x 0 1000000) <;> rfl

/-! ### Slacks -/
def slk1 (t : GTimetable) (p : GPlace) : Int := IntKind.i64.wrap (IntKind.i64.wrap (IntKind.i64.wrap (t.Starts.getD p.To.toNat 0 + IntKind.i64.wrap (p.Tokens * t.Period)) - t.Starts.getD p.From.toNat 0) - p.Delay)

def slk (g : GEventGraph) (t : GTimetable) : List Int := g.Places.map (slk1 t)

theorem slk_len (g : GEventGraph) (t : GTimetable) : (slk g t).length = g.Places.length := by unfold slk; simp

theorem getI {xs : List Int} {i : Int} (h0 : 0 ≤ i) (h1 : i < (xs.length : Int)) : idx xs i = some (xs.getD i.toNat 0) := by
  rw [idx_int h0 h1, List.getD_eq_getElem?_getD, List.getElem?_eq_getElem (by omega)]; rfl

theorem implSlacks_is {F : Nat} {g : GEventGraph} {t : GTimetable} (hF : 134217728 ≤ F) (hg : graphB g = true) (ht : (t.Starts.length : Int) = g.Events) : impl_slacksOf F g t = some (slk g t) := by
  obtain ⟨_, _, h3, _, h5⟩ := graphB_true hg
  unfold impl_slacksOf
  rw [mk_nat _ (by omega)]
  simp only [Option.bind_some]
  rw [fill_loop (ps := g.Places) (f := slk1 t) (L := impl_slacksOf_L1 F g t) ?_ ?_ (by simp) (by omega)]
  · rfl
  · intro n xs k p hk hp hx
    have hpp := h5 p (List.mem_of_getElem? hp)
    have hk' : k < xs.length := by omega
    have hq : xs[k]? = some xs[k] := List.getElem?_eq_getElem hk'
    simp only [impl_slacksOf_L1, bdT (show (k : Int) < (g.Places.length : Int) by omega), idx_nat, hp, hq, Option.bind_some, getI (xs := t.Starts) (i := p.To) (by omega) (by omega), getI (xs := t.Starts) (i := p.From) (by omega) (by omega), upd_nat _ hk', wrN (show k ≤ 67108864 by omega)]; rfl
  · intro n xs
    simp only [impl_slacksOf_L1, bdF (show ¬ (g.Places.length : Int) < (g.Places.length : Int) by omega)]

def keptB (g : GEventGraph) (t : GTimetable) : Bool := (slk g t).all fun s => !decide (s < 0)

theorem implKept_is {F : Nat} {g : GEventGraph} {t : GTimetable} (hF : 134217728 ≤ F) (hg : graphB g = true) (ht : (t.Starts.length : Int) = g.Events) : impl_isKept F g t = some (keptB g t) := by
  have h3 := (graphB_true hg).2.2.1
  have hl := slk_len g t
  unfold impl_isKept
  rw [bind_of (implSlacks_is hF hg ht), bind_of (slices_ContainsFunc_int64_is (h := fun s => decide (s < 0)) hF (show (slk g t).length ≤ 16777216 by omega) (fun x _ => show impl_isKept_c1 F x = _ from rfl))]
  have := any_not (g := fun s => !decide (s < 0)) (slk g t)
  simp only [Bool.not_not] at this
  rw [this, Bool.not_not]; rfl

/-! ### Lists of nodes -/
def nl (o : List Nat) : List Int := o.map fun (x : Nat) => (x : Int)

theorem nl_len (o : List Nat) : (nl o).length = o.length := by unfold nl; simp

theorem nl_app (o : List Nat) (x : Nat) : nl o ++ [(x : Int)] = nl (o ++ [x]) := by unfold nl; simp

theorem nl_at (o : List Nat) (i : Nat) : (nl o)[i]? = (o[i]?).map fun (x : Nat) => (x : Int) := by unfold nl; simp

/-! ### Liveness -/
theorem map_range_set {α : Type} (f : Nat → α) (n i : Nat) (y : α) : ((List.range n).map f).set i y = (List.range n).map fun j => if j = i then y else f j := by
  apply List.ext_getElem?; intro q
  by_cases hq : q < n
  · by_cases e : q = i
    · subst e
      rw [set_here (by simpa using hq), List.getElem?_map, List.getElem?_range hq]; simp
    · rw [set_keep e, List.getElem?_map, List.getElem?_map, List.getElem?_range hq]; simp [e]
  · rw [List.getElem?_eq_none (by simp; omega), List.getElem?_eq_none (by simp; omega)]

structure GOk (g : GEventGraph) (n : Nat) : Prop where
  ev : g.Events = (n : Int)
  n1 : 1 ≤ n
  n10 : n ≤ 10
  len : g.Places.length ≤ 30
  at' : ∀ p, p ∈ g.Places → ∃ u v : Nat, p.From = (u : Int) ∧ p.To = (v : Int) ∧ u < n ∧ v < n

theorem GOk.of {g : GEventGraph} (h : graphB g = true) : GOk g g.Events.toNat := by
  obtain ⟨h1, h2, h3, _, h4⟩ := graphB_true h
  exact ⟨by omega, by omega, by omega, h3, fun p hp => ⟨p.From.toNat, p.To.toNat, by have := h4 p hp; omega, by have := h4 p hp; omega, by have := h4 p hp; omega, by have := h4 p hp; omega⟩⟩

/-! ### Squares as tables -/
/-! ### Searches for cycles -/
theorem nl_first {p : List Nat} (h : p ≠ []) : idx (nl p) 0 = some (headN p : Int) := by
  cases p with
  | nil => exact absurd rfl h
  | cons x p => rw [show (0 : Int) = ((0 : Nat) : Int) from rfl, idx_nat, nl_at]; rfl

theorem nl_last {p : List Nat} (h : p ≠ []) (hl : p.length ≤ 1000) : idx (nl p) (IntKind.i64.wrap (((nl p).length : Int) - 1)) = some (lastN p : Int) := by
  have h0 := List.length_pos_iff.2 h
  rw [nl_len, wr (by omega) (by omega), show ((p.length : Int) - 1) = ((p.length - 1 : Nat) : Int) by omega, idx_nat, nl_at]
  unfold lastN
  rw [List.getLastD_eq_getLast?, List.getLast?_eq_getElem?]
  cases hp : p[p.length - 1]? with
  | none => rw [List.getElem?_eq_none_iff] at hp; omega
  | some x => rfl

theorem first_lt {n : Nat} {p : List Nat} (h : p ≠ []) (hp : ∀ x, x ∈ p → x < n) : headN p < n := by
  cases p with
  | nil => exact absurd rfl h
  | cons x p => exact hp x (by simp)

theorem last_mem {p : List Nat} (h : p ≠ []) : lastN p ∈ p := by
  unfold lastN
  rw [List.getLastD_eq_getLast?, List.getLast?_eq_some_getLast h]
  exact List.getLast_mem h

/-- a path of a search -/
structure PathOk (f : Nat → Nat → Int) (n : Nat) (p : List Nat) : Prop where
  ne : p ≠ []
  nodup : p.Nodup
  lt : ∀ x, x ∈ p → x < n
  w0 : -1000000 * (p.length : Int) ≤ pathw f p
  w1 : pathw f p ≤ 1000000 * (p.length : Int)

theorem PathOk.one (f : Nat → Nat → Int) {n v : Nat} (h : v < n) : PathOk f n [v] := ⟨by simp, by simp, fun x hx => by simp at hx; omega, by show _ ≤ (0 : Int); simp, by show (0 : Int) ≤ _; simp⟩

theorem PathOk.next {f : Nat → Nat → Int} {n v : Nat} {p : List Nat} (hf : TabOk f n) (h : PathOk f n p) (hv : v < n) (hc : candW f p v = true) : PathOk f n (p ++ [v]) ∧ pathw f (p ++ [v]) = pathw f p + f v (lastN p) ∧ f v (lastN p) ≠ -1000000000000000 := by
  unfold candW at hc
  rw [Bool.and_eq_true, Bool.and_eq_true] at hc
  have hnv : v ∉ p := by simpa using hc.2
  have ha := arcB_true.1 hc.1.2
  have hb := hf v (lastN p) hv (h.lt _ (last_mem h.ne))
  have e := pathw_snoc f v h.ne
  have h0 := h.w0
  have h1 := h.w1
  unfold Okw at hb
  refine ⟨⟨by simp, ?_, fun x hx => ?_, ?_, ?_⟩, e, ha⟩
  · rw [List.nodup_append]
    refine ⟨h.nodup, by simp, fun x hx y hy => ?_⟩
    simp only [List.mem_singleton] at hy
    subst hy
    exact fun e => hnv (e ▸ hx)
  · rcases List.mem_append.1 hx with hx | hx
    · exact h.lt x hx
    · simp only [List.mem_singleton] at hx; subst hx; exact hv
  · rw [e, List.length_append, List.length_singleton]; omega
  · rw [e, List.length_append, List.length_singleton]; omega

/-! ### Positive cycles, by the program -/
/-! ### The program's search for a better circuit -/
def tb (n : Nat) (x : Nat → Int) : List Int := (List.range n).map x

theorem tb_len (n : Nat) (x : Nat → Int) : (tb n x).length = n := by unfold tb; simp

theorem tb_at {n i : Nat} {x : Nat → Int} (h : i < n) : (tb n x)[i]? = some (x i) := by unfold tb; rw [List.getElem?_map, List.getElem?_range h]; rfl

theorem tb_set (n i : Nat) (x : Nat → Int) (y : Int) : (tb n x).set i y = tb n fun j => if j = i then y else x j := by unfold tb; rw [map_range_set]

theorem tb_zero (n : Nat) : List.replicate n (0 : Int) = tb n fun _ => 0 := by
  unfold tb
  apply List.ext_getElem? ; intro i
  rw [List.getElem?_replicate, List.getElem?_map]
  by_cases h : i < n
  · rw [if_pos h, List.getElem?_range h]; rfl
  · rw [if_neg h, List.getElem?_eq_none (by simpa using h)]; rfl

theorem wT_arcs {g : GEventGraph} (h : graphB g = true) {r : Int} (h0 : 0 ≤ r) (h1 : r ≤ 100000) : Arcs (wT g r) g.Events.toNat plT plF (plW r) g.Places :=
  ⟨fun _p hp => ⟨(pl_at h hp).2.2.1, (pl_at h hp).2.2.2⟩, fun _p hp => ⟨(plW_bd h h0 h1 hp).1, (plW_bd h h0 h1 hp).2.1⟩, fun _p hp => arcT_ge hp, fun i j => arcT_cases g.Places i j⟩

/-- the places last taken -/
def ViaOk (n m : Nat) (vs : List Nat) : Prop := vs.length = n ∧ ∀ v, v ∈ vs → v < m

theorem via_set {n m : Nat} {vs : List Nat} (h : ViaOk n m vs) {k : Nat} (hk : k < m) (i : Nat) : ViaOk n m (vs.set i k) := ⟨by rw [List.length_set]; exact h.1, fun v hv => by
  rcases List.mem_or_eq_of_mem_set hv with h1 | h1
  · exact h.2 v h1
  · omega⟩

theorem nl_set (vs : List Nat) (i k : Nat) : (nl vs).set i (k : Int) = nl (vs.set i k) := by
  unfold nl; rw [List.map_set]

theorem better_round {F : Nat} {g : GEventGraph} {r : Int} (hF : 134217728 ≤ F) (h : graphB g = true) (h0 : 0 ≤ r) (h1 : r ≤ 100000) {x : Nat → Int} {M : Int} (hM : 0 ≤ M) (hM1 : M ≤ 1000000000000) (hx : ∀ i, i < g.Events.toNat → -M ≤ x i ∧ x i ≤ M) {vs : List Nat} (hv : ViaOk g.Events.toNat g.Places.length vs) :
    ∃ vs' e, impl_betterCircuit_L5 F g ⟨r, 1⟩ F (tb g.Events.toNat x) (nl vs) (-1) 0 = some (tb g.Events.toNat (rnd plT plF (plW r) x g.Places), nl vs', e) ∧ ViaOk g.Events.toNat g.Places.length vs' ∧ ((e = -1 ∧ chd plT plF (plW r) x g.Places = false) ∨ ∃ e' : Nat, e = (e' : Int) ∧ e' < g.Events.toNat ∧ chd plT plF (plW r) x g.Places = true) := by
  obtain ⟨e1, e2, e3, _, _⟩ := graphB_true h
  have hA := wT_arcs h h0 h1
  refine for0 (L := fun m (s : List Int × List Int × Int) i => impl_betterCircuit_L5 F g ⟨r, 1⟩ m s.1 s.2.1 s.2.2 i) (len := g.Places.length)
    (fun k s => s.1 = tb g.Events.toNat (rnd plT plF (plW r) x (g.Places.take k)) ∧ ∃ vs', s.2.1 = nl vs' ∧ ViaOk g.Events.toNat g.Places.length vs' ∧ ((s.2.2 = -1 ∧ chd plT plF (plW r) x (g.Places.take k) = false) ∨ ∃ e' : Nat, s.2.2 = (e' : Int) ∧ e' < g.Events.toNat ∧ chd plT plF (plW r) x (g.Places.take k) = true))
    (R := fun o => ∃ vs' e, o = some (tb g.Events.toNat (rnd plT plF (plW r) x g.Places), nl vs', e) ∧ ViaOk g.Events.toNat g.Places.length vs' ∧ ((e = -1 ∧ chd plT plF (plW r) x g.Places = false) ∨ ∃ e' : Nat, e = (e' : Int) ∧ e' < g.Events.toNat ∧ chd plT plF (plW r) x g.Places = true)) (s := (tb g.Events.toNat x, nl vs, -1)) ?_ ?_ ⟨rfl, vs, rfl, hv, .inl ⟨rfl, rfl⟩⟩ (by omega)
  · rintro m k ⟨xs, us, e⟩ hk ⟨rfl, vs', rfl, hv', he⟩
    have hp : g.Places[k]? = some g.Places[k] := List.getElem?_eq_getElem hk
    have hmem := List.getElem_mem hk
    rw [List.take_add_one, hp, Option.toList_some, rnd_snoc, chd_snoc]
    have hy := rnd_bd (t := plT) (f := plF) (w := plW r) (n := g.Events.toNat) (ps := g.Places.take k) (x := x) (M := M) (fun p hp => ⟨hA.lt p (List.mem_of_mem_take hp), hA.bd p (List.mem_of_mem_take hp)⟩) hx
    have hl : (g.Places.take k).length ≤ 30 := by rw [List.length_take]; omega
    generalize (g.Places.take k).length = l at hy hl
    generalize rnd plT plF (plW r) x (g.Places.take k) = y at hy
    generalize chd plT plF (plW r) x (g.Places.take k) = b at he
    generalize g.Places[k] = p at hp hmem
    obtain ⟨a1, a2, a3, a4⟩ := pl_at h hmem
    obtain ⟨b1, b2, a5⟩ := plW_bd h h0 h1 hmem
    have y1 := hy _ a3
    have y2 := hy _ a4
    have hw : IntKind.i64.wrap (y (plF p) + plW r p) = y (plF p) + plW r p := wr (by omega) (by omega)
    have hwk : IntKind.i64.wrap ((k : Int) + 1) = ((k + 1 : Nat) : Int) := wrN (by omega)
    by_cases hc : y (plT p) < y (plF p) + plW r p
    · refine .inl ⟨(tb g.Events.toNat (stp plT plF (plW r) y p), nl (vs'.set (plT p) k), (plT p : Int)), ?_, rfl, _, rfl, via_set hv' hk _, .inr ⟨plT p, rfl, a3, ?_⟩⟩
      · simp only [impl_betterCircuit_L5, impl_placeWeight, bdT (show (k : Int) < (g.Places.length : Int) by omega), idx_nat, hp, Option.bind_some, a5]
        rw [a1, a2]
        simp only [idx_nat, tb_at a3, tb_at a4, Option.bind_some, hw, bdT hc, upd_nat _ (show plT p < (tb g.Events.toNat y).length by rw [tb_len]; exact a3), nl_at, List.getElem?_eq_getElem (show plT p < vs'.length by rw [hv'.1]; exact a3), Option.map_some, upd_nat _ (show plT p < (nl vs').length by rw [nl_len, hv'.1]; exact a3), nl_set, tb_set, hwk]
        congr 2
        funext i
        unfold stp
        by_cases ei : i = plT p
        · rw [if_pos ei, if_pos ei]; omega
        · rw [if_neg ei, if_neg ei]
      · unfold chg; rw [decide_eq_true hc, Bool.or_true]
    · refine .inl ⟨(tb g.Events.toNat (stp plT plF (plW r) y p), nl vs', e), ?_, rfl, _, rfl, hv', ?_⟩
      · rw [stp_same (show y (plF p) + plW r p ≤ y (plT p) by omega)]
        simp only [impl_betterCircuit_L5, impl_placeWeight, bdT (show (k : Int) < (g.Places.length : Int) by omega), idx_nat, hp, Option.bind_some, a5]
        rw [a1, a2]
        simp only [idx_nat, tb_at a3, tb_at a4, Option.bind_some, hw, bdF hc, hwk]
      · have : chg plT plF (plW r) y p = false := chg_false.2 (by omega)
        rw [this, Bool.or_false]; exact he
  · rintro m ⟨xs, us, e⟩ ⟨rfl, vs', rfl, hv', he⟩
    rw [List.take_length] at he
    refine ⟨vs', e, ?_, hv', he⟩
    simp only [impl_betterCircuit_L5, bdF (show ¬ (g.Places.length : Int) < (g.Places.length : Int) by omega), List.take_length]

theorem its_small {g : GEventGraph} {r : Int} (h : graphB g = true) (h0 : 0 ≤ r) (h1 : r ≤ 100000) {x : Nat → Int} {M : Int} (hx : ∀ i, i < g.Events.toNat → -M ≤ x i ∧ x i ≤ M) : ∀ (k i : Nat), i < g.Events.toNat → -(M + 30000000 * (k : Int)) ≤ its plT plF (plW r) x g.Places k i ∧ its plT plF (plW r) x g.Places k i ≤ M + 30000000 * (k : Int) := by
  intro k
  have hA := wT_arcs h h0 h1
  obtain ⟨_, _, e3, _, _⟩ := graphB_true h
  induction k with
  | zero => intro i hi; have := hx i hi; show -(M + 30000000 * ((0 : Nat) : Int)) ≤ x i ∧ x i ≤ _; omega
  | succ k ih =>
    intro i hi
    have := rnd_bd (t := plT) (f := plF) (w := plW r) (n := g.Events.toNat) (ps := g.Places) (fun p hp => ⟨hA.lt p hp, hA.bd p hp⟩) ih i hi
    show -(M + 30000000 * ((k + 1 : Nat) : Int)) ≤ rnd plT plF (plW r) (its plT plF (plW r) x g.Places k) g.Places i ∧ rnd plT plF (plW r) (its plT plF (plW r) x g.Places k) g.Places i ≤ _
    omega

theorem better_rounds {F : Nat} {g : GEventGraph} {r : Int} (hF : 134217728 ≤ F) (h : graphB g = true) (h0 : 0 ≤ r) (h1 : r ≤ 100000) {vs : List Nat} (hv : ViaOk g.Events.toNat g.Places.length vs ∨ g.Places = []) (hvl : vs.length = g.Events.toNat) :
    (impl_betterCircuit_L4 F g ⟨r, 1⟩ F (tb g.Events.toNat fun _ => 0) (nl vs) (-1) 0 = some (.inl []) ∧ ∃ k, chd plT plF (plW r) (its plT plF (plW r) (fun _ => 0) g.Places k) g.Places = false) ∨ ∃ vs' e, impl_betterCircuit_L4 F g ⟨r, 1⟩ F (tb g.Events.toNat fun _ => 0) (nl vs) (-1) 0 = some (.inr (nl vs', ((e : Nat) : Int))) ∧ ViaOk g.Events.toNat g.Places.length vs' ∧ e < g.Events.toNat ∧ ∀ k, k ≤ g.Events.toNat → chd plT plF (plW r) (its plT plF (plW r) (fun _ => 0) g.Places k) g.Places = true := by
  obtain ⟨e1, e2, e3, _, _⟩ := graphB_true h
  have hw1 : IntKind.i64.wrap (g.Events + 1) = ((g.Events.toNat + 1 : Nat) : Int) := by rw [wr (by omega) (by omega)]; omega
  by_cases hne : g.Places = []
  · left
    have hr : impl_betterCircuit_L5 F g ⟨r, 1⟩ F (tb g.Events.toNat fun _ => 0) (nl vs) (-1) 0 = some (tb g.Events.toNat (fun _ => 0), nl vs, -1) := by
      obtain ⟨m, rfl⟩ : ∃ m, F = m + 1 := ⟨F - 1, by omega⟩
      simp only [impl_betterCircuit_L5, hne, List.length_nil, bdF (show ¬ (0 : Int) < ((0 : Nat) : Int) by omega)]
    refine ⟨?_, 0, by rw [hne]; rfl⟩
    have : ∀ m, impl_betterCircuit_L4 F g ⟨r, 1⟩ (m + 1) (tb g.Events.toNat fun _ => 0) (nl vs) (-1) 0 = some (.inl []) := fun m => by
      simp only [impl_betterCircuit_L4, hw1, bdT (show (0 : Int) < ((g.Events.toNat + 1 : Nat) : Int) by omega), hr, Option.bind_some, show decide ((-1 : Int) < 0) = true from rfl, cond_true]
    rw [show F = (F - 1) + 1 by omega] at *
    exact this _
  have hv : ViaOk g.Events.toNat g.Places.length vs := hv.elim id fun e => absurd e hne
  refine for0 (L := fun m (s : List Int × List Int × Int) i => impl_betterCircuit_L4 F g ⟨r, 1⟩ m s.1 s.2.1 s.2.2 i) (len := g.Events.toNat + 1)
    (fun k s => s.1 = tb g.Events.toNat (its plT plF (plW r) (fun _ => 0) g.Places k) ∧ (∃ vs', s.2.1 = nl vs' ∧ ViaOk g.Events.toNat g.Places.length vs') ∧ (k = 0 ∨ ∃ e' : Nat, s.2.2 = (e' : Int) ∧ e' < g.Events.toNat) ∧ ∀ j, j < k → chd plT plF (plW r) (its plT plF (plW r) (fun _ => 0) g.Places j) g.Places = true)
    (R := fun o => (o = some (.inl []) ∧ ∃ k, chd plT plF (plW r) (its plT plF (plW r) (fun _ => 0) g.Places k) g.Places = false) ∨ ∃ vs' e, o = some (.inr (nl vs', ((e : Nat) : Int))) ∧ ViaOk g.Events.toNat g.Places.length vs' ∧ e < g.Events.toNat ∧ ∀ k, k ≤ g.Events.toNat → chd plT plF (plW r) (its plT plF (plW r) (fun _ => 0) g.Places k) g.Places = true) (s := (tb g.Events.toNat fun _ => 0, nl vs, -1)) ?_ ?_ ⟨rfl, ⟨vs, rfl, hv⟩, .inl rfl, fun j hj => by omega⟩ (by omega)
  · intro m k s hk hs
    have hwk : IntKind.i64.wrap ((k : Int) + 1) = ((k + 1 : Nat) : Int) := wrN (by omega)
    have hbk : 0 + 30000000 * (k : Int) ≤ 1000000000000 := by omega
    have hlt : (k : Int) < ((g.Events.toNat + 1 : Nat) : Int) := by omega
    revert hs
    obtain ⟨xs, us, e⟩ := s
    rintro ⟨rfl, ⟨vs', rfl, hv'⟩, _, hI⟩
    have hb := its_small (r := r) h h0 h1 (x := fun _ => 0) (M := 0) (fun i _ => ⟨by omega, by omega⟩) k
    obtain ⟨vs2, e2, hr, hv2, he⟩ := better_round hF h h0 h1 (x := its plT plF (plW r) (fun _ => 0) g.Places k) (M := 0 + 30000000 * (k : Int)) (by omega) hbk hb hv'
    have S : impl_betterCircuit_L4 F g ⟨r, 1⟩ (m + 1) (tb g.Events.toNat (its plT plF (plW r) (fun _ => 0) g.Places k)) (nl vs') e (k : Int) = bif decide (e2 < 0) then some (.inl []) else impl_betterCircuit_L4 F g ⟨r, 1⟩ m (tb g.Events.toNat (its plT plF (plW r) (fun _ => 0) g.Places (k + 1))) (nl vs2) e2 ((k + 1 : Nat) : Int) := by
      simp only [impl_betterCircuit_L4, hw1, bdT hlt, hr, Option.bind_some, hwk]
      rfl
    rcases he with ⟨rfl, hc⟩ | ⟨e', rfl, he', hc⟩
    · exact .inr (.inl ⟨S.trans rfl, k, hc⟩)
    · refine .inl ⟨(tb g.Events.toNat (its plT plF (plW r) (fun _ => 0) g.Places (k + 1)), nl vs2, (e' : Int)), ?_, rfl, ⟨vs2, rfl, hv2⟩, .inr ⟨e', rfl, he'⟩, fun j hj => ?_⟩
      · exact S.trans (by rw [bdF (show ¬ (e' : Int) < 0 by omega)])
      · by_cases ej : j = k
        · subst ej; exact hc
        · exact hI j (by omega)
  · rintro m ⟨xs, us, e⟩ ⟨rfl, ⟨vs', rfl, hv'⟩, he, hI⟩
    rcases he with he | ⟨e', rfl, he'⟩
    · omega
    · refine .inr ⟨vs', e', ?_, hv', he', fun k hk => hI k (by omega)⟩
      simp only [impl_betterCircuit_L4, hw1, bdF (show ¬ ((g.Events.toNat + 1 : Nat) : Int) < ((g.Events.toNat + 1 : Nat) : Int) by omega)]

/-- one step back -/
def backN (g : GEventGraph) (vs : List Nat) (v : Nat) : Nat := plF ((g.Places[(vs[v]?).getD 0]?).getD ⟨0, 0, 0, 0⟩)

theorem back_at {g : GEventGraph} (h : graphB g = true) {vs : List Nat} (hv : ViaOk g.Events.toNat g.Places.length vs) {v : Nat} (hn : v < g.Events.toNat) : ∃ u p, vs[v]? = some u ∧ g.Places[u]? = some p ∧ p.From = (backN g vs v : Int) ∧ backN g vs v < g.Events.toNat := by
  have hl : v < vs.length := by rw [hv.1]; exact hn
  have hu := hv.2 _ (List.getElem_mem hl)
  have e1 := List.getElem?_eq_getElem hl
  have e2 := List.getElem?_eq_getElem hu
  obtain ⟨_, a2, _, a4⟩ := pl_at h (List.getElem_mem hu)
  refine ⟨_, _, e1, e2, ?_, ?_⟩
  · unfold backN; rw [e1, Option.getD_some, e2, Option.getD_some]; exact a2
  · unfold backN; rw [e1, Option.getD_some, e2, Option.getD_some]; exact a4

def itn (φ : Nat → Nat) : Nat → Nat → Nat
  | 0, v => v
  | k + 1, v => itn φ k (φ v)

theorem itn_succ (φ : Nat → Nat) : ∀ (k v : Nat), itn φ (k + 1) v = φ (itn φ k v)
  | 0, _ => rfl
  | k + 1, v => itn_succ φ k (φ v)

theorem itn_add (φ : Nat → Nat) (i : Nat) : ∀ (j v : Nat), itn φ (i + j) v = itn φ i (itn φ j v)
  | 0, _ => rfl
  | j + 1, v => itn_add φ i j (φ v)

theorem itn_lt {φ : Nat → Nat} {n : Nat} (h : ∀ v, v < n → φ v < n) : ∀ (k : Nat) {v : Nat}, v < n → itn φ k v < n
  | 0, _, hv => hv
  | k + 1, _, hv => itn_lt h k (h _ hv)

theorem itn_back {φ : Nat → Nat} {n : Nat} (h : ∀ v, v < n → φ v < n) {v : Nat} (hv : v < n) : ∃ d, d < n ∧ itn φ (d + 1) (itn φ n v) = itn φ n v := by
  obtain ⟨p, q, h1, h2, h3⟩ := pigeon_n (n := n) (c := fun t => itn φ t v) (fun t _ => itn_lt h t hv)
  have h3 : itn φ p v = itn φ q v := h3
  refine ⟨q - p - 1, by omega, ?_⟩
  rw [show q - p - 1 + 1 = q - p by omega, ← itn_add, show q - p + n = (n - p) + q by omega, itn_add, ← h3, ← itn_add, show n - p + p = n by omega]

theorem better_back {F : Nat} {g : GEventGraph} (hF : 134217728 ≤ F) (h : graphB g = true) {vs : List Nat} (hv : ViaOk g.Events.toNat g.Places.length vs) {e : Nat} (he : e < g.Events.toNat) : impl_betterCircuit_L6 F g (nl vs) F (e : Int) 0 = some ((itn (backN g vs) g.Events.toNat e : Nat) : Int) := by
  obtain ⟨e1, e2, e3, _, _⟩ := graphB_true h
  have hlt : ∀ v, v < g.Events.toNat → backN g vs v < g.Events.toNat := fun v hn => by
    obtain ⟨_, _, _, _, _, hb⟩ := back_at h hv hn
    exact hb
  refine for0 (L := impl_betterCircuit_L6 F g (nl vs)) (len := g.Events.toNat) (fun k s => s = ((itn (backN g vs) k e : Nat) : Int)) (R := fun o => o = some ((itn (backN g vs) g.Events.toNat e : Nat) : Int)) ?_ ?_ rfl (by omega)
  · rintro m k s hk rfl
    obtain ⟨u, p, h1, h2, h3, _⟩ := back_at h hv (itn_lt hlt k he)
    refine .inl ⟨_, ?_, rfl⟩
    simp only [impl_betterCircuit_L6, bdT (show (k : Int) < g.Events by omega), idx_nat, nl_at, h1, Option.map_some, Option.bind_some, h2, h3, wrN (show k ≤ 67108864 by omega), itn_succ]
  · rintro m s rfl
    simp only [impl_betterCircuit_L6, bdF (show ¬ ((g.Events.toNat : Nat) : Int) < g.Events by omega)]

theorem better_gather {F : Nat} {g : GEventGraph} (h : graphB g = true) {vs : List Nat} (hv : ViaOk g.Events.toNat g.Places.length vs) {s : Nat} : ∀ (m : Nat) {x : Nat} {xs : List Int} {fuel : Nat}, x < g.Events.toNat → itn (backN g vs) (m + 1) x = s → m < fuel → xs.length + m + 1 ≤ 1000 →
    ∃ ys, impl_betterCircuit_L7 F g (nl vs) (s : Int) fuel xs (x : Int) = some ys ∧ xs.length < ys.length ∧ ys.length ≤ xs.length + m + 1 := by
  intro m
  induction m with
  | zero =>
    intro x xs fuel hx hs hf hl
    obtain ⟨fuel, rfl⟩ : ∃ k, fuel = k + 1 := ⟨fuel - 1, by omega⟩
    obtain ⟨u, p, h1, h2, h3, _⟩ := back_at h hv hx
    have hs : backN g vs x = s := hs
    refine ⟨xs ++ [(u : Int)], ?_, by simp, by simp⟩
    simp only [impl_betterCircuit_L7, idx_nat, nl_at, h1, Option.map_some, Option.bind_some, app_le (show xs.length + [(u : Int)].length ≤ 67108864 by simp only [List.length_singleton]; omega), h2, h3, hs, beq_self_eq_true, cond_true]
  | succ m ih =>
    intro x xs fuel hx hs hf hl
    obtain ⟨fuel, rfl⟩ : ∃ k, fuel = k + 1 := ⟨fuel - 1, by omega⟩
    obtain ⟨u, p, h1, h2, h3, h4⟩ := back_at h hv hx
    by_cases hc : backN g vs x = s
    · refine ⟨xs ++ [(u : Int)], ?_, by simp, by simp⟩
      simp only [impl_betterCircuit_L7, idx_nat, nl_at, h1, Option.map_some, Option.bind_some, app_le (show xs.length + [(u : Int)].length ≤ 67108864 by simp only [List.length_singleton]; omega), h2, h3, hc, beq_self_eq_true, cond_true]
    · obtain ⟨ys, h5, h6, h7⟩ := ih (x := backN g vs x) (xs := xs ++ [(u : Int)]) (fuel := fuel) h4 hs (by omega) (by rw [List.length_append, List.length_singleton]; omega)
      rw [List.length_append, List.length_singleton] at h6 h7
      refine ⟨ys, ?_, by omega, by omega⟩
      simp only [impl_betterCircuit_L7, idx_nat, nl_at, h1, Option.map_some, Option.bind_some, app_le (show xs.length + [(u : Int)].length ≤ 67108864 by simp only [List.length_singleton]; omega), h2, h3, beq_false_of_ne (show ((backN g vs x : Nat) : Int) ≠ (s : Int) by omega), cond_false, h5]

theorem reverse_loop {F : Nat} : ∀ (m : Nat) {fuel : Nat} {xs : List Int} {i j : Int}, 0 ≤ i → j < (xs.length : Int) → -1 ≤ j → j - i ≤ (m : Int) → m < fuel → xs.length ≤ 1048576 → i ≤ 1048576 → ∃ ys, slices_Reverse_int64_L1 F fuel xs i j = some ys ∧ ys.length = xs.length := by
  intro m
  induction m with
  | zero =>
    intro fuel xs i j h0 h1 h2 h3 h4 h5 h6
    obtain ⟨fuel, rfl⟩ : ∃ k, fuel = k + 1 := ⟨fuel - 1, by omega⟩
    exact ⟨xs, by simp only [slices_Reverse_int64_L1, bdF (show ¬ i < j by omega)], rfl⟩
  | succ m ih =>
    intro fuel xs i j h0 h1 h2 h3 h4 h5 h6
    obtain ⟨fuel, rfl⟩ : ∃ k, fuel = k + 1 := ⟨fuel - 1, by omega⟩
    by_cases hc : i < j
    · obtain ⟨i', rfl⟩ : ∃ k : Nat, i = (k : Int) := ⟨i.toNat, by omega⟩
      obtain ⟨j', rfl⟩ : ∃ k : Nat, j = (k : Int) := ⟨j.toNat, by omega⟩
      have li : i' < xs.length := by omega
      have lj : j' < xs.length := by omega
      obtain ⟨ys, e1, e2⟩ := ih (fuel := fuel) (xs := (xs.set i' xs[j']).set j' xs[i']) (i := ((i' + 1 : Nat) : Int)) (j := (j' : Int) - 1) (by omega) (by rw [List.length_set, List.length_set]; omega) (by omega) (by omega) (by omega) (by rw [List.length_set, List.length_set]; omega) (by omega)
      rw [List.length_set, List.length_set] at e2
      refine ⟨ys, ?_, e2⟩
      have l2 : j' < (xs.set i' xs[j']).length := by rw [List.length_set]; exact lj
      simp only [slices_Reverse_int64_L1, bdT hc, idx_nat, List.getElem?_eq_getElem li, List.getElem?_eq_getElem lj, List.getElem?_eq_getElem l2, Option.bind_some, upd_nat _ li, upd_nat _ l2, wrN (show i' ≤ 67108864 by omega), wr (show -9223372036854775808 ≤ (j' : Int) - 1 by omega) (by omega), e1]
    · exact ⟨xs, by simp only [slices_Reverse_int64_L1, bdF hc], rfl⟩

theorem reverse_is {F : Nat} {xs : List Int} (hF : 134217728 ≤ F) (hx : xs.length ≤ 1048576) : ∃ ys, slices_Reverse_int64 F xs = some ((), ys) ∧ ys.length = xs.length := by
  obtain ⟨ys, e1, e2⟩ := reverse_loop (F := F) xs.length (fuel := F) (xs := xs) (i := 0) (j := (xs.length : Int) - 1) (by omega) (by omega) (by omega) (by omega) (by omega) hx (by omega)
  refine ⟨ys, ?_, e2⟩
  unfold slices_Reverse_int64
  rw [wr (by omega) (by omega), e1]; rfl

theorem implBetter_is {F : Nat} {g : GEventGraph} {r : Int} (hF : 134217728 ≤ F) (h : graphB g = true) (h0 : 0 ≤ r) (h1 : r ≤ 100000) : ∃ c, impl_betterCircuit F g ⟨r, 1⟩ = some c ∧ (c.isEmpty = true ↔ ¬ PosCyc (wT g r) g.Events.toNat) := by
  obtain ⟨e1, e2, e3, _, _⟩ := graphB_true h
  have hA := wT_arcs h h0 h1
  have hmk : mk g.Events (0 : Int) = some (List.replicate g.Events.toNat 0) := mk_int 0 (by omega) (by omega)
  have hnl : List.replicate g.Events.toNat (0 : Int) = nl (List.replicate g.Events.toNat 0) := by unfold nl; simp
  have hv : ViaOk g.Events.toNat g.Places.length (List.replicate g.Events.toNat 0) ∨ g.Places = [] := by
    by_cases hne : g.Places = []
    · exact .inr hne
    · refine .inl ⟨by simp, fun v hv => ?_⟩
      have := List.length_pos_iff.2 hne
      have := (List.mem_replicate.1 hv).2
      omega
  unfold impl_betterCircuit
  rw [hmk, Option.bind_some, Option.bind_some]
  rcases better_rounds hF h h0 h1 hv (by simp) with ⟨hr, k, hc⟩ | ⟨vs', e, hr, hv', he, hc⟩
  · rw [← tb_zero, ← hnl] at hr
    rw [hr]
    exact ⟨[], rfl, ⟨fun _ => rest_none hA hc, fun _ => rfl⟩⟩
  · rw [← tb_zero, ← hnl] at hr
    have hlt : ∀ v, v < g.Events.toNat → backN g vs' v < g.Events.toNat := fun v hn => by
      obtain ⟨_, _, _, _, _, hb⟩ := back_at h hv' hn
      exact hb
    obtain ⟨d, hd, hback⟩ := itn_back hlt he
    obtain ⟨ys, h4, h5, h6⟩ := better_gather (F := F) h hv' d (x := itn (backN g vs') g.Events.toNat e) (xs := []) (fuel := F) (itn_lt hlt _ he) hback (by omega) (by simp only [List.length_nil]; omega)
    simp only [List.length_nil] at h5 h6
    obtain ⟨zs, h7, h8⟩ := reverse_is (F := F) (xs := ys) hF (by omega)
    have hpos : PosCyc (wT g r) g.Events.toNat := Classical.byContradiction fun hn => by
      have := its_rest hA (by omega) ((fwok_iff hA.ok (by omega)).2 hn) (fun _ => 0)
      rw [hc _ (Nat.le_refl _)] at this
      cases this
    have hz : zs ≠ [] := fun hz => by rw [hz, List.length_nil] at h8; omega
    have hze : zs.isEmpty = false := by
      cases zs with
      | nil => exact absurd rfl hz
      | cons z zs => rfl
    refine ⟨zs, ?_, by rw [hze]; exact ⟨fun hh => Bool.noConfusion hh, fun hh => absurd hpos hh⟩⟩
    simp only [hr, Option.bind_some, better_back hF h hv' he, h4, h7]
    unfold nonE
    rw [hze]; rfl

/-! ### Circuits of places -/
def pcs (g : GEventGraph) (i : Nat) : GPlace := (g.Places[i]?).getD ⟨0, 0, 0, 0⟩

theorem pcs_at {g : GEventGraph} {i : Nat} (h : i < g.Places.length) : g.Places[i]? = some (pcs g i) := by
  unfold pcs; rw [List.getElem?_eq_getElem h]; rfl

theorem pcs_mem {g : GEventGraph} {i : Nat} (h : i < g.Places.length) : pcs g i ∈ g.Places := List.mem_of_getElem? (pcs_at h)

def cF (g : GEventGraph) (i : Nat) : Nat := plF (pcs g i)

def cT (g : GEventGraph) (i : Nat) : Nat := plT (pcs g i)

def sumD (g : GEventGraph) (p : List Nat) : Int := (p.map fun i => (pcs g i).Delay).sum

def sumM (g : GEventGraph) (p : List Nat) : Int := (p.map fun i => (pcs g i).Tokens).sum

theorem sumD_app (g : GEventGraph) (p q : List Nat) : sumD g (p ++ q) = sumD g p + sumD g q := by unfold sumD; rw [List.map_append, List.sum_append]

theorem sumM_app (g : GEventGraph) (p q : List Nat) : sumM g (p ++ q) = sumM g p + sumM g q := by unfold sumM; rw [List.map_append, List.sum_append]

theorem sumD_one (g : GEventGraph) (v : Nat) : sumD g [v] = (pcs g v).Delay := by unfold sumD; simp

theorem sumM_one (g : GEventGraph) (v : Nat) : sumM g [v] = (pcs g v).Tokens := by unfold sumM; simp

theorem sums_bd {g : GEventGraph} (h : graphB g = true) : ∀ (p : List Nat), (∀ x, x ∈ p → x < g.Places.length) → 0 ≤ sumD g p ∧ sumD g p ≤ 1000 * (p.length : Int) ∧ 0 ≤ sumM g p ∧ sumM g p ≤ 5 * (p.length : Int)
  | [], _ => by unfold sumD sumM; simp
  | x :: p, hp => by
    have h1 := sums_bd h p (fun y hy => hp y (by simp [hy]))
    have h2 := graphB_range h _ (pcs_mem (hp x (by simp)))
    have e1 : sumD g (x :: p) = (pcs g x).Delay + sumD g p := by unfold sumD; simp
    have e2 : sumM g (x :: p) = (pcs g x).Tokens + sumM g p := by unfold sumM; simp
    rw [e1, e2, List.length_cons]
    omega

theorem c_at {g : GEventGraph} (h : graphB g = true) {i : Nat} (hi : i < g.Places.length) : (pcs g i).To = (cT g i : Int) ∧ (pcs g i).From = (cF g i : Int) ∧ cT g i < g.Events.toNat ∧ cF g i < g.Events.toNat := pl_at h (pcs_mem hi)

theorem eqN (a b : Nat) : ((a : Int) == (b : Int)) = decide (a = b) := by
  by_cases e : a = b
  · subst e; simp
  · rw [beq_false_of_ne (by omega), dF e]

theorem neN (a b : Nat) : ((a : Int) != (b : Int)) = !decide (a = b) := by rw [bne, eqN]

theorem ltN (a b : Nat) : decide ((a : Int) < (b : Int)) = decide (a < b) := by
  by_cases e : a < b
  · rw [dT e, dT (by omega)]
  · rw [dF e, dF (by omega)]

def closedC (g : GEventGraph) (p : List Nat) : Bool := decide (cT g (lastN p) = cF g (headN p))

def visC (g : GEventGraph) (p : List Nat) (e : Nat) : Bool := p.any fun i => decide (cF g i = e) || decide (cT g i = e)

def accC (g : GEventGraph) (good : Int → Int → Bool) (p : List Nat) : Bool := closedC g p && good (sumD g p) (sumM g p)

def candC (g : GEventGraph) (p : List Nat) (v : Nat) : Bool := !closedC g p && (decide (cF g v = cT g (lastN p)) && (decide (cF g (headN p) ≤ cT g v) && (decide (cT g v = cF g (headN p)) || !visC g p (cT g v))))

theorem candC_true {g : GEventGraph} {p : List Nat} {v : Nat} : candC g p v = true ↔ closedC g p = false ∧ cF g v = cT g (lastN p) ∧ cF g (headN p) ≤ cT g v ∧ (cT g v = cF g (headN p) ∨ visC g p (cT g v) = false) := by
  unfold candC
  simp only [Bool.and_eq_true, Bool.not_eq_true', decide_eq_true_eq, Bool.or_eq_true]

structure CircOk (g : GEventGraph) (p : List Nat) : Prop where
  ne : p ≠ []
  lt : ∀ x, x ∈ p → x < g.Places.length
  nodup : (p.map (cT g)).Nodup
  op : closedC g p = false → cF g (headN p) ∉ p.map (cT g)

theorem CircOk.short {g : GEventGraph} (h : graphB g = true) {p : List Nat} (hp : CircOk g p) : p.length ≤ g.Events.toNat := by
  have := nodup_le g.Events.toNat _ hp.nodup (fun x hx => by
    obtain ⟨i, hi, rfl⟩ := List.mem_map.1 hx
    exact (c_at h (hp.lt i hi)).2.2.1)
  rwa [List.length_map] at this

theorem CircOk.one {g : GEventGraph} {i : Nat} (hi : i < g.Places.length) : CircOk g [i] :=
  ⟨by simp, fun x hx => by simp only [List.mem_singleton] at hx; subst hx; exact hi, by simp, fun hc hm => by
    have e : lastN [i] = i := rfl
    have e2 : headN [i] = i := rfl
    unfold closedC at hc
    rw [e, e2] at hc
    rw [e2] at hm
    simp only [List.map_cons, List.map_nil, List.mem_singleton] at hm
    rw [hm] at hc; simp at hc⟩

theorem CircOk.next {g : GEventGraph} {p : List Nat} {v : Nat} (hp : CircOk g p) (hv : v < g.Places.length) (hc : candC g p v = true) : CircOk g (p ++ [v]) := by
  obtain ⟨h1, h2, h3, h4⟩ := candC_true.1 hc
  have hop := hp.op h1
  have hnm : cT g v ∉ p.map (cT g) := by
    rcases h4 with h4 | h4
    · rw [h4]; exact hop
    · intro hm
      obtain ⟨i, hi, e⟩ := List.mem_map.1 hm
      unfold visC at h4
      rw [List.any_eq_false] at h4
      exact h4 i hi (by rw [decide_eq_true e, Bool.or_true])
  refine ⟨by simp, fun x hx => ?_, ?_, fun hcl hm => ?_⟩
  · rcases List.mem_append.1 hx with hx | hx
    · exact hp.lt x hx
    · simp only [List.mem_singleton] at hx; subst hx; exact hv
  · rw [List.map_append, List.nodup_append]
    refine ⟨hp.nodup, by simp, fun x hx y hy => ?_⟩
    simp only [List.map_cons, List.map_nil, List.mem_singleton] at hy
    subst hy
    exact fun e => hnm (e ▸ hx)
  · unfold closedC at hcl
    rw [lastN_snoc, headN_snoc hp.ne] at hcl
    rw [headN_snoc hp.ne, List.map_append] at hm
    rcases List.mem_append.1 hm with hm | hm
    · exact hop hm
    · simp only [List.map_cons, List.map_nil, List.mem_singleton] at hm
      rw [hm] at hcl; simp at hcl

theorem specSums_is {F : Nat} {g : GEventGraph} (hF : 134217728 ≤ F) (h : graphB g = true) {p : List Nat} (hp : ∀ x, x ∈ p → x < g.Places.length) (hl : p.length ≤ 1000) : spec_l15Sums F g (nl p) = some (sumD g p, sumM g p) := by
  have H := for0 (L := fun m (s : Int × Int) i => spec_l15Sums_L1 F g (nl p) m s.1 s.2 i) (len := p.length) (fun k s => s = (sumD g (p.take k), sumM g (p.take k))) (R := fun o => o = some (sumD g p, sumM g p)) (s := (0, 0)) (n := F) ?_ ?_ (by unfold sumD sumM; simp) (by omega)
  · unfold spec_l15Sums
    simp only at H
    rw [H]; rfl
  · rintro m k s hk rfl
    have hx : p[k]? = some p[k] := List.getElem?_eq_getElem hk
    have hxl := hp _ (List.getElem_mem hk)
    have hb := sums_bd h (p.take k) (fun x hx => hp x (List.mem_of_mem_take hx))
    have hb2 := graphB_range h _ (pcs_mem hxl)
    have hlt : (p.take k).length ≤ 1000 := by rw [List.length_take]; omega
    refine .inl ⟨_, ?_, rfl⟩
    rw [List.take_add_one, hx, Option.toList_some, sumD_app, sumM_app, sumD_one, sumM_one]
    simp only [spec_l15Sums_L1, nl_len, bdT (show (k : Int) < (p.length : Int) by omega), idx_nat, nl_at, hx, Option.map_some, Option.bind_some, pcs_at hxl, wrN (show k ≤ 67108864 by omega)]
    rw [wr (by omega) (by omega), wr (by omega) (by omega)]
  · rintro m s rfl
    simp only [spec_l15Sums_L1, nl_len, bdF (show ¬ (p.length : Int) < (p.length : Int) by omega), List.take_length]

theorem specVisits_is {F : Nat} {g : GEventGraph} (hF : 134217728 ≤ F) (h : graphB g = true) {p : List Nat} (hp : ∀ x, x ∈ p → x < g.Places.length) (hl : p.length ≤ 1000) (e : Nat) : spec_l15Visits F g (nl p) (e : Int) = some (visC g p e) := by
  unfold spec_l15Visits
  rw [all_loop (ps := p) (g := fun i => !(decide (cF g i = e) || decide (cT g i = e))) (r := true) (L := spec_l15Visits_L1 F g (nl p) (e : Int)) ?_ ?_ (by omega)]
  · unfold visC
    have := any_not (g := fun i => !(decide (cF g i = e) || decide (cT g i = e))) p
    simp only [Bool.not_not] at this
    rw [this]
    cases (p.all fun i => !(decide (cF g i = e) || decide (cT g i = e))) <;> rfl
  · intro m k x hk hx
    have hxl := hp _ (List.mem_of_getElem? hx)
    obtain ⟨a1, a2, _, _⟩ := c_at h hxl
    simp only [spec_l15Visits_L1, nl_len, bdT (show (k : Int) < (p.length : Int) by omega), idx_nat, nl_at, hx, Option.map_some, Option.bind_some, pcs_at hxl, a1, a2, eqN, wrN (show k ≤ 67108864 by omega)]
    cases decide (cF g x = e) <;> cases decide (cT g x = e) <;> rfl
  · intro m
    simp only [spec_l15Visits_L1, nl_len, bdF (show ¬ (p.length : Int) < (p.length : Int) by omega)]

theorem specGrowC_is {F : Nat} {g : GEventGraph} {r over : Int} (hF : 134217728 ≤ F) (h : graphB g = true) (h0 : 0 ≤ r) (h1 : r ≤ 100000) : ∀ (k : Nat) (p : List Nat), CircOk g p → g.Events.toNat + 2 ≤ p.length + k →
    spec_l15Grow_rec F k g (nl p) ⟨r, 1⟩ over = some ((gdfs (accC g fun d m => decide (over < d - r * m)) (candC g) g.Places.length k p).elim [] nl) := by
  obtain ⟨e1, e2, e3, _, _⟩ := graphB_true h
  intro k
  induction k with
  | zero => intro p hp hk; have := hp.short h; omega
  | succ k ih =>
    intro p hp hk
    have hpl := hp.short h
    have hfl := first_lt hp.ne hp.lt
    have hll := hp.lt _ (last_mem hp.ne)
    obtain ⟨f1, f2, f3, f4⟩ := c_at h hfl
    obtain ⟨l1, l2, l3, l4⟩ := c_at h hll
    unfold spec_l15Grow_rec gdfs
    simp only [nl_first hp.ne, nl_last hp.ne (by omega), Option.bind_some, idx_nat, pcs_at hfl, pcs_at hll, f2, l1, eqN]
    have hcl : decide (cT g (lastN p) = cF g (headN p)) = closedC g p := rfl
    rw [hcl]
    cases hc : closedC g p with
    | true =>
      have hb := sums_bd h p hp.lt
      have h6 : 0 ≤ r * sumM g p := Int.mul_nonneg h0 (by omega)
      have h7 : r * sumM g p ≤ 100000 * 50 := Int.mul_le_mul h1 (by omega) (by omega) (by omega)
      simp only [cond_true, specSums_is hF h hp.lt (by omega), Option.bind_some]
      rw [wr (show -9223372036854775808 ≤ 1 * sumD g p by omega) (by omega), wr (show -9223372036854775808 ≤ r * sumM g p by omega) (by omega), wr (by omega) (by omega), Int.one_mul]
      have ha : accC g (fun d m => decide (over < d - r * m)) p = decide (over < sumD g p - r * sumM g p) := by unfold accC; rw [hc, Bool.true_and]
      rw [ha]
      cases decide (over < sumD g p - r * sumM g p) with
      | true => rfl
      | false =>
        rw [fs_none (fun v hv => by
          have : candC g p v = false := by unfold candC; rw [hc]; rfl
          rw [this]; rfl)]
        rfl
    | false =>
      have ha : accC g (fun d m => decide (over < d - r * m)) p = false := by unfold accC; rw [hc, Bool.false_and]
      rw [ha]
      simp only [cond_false, Bool.false_eq_true, if_false]
      have H := for0 (L := fun m (_ : Unit) i => spec_l15Grow_L1 F g (nl p) ⟨r, 1⟩ over (pcs g (headN p)) (pcs g (lastN p)) (spec_l15Grow_rec F k) m i) (len := g.Places.length)
        (fun j _ => ∀ v, v < j → (if candC g p v = true then gdfs (accC g fun d m => decide (over < d - r * m)) (candC g) g.Places.length k (p ++ [v]) else none) = none)
        (R := fun o => (∃ q, o = some (.inl (nl q)) ∧ ((List.range g.Places.length).findSome? fun v => if candC g p v = true then gdfs (accC g fun d m => decide (over < d - r * m)) (candC g) g.Places.length k (p ++ [v]) else none) = some q) ∨ (o = some (.inr ()) ∧ ((List.range g.Places.length).findSome? fun v => if candC g p v = true then gdfs (accC g fun d m => decide (over < d - r * m)) (candC g) g.Places.length k (p ++ [v]) else none) = none)) (s := ()) (n := F) ?_ ?_ (fun v hv => by omega) (by omega)
      · rcases H with ⟨q, h3, h4⟩ | ⟨h3, h4⟩
        · simp only [h3, h4, Option.bind_some, Option.elim_some]
        · simp only [h3, h4, Option.bind_some, Option.elim_none]
      · intro m j _ hj hI
        obtain ⟨j1, j2, j3, j4⟩ := c_at h hj
        have hwj : IntKind.i64.wrap ((j : Int) + 1) = ((j + 1 : Nat) : Int) := wrN (by omega)
        have hcand : (bif ((pcs g j).From != (pcs g (lastN p)).To) then some true else (bif (decide ((pcs g j).To < (pcs g (headN p)).From)) then some true else (bif ((pcs g j).To != (pcs g (headN p)).From) then ((spec_l15Visits F g (nl p) (pcs g j).To).bind fun r1190 => some r1190) else some false))) = some (!candC g p j) := by
          rw [j1, j2, l1, f2, neN, neN, ltN, specVisits_is hF h hp.lt (by omega)]
          unfold candC
          rw [hc]
          by_cases c1 : cF g j = cT g (lastN p)
          · by_cases c2 : cT g j < cF g (headN p)
            · rw [dT c1, dT c2, dF (show ¬ cF g (headN p) ≤ cT g j by omega)]; rfl
            · rw [dT c1, dF c2, dT (show cF g (headN p) ≤ cT g j by omega)]
              by_cases c3 : cT g j = cF g (headN p)
              · rw [dT c3]; rfl
              · rw [dF c3]; cases visC g p (cT g j) <;> rfl
          · rw [dF c1]; rfl
        have S : spec_l15Grow_L1 F g (nl p) ⟨r, 1⟩ over (pcs g (headN p)) (pcs g (lastN p)) (spec_l15Grow_rec F k) (m + 1) (j : Int) = bif !candC g p j then spec_l15Grow_L1 F g (nl p) ⟨r, 1⟩ over (pcs g (headN p)) (pcs g (lastN p)) (spec_l15Grow_rec F k) m ((j + 1 : Nat) : Int) else
            (Option.bind ((Option.bind (((spec_l01Own F (nl p)).bind fun r1292 => ((app r1292 ([(j : Int)])).bind fun xs1302 => ((spec_l15Grow_rec F k g xs1302 ⟨r, 1⟩ over).bind fun r1304 => some r1304))) : Option (List Int)) fun xs1262 => (bif (decide (0 < (xs1262.length : Int))) then some (Sum.inl xs1262) else some (Sum.inr ()))) : Option (Sum (List Int) (Unit))) fun r1174 => match r1174 with | .inl x_ => some (Sum.inl x_) | .inr _ => spec_l15Grow_L1 F g (nl p) ⟨r, 1⟩ over (pcs g (headN p)) (pcs g (lastN p)) (spec_l15Grow_rec F k) m ((j + 1 : Nat) : Int)) := by
          simp only [spec_l15Grow_L1, bdT (show (j : Int) < (g.Places.length : Int) by omega), idx_nat, pcs_at hj, Option.bind_some, hcand, hwj]
          cases candC g p j <;> rfl
        show (∃ s', spec_l15Grow_L1 F g (nl p) ⟨r, 1⟩ over (pcs g (headN p)) (pcs g (lastN p)) (spec_l15Grow_rec F k) (m + 1) (j : Int) = _ ∧ _) ∨ _
        cases hcj : candC g p j with
        | false =>
          refine .inl ⟨(), ?_, fun v hv => ?_⟩
          · rw [S, hcj]; rfl
          · by_cases e : v = j
            · subst e; rw [hcj]; rfl
            · exact hI v (by omega)
        | true =>
          have hp' := hp.next hj hcj
          have hown : spec_l01Own F (nl p) = some (nl p) := by
            unfold spec_l01Own
            rw [app_le (by rw [nl_len]; simp only [List.length_nil]; omega)]; rfl
          have happ : app (nl p) [(j : Int)] = some (nl (p ++ [j])) := by
            rw [app_le (by rw [nl_len]; simp only [List.length_singleton]; omega), nl_app]
          have hr := ih (p ++ [j]) hp' (by rw [List.length_append, List.length_singleton]; omega)
          rw [hcj] at S
          simp only [Bool.not_true, cond_false, hown, happ, hr, Option.bind_some] at S
          cases hg : gdfs (accC g fun d m => decide (over < d - r * m)) (candC g) g.Places.length k (p ++ [j]) with
          | none =>
            rw [hg] at S
            refine .inl ⟨(), S.trans rfl, fun v hv => ?_⟩
            by_cases e : v = j
            · subst e; rw [if_pos hcj]; exact hg
            · exact hI v (by omega)
          | some q =>
            rw [hg] at S
            obtain ⟨_, q', hq', _⟩ := gdfs_some hg
            have hlen : 0 < (nl q).length := by rw [nl_len, hq']; simp; omega
            refine .inr (.inl ⟨q, ?_, fs_some hI (by rw [if_pos hcj]; exact hg) hj⟩)
            rw [S]
            exact (congrArg (fun o => Option.bind o _) (bdT (show (0 : Int) < ((nl q).length : Int) by omega))).trans rfl
      · intro m _ hI
        refine .inr ⟨?_, fs_none hI⟩
        simp only [spec_l15Grow_L1, bdF (show ¬ (g.Places.length : Int) < (g.Places.length : Int) by omega)]

def firstC (g : GEventGraph) (good : Int → Int → Bool) (K : Nat) : Option (List Nat) := (List.range g.Places.length).findSome? fun i => if cF g i ≤ cT g i then gdfs (accC g good) (candC g) g.Places.length K [i] else none

theorem specOverC_is {F : Nat} {g : GEventGraph} {r over : Int} (hF : 134217728 ≤ F) (h : graphB g = true) (h0 : 0 ≤ r) (h1 : r ≤ 100000) : spec_l15Over F g ⟨r, 1⟩ over = some ((firstC g (fun d m => decide (over < d - r * m)) F).elim [] nl) := by
  obtain ⟨e1, e2, e3, _, _⟩ := graphB_true h
  unfold spec_l15Over
  have H := for0 (L := fun m (_ : Unit) i => spec_l15Over_L1 F g ⟨r, 1⟩ over m i) (len := g.Places.length) (fun j _ => ∀ v, v < j → (if cF g v ≤ cT g v then gdfs (accC g fun d m => decide (over < d - r * m)) (candC g) g.Places.length F [v] else none) = none)
    (R := fun o => (∃ q, o = some (.inl (nl q)) ∧ firstC g (fun d m => decide (over < d - r * m)) F = some q) ∨ (o = some (.inr ()) ∧ firstC g (fun d m => decide (over < d - r * m)) F = none)) (s := ()) (n := F) ?_ ?_ (fun v h => by omega) (by omega)
  · rcases H with ⟨q, h2, h3⟩ | ⟨h2, h3⟩
    · simp only [h2, h3, Option.bind_some, Option.elim_some]
    · simp only [h2, h3, Option.bind_some, Option.elim_none]
  · intro m j _ hj hI
    obtain ⟨j1, j2, j3, j4⟩ := c_at h hj
    have hwj : IntKind.i64.wrap ((j : Int) + 1) = ((j + 1 : Nat) : Int) := wrN (by omega)
    have hr : spec_l15Grow F g [(j : Int)] ⟨r, 1⟩ over = some ((gdfs (accC g fun d m => decide (over < d - r * m)) (candC g) g.Places.length F [j]).elim [] nl) := specGrowC_is (F := F) hF h h0 h1 F [j] (CircOk.one hj) (by simp only [List.length_singleton]; omega)
    by_cases hc : cT g j < cF g j
    · refine .inl ⟨(), ?_, fun v hv => ?_⟩
      · simp only [spec_l15Over_L1, bdT (show (j : Int) < (g.Places.length : Int) by omega), idx_nat, pcs_at hj, Option.bind_some, j1, j2, bdT (show ((cT g j : Nat) : Int) < (cF g j : Int) by omega), hwj]
      · by_cases e : v = j
        · subst e; rw [if_neg (by omega)]
        · exact hI v (by omega)
    · have S : spec_l15Over_L1 F g ⟨r, 1⟩ over (m + 1) (j : Int) = bif decide (0 < (((gdfs (accC g fun d m => decide (over < d - r * m)) (candC g) g.Places.length F [j]).elim [] nl).length : Int)) then some (.inl ((gdfs (accC g fun d m => decide (over < d - r * m)) (candC g) g.Places.length F [j]).elim [] nl)) else spec_l15Over_L1 F g ⟨r, 1⟩ over m ((j + 1 : Nat) : Int) := by
        simp only [spec_l15Over_L1, bdT (show (j : Int) < (g.Places.length : Int) by omega), idx_nat, pcs_at hj, Option.bind_some, j1, j2, bdF (show ¬ ((cT g j : Nat) : Int) < (cF g j : Int) by omega), hr, hwj]
        cases decide (0 < (((gdfs (accC g fun d m => decide (over < d - r * m)) (candC g) g.Places.length F [j]).elim [] nl).length : Int)) <;> rfl
      cases hg : gdfs (accC g fun d m => decide (over < d - r * m)) (candC g) g.Places.length F [j] with
      | none =>
        refine .inl ⟨(), ?_, fun v hv => ?_⟩
        · rw [S, hg]; rfl
        · by_cases e : v = j
          · subst e; rw [if_pos (by omega)]; exact hg
          · exact hI v (by omega)
      | some q =>
        obtain ⟨_, q', hq', _⟩ := gdfs_some hg
        have hlen : 0 < (nl q).length := by rw [nl_len, hq']; simp
        refine .inr (.inl ⟨q, ?_, fs_some hI (by rw [if_pos (by omega)]; exact hg) hj⟩)
        rw [S, hg]
        exact bdT (by show (0 : Int) < ((nl q).length : Int); omega)
  · intro m _ hI
    refine .inr ⟨?_, fs_none hI⟩
    simp only [spec_l15Over_L1, bdF (show ¬ (g.Places.length : Int) < (g.Places.length : Int) by omega)]

theorem steps_ok {g : GEventGraph} : ∀ {q p : List Nat}, CircOk g p → Steps (candC g) p q → (∀ x, x ∈ q → x < g.Places.length) → CircOk g (p ++ q)
  | [], p, hp, _, _ => by rw [List.append_nil]; exact hp
  | v :: q, p, hp, hs, hq => by
    rw [show p ++ v :: q = (p ++ [v]) ++ q by simp]
    exact steps_ok (hp.next (hq v (by simp)) hs.1) hs.2 (fun x hx => hq x (by simp [hx]))

theorem firstC_some {g : GEventGraph} {good : Int → Int → Bool} {K : Nat} {r : List Nat} (h : firstC g good K = some r) : CircOk g r ∧ closedC g r = true ∧ good (sumD g r) (sumM g r) = true ∧ ∃ i q, r = [i] ++ q ∧ i < g.Places.length ∧ Steps (candC g) [i] q ∧ ∀ x, x ∈ q → x < g.Places.length := by
  obtain ⟨i, hi, h1⟩ := List.exists_of_findSome?_eq_some h
  have hil : i < g.Places.length := by simpa using hi
  by_cases hc : cF g i ≤ cT g i
  · rw [if_pos hc] at h1
    obtain ⟨h2, q, rfl, h3, h4⟩ := gdfs_some h1
    unfold accC at h2
    rw [Bool.and_eq_true] at h2
    exact ⟨steps_ok (CircOk.one hil) h3 h4, h2.1, h2.2, i, q, rfl, hil, h3, h4⟩
  · rw [if_neg hc] at h1; cases h1

theorem steps_pot {g : GEventGraph} {r : Int} {x : Nat → Int} (hx : ∀ p, p ∈ g.Places → x (plF p) + plW r p ≤ x (plT p)) : ∀ {q p : List Nat}, p ≠ [] → x (cF g (headN p)) + (sumD g p - r * sumM g p) ≤ x (cT g (lastN p)) → Steps (candC g) p q → (∀ y, y ∈ q → y < g.Places.length) → x (cF g (headN p)) + (sumD g (p ++ q) - r * sumM g (p ++ q)) ≤ x (cT g (lastN (p ++ q)))
  | [], p, _, h0, _, _ => by rw [List.append_nil]; exact h0
  | v :: q, p, hne, h0, hs, hq => by
    have e : p ++ v :: q = (p ++ [v]) ++ q := by simp
    obtain ⟨_, c2, _, _⟩ := candC_true.1 hs.1
    have h1 := hx _ (pcs_mem (hq v (by simp)))
    have h2 : x (cF g v) + plW r (pcs g v) ≤ x (cT g v) := h1
    have := steps_pot hx (q := q) (p := p ++ [v]) (by simp) (by
      rw [headN_snoc hne, lastN_snoc, sumD_app, sumM_app, sumD_one, sumM_one, Int.mul_add]
      unfold plW at h2
      rw [c2] at h2
      omega) hs.2 (fun y hy => hq y (by simp [hy]))
    rw [headN_snoc hne] at this
    rw [e]; exact this

theorem circ_bound {g : GEventGraph} {r : Int} (h : graphB g = true) (h0 : 0 ≤ r) (h1 : r ≤ 100000) (hn : ¬ PosCyc (wT g r) g.Events.toNat) {good : Int → Int → Bool} {K : Nat} {c : List Nat} (hc : firstC g good K = some c) : sumD g c - r * sumM g c ≤ 0 := by
  obtain ⟨e1, e2, e3, _, _⟩ := graphB_true h
  have hA := wT_arcs h h0 h1
  have hrest := its_rest hA (by omega) ((fwok_iff hA.ok (by omega)).2 hn) (fun _ => 0)
  obtain ⟨_, hx⟩ := chd_false hrest
  obtain ⟨hok, hcl, _, i, q, rfl, hi, hs, hq⟩ := firstC_some hc
  have h2 := hx _ (pcs_mem hi)
  have := steps_pot (g := g) (r := r) hx (q := q) (p := [i]) (by simp) (by
    rw [sumD_one, sumM_one]; exact h2) hs hq
  have hcl' : cT g (lastN ([i] ++ q)) = cF g (headN ([i] ++ q)) := of_decide_eq_true hcl
  have eh : headN ([i] ++ q) = headN [i] := rfl
  rw [hcl', eh] at this
  omega

theorem wT_place {g : GEventGraph} {r : Int} (h : graphB g = true) (h0 : 0 ≤ r) (h1 : r ≤ 100000) {u v : Nat} (ha : wT g r v u ≠ -1000000000000000) : ∃ i, i < g.Places.length ∧ cT g i = v ∧ cF g i = u ∧ (pcs g i).Delay - r * (pcs g i).Tokens = wT g r v u := by
  rcases (wT_arcs h h0 h1).cs v u with e | ⟨p, hp, h2, h3, h4⟩
  · exact absurd e ha
  · obtain ⟨i, hi, rfl⟩ := List.getElem_of_mem hp
    have e : pcs g i = g.Places[i] := by unfold pcs; rw [List.getElem?_eq_getElem hi]; rfl
    exact ⟨i, hi, by unfold cT; rw [e]; exact h2, by unfold cF; rw [e]; exact h3, by rw [e, h4]; rfl⟩

theorem chain_steps {g : GEventGraph} {r : Int} (h : graphB g = true) (h0 : 0 ≤ r) (h1 : r ≤ 100000) {f : Nat} : ∀ (q p : List Nat) (l : Nat) (V : List Nat), p ≠ [] → cT g (lastN p) = l → l ≠ f → cF g (headN p) = f → l ∈ V → (∀ e, e ∉ V → visC g p e = false) → (∀ x, x ∈ q → f < x ∧ x ∉ V) → q.Nodup → Chain (arcB (wT g r)) l q f →
    ∃ ps, Steps (candC g) p ps ∧ closedC g (p ++ ps) = true ∧ (∀ x, x ∈ ps → x < g.Places.length) ∧ sumD g (p ++ ps) - r * sumM g (p ++ ps) = sumD g p - r * sumM g p + cw (wT g r) l q f ∧ ps.length ≤ q.length + 1 := by
  intro q
  induction q with
  | nil =>
    intro p l V hne hl hlf hf _ _ _ _ hc
    obtain ⟨i, hi, i1, i2, i3⟩ := wT_place h h0 h1 (arcB_true.1 hc)
    have hcl : closedC g p = false := by unfold closedC; rw [hl, hf]; exact decide_eq_false hlf
    refine ⟨[i], ⟨candC_true.2 ⟨hcl, by rw [i2, hl], by rw [i1, hf]; exact Nat.le_refl _, .inl (by rw [i1, hf])⟩, trivial⟩, ?_, fun x hx => ?_, ?_, by simp⟩
    · unfold closedC; rw [lastN_snoc, headN_snoc hne, i1, hf]; simp
    · simp only [List.mem_singleton] at hx; subst hx; exact hi
    · rw [sumD_app, sumM_app, sumD_one, sumM_one, Int.mul_add]
      show _ = _ + wT g r f l
      rw [← i3]; omega
  | cons v q ih =>
    intro p l V hne hl hlf hf hlV hvis hq hnd hc
    obtain ⟨i, hi, i1, i2, i3⟩ := wT_place h h0 h1 (arcB_true.1 hc.1)
    have hcl : closedC g p = false := by unfold closedC; rw [hl, hf]; exact decide_eq_false hlf
    obtain ⟨hv1, hv2⟩ := hq v (by simp)
    have hcand : candC g p i = true := candC_true.2 ⟨hcl, by rw [i2, hl], by rw [i1, hf]; omega, .inr (by rw [i1]; exact hvis v hv2)⟩
    rw [List.nodup_cons] at hnd
    obtain ⟨ps, s1, s2, s3, s4, s5⟩ := ih (p ++ [i]) v (v :: V) (by simp) (by rw [lastN_snoc, i1]) (by omega) (by rw [headN_snoc hne, hf]) (by simp) (fun e he => by
        rw [List.mem_cons, not_or] at he
        unfold visC
        rw [List.any_append]
        have := hvis e he.2
        unfold visC at this
        rw [this]
        simp only [List.any_cons, List.any_nil, i1, i2, Bool.or_false, Bool.false_or, Bool.or_eq_false_iff, decide_eq_false_iff_not]
        exact ⟨fun e2 => he.2 (e2 ▸ hlV), fun e2 => he.1 e2.symm⟩) (fun x hx => ⟨(hq x (by simp [hx])).1, fun hm => by
        rcases List.mem_cons.1 hm with rfl | hm
        · exact hnd.1 hx
        · exact (hq x (by simp [hx])).2 hm⟩) hnd.2 hc.2
    refine ⟨i :: ps, ⟨hcand, s1⟩, ?_, fun x hx => ?_, ?_, by simp only [List.length_cons]; omega⟩
    · rw [show p ++ i :: ps = (p ++ [i]) ++ ps by simp]; exact s2
    · rcases List.mem_cons.1 hx with rfl | hx
      · exact hi
      · exact s3 x hx
    · rw [show p ++ i :: ps = (p ++ [i]) ++ ps by simp, s4, sumD_app, sumM_app, sumD_one, sumM_one, Int.mul_add]
      show _ = _ + (wT g r v l + cw (wT g r) v q f)
      rw [← i3]; omega

theorem firstC_none {g : GEventGraph} {r : Int} {K : Nat} (h : graphB g = true) (h0 : 0 ≤ r) (h1 : r ≤ 100000) (hK : 100 ≤ K) (hp : PosCyc (wT g r) g.Events.toNat) : firstC g (fun d m => decide (0 < d - r * m)) K ≠ none := by
  intro hn
  obtain ⟨e1, e2, e3, _, _⟩ := graphB_true h
  obtain ⟨v, q, hv, ⟨q1, q2, q3⟩, hw⟩ := hp
  have hql := nodup_le g.Events.toNat q (List.nodup_cons.1 q2).2 (fun x hx => (q1 x hx).2)
  cases q with
  | nil =>
    obtain ⟨i, hi, i1, i2, i3⟩ := wT_place h h0 h1 (arcB_true.1 q3)
    have h2 := List.findSome?_eq_none_iff.1 hn i (by simpa using hi)
    rw [if_pos (by omega)] at h2
    have h3 := gdfs_none (q := []) h2 (by simp; omega) trivial (fun x hx => (by cases hx))
    rw [List.append_nil] at h3
    have hw' : 0 < wT g r v v := hw
    have hc : closedC g [i] = true := decide_eq_true (show cT g i = cF g i by rw [i1, i2])
    unfold accC at h3
    rw [hc, Bool.true_and] at h3
    have h3 : decide (0 < sumD g [i] - r * sumM g [i]) = false := h3
    rw [sumD_one, sumM_one, i3, dT hw'] at h3
    cases h3
  | cons u q =>
    obtain ⟨i, hi, i1, i2, i3⟩ := wT_place h h0 h1 (arcB_true.1 q3.1)
    have hu := q1 u (by simp)
    have h2 := List.findSome?_eq_none_iff.1 hn i (by simpa using hi)
    rw [if_pos (by omega)] at h2
    have q2' := List.nodup_cons.1 (List.nodup_cons.1 q2).2
    obtain ⟨ps, s1, s2, s3, s4, s5⟩ := chain_steps (g := g) (r := r) h h0 h1 (f := v) q [i] u [u, v] (by simp) i1 (by omega) i2 (by simp) (fun e he => by
        unfold visC
        simp only [List.mem_cons, List.not_mem_nil, or_false, not_or] at he
        simp only [List.any_cons, List.any_nil, i1, i2, Bool.or_false, Bool.or_eq_false_iff, decide_eq_false_iff_not]
        omega) (fun x hx => ⟨(q1 x (by simp [hx])).1, fun hm => by
        simp only [List.mem_cons, List.not_mem_nil, or_false] at hm
        rcases hm with rfl | rfl
        · exact q2'.1 hx
        · have := (q1 x (by simp [hx])).1; omega⟩) q2'.2 q3.2
    have h3 := gdfs_none (q := ps) h2 (by simp only [List.length_cons] at hql; omega) s1 s3
    unfold accC at h3
    have hw' : 0 < wT g r u v + cw (wT g r) u q v := hw
    rw [s2, Bool.true_and] at h3
    have h3 : decide (0 < sumD g ([i] ++ ps) - r * sumM g ([i] ++ ps)) = false := h3
    rw [s4, sumD_one, sumM_one, i3, dT hw'] at h3
    cases h3

/-! ### The program's search for a circuit -/
/-! ### The code of a graph, a timetable and delays -/
/-! ### Tables row by row -/
def plD (g : GEventGraph) (i : Nat) : GPlace := g.Places.getD i ⟨0, 0, 0, 0⟩

theorem plD_of {g : GEventGraph} {k : Nat} (h : k < g.Places.length) : g.Places[k]? = some (plD g k) := by
  unfold plD; rw [List.getD_eq_getElem?_getD, List.getElem?_eq_getElem h]; rfl

/-- the parts of a table that is under way -/
structure DOk (g : GEventGraph) (n : Nat) (pre : List (List Int)) (xs : List Int) : Prop where
  rws : ∀ r, r ∈ pre → r.length = n
  row : xs.length = n
  le : pre.length ≤ 50

theorem DOk.at' {g : GEventGraph} {n : Nat} {pre : List (List Int)} {xs : List Int} (h : DOk g n pre xs) {m : Nat} (hm : m ≤ pre.length) : (pre ++ [xs])[m]? = some ((pre ++ [xs]).getD m []) ∧ ((pre ++ [xs]).getD m []).length = n := by
  have hl : m < (pre ++ [xs]).length := by simp; omega
  have e : (pre ++ [xs])[m]? = some ((pre ++ [xs]).getD m []) := by rw [List.getD_eq_getElem?_getD, List.getElem?_eq_getElem hl]; rfl
  refine ⟨e, ?_⟩
  rcases List.mem_append.1 (List.mem_of_getElem? e) with h1 | h1
  · exact h.rws _ h1
  · simp only [List.mem_singleton] at h1; rw [h1]; exact h.row

structure PlOk (g : GEventGraph) (n : Nat) (i : Nat) : Prop where
  from' : ∃ u : Nat, (plD g i).From = (u : Int) ∧ u < n
  to' : ∃ v : Nat, (plD g i).To = (v : Int) ∧ v < n
  tok : ∃ w : Nat, (plD g i).Tokens = (w : Int) ∧ w ≤ 5

theorem graphB_tok {g : GEventGraph} (h : graphB g = true) : ∀ p, p ∈ g.Places → 0 ≤ p.Tokens ∧ p.Tokens ≤ 5 ∧ 0 ≤ p.Delay ∧ p.Delay ≤ 1000 := by
  intro p hp
  unfold graphB at h
  simp only [Bool.and_eq_true, List.all_eq_true] at h
  have := h.1 p hp
  simp only [placeB, Bool.and_eq_true, inB_true] at this
  omega

theorem PlOk.of {g : GEventGraph} (h : graphB g = true) {i : Nat} (hi : i < g.Places.length) : PlOk g g.Events.toNat i := by
  have hm : plD g i ∈ g.Places := List.mem_of_getElem? (plD_of hi)
  obtain ⟨u, v, h1, h2, h3, h4⟩ := (GOk.of h).at' _ hm
  have := graphB_tok h _ hm
  exact ⟨⟨u, h1, h3⟩, ⟨v, h2, h4⟩, ⟨(plD g i).Tokens.toNat, by omega, by omega⟩⟩


/-! ### The table of delays -/
/-! ### The table of the firing times -/
/-! ### The table of the latest times -/
def lstep (g : GEventGraph) (n k e : Nat) (ms : List (List Int)) (i : Nat) : List (List Int) :=
  bif (plD g i).From == (e : Int) && decide ((k : Int) + (plD g i).Tokens < (n : Int)) then ms.set k ((ms.getD k []).set e (min ((ms.getD k []).getD e 0) (IntKind.i64.wrap ((ms.getD (k + (plD g i).Tokens.toNat) []).getD (plD g i).To.toNat 0 - (plD g i).Delay)))) else ms

structure LOk (g : GEventGraph) (n : Nat) (ms : List (List Int)) : Prop where
  len : ms.length = n
  rws : ∀ r, r ∈ ms → r.length = g.Events.toNat

theorem LOk.at' {g : GEventGraph} {n : Nat} {ms : List (List Int)} (h : LOk g n ms) {m : Nat} (hm : m < n) : ms[m]? = some (ms.getD m []) ∧ (ms.getD m []).length = g.Events.toNat := by
  have hl : m < ms.length := by rw [h.len]; exact hm
  have e : ms[m]? = some (ms.getD m []) := by rw [List.getD_eq_getElem?_getD, List.getElem?_eq_getElem hl]; rfl
  exact ⟨e, h.rws _ (List.mem_of_getElem? e)⟩

theorem LOk.step {g : GEventGraph} {n k e : Nat} {ms : List (List Int)} (h : LOk g n ms) (hk : k < n) (i : Nat) : LOk g n (lstep g n k e ms i) := by
  unfold lstep
  cases ((plD g i).From == (e : Int) && decide ((k : Int) + (plD g i).Tokens < (n : Int))) with
  | false => exact h
  | true =>
    refine ⟨by rw [cond_true, List.length_set]; exact h.len, fun r hr => ?_⟩
    rw [cond_true] at hr
    rcases List.mem_or_eq_of_mem_set hr with h1 | h1
    · exact h.rws r h1
    · rw [h1, List.length_set]; exact (h.at' hk).2

/-! ### Floats -/
/-! ### Firings picked out of a table -/
/-! ### The least of a list -/
theorem min_is {F : Nat} {xs : List Int} (h1 : 1 ≤ xs.length) (hF : xs.length < F) (hl : xs.length ≤ 1048576) : ∃ m, slices_Min_int64 F xs = some m ∧ (m < 0 ↔ ∃ i x, i < xs.length ∧ xs[i]? = some x ∧ x < 0) := by
  have hx0 : xs[0]? = some xs[0] := List.getElem?_eq_getElem (by omega)
  have H := for_ind (L := slices_Min_int64_L1 F xs) xs.length (fun k m => m < 0 ↔ ∃ i x, i < k ∧ xs[i]? = some x ∧ x < 0) (fun o => ∃ m, o = some m ∧ (m < 0 ↔ ∃ i x, i < xs.length ∧ xs[i]? = some x ∧ x < 0)) ?_ ?_ (xs.length - 1) 1 xs[0] F (by omega) ?_ (by omega)
  · obtain ⟨m, e, hm⟩ := H
    refine ⟨m, ?_, hm⟩
    have hz : idx xs 0 = some xs[0] := (idx_nat xs 0).trans hx0
    have e' : slices_Min_int64_L1 F xs F xs[0] 1 = some m := e
    unfold slices_Min_int64
    rw [bdF (show ¬ (xs.length : Int) < 1 by omega), hz, Option.bind_some, e']; rfl
  · intro n k m hk hI
    have hx : xs[k]? = some xs[k] := List.getElem?_eq_getElem hk
    refine .inl ⟨min m xs[k], ?_, ?_⟩
    · simp only [slices_Min_int64_L1, bdT (show (k : Int) < (xs.length : Int) by omega), idx_nat, hx, Option.bind_some, wrN (show k ≤ 67108864 by omega)]
    · constructor
      · intro h
        by_cases hm : m < 0
        · obtain ⟨i, x, h1, h2, h3⟩ := hI.1 hm
          exact ⟨i, x, by omega, h2, h3⟩
        · exact ⟨k, xs[k], by omega, hx, by omega⟩
      · rintro ⟨i, x, h1, h2, h3⟩
        by_cases e : i = k
        · subst e; rw [hx] at h2; cases h2; omega
        · have := hI.2 ⟨i, x, by omega, h2, h3⟩; omega
  · intro n m hI
    exact ⟨m, by simp only [slices_Min_int64_L1, bdF (show ¬ (xs.length : Int) < (xs.length : Int) by omega)], hI⟩
  · constructor
    · intro h; exact ⟨0, xs[0], by omega, hx0, h⟩
    · rintro ⟨i, x, h1, h2, h3⟩
      obtain rfl : i = 0 := by omega
      rw [hx0] at h2; cases h2; exact h3

/-! ### Delays lie in their range -/
def allIn (xs : List Int) : Prop := ∀ i, 0 ≤ xs.getD i 0 ∧ xs.getD i 0 ≤ 1000000

/-! ### When delays are settled -/
/-! ### How far a delay spreads -/
/-- what holds of a row while its round goes on -/
def Spr (pre : List (List Int)) (n e0 : Nat) (N : Int) (ys : List Int) : Prop := allIn ys ∧ ys.length = n ∧ N + 1 ≤ ((pre ++ [ys]).getD 0 []).getD e0 0

theorem Spr.of {pre : List (List Int)} {n e0 : Nat} {N : Int} {ys zs : List Int} (h : Spr pre n e0 N ys) (h1 : allIn zs) (h2 : zs.length = ys.length) (h3 : ∀ q, ys.getD q 0 ≤ zs.getD q 0) : Spr pre n e0 N zs := by
  obtain ⟨a, b, c⟩ := h
  refine ⟨h1, by omega, ?_⟩
  cases pre with
  | nil => have := h3 e0; simp only [List.nil_append, List.getD_cons_zero] at c ⊢; omega
  | cons r pre => exact c

/-! ### The greatest delays -/
/-! ### Tables by blocks -/
def ent (A : List (List Int)) (i j : Nat) : Int := (A.getD i []).getD j 0

def blk (A B C : List (List Int)) (i j : Nat) : Int :=
  if i < A.length then (if j < A.length then ent A i j else -1000000000000000) else if j < A.length then ent C (i - A.length) j else ent B (i - A.length) (j - A.length)


/-! ### The best word -/
def wf (M : Nat) : Nat → List (List Nat)
  | 0 => [[]]
  | l + 1 => (List.range M).flatMap fun m => (wf M l).map (List.cons m)

structure MsOk (ms : List (List (List Int))) (n : Nat) : Prop where
  n1 : 1 ≤ n
  n10 : n ≤ 10
  m1 : 1 ≤ ms.length
  m4 : ms.length ≤ 4
  sq : ∀ m, m ∈ ms → m.length = n ∧ ∀ row, row ∈ m → row.length = n

theorem MsOk.at' {ms : List (List (List Int))} {n m : Nat} (h : MsOk ms n) (hm : m < ms.length) : ms[m]? = some (ms.getD m []) ∧ (ms.getD m []).length = n ∧ ∀ row, row ∈ ms.getD m [] → row.length = n := by
  have e : ms[m]? = some (ms.getD m []) := by rw [List.getD_eq_getElem?_getD, List.getElem?_eq_getElem hm]; rfl
  exact ⟨e, h.sq _ (List.mem_of_getElem? e)⟩

/-! ### Draws -/
structure COk (code : List Int) : Prop where
  len : code.length ≤ 4096
  byte : ∀ x, x ∈ code → 0 ≤ x ∧ x ≤ 255

structure SOk (code : List Int) (p s : Int) : Prop where
  p0 : 0 ≤ p
  p1 : p ≤ (code.length : Int)
  s0 : 0 ≤ s
  s1 : s < 2147483647

theorem next_tot {F : Nat} {code : List Int} {p s n : Int} (hc : COk code) (hs : SOk code p s) : Tot (fun r : Int × Int × Int => SOk code r.2.1 r.2.2 ∧ 0 ≤ r.1 ∧ (r.1 < n ∨ r.1 = 0)) (spec_l01Next F code p s n) := by
  obtain ⟨p0, p1, s0, s1⟩ := hs
  have hcl := hc.len
  unfold spec_l01Next
  refine Tot.cond (fun _ => Tot.pure ⟨⟨p0, p1, s0, s1⟩, Int.le_refl _, .inr rfl⟩) (fun h1 => ?_)
  have hn : ¬ n ≤ 1 := of_decide_eq_false h1
  have w1 : IntKind.i64.wrap (s * 48271) = s * 48271 := wr (by omega) (by omega)
  have w2 : IntKind.i64.wrap (s * 48271 + 59) = s * 48271 + 59 := wr (by omega) (by omega)
  have w3 : (s * 48271 + 59).tmod 2147483647 = (s * 48271 + 59) % 2147483647 := Int.tmod_eq_emod_of_nonneg (by omega)
  rw [w1, w2, w3]
  obtain ⟨u, hu⟩ : ∃ u, u = (s * 48271 + 59) % 2147483647 := ⟨_, rfl⟩
  rw [← hu]
  have u0 : 0 ≤ u := by omega
  have u1 : u < 2147483647 := by omega
  have w4 : u.tdiv 31 = u / 31 := Int.tdiv_eq_ediv_of_nonneg u0
  rw [w4, wr (show -9223372036854775808 ≤ u / 31 by omega) (by omega)]
  refine Tot.bind (P := fun r : Int × Int => 0 ≤ r.1 ∧ r.1 ≤ (code.length : Int) ∧ 0 ≤ r.2) (Tot.cond (fun hp => ?_) (fun _ => Tot.pure ⟨p0, p1, by simp only; omega⟩)) ?_
  · have hp : p < (code.length : Int) := of_decide_eq_true hp
    have w5 : IntKind.i64.wrap (p + 1) = p + 1 := wr (by omega) (by omega)
    have w6 : IntKind.i64.wrap (p + 1 - 1) = p := by rw [wr (by omega) (by omega)]; omega
    refine Tot.bind (idx_tot p0 hp) fun q hq => ?_
    have hq2 := hc.byte q hq
    have w7 : IntKind.i64.wrap q = q := wr (by omega) (by omega)
    rw [w5, w6, w7, wr (show -9223372036854775808 ≤ u / 31 + q by omega) (by omega)]
    refine Tot.bind (P := fun _ => True) (Tot.cond (fun _ => Tot.pure trivial) fun _ => Tot.pure trivial) fun b _ => ?_
    refine Tot.cond (fun _ => Tot.bind (idx_tot p0 hp) fun q2 hq2 => ?_) (fun _ => Tot.pure ⟨by simp only; omega, by simp only; omega, by simp only; omega⟩)
    have hq3 := hc.byte q2 hq2
    exact Tot.pure ⟨by simp only; omega, by simp only; omega, by simp only; rw [wr (by omega) (by omega)]; omega⟩
  · rintro ⟨p', x⟩ ⟨h1, h2, h3⟩
    simp only at h1 h2 h3 ⊢
    rw [if_neg (show ¬ n = 0 by omega)]
    refine ⟨(x.tmod n, p', u), rfl, ⟨h1, h2, u0, u1⟩, Int.tmod_nonneg n h3, .inl (Int.tmod_lt_of_pos x (by omega))⟩

theorem pick_tot {F : Nat} {code list : List Int} {p s : Int} (hc : COk code) (hs : SOk code p s) (hl : 0 < list.length) : Tot (fun r : Int × Int × Int => SOk code r.2.1 r.2.2 ∧ r.1 ∈ list) (spec_l01Pick F code p s list) := by
  unfold spec_l01Pick
  refine Tot.bind (next_tot hc hs) fun r hr => Tot.bind (idx_tot hr.2.1 (by omega)) fun q hq => Tot.pure ⟨hr.1, hq⟩

theorem from_tot {F : Nat} {code : List Int} (hF : 134217728 ≤ F) (hc : COk code) : Tot (fun r : Int × Int => SOk code r.1 r.2) (spec_l01From F code) := by
  have hcl := hc.len
  unfold spec_l01From
  refine Tot.bind (P := fun s : Int => 0 ≤ s ∧ s < 2147483647) ?_ fun s hs => Tot.pure ⟨Int.le_refl _, by simp only; omega, hs.1, hs.2⟩
  refine for0 (L := spec_l01From_L1 F code) (len := min code.length 64) (fun _ s => 0 ≤ s ∧ s < 2147483647) (R := Tot fun s => 0 ≤ s ∧ s < 2147483647) ?_ ?_ (by omega) (by omega)
  · rintro n k s hk ⟨s0, s1⟩
    have hx : code[k]? = some (code[k]'(by omega)) := List.getElem?_eq_getElem _
    have hb := hc.byte _ (List.getElem_mem (show k < code.length by omega))
    generalize code[k]'(by omega) = q at hx hb
    have w1 : IntKind.i64.wrap (s * 67) = s * 67 := wr (by omega) (by omega)
    have w2 : IntKind.i64.wrap q = q := wr (by omega) (by omega)
    have w3 : IntKind.i64.wrap (s * 67 + q) = s * 67 + q := wr (by omega) (by omega)
    have w4 : (s * 67 + q).tmod 2147483647 = (s * 67 + q) % 2147483647 := Int.tmod_eq_emod_of_nonneg (by omega)
    refine .inl ⟨(s * 67 + q) % 2147483647, ?_, by omega⟩
    simp only [spec_l01From_L1, bdT (show (k : Int) < (code.length : Int) by omega), dT (show (k : Int) < 64 by omega), Option.bind_some, cond_true, idx_nat, hx, w1, w2, w3, w4, wrN (show k ≤ 67108864 by omega)]
  · rintro n s hs
    by_cases h : code.length < 64
    · have e : min code.length 64 = code.length := by omega
      simp only [spec_l01From_L1, e, bdF (show ¬ (code.length : Int) < (code.length : Int) by omega), Option.bind_some, cond_false]
      exact Tot.pure hs
    · have e : min code.length 64 = 64 := by omega
      rw [e]
      refine ⟨s, ?_, hs⟩
      by_cases h2 : 64 < code.length
      · simp only [spec_l01From_L1, bdT (show ((64 : Nat) : Int) < (code.length : Int) by omega), dF (show ¬ ((64 : Nat) : Int) < 64 by omega), Option.bind_some, cond_false]
      · simp only [spec_l01From_L1, bdF (show ¬ ((64 : Nat) : Int) < (code.length : Int) by omega), Option.bind_some, cond_false]

theorem l11L1_tot {F : Nat} {code : List Int} {r2 : Int × Int × Int} (hc : COk code) : ∀ (n f : Nat) (p s : Int) (xs : List GPlace), n < f → xs.length + n ≤ 1000 → SOk code p s → Tot (fun r : Int × Int × List GPlace => SOk code r.1 r.2.1 ∧ r.2.2.length ≤ xs.length + n) (spec_l11Draw_L1 F code r2 f p s xs (n : Int)) := by
  intro n
  induction n with
  | zero =>
    intro f p s xs hf hx hs
    obtain ⟨f, rfl⟩ : ∃ q, f = q + 1 := ⟨f - 1, by omega⟩
    simp only [spec_l11Draw_L1, bdF (show ¬ 0 < ((0 : Nat) : Int) by omega)]
    exact Tot.pure ⟨hs, Nat.le_refl _⟩
  | succ n ih =>
    intro f p s xs hf hx hs
    obtain ⟨f, rfl⟩ : ∃ q, f = q + 1 := ⟨f - 1, by omega⟩
    simp only [spec_l11Draw_L1, bdT (show 0 < ((n + 1 : Nat) : Int) by omega)]
    refine Tot.bind (P := fun r : Int × Int × Int × Int × Int => SOk code r.1 r.2.1) (Tot.bind (next_tot hc hs) fun r1 h1 => Tot.bind (next_tot hc h1.1) fun r2 h2 => Tot.bind (next_tot hc h2.1) fun r3 h3 => Tot.pure h3.1) ?_
    rintro ⟨p1, s1, v1, v2, v3⟩ h1
    refine Tot.bind (P := fun r : Int × Int × Bool => SOk code r.1 r.2.1) (Tot.cond (fun _ => Tot.pure h1) (fun _ => Tot.bind (next_tot hc h1) fun r h => Tot.pure h.1)) ?_
    rintro ⟨p2, s2, b⟩ h2
    refine Tot.bind (P := fun r : Int × Int × Int => SOk code r.1 r.2.1) (Tot.cond (fun _ => Tot.bind (next_tot hc h2) fun r h => Tot.bind (next_tot hc h.1) fun r h => Tot.pure h.1) (fun _ => Tot.pure h2)) ?_
    rintro ⟨p3, s3, tk⟩ h3
    refine Tot.bind (next_tot hc h3) fun r h4 => ?_
    refine Tot.bind (P := fun _ => True) (Tot.cond (fun _ => Tot.pure trivial) fun _ => Tot.pure trivial) fun tk2 _ => ?_
    refine Tot.bind (app_tot (by simp; omega)) fun ys hys => ?_
    rw [wr (show -9223372036854775808 ≤ ((n + 1 : Nat) : Int) - 1 by omega) (by omega), show ((n + 1 : Nat) : Int) - 1 = (n : Int) by omega]
    have hyl : ys.length = xs.length + 1 := by rw [hys]; simp
    exact (ih f _ _ ys (by omega) (by omega) h4.1).mono fun r hr => ⟨hr.1, by have := hr.2; omega⟩

theorem l11L2_tot {F : Nat} {code : List Int} (hc : COk code) : ∀ (d k f : Nat) (p s : Int) (xs : List GPlace), k + d = 31 → d < f → xs.length + d ≤ 1000 → SOk code p s → Tot (fun r : Int × Int × List GPlace => SOk code r.1 r.2.1 ∧ r.2.2.length ≤ xs.length + d) (spec_l11Draw_L2 F code f p s xs (k : Int)) := by
  intro d
  induction d with
  | zero =>
    intro k f p s xs hk hf hx hs
    obtain ⟨f, rfl⟩ : ∃ q, f = q + 1 := ⟨f - 1, by omega⟩
    simp only [spec_l11Draw_L2]
    refine Tot.bind (next_tot hc hs) fun r h => ?_
    rw [wr (show -9223372036854775808 ≤ 22 + r.1 by omega) (by omega), bdF (by omega)]
    exact Tot.pure ⟨h.1, Nat.le_refl _⟩
  | succ d ih =>
    intro k f p s xs hk hf hx hs
    obtain ⟨f, rfl⟩ : ∃ q, f = q + 1 := ⟨f - 1, by omega⟩
    simp only [spec_l11Draw_L2]
    refine Tot.bind (next_tot hc hs) fun r h => Tot.cond (fun _ => ?_) (fun _ => Tot.pure ⟨h.1, by simp only; omega⟩)
    refine Tot.bind (app_tot (by simp; omega)) fun ys hys => ?_
    rw [wrN (show k ≤ 67108864 by omega)]
    have hyl : ys.length = xs.length + 1 := by rw [hys]; simp
    exact (ih (k + 1) f _ _ ys (by omega) (by omega) (by omega) h.1).mono fun r hr => ⟨hr.1, by have := hr.2; omega⟩

theorem l11Draw_tot {F : Nat} {code : List Int} {p s : Int} (hF : 134217728 ≤ F) (hc : COk code) (hs : SOk code p s) : Tot (fun r : GEventGraph × Int × Int => SOk code r.2.1 r.2.2 ∧ r.1.Places.length ≤ 100 ∧ 0 ≤ r.1.Events ∧ r.1.Events ≤ 11) (spec_l11Draw F code p s) := by
  unfold spec_l11Draw
  refine Tot.bind (next_tot hc hs) fun r1 h1 => Tot.bind (next_tot hc h1.1) fun r2 h2 => ?_
  have hE : IntKind.i64.wrap (1 + r1.1) = 1 + r1.1 := wr (by omega) (by omega)
  rw [hE]
  obtain ⟨m, hm⟩ : ∃ m : Nat, r2.1 = (m : Int) := ⟨r2.1.toNat, by omega⟩
  rw [hm]
  refine Tot.bind (l11L1_tot hc m F _ _ [] (by omega) (by simp; omega) h2.1) ?_
  rintro ⟨p3, s3, xs⟩ ⟨h3, hx⟩
  simp only [List.length_nil] at h3 hx ⊢
  refine Tot.bind (next_tot hc h3) fun r4 h4 => ?_
  refine Tot.cond (fun _ => Tot.bind (pick_tot hc h4.1 (by decide)) fun r5 h5 => Tot.pure ⟨h5.1, by simp only; omega, ?_⟩) fun _ => ?_
  · have := h5.2
    simp only [List.mem_cons, List.not_mem_nil, or_false] at this
    simp only
    omega
  refine Tot.cond (fun _ => ?_) fun _ => ?_
  · refine Tot.bind (P := fun r : Int × Int × List GPlace => SOk code r.1 r.2.1 ∧ r.2.2.length ≤ 60) (Tot.bind (pick_tot hc h4.1 (by simp)) fun r5 h5 => Tot.bind (pick_tot hc h5.1 (by decide)) fun r6 h6 => Tot.bind (app_tot (by simp; omega)) fun ys hys => Tot.pure ⟨h6.1, by simp only [hys, List.length_append, List.length_singleton]; omega⟩) ?_
    rintro ⟨p7, s7, ys⟩ ⟨h7, hy⟩
    exact Tot.pure ⟨h7, by simp only at hy ⊢; omega, by simp only; omega, by simp only; omega⟩
  refine Tot.cond (fun _ => ?_) fun _ => ?_
  · refine Tot.bind (pick_tot hc h4.1 (by decide)) fun r5 h5 => Tot.bind (app_tot (by simp; omega)) fun ys hys => Tot.pure ⟨h5.1, by simp only [hys, List.length_append, List.length_singleton]; omega, by simp only; omega, by simp only; omega⟩
  refine Tot.cond (fun _ => ?_) fun _ => Tot.pure ⟨h4.1, by simp only; omega, by simp only; omega, by simp only; omega⟩
  refine Tot.bind (l11L2_tot hc 31 0 F _ _ xs (by omega) (by omega) (by omega) h4.1) ?_
  rintro ⟨p7, s7, ys⟩ ⟨h7, hy⟩
  exact Tot.pure ⟨h7, by simp only at hy ⊢; omega, by simp only; omega, by simp only; omega⟩

theorem l15Draw_tot {F : Nat} {code : List Int} {p s : Int} (hF : 134217728 ≤ F) (hc : COk code) (hs : SOk code p s) : Tot (fun r : GEventGraph × Int × Int => SOk code r.2.1 r.2.2 ∧ r.1.Places.length ≤ 100 ∧ 0 ≤ r.1.Events ∧ r.1.Events ≤ 11) (spec_l15Draw F code p s) := by
  unfold spec_l15Draw
  refine Tot.bind (l11Draw_tot hF hc hs) fun r h => ?_
  by_cases hp : 20 < (r.1.Places.length : Int)
  · rw [bdT hp, Option.bind_some]
    refine Tot.bind (P := fun ys : List GPlace => ys.length ≤ 100) (Tot.cond (fun _ => Tot.bind (cutTo_tot (by decide) (by omega)) fun ys hy => Tot.pure (by omega)) fun _ => Tot.pure h.2.1) fun ys hy => Tot.pure ⟨h.1, hy, h.2.2⟩
  · rw [bdF hp, Option.bind_some]
    exact Tot.pure ⟨h.1, h.2.1, h.2.2⟩

theorem l12L1_tot {F : Nat} {code : List Int} (hc : COk code) : ∀ (d k f : Nat) (p s : Int) (xs : List GPlace), k + d = 9 → d < f → SOk code p s → Tot (fun r : Int × Int × List GPlace => SOk code r.1 r.2.1 ∧ r.2.2.length = xs.length) (spec_l12Draw_L1 F code f p s xs (k : Int)) := by
  intro d
  induction d with
  | zero =>
    intro k f p s xs hk hf hs
    obtain ⟨f, rfl⟩ : ∃ q, f = q + 1 := ⟨f - 1, by omega⟩
    simp only [spec_l12Draw_L1, dF (show ¬ (k : Int) < 9 by omega)]
    refine Tot.bind (P := fun b : Bool => b = false) (Tot.cond (fun _ => Tot.pure rfl) fun _ => Tot.pure rfl) fun b hb => ?_
    subst hb
    exact Tot.pure ⟨hs, rfl⟩
  | succ d ih =>
    intro k f p s xs hk hf hs
    obtain ⟨f, rfl⟩ : ∃ q, f = q + 1 := ⟨f - 1, by omega⟩
    simp only [spec_l12Draw_L1]
    by_cases hx : (k : Int) < (xs.length : Int)
    · rw [bdT hx, dT (show (k : Int) < 9 by omega), Option.bind_some, cond_true, wrN (show k ≤ 67108864 by omega)]
      refine Tot.bind (next_tot hc hs) fun r h => Tot.cond (fun _ => ?_) fun _ => ih (k + 1) f _ _ xs (by omega) (by omega) h.1
      refine Tot.bind (idx_tot (by omega) hx) fun q _ => Tot.bind (upd_tot (by omega) hx) fun ys hy => ?_
      exact (ih (k + 1) f _ _ ys (by omega) (by omega) h.1).mono fun r hr => ⟨hr.1, by rw [hr.2, hy]⟩
    · rw [bdF hx, Option.bind_some, cond_false]
      exact Tot.pure ⟨hs, rfl⟩

theorem l12Draw_tot {F : Nat} {code : List Int} {p s : Int} (hF : 134217728 ≤ F) (hc : COk code) (hs : SOk code p s) : Tot (fun r : GEventGraph × Int × Int => SOk code r.2.1 r.2.2 ∧ r.1.Places.length ≤ 100 ∧ 0 ≤ r.1.Events ∧ r.1.Events ≤ 11) (spec_l12Draw F code p s) := by
  unfold spec_l12Draw
  refine Tot.bind (l11Draw_tot hF hc hs) fun r h => Tot.bind (l12L1_tot hc 9 0 F _ _ _ (by omega) (by omega) h.1) ?_
  rintro ⟨p1, s1, ys⟩ ⟨h1, hy⟩
  exact Tot.pure ⟨h1, by simp only at hy ⊢; omega, h.2.2⟩

theorem l20DrawPeriod_tot {F : Nat} {code : List Int} {p s : Int} (hF : 134217728 ≤ F) (hc : COk code) (hs : SOk code p s) (hLP : ∀ g : GEventGraph, g.Places.length ≤ 1048576 → Tot (fun _ => True) (spec_LeastPeriod F g)) : Tot (fun r : (GEventGraph × Int) × Int × Int => SOk code r.2.1 r.2.2 ∧ r.1.1.Places.length ≤ 100 ∧ 0 ≤ r.1.1.Events ∧ r.1.1.Events ≤ 11) (spec_l20DrawPeriod F code p s) := by
  unfold spec_l20DrawPeriod
  refine Tot.bind (l15Draw_tot hF hc hs) fun r1 h1 => Tot.bind (next_tot hc h1.1) fun r2 h2 => ?_
  refine Tot.bind (P := fun r : Int × Int × Int × List GPlace => SOk code r.1 r.2.1 ∧ r.2.2.2.length ≤ 100 ∧ 0 ≤ r.2.2.1 ∧ r.2.2.1 ≤ 11) (Tot.cond (fun _ => ?_) fun _ => Tot.pure ⟨h2.1, h1.2⟩) ?_
  · refine Tot.bind (l12Draw_tot hF hc h2.1) fun r h => ?_
    by_cases hp : 20 < (r.1.Places.length : Int)
    · rw [bdT hp, Option.bind_some]
      exact Tot.cond (fun _ => Tot.bind (cutTo_tot (by decide) (by omega)) fun ys hy => Tot.pure ⟨h.1, by simp only; omega, h.2.2⟩) fun _ => Tot.pure ⟨h.1, h.2⟩
    · rw [bdF hp, Option.bind_some]
      exact Tot.pure ⟨h.1, h.2⟩
  rintro ⟨p3, s3, E, xs⟩ ⟨h3, hx⟩
  simp only at hx ⊢
  refine Tot.bind (hLP ⟨E, xs⟩ (by simp only; omega)) fun r4 _ => ?_
  refine Tot.bind (P := fun r : Int × Int × Bool => SOk code r.1 r.2.1) (Tot.cond (fun _ => Tot.pure h3) fun _ => Tot.bind (next_tot hc h3) fun r h => Tot.pure h.1) ?_
  rintro ⟨p5, s5, b⟩ h5
  refine Tot.cond (fun _ => ?_) fun _ => Tot.bind (next_tot hc h5) fun r h => Tot.pure ⟨h.1, hx⟩
  refine Tot.bind (P := fun r : Int × Int × Int × List GPlace × Int => SOk code r.1 r.2.1 ∧ r.2.2.2.1.length ≤ 100 ∧ 0 ≤ r.2.2.1 ∧ r.2.2.1 ≤ 11) (Tot.bind (next_tot hc h5) fun r1 h1 => Tot.bind (next_tot hc h1.1) fun r2 h2 => Tot.bind (next_tot hc h2.1) fun r3 h3 => Tot.bind (pick_tot hc h3.1 (by decide)) fun r4 h4 => Tot.bind (pick_tot hc h4.1 (by simp)) fun r5 h5 => Tot.pure ⟨h5.1, hx⟩) ?_
  rintro ⟨p6, s6, E6, xs6, v⟩ ⟨h6, hx6⟩
  exact Tot.pure ⟨h6, hx6⟩

def FeasS (g : GEventGraph) (r : Int) : Prop := ¬ PosCyc (wT g r) g.Events.toNat

def LeastOkS (g : GEventGraph) (x : Int) : Prop := 0 ≤ x ∧ x ≤ 10000 ∧ FeasS g x ∧ ∀ r, 0 ≤ r → r ≤ 100000 → FeasS g r → x ≤ r


theorem ceilS_is {F : Nat} {d m : Int} (hd : 0 ≤ d) (hd1 : d ≤ 10000) (hm : 1 ≤ m) (_ : m ≤ 1000) : ∃ c, spec_l01Ceil F d m = some c ∧ d ≤ c * m ∧ (c - 1) * m < d := by
  unfold spec_l01Ceil spec_l01Floor
  rw [wr (show -9223372036854775808 ≤ 0 - d by omega) (by omega)]
  have hne : ¬ m = 0 := by omega
  have e1 : m * (0 - d).tdiv m + (0 - d).tmod m = 0 - d := Int.mul_tdiv_add_tmod (0 - d) m
  have e2 : (0 - d).tmod m < m := Int.tmod_lt_of_pos _ (by omega)
  have e3 : -m < (0 - d).tmod m := Int.lt_tmod_of_pos _ (by omega)
  have e4 : ((0 - d).tdiv m).natAbs ≤ (0 - d).natAbs := by
    rw [Int.natAbs_tdiv]; exact Nat.div_le_self _ _
  generalize (0 - d).tdiv m = q at *
  generalize (0 - d).tmod m = t at *
  have hq0 : -10000 ≤ q ∧ q ≤ 10000 := by omega
  simp only [if_neg hne, Option.bind_some]
  have e5 : q * m = m * q := Int.mul_comm _ _
  by_cases ht : t < 0
  · refine ⟨-(q - 1), ?_, ?_, ?_⟩
    · rw [bdT ht, wr (show -9223372036854775808 ≤ q by omega) (by omega), wr (by omega) (by omega)]
      show some (IntKind.i64.wrap (0 - (q - 1))) = some (-(q - 1))
      rw [wr (by omega) (by omega)]
      exact congrArg some (by omega)
    · have : -(q - 1) * m = -(m * q) + m := by rw [Int.neg_mul, Int.sub_mul, e5]; omega
      omega
    · have : (-(q - 1) - 1) * m = -(m * q) := by rw [show -(q - 1) - 1 = -q by omega, Int.neg_mul, e5]
      omega
  · refine ⟨-q, ?_, ?_, ?_⟩
    · rw [bdF ht, wr (show -9223372036854775808 ≤ q by omega) (by omega)]
      show some (IntKind.i64.wrap (0 - q)) = some (-q)
      rw [wr (by omega) (by omega)]
      exact congrArg some (by omega)
    · have : -q * m = -(m * q) := by rw [Int.neg_mul, e5]
      omega
    · have : (-q - 1) * m = -(m * q) - m := by rw [Int.sub_mul, Int.neg_mul, e5]; omega
      omega


theorem lpS_loop {F : Nat} {g : GEventGraph} (hF : 134217728 ≤ F) (h : graphB g = true) : ∀ (n : Nat) (x : Int), 0 ≤ x → x ≤ 10000 → 10001 - x < (n : Int) → (∀ r, 0 ≤ r → r ≤ 100000 → FeasS g r → x ≤ r) →
    (∃ y, spec_LeastPeriod_L1 F g n x = some (.inl (y, 0)) ∧ LeastOkS g y) ∨ (spec_LeastPeriod_L1 F g n x = some (.inr ()) ∧ ∀ r, 0 ≤ r → r ≤ 100000 → ¬ FeasS g r) := by
  obtain ⟨e1, e2, e3, _, _⟩ := graphB_true h
  intro n
  induction n with
  | zero => intro x h0 h1 hn; omega
  | succ n ih =>
    intro x h0 h1 hn hx
    unfold spec_LeastPeriod_L1
    simp only [bdT (show x ≤ 100000 by omega), specOverC_is (over := 0) hF h h0 (show x ≤ 100000 by omega), Option.bind_some]
    cases hc : firstC g (fun d m => decide (0 < d - x * m)) F with
    | none =>
      refine .inl ⟨x, rfl, h0, h1, fun hp => ?_, hx⟩
      exact firstC_none h h0 (by omega) (by omega) hp hc
    | some c =>
      obtain ⟨hok, _, hg, _⟩ := firstC_some hc
      have h2 : 0 < sumD g c - x * sumM g c := of_decide_eq_true hg
      have hb := sums_bd h c hok.lt
      have hl := hok.short h
      have hlen : ((nl c).length : Int) ≠ 0 := by
        have := List.length_pos_iff.2 hok.ne
        rw [nl_len]; omega
      simp only [Option.elim_some, beq_false_of_ne hlen, cond_false, specSums_is hF h hok.lt (by omega), Option.bind_some]
      by_cases hm : sumM g c = 0
      · right
        refine ⟨by rw [hm]; rfl, fun r r0 r1 hf => ?_⟩
        have := circ_bound h r0 r1 hf hc
        rw [hm] at this h2
        omega
      · rw [beq_false_of_ne hm, cond_false]
        obtain ⟨y, hy, y1, y2⟩ := ceilS_is (F := F) (d := sumD g c) (m := sumM g c) (by omega) (by omega) (by omega) (by omega)
        rw [hy, Option.bind_some]
        have hyx : x < y := by
          refine Int.lt_of_not_ge fun hle => ?_
          have : y * sumM g c ≤ x * sumM g c := Int.mul_le_mul_of_nonneg_right hle (by omega)
          omega
        have hy3 : y ≤ 10000 := by
          refine Int.le_of_not_gt fun hlt => ?_
          have : 10000 * sumM g c ≤ (y - 1) * sumM g c := Int.mul_le_mul_of_nonneg_right (by omega) (by omega)
          omega
        refine ih y (by omega) hy3 (by omega) fun r r0 r1 hf => ?_
        have h3 := circ_bound h r0 r1 hf hc
        refine Int.le_of_not_gt fun hlt => ?_
        have : r * sumM g c ≤ (y - 1) * sumM g c := Int.mul_le_mul_of_nonneg_right (by omega) (by omega)
        omega


theorem lpS_tot {F : Nat} {g : GEventGraph} (hF : 134217728 ≤ F) (h : g.Places.length ≤ 1048576) : Tot (fun _ => True) (spec_LeastPeriod F g) := by
  unfold spec_LeastPeriod
  rw [specGraph_is hF h, Option.bind_some]
  cases hg : graphB g with
  | false => exact Tot.pure trivial
  | true =>
    simp only [Bool.not_true, cond_false]
    rcases lpS_loop hF hg F 0 (by omega) (by omega) (by omega) (fun r r0 _ _ => r0) with ⟨y, hy, _⟩ | ⟨hy, _⟩
    · rw [hy]; exact Tot.pure trivial
    · rw [hy]; exact Tot.pure trivial

/-! ### The equations of the latest times -/
/-! ### The firing times, with their code -/
end Go.Proofs.Ytebmlphobgaboab
