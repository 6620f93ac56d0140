/- Plain lemmas about the small functions of the laws. -/
import Derived.Test.YtgkgimglgjfcjaaReversedModels
import Derived.Test.YtgkgimglgjfcjaaBf
namespace Go.Proofs.Ytgkgimglgjfcjaa

theorem slices_IndexFunc_Place_is {F : Nat} {ps : List GPlace} {m : GPlace → Option Bool} {h : GPlace → Bool} (hF : 134217728 ≤ F) (hl : ps.length ≤ 16777216) (hm : ∀ x, x ∈ ps → m x = some (h x)) :
    slices_IndexFunc_Place F ps m = some (firstAt (ps.findIdx? h)) := by
  unfold slices_IndexFunc_Place
  rw [find_loop (ps := ps) (h := h) (v := fun k => (k : Int)) (L := slices_IndexFunc_Place_L1 F ps m) ?_ ?_ (by omega)]
  · cases ps.findIdx? h <;> rfl
  · intro n k x hk hx
    simp only [slices_IndexFunc_Place_L1, bdT (show (k : Int) < (ps.length : Int) by omega), idx_nat, hx, Option.bind_some, hm x (List.mem_of_getElem? hx), wrN (show k ≤ 67108864 by omega)]
  · intro n
    simp only [slices_IndexFunc_Place_L1, bdF (show ¬ (ps.length : Int) < (ps.length : Int) by omega)]
theorem slices_ContainsFunc_Place_is {F : Nat} {ps : List GPlace} {m : GPlace → Option Bool} {h : GPlace → Bool} (hF : 134217728 ≤ F) (hl : ps.length ≤ 16777216) (hm : ∀ x, x ∈ ps → m x = some (h x)) :
    slices_ContainsFunc_Place F ps m = some (ps.any h) := by
  unfold slices_ContainsFunc_Place
  rw [bind_of (slices_IndexFunc_Place_is hF hl hm), find_any]

/-! ### What comes to an end -/
def Tot {α : Type} (P : α → Prop) (o : Option α) : Prop := ∃ x, o = some x ∧ P x

theorem Tot.pure {α : Type} {P : α → Prop} {x : α} (h : P x) : Tot P (some x) := ⟨x, rfl, h⟩

theorem Tot.bind {α β : Type} {P : α → Prop} {Q : β → Prop} {o : Option α} {f : α → Option β} (h : Tot P o) (k : ∀ x, P x → Tot Q (f x)) : Tot Q (o.bind f) := by
  obtain ⟨x, rfl, hx⟩ := h; exact k x hx

theorem Tot.cond {α : Type} {P : α → Prop} {b : Bool} {x y : Option α} (h1 : b = true → Tot P x) (h2 : b = false → Tot P y) : Tot P (bif b then x else y) := by
  cases b
  · exact h2 rfl
  · exact h1 rfl

theorem Tot.mono {α : Type} {P Q : α → Prop} {o : Option α} (h : Tot P o) (k : ∀ x, P x → Q x) : Tot Q o := by
  obtain ⟨x, e, hx⟩ := h; exact ⟨x, e, k x hx⟩

theorem app_tot {α : Type} {xs ys : List α} (h : xs.length + ys.length ≤ 67108864) : Tot (fun zs => zs = xs ++ ys) (app xs ys) := ⟨_, app_le h, rfl⟩

theorem idx_tot {α : Type} {xs : List α} {i : Int} (h0 : 0 ≤ i) (h1 : i < (xs.length : Int)) : Tot (fun x => x ∈ xs) (idx xs i) := ⟨_, idx_int h0 h1, List.getElem_mem _⟩

theorem upd_tot {α : Type} {xs : List α} {i : Int} {x : α} (h0 : 0 ≤ i) (h1 : i < (xs.length : Int)) : Tot (fun ys => ys.length = xs.length) (upd xs i x) := ⟨_, upd_int x h0 h1, List.length_set⟩

/-- how many numbers stand in the first i rows -/
def offR (rows : List (List Int)) (i : Nat) : Nat := ((rows.take i).map List.length).sum

/-! ### Slices of matrices -/
def wtM (m : List (List Int)) : Nat := m.length + offR m m.length

def offW (ms : List (List (List Int))) (i : Nat) : Nat := ((ms.take i).map wtM).sum

def offD (ms : List (List (List Int))) (i : Nat) : Nat := ((ms.take i).map fun m => offR m m.length).sum

theorem offW_succ {ms : List (List (List Int))} {i : Nat} {m : List (List Int)} (h : ms[i]? = some m) : offW ms (i + 1) = offW ms i + wtM m := by
  unfold offW
  rw [List.take_add_one, h]; simp

theorem offD_succ {ms : List (List (List Int))} {i : Nat} {m : List (List Int)} (h : ms[i]? = some m) : offD ms (i + 1) = offD ms i + offR m m.length := by
  unfold offD
  rw [List.take_add_one, h]; simp

theorem offD_le (ms : List (List (List Int))) : ∀ i, offD ms i ≤ offW ms i
  | 0 => Nat.le_refl _
  | i + 1 => by
    have := offD_le ms i
    cases h : ms[i]? with
    | none =>
      have e1 : offW ms (i + 1) = offW ms i := by unfold offW; rw [List.take_add_one, h]; simp
      have e2 : offD ms (i + 1) = offD ms i := by unfold offD; rw [List.take_add_one, h]; simp
      omega
    | some m =>
      rw [offW_succ h, offD_succ h]
      unfold wtM; omega

def inB (n lo hi : Int) : Bool := decide (lo ≤ n) && decide (n ≤ hi)

theorem inB_true {n lo hi : Int} : inB n lo hi = true ↔ lo ≤ n ∧ n ≤ hi := by unfold inB; simp

theorem inB_false {n lo hi : Int} (h : ¬ (lo ≤ n ∧ n ≤ hi)) : inB n lo hi = false := by
  cases e : inB n lo hi with
  | false => rfl
  | true => exact absurd (inB_true.1 e) h

theorem specIn_is {F : Nat} {n lo hi : Int} : spec_l01In F n lo hi = some (inB n lo hi) := by
  simp only [spec_l01In, cond_and, Option.bind_some]; rfl

theorem within_is {F : Nat} {n lo hi : Int} : impl_within F n lo hi = some (inB n lo hi) := by
  simp only [impl_within, cond_and, Option.bind_some]; rfl


theorem implAllWithin_is {F : Nat} {xs : List Int} {lo hi : Int} (hF : 134217728 ≤ F) (hl : xs.length ≤ 1048576) : impl_allWithin F xs lo hi = some (xs.all fun x => inB x lo hi) := by
  unfold impl_allWithin
  rw [all_loop (ps := xs) (g := fun x => inB x lo hi) (r := false) (L := impl_allWithin_L1 F xs lo hi) ?_ ?_ (by omega)]
  · cases (xs.all fun x => inB x lo hi) <;> rfl
  · intro n k x hk hx
    simp only [impl_allWithin_L1, bdT (show (k : Int) < (xs.length : Int) by omega), idx_nat, hx, Option.bind_some, within_is, condn, wrN (show k ≤ 67108864 by omega)]
  · intro n
    simp only [impl_allWithin_L1, bdF (show ¬ (xs.length : Int) < (xs.length : Int) by omega)]

/-! ### Values and vectors -/
def valB (a : Int) : Bool := (a == (-1000000000000000)) || inB a (-1000000) 1000000

/-! ### Sums of the algebra -/
/-! ### Lists of finite numbers -/
def vecB (x : List Int) : Bool := inB x.length 1 10 && x.all valB

def firstL (a : List (List Int)) : Int := ((a.getD 0 []).length : Int)

def matB (a : List (List Int)) : Bool := inB a.length 1 10 && a.all (fun row => vecB row && ((row.length : Int) == firstL a))

def squareB (a : List (List Int)) : Bool := matB a && ((a.length : Int) == firstL a)

/-! ### Matrices by their entries -/
def tabM (m n : Nat) (f : Nat → Nat → Int) : List (List Int) := (List.range m).map fun i => (List.range n).map fun j => f i j

theorem tabM_row {m n i : Nat} {f : Nat → Nat → Int} (h : i < m) : (tabM m n f)[i]? = some ((List.range n).map fun j => f i j) := by
  unfold tabM; rw [List.getElem?_map, List.getElem?_range h]; rfl

theorem row_of {n : Nat} {f : Nat → Int} {r : List Int} (hl : r.length = n) (h : ∀ j, j < n → r[j]? = some (f j)) : r = (List.range n).map f := by
  apply List.ext_getElem?; intro q
  by_cases hq : q < n
  · rw [h q hq, List.getElem?_map, List.getElem?_range hq]; rfl
  · rw [List.getElem?_eq_none (by omega), List.getElem?_eq_none (by simp; omega)]

theorem specBotM_is {F m n : Nat} (hF : 134217728 ≤ F) (hm : m ≤ 1048576) (hn : n ≤ 1048576) : spec_l02Bottom F (m : Int) (n : Int) = some (tabM m n fun _ _ => (-1000000000000000)) := by
  unfold spec_l02Bottom
  rw [tab_loop (len := m) (f := fun _ => (List.range n).map fun _ => (-1000000000000000)) (L := spec_l02Bottom_L4 F (m : Int) (n : Int)) ?_ ?_ (by omega)]
  · rfl
  · intro k xs j hj hx
    have inner : spec_l02Bottom_L5 F (n : Int) F [] 0 = some ((List.range n).map fun _ => (-1000000000000000)) := by
      refine tab_loop (len := n) (f := fun _ => (-1000000000000000)) (L := spec_l02Bottom_L5 F (n : Int)) ?_ ?_ (by omega)
      · intro k xs j hj hx
        simp only [spec_l02Bottom_L5, bdT (show (j : Int) < (n : Int) by omega), app_le (show xs.length + [(-1000000000000000 : Int)].length ≤ 67108864 by simp only [List.length_singleton]; omega), Option.bind_some, wrN (show j ≤ 67108864 by omega)]
      · intro k xs _
        simp only [spec_l02Bottom_L5, bdF (show ¬ (n : Int) < (n : Int) by omega)]
    simp only [spec_l02Bottom_L4, bdT (show (j : Int) < (m : Int) by omega), inner, app_le (show xs.length + [(List.range n).map fun _ => (-1000000000000000 : Int)].length ≤ 67108864 by simp only [List.length_singleton]; omega), Option.bind_some, wrN (show j ≤ 67108864 by omega)]
  · intro k xs _
    simp only [spec_l02Bottom_L4, bdF (show ¬ (m : Int) < (m : Int) by omega)]

/-! ### Products -/
/-! ### Modes -/
def firstN (ms : List (List (List Int))) : Int := ((ms.getD 0 []).length : Int)

def modesB (ms : List (List (List Int))) : Bool := inB ms.length 1 4 && ms.all fun m => squareB m && ((m.length : Int) == firstN ms)

/-- all matrices are squares of one size -/
theorem modesB_true {ms : List (List (List Int))} (h : modesB ms = true) : ∃ n : Nat, (ms.getD 0 []).length = n ∧ 1 ≤ n ∧ n ≤ 10 ∧ 1 ≤ ms.length ∧ ms.length ≤ 4 ∧ ∀ m, m ∈ ms → m.length = n ∧ ∀ row, row ∈ m → row.length = n := by
  unfold modesB at h
  rw [Bool.and_eq_true, inB_true, List.all_eq_true] at h
  have hm : ms.getD 0 [] ∈ ms := by
    rw [List.getD_eq_getElem?_getD, List.getElem?_eq_getElem (show 0 < ms.length by omega)]; exact List.getElem_mem _
  have sq : ∀ m, squareB m = true → 1 ≤ m.length ∧ m.length ≤ 10 ∧ ∀ row, row ∈ m → row.length = m.length := by
    intro m hs
    unfold squareB matB at hs
    simp only [Bool.and_eq_true, inB_true, beq_iff_eq, List.all_eq_true] at hs
    refine ⟨by omega, by omega, fun row hrow => ?_⟩
    have := (hs.1.2 row hrow).2
    omega
  have h0 := h.2 _ hm
  rw [Bool.and_eq_true] at h0
  obtain ⟨a1, a2, _⟩ := sq _ h0.1
  refine ⟨_, rfl, a1, a2, by omega, by omega, fun m hmm => ?_⟩
  have h2 := h.2 m hmm
  rw [Bool.and_eq_true, beq_iff_eq] at h2
  unfold firstN at h2
  obtain ⟨_, _, b3⟩ := sq _ h2.1
  exact ⟨by omega, fun row hrow => by rw [b3 row hrow]; omega⟩

/-! ### Shifted vectors, sums of matrices -/
/-! ### Sums of matrices -/
/-! ### Sums of matrices, by the reference -/
/-! ### Tables by their entries -/
/-! ### Tables of arcs -/
def arcT {α : Type} (t f : α → Nat) (w : α → Int) : List α → Nat → Nat → Int
  | l => fun i j => l.foldl (fun acc x => if t x = i ∧ f x = j then max acc (w x) else acc) (-1000000000000000)

theorem arcT_le {α : Type} {t f : α → Nat} {w : α → Int} : ∀ (l : List α) (a0 : Int) (i j : Nat), a0 ≤ l.foldl (fun acc x => if t x = i ∧ f x = j then max acc (w x) else acc) a0
  | [], a0, _, _ => Int.le_refl _
  | x :: l, a0, i, j => by
    rw [List.foldl_cons]
    by_cases h : t x = i ∧ f x = j
    · rw [if_pos h]; exact Int.le_trans (by omega) (arcT_le l _ i j)
    · rw [if_neg h]; exact arcT_le l a0 i j

theorem arcT_ge' {α : Type} {t f : α → Nat} {w : α → Int} : ∀ (l : List α) (a0 : Int) (x : α), x ∈ l → w x ≤ l.foldl (fun acc y => if t y = t x ∧ f y = f x then max acc (w y) else acc) a0
  | [], _, x, h => by cases h
  | y :: l, a0, x, h => by
    rw [List.foldl_cons]
    rcases List.mem_cons.1 h with rfl | h
    · rw [if_pos ⟨rfl, rfl⟩]; exact Int.le_trans (by omega) (arcT_le l _ _ _)
    · exact arcT_ge' l _ x h

theorem arcT_ge {α : Type} {t f : α → Nat} {w : α → Int} {l : List α} {x : α} (h : x ∈ l) : w x ≤ arcT t f w l (t x) (f x) := arcT_ge' l _ x h

theorem arcT_cases' {α : Type} {t f : α → Nat} {w : α → Int} (i j : Nat) : ∀ (l : List α) (a0 : Int), l.foldl (fun acc x => if t x = i ∧ f x = j then max acc (w x) else acc) a0 = a0 ∨ ∃ x, x ∈ l ∧ t x = i ∧ f x = j ∧ l.foldl (fun acc x => if t x = i ∧ f x = j then max acc (w x) else acc) a0 = w x
  | [], a0 => .inl rfl
  | y :: l, a0 => by
    rw [List.foldl_cons]
    by_cases h : t y = i ∧ f y = j
    · rw [if_pos h]
      rcases arcT_cases' i j l (max a0 (w y)) with h1 | ⟨x, h1, h2, h3, h4⟩
      · by_cases h5 : w y ≤ a0
        · left; rw [h1]; omega
        · right; exact ⟨y, by simp, h.1, h.2, by rw [h1]; omega⟩
      · right; exact ⟨x, by simp [h1], h2, h3, h4⟩
    · rw [if_neg h]
      rcases arcT_cases' i j l a0 with h1 | ⟨x, h1, h2, h3, h4⟩
      · exact .inl h1
      · right; exact ⟨x, by simp [h1], h2, h3, h4⟩

theorem arcT_cases {α : Type} {t f : α → Nat} {w : α → Int} (l : List α) (i j : Nat) : arcT t f w l i j = -1000000000000000 ∨ ∃ x, x ∈ l ∧ t x = i ∧ f x = j ∧ arcT t f w l i j = w x := arcT_cases' i j l _

/-! ### The star, both ways -/
/-! ### Runs of a system -/
def placeB (e : Int) (p : GPlace) : Bool := inB p.From 0 e && (inB p.To 0 e && (inB p.Delay 0 1000 && inB p.Tokens 0 5))

def graphB (g : GEventGraph) : Bool := g.Places.all (placeB (IntKind.i64.wrap (g.Events - 1))) && (inB g.Events 1 10 && decide ((g.Places.length : Int) ≤ 30))


theorem specPlace_is {F : Nat} {p : GPlace} {n : Int} : spec_l11Place F p n = some (placeB (IntKind.i64.wrap (n - 1)) p) := by
  simp only [spec_l11Place, specIn_is, Option.bind_some, cond_and]; rfl

theorem implPlace_is {F : Nat} {g : GEventGraph} {p : GPlace} : impl_isPlace F g p = some (placeB (IntKind.i64.wrap (g.Events - 1)) p) := by
  simp only [impl_isPlace, impl_isEvent, within_is, Option.bind_some, cond_and]; rfl


theorem specGraph_is {F : Nat} {g : GEventGraph} (hF : 134217728 ≤ F) (hl : g.Places.length ≤ 1048576) : spec_IsEventGraph F g = some (graphB g) := by
  unfold spec_IsEventGraph
  rw [all_loop (ps := g.Places) (g := placeB (IntKind.i64.wrap (g.Events - 1))) (r := false) (L := spec_IsEventGraph_L1 F g) ?_ ?_ (by omega)]
  · simp only [specIn_is, Option.bind_some, cond_and, graphB]
    cases g.Places.all (placeB (IntKind.i64.wrap (g.Events - 1))) <;> rfl
  · intro n k x hk hx
    simp only [spec_IsEventGraph_L1, bdT (show (k : Int) < (g.Places.length : Int) by omega), idx_nat, hx, Option.bind_some, specPlace_is, condn, wrN (show k ≤ 67108864 by omega)]
  · intro n
    simp only [spec_IsEventGraph_L1, bdF (show ¬ (g.Places.length : Int) < (g.Places.length : Int) by omega)]


theorem implGraph_is {F : Nat} {g : GEventGraph} (hF : 134217728 ≤ F) (hl : g.Places.length ≤ 1048576) : impl_IsEventGraph F g = some (graphB g) := by
  simp only [impl_IsEventGraph, within_is, Option.bind_some, slices_ContainsFunc_Place_is (h := fun p => !placeB (IntKind.i64.wrap (g.Events - 1)) p) hF (show g.Places.length ≤ 16777216 by omega) (fun x _ => show impl_IsEventGraph_c1 F x g = _ by simp only [impl_IsEventGraph_c1, implPlace_is, Option.bind_some]), cond_and, graphB]
  rw [any_not, Bool.not_not]
  cases g.Places.all (placeB (IntKind.i64.wrap (g.Events - 1))) <;> cases inB g.Events 1 10 <;> cases decide ((g.Places.length : Int) ≤ 30) <;> rfl


theorem graphB_true {g : GEventGraph} (h : graphB g = true) : 1 ≤ g.Events ∧ g.Events ≤ 10 ∧ g.Places.length ≤ 30 ∧ IntKind.i64.wrap (g.Events - 1) = g.Events - 1 ∧ ∀ p, p ∈ g.Places → 0 ≤ p.From ∧ p.From < g.Events ∧ 0 ≤ p.To ∧ p.To < g.Events := by
  unfold graphB at h
  simp only [Bool.and_eq_true, inB_true, decide_eq_true_eq, List.all_eq_true] at h
  obtain ⟨hp, ⟨h1, h2⟩, h3⟩ := h
  have hw : IntKind.i64.wrap (g.Events - 1) = g.Events - 1 := wr (by omega) (by omega)
  refine ⟨h1, h2, by omega, hw, fun p hm => ?_⟩
  have := hp p hm
  rw [hw] at this
  simp only [placeB, Bool.and_eq_true, inB_true] at this
  omega

theorem graphB_range {g : GEventGraph} (h : graphB g = true) : ∀ p, p ∈ g.Places → 0 ≤ p.From ∧ p.From < g.Events ∧ 0 ≤ p.To ∧ p.To < g.Events ∧ 0 ≤ p.Delay ∧ p.Delay ≤ 1000 ∧ 0 ≤ p.Tokens ∧ p.Tokens ≤ 5 := by
  have hw := (graphB_true h).2.2.2.1
  unfold graphB at h
  simp only [Bool.and_eq_true, inB_true, decide_eq_true_eq, List.all_eq_true] at h
  intro p hm
  have := h.1 p hm
  rw [hw] at this
  simp only [placeB, Bool.and_eq_true, inB_true] at this
  omega

/-! ### Weights of a graph's places at a period -/
def plT (p : GPlace) : Nat := p.To.toNat

def plF (p : GPlace) : Nat := p.From.toNat

/-- a place's weight at a period -/
def plW (r : Int) (p : GPlace) : Int := p.Delay - r * p.Tokens

theorem plW_bd {g : GEventGraph} (h : graphB g = true) {r : Int} (h0 : 0 ≤ r) (h1 : r ≤ 100000) {p : GPlace} (hp : p ∈ g.Places) : -1000000 ≤ plW r p ∧ plW r p ≤ 1000000 ∧ IntKind.i64.wrap (IntKind.i64.wrap (1 * p.Delay) - IntKind.i64.wrap (r * p.Tokens)) = plW r p := by
  have h5 := graphB_range h
  have := h5 p hp
  have h6 : 0 ≤ r * p.Tokens := Int.mul_nonneg h0 (by omega)
  have h7 : r * p.Tokens ≤ 100000 * 5 := Int.mul_le_mul h1 (by omega) (by omega) (by omega)
  unfold plW
  refine ⟨by omega, by omega, ?_⟩
  rw [wr (show -9223372036854775808 ≤ 1 * p.Delay by omega) (by omega), wr (show -9223372036854775808 ≤ r * p.Tokens by omega) (by omega), wr (by omega) (by omega)]
  omega

/-- the table of the weights -/
def wT (g : GEventGraph) (r : Int) : Nat → Nat → Int := arcT plT plF (plW r) g.Places

theorem pl_at {g : GEventGraph} (h : graphB g = true) {p : GPlace} (hp : p ∈ g.Places) : p.To = (plT p : Int) ∧ p.From = (plF p : Int) ∧ plT p < g.Events.toNat ∧ plF p < g.Events.toNat := by
  have h5 := graphB_range h
  have := h5 p hp
  unfold plT plF
  omega

/-! ### Tables on vectors -/
/-! ### The delay matrix of a token count -/
theorem getI {xs : List Int} {i : Int} (h0 : 0 ≤ i) (h1 : i < (xs.length : Int)) : idx xs i = some (xs.getD i.toNat 0) := by
  rw [idx_int h0 h1, List.getD_eq_getElem?_getD, List.getElem?_eq_getElem (by omega)]; rfl

/-! ### Lists of nodes -/
def nl (o : List Nat) : List Int := o.map fun (x : Nat) => (x : Int)

theorem nl_len (o : List Nat) : (nl o).length = o.length := by unfold nl; simp

theorem nl_app (o : List Nat) (x : Nat) : nl o ++ [(x : Int)] = nl (o ++ [x]) := by unfold nl; simp

theorem nl_at (o : List Nat) (i : Nat) : (nl o)[i]? = (o[i]?).map fun (x : Nat) => (x : Int) := by unfold nl; simp

theorem nl_has (o : List Nat) (x : Nat) : ((nl o).any fun y => y == (x : Int)) = o.contains x := by
  apply Bool.eq_iff_iff.2
  simp only [nl, List.any_map, List.any_eq_true, Function.comp_apply, beq_iff_eq, List.contains_iff_mem]
  constructor
  · rintro ⟨y, hy, e⟩
    have : y = x := by omega
    exact this ▸ hy
  · intro h; exact ⟨x, h, rfl⟩

theorem specHas_is {F : Nat} {xs : List Int} {x : Int} (hF : 134217728 ≤ F) (hl : xs.length ≤ 1048576) : spec_l01Has F xs x = some (xs.any fun y => y == x) := by
  unfold spec_l01Has
  rw [all_loop (ps := xs) (g := fun y => !(y == x)) (r := true) (L := spec_l01Has_L1 F xs x) ?_ ?_ (by omega)]
  · have := any_not (g := fun y => !(y == x)) xs
    simp only [Bool.not_not] at this
    rw [this]
    cases xs.all (fun y => !(y == x)) <;> rfl
  · intro n k y hk hy
    simp only [spec_l01Has_L1, bdT (show (k : Int) < (xs.length : Int) by omega), idx_nat, hy, Option.bind_some, condn, wrN (show k ≤ 67108864 by omega)]
  · intro n
    simp only [spec_l01Has_L1, bdF (show ¬ (xs.length : Int) < (xs.length : Int) by omega)]

theorem implHas_is {F : Nat} {xs : List Int} {x : Int} (hF : 134217728 ≤ F) (hl : xs.length ≤ 1048576) : slices_Contains_int64 F xs x = some (xs.any fun y => y == x) := by
  unfold slices_Contains_int64 slices_Index_int64
  rw [find_loop (ps := xs) (h := fun y => x == y) (v := fun k => (k : Int)) (L := slices_Index_int64_L1 F xs x) ?_ ?_ (by omega)]
  · have e : (xs.any fun y => y == x) = decide ((0 : Int) ≤ firstAt (xs.findIdx? fun y => x == y)) := by
      rw [find_any]
      congr 1; funext y
      by_cases h : x = y
      · subst h; rfl
      · rw [beq_false_of_ne h, beq_false_of_ne (Ne.symm h)]
    rw [e]
    cases xs.findIdx? fun y => x == y <;> rfl
  · intro n k y hk hy
    simp only [slices_Index_int64_L1, bdT (show (k : Int) < (xs.length : Int) by omega), idx_nat, hy, Option.bind_some, wrN (show k ≤ 67108864 by omega)]
  · intro n
    simp only [slices_Index_int64_L1, bdF (show ¬ (xs.length : Int) < (xs.length : Int) by omega)]

/-! ### Liveness -/
theorem map_range_set {α : Type} (f : Nat → α) (n i : Nat) (y : α) : ((List.range n).map f).set i y = (List.range n).map fun j => if j = i then y else f j := by
  apply List.ext_getElem?; intro q
  by_cases hq : q < n
  · by_cases e : q = i
    · subst e
      rw [set_here (by simpa using hq), List.getElem?_map, List.getElem?_range hq]; simp
    · rw [set_keep e, List.getElem?_map, List.getElem?_map, List.getElem?_range hq]; simp [e]
  · rw [List.getElem?_eq_none (by simp; omega), List.getElem?_eq_none (by simp; omega)]

/-- the free places' relation -/
def eP (ps : List GPlace) (u v : Nat) : Bool := ps.any fun p => p.Tokens == 0 && (p.To == (v : Int) && p.From == (u : Int))

structure GOk (g : GEventGraph) (n : Nat) : Prop where
  ev : g.Events = (n : Int)
  n1 : 1 ≤ n
  n10 : n ≤ 10
  len : g.Places.length ≤ 30
  at' : ∀ p, p ∈ g.Places → ∃ u v : Nat, p.From = (u : Int) ∧ p.To = (v : Int) ∧ u < n ∧ v < n

theorem GOk.of {g : GEventGraph} (h : graphB g = true) : GOk g g.Events.toNat := by
  obtain ⟨h1, h2, h3, _, h4⟩ := graphB_true h
  exact ⟨by omega, by omega, by omega, h3, fun p hp => ⟨p.From.toNat, p.To.toNat, by have := h4 p hp; omega, by have := h4 p hp; omega, by have := h4 p hp; omega, by have := h4 p hp; omega⟩⟩

theorem GOk.edge {g : GEventGraph} {n : Nat} (h : GOk g n) : ∀ u v, eP g.Places u v = true → u < n ∧ v < n := by
  intro u v he
  unfold eP at he
  rw [List.any_eq_true] at he
  obtain ⟨p, hp, hq⟩ := he
  simp only [Bool.and_eq_true, beq_iff_eq] at hq
  obtain ⟨u', v', h1, h2, h3, h4⟩ := h.at' p hp
  omega

/-- is the firing order complete -/
def liveB (g : GEventGraph) (n : Nat) : Bool := (fire (eP g.Places) n n []).isSome

theorem ready_is {g : GEventGraph} {n : Nat} (h : GOk g n) {o : List Nat} {e : Nat} : (!(g.Places.any fun p => p.To == (e : Int) && (p.Tokens == 0 && !((nl o).any fun y => y == p.From)))) = (List.range n).all fun u => !eP g.Places u e || o.contains u := by
  apply Bool.eq_iff_iff.2
  rw [Bool.not_eq_true', List.any_eq_false, List.all_eq_true]
  constructor
  · intro H u hu
    cases he : eP g.Places u e with
    | false => rfl
    | true =>
      unfold eP at he
      rw [List.any_eq_true] at he
      obtain ⟨p, hp, hq⟩ := he
      simp only [Bool.and_eq_true, beq_iff_eq] at hq
      have := H p hp
      rw [hq.1, hq.2.1, hq.2.2, nl_has] at this
      simpa using this
  · intro H p hp hc
    simp only [Bool.and_eq_true, beq_iff_eq, Bool.not_eq_true'] at hc
    obtain ⟨u, v, h1, h2, h3, h4⟩ := h.at' p hp
    have := H u (by simpa using h3)
    rw [h1, nl_has] at hc
    rw [Bool.or_eq_true] at this
    rcases this with h5 | h5
    · have : eP g.Places u e = true := by
        unfold eP
        rw [List.any_eq_true]
        exact ⟨p, hp, by simp only [Bool.and_eq_true, beq_iff_eq]; exact ⟨hc.2.1, hc.1, h1⟩⟩
      rw [this] at h5; cases h5
    · rw [h5] at hc; simp at hc

def nextI : Option Nat → Int
  | some e => (e : Int)
  | none => -1

theorem orderRound {F n : Nat} {g : GEventGraph} (hF : 134217728 ≤ F) (h : GOk g n) {o : List Nat} (ho : o.length ≤ n) :
    impl_firingOrder_L5 F g (nl o) F (-1) 0 = some (nextI (nextOf (eP g.Places) n o)) := by
  have h10 := h.n10
  have hl := h.len
  refine for0 (L := impl_firingOrder_L5 F g (nl o)) (len := n) (fun k s => (s = -1 ∧ ∀ e, e < k → readyB (eP g.Places) n o e = false) ∨ ∃ e : Nat, s = (e : Int) ∧ nextOf (eP g.Places) n o = some e) (R := fun r => r = some (nextI (nextOf (eP g.Places) n o))) ?_ ?_ (.inl ⟨rfl, fun e he => by omega⟩) (by omega)
  · rintro m k s hk (⟨rfl, hI⟩ | ⟨e, rfl, he⟩)
    · have hc : slices_ContainsFunc_Place F g.Places (fun x0 => impl_firingOrder_c1 F x0 (k : Int) (nl o)) = some (g.Places.any fun p => p.To == (k : Int) && (p.Tokens == 0 && !((nl o).any fun y => y == p.From))) := by
        refine slices_ContainsFunc_Place_is hF (by omega) (fun p _ => ?_)
        simp only [impl_firingOrder_c1, implHas_is (F := F) (xs := nl o) (x := p.From) hF (by rw [nl_len]; omega), Option.bind_some]
        cases (p.To == (k : Int)) <;> cases (p.Tokens == 0) <;> rfl
      have S : impl_firingOrder_L5 F g (nl o) (m + 1) (-1) (k : Int) = bif readyB (eP g.Places) n o k then impl_firingOrder_L5 F g (nl o) m (k : Int) ((k + 1 : Nat) : Int) else impl_firingOrder_L5 F g (nl o) m (-1) ((k + 1 : Nat) : Int) := by
        have hlt : decide ((k : Int) < g.Events) = true := by rw [h.ev]; exact decide_eq_true (by omega)
        simp only [impl_firingOrder_L5, hlt, cond_true, Option.bind_some, implHas_is (F := F) (xs := nl o) (x := (k : Int)) hF (by rw [nl_len]; omega), nl_has, hc, ready_is h, wrN (show k ≤ 67108864 by omega), show decide ((-1 : Int) < 0) = true from rfl]
        unfold readyB
        cases o.contains k <;> cases ((List.range n).all fun u => !eP g.Places u k || o.contains u) <;> rfl
      cases hr : readyB (eP g.Places) n o k with
      | true =>
        refine .inl ⟨(k : Int), by rw [S, hr]; rfl, .inr ⟨k, rfl, ?_⟩⟩
        unfold nextOf
        rw [List.find?_eq_some_iff_getElem]
        refine ⟨hr, k, by simpa using hk, by simp, fun j hj => ?_⟩
        simp [hI j hj]
      | false =>
        refine .inl ⟨-1, by rw [S, hr]; rfl, .inl ⟨rfl, fun e he => ?_⟩⟩
        by_cases e2 : e = k
        · subst e2; exact hr
        · exact hI e (by omega)
    · refine .inr ?_
      rw [he]
      have : decide ((e : Int) < 0) = false := decide_eq_false (by omega)
      simp only [impl_firingOrder_L5, this]
      cases decide ((k : Int) < g.Events) <;> rfl
  · rintro m s (⟨rfl, hI⟩ | ⟨e, rfl, he⟩)
    · have hno : nextOf (eP g.Places) n o = none := by
        unfold nextOf
        rw [List.find?_eq_none]
        intro x hx
        rw [hI x (by simpa using hx)]; decide
      rw [hno]
      have hlt : decide ((n : Int) < g.Events) = false := by rw [h.ev]; exact decide_eq_false (by omega)
      simp only [impl_firingOrder_L5, hlt, cond_false, Option.bind_some, nextI]
    · rw [he]
      have hlt : decide ((n : Int) < g.Events) = false := by rw [h.ev]; exact decide_eq_false (by omega)
      simp only [impl_firingOrder_L5, hlt, cond_false, Option.bind_some, nextI]

theorem orderLoop {F n : Nat} {g : GEventGraph} (hF : 134217728 ≤ F) (h : GOk g n) : ∀ (k : Nat) (o : List Nat) (m : Nat), o.length + k = n → k < m →
    impl_firingOrder_L4 F g m (nl o) = some (match fire (eP g.Places) n k o with | some o' => .inr (nl o') | none => .inl ([], false)) := by
  have h10 := h.n10
  intro k
  induction k with
  | zero =>
    intro o m ho hm
    obtain ⟨m, rfl⟩ : ∃ m', m = m' + 1 := ⟨m - 1, by omega⟩
    have : decide (((nl o).length : Int) < g.Events) = false := by rw [h.ev, nl_len]; exact decide_eq_false (by omega)
    simp only [impl_firingOrder_L4, this, cond_false, fire]
  | succ k ih =>
    intro o m ho hm
    obtain ⟨m, rfl⟩ : ∃ m', m = m' + 1 := ⟨m - 1, by omega⟩
    have : decide (((nl o).length : Int) < g.Events) = true := by rw [h.ev, nl_len]; exact decide_eq_true (by omega)
    simp only [impl_firingOrder_L4, this, cond_true, orderRound hF h (show o.length ≤ n by omega), Option.bind_some, fire]
    cases hx : nextOf (eP g.Places) n o with
    | none => rfl
    | some e =>
      have he : decide ((e : Int) < 0) = false := decide_eq_false (by omega)
      have happ : app (nl o) [(e : Int)] = some (nl (o ++ [e])) := by
        rw [app_le (by rw [nl_len]; simp only [List.length_singleton]; omega), nl_app]
      simp only [nextI, happ, Option.bind_some]
      exact ih (o ++ [e]) m (by rw [List.length_append, List.length_singleton]; omega) (by omega)

theorem implOrder_is {F n : Nat} {g : GEventGraph} (hF : 134217728 ≤ F) (h : GOk g n) : impl_firingOrder F g = some (match fire (eP g.Places) n n [] with | some o => (nl o, true) | none => ([], false)) := by
  have h10 := h.n10
  unfold impl_firingOrder
  have := orderLoop hF h n [] F (by simp) (by omega)
  rw [show nl [] = [] from rfl] at this
  rw [this]
  cases fire (eP g.Places) n n [] <;> rfl

theorem implLive_is {F n : Nat} {g : GEventGraph} (hF : 134217728 ≤ F) (h : GOk g n) : impl_isLive F g = some (liveB g n) := by
  unfold impl_isLive liveB
  rw [bind_of (implOrder_is hF h)]
  cases fire (eP g.Places) n n [] <;> rfl

/-! ### Squares as tables -/
/-! ### Searches for cycles -/
/-- a path of a search -/
structure PathOk (f : Nat → Nat → Int) (n : Nat) (p : List Nat) : Prop where
  ne : p ≠ []
  nodup : p.Nodup
  lt : ∀ x, x ∈ p → x < n
  w0 : -1000000 * (p.length : Int) ≤ pathw f p
  w1 : pathw f p ≤ 1000000 * (p.length : Int)

theorem PathOk.one (f : Nat → Nat → Int) {n v : Nat} (h : v < n) : PathOk f n [v] := ⟨by simp, by simp, fun x hx => by simp at hx; omega, by show _ ≤ (0 : Int); simp, by show (0 : Int) ≤ _; simp⟩

/-! ### Positive cycles, by the program -/
/-! ### The program's search for a better circuit -/
def tb (n : Nat) (x : Nat → Int) : List Int := (List.range n).map x

theorem tb_len (n : Nat) (x : Nat → Int) : (tb n x).length = n := by unfold tb; simp

theorem tb_at {n i : Nat} {x : Nat → Int} (h : i < n) : (tb n x)[i]? = some (x i) := by unfold tb; rw [List.getElem?_map, List.getElem?_range h]; rfl

theorem tb_set (n i : Nat) (x : Nat → Int) (y : Int) : (tb n x).set i y = tb n fun j => if j = i then y else x j := by unfold tb; rw [map_range_set]

theorem tb_zero (n : Nat) : List.replicate n (0 : Int) = tb n fun _ => 0 := by
  unfold tb
  apply List.ext_getElem? ; intro i
  rw [List.getElem?_replicate, List.getElem?_map]
  by_cases h : i < n
  · rw [if_pos h, List.getElem?_range h]; rfl
  · rw [if_neg h, List.getElem?_eq_none (by simpa using h)]; rfl

theorem wT_arcs {g : GEventGraph} (h : graphB g = true) {r : Int} (h0 : 0 ≤ r) (h1 : r ≤ 100000) : Arcs (wT g r) g.Events.toNat plT plF (plW r) g.Places :=
  ⟨fun _p hp => ⟨(pl_at h hp).2.2.1, (pl_at h hp).2.2.2⟩, fun _p hp => ⟨(plW_bd h h0 h1 hp).1, (plW_bd h h0 h1 hp).2.1⟩, fun _p hp => arcT_ge hp, fun i j => arcT_cases g.Places i j⟩

/-- the places last taken -/
def ViaOk (n m : Nat) (vs : List Nat) : Prop := vs.length = n ∧ ∀ v, v ∈ vs → v < m

theorem via_set {n m : Nat} {vs : List Nat} (h : ViaOk n m vs) {k : Nat} (hk : k < m) (i : Nat) : ViaOk n m (vs.set i k) := ⟨by rw [List.length_set]; exact h.1, fun v hv => by
  rcases List.mem_or_eq_of_mem_set hv with h1 | h1
  · exact h.2 v h1
  · omega⟩

theorem nl_set (vs : List Nat) (i k : Nat) : (nl vs).set i (k : Int) = nl (vs.set i k) := by
  unfold nl; rw [List.map_set]

/-- one step back -/
def backN (g : GEventGraph) (vs : List Nat) (v : Nat) : Nat := plF ((g.Places[(vs[v]?).getD 0]?).getD ⟨0, 0, 0, 0⟩)

theorem back_at {g : GEventGraph} (h : graphB g = true) {vs : List Nat} (hv : ViaOk g.Events.toNat g.Places.length vs) {v : Nat} (hn : v < g.Events.toNat) : ∃ u p, vs[v]? = some u ∧ g.Places[u]? = some p ∧ p.From = (backN g vs v : Int) ∧ backN g vs v < g.Events.toNat := by
  have hl : v < vs.length := by rw [hv.1]; exact hn
  have hu := hv.2 _ (List.getElem_mem hl)
  have e1 := List.getElem?_eq_getElem hl
  have e2 := List.getElem?_eq_getElem hu
  obtain ⟨_, a2, _, a4⟩ := pl_at h (List.getElem_mem hu)
  refine ⟨_, _, e1, e2, ?_, ?_⟩
  · unfold backN; rw [e1, Option.getD_some, e2, Option.getD_some]; exact a2
  · unfold backN; rw [e1, Option.getD_some, e2, Option.getD_some]; exact a4

def itn (φ : Nat → Nat) : Nat → Nat → Nat
  | 0, v => v
  | k + 1, v => itn φ k (φ v)

theorem itn_succ (φ : Nat → Nat) : ∀ (k v : Nat), itn φ (k + 1) v = φ (itn φ k v)
  | 0, _ => rfl
  | k + 1, v => itn_succ φ k (φ v)

theorem itn_add (φ : Nat → Nat) (i : Nat) : ∀ (j v : Nat), itn φ (i + j) v = itn φ i (itn φ j v)
  | 0, _ => rfl
  | j + 1, v => itn_add φ i j (φ v)

theorem itn_lt {φ : Nat → Nat} {n : Nat} (h : ∀ v, v < n → φ v < n) : ∀ (k : Nat) {v : Nat}, v < n → itn φ k v < n
  | 0, _, hv => hv
  | k + 1, _, hv => itn_lt h k (h _ hv)

theorem itn_back {φ : Nat → Nat} {n : Nat} (h : ∀ v, v < n → φ v < n) {v : Nat} (hv : v < n) : ∃ d, d < n ∧ itn φ (d + 1) (itn φ n v) = itn φ n v := by
  obtain ⟨p, q, h1, h2, h3⟩ := pigeon_n (n := n) (c := fun t => itn φ t v) (fun t _ => itn_lt h t hv)
  have h3 : itn φ p v = itn φ q v := h3
  refine ⟨q - p - 1, by omega, ?_⟩
  rw [show q - p - 1 + 1 = q - p by omega, ← itn_add, show q - p + n = (n - p) + q by omega, itn_add, ← h3, ← itn_add, show n - p + p = n by omega]

theorem better_back {F : Nat} {g : GEventGraph} (hF : 134217728 ≤ F) (h : graphB g = true) {vs : List Nat} (hv : ViaOk g.Events.toNat g.Places.length vs) {e : Nat} (he : e < g.Events.toNat) : impl_betterCircuit_L6 F g (nl vs) F (e : Int) 0 = some ((itn (backN g vs) g.Events.toNat e : Nat) : Int) := by
  obtain ⟨e1, e2, e3, _, _⟩ := graphB_true h
  have hlt : ∀ v, v < g.Events.toNat → backN g vs v < g.Events.toNat := fun v hn => by
    obtain ⟨_, _, _, _, _, hb⟩ := back_at h hv hn
    exact hb
  refine for0 (L := impl_betterCircuit_L6 F g (nl vs)) (len := g.Events.toNat) (fun k s => s = ((itn (backN g vs) k e : Nat) : Int)) (R := fun o => o = some ((itn (backN g vs) g.Events.toNat e : Nat) : Int)) ?_ ?_ rfl (by omega)
  · rintro m k s hk rfl
    obtain ⟨u, p, h1, h2, h3, _⟩ := back_at h hv (itn_lt hlt k he)
    refine .inl ⟨_, ?_, rfl⟩
    simp only [impl_betterCircuit_L6, bdT (show (k : Int) < g.Events by omega), idx_nat, nl_at, h1, Option.map_some, Option.bind_some, h2, h3, wrN (show k ≤ 67108864 by omega), itn_succ]
  · rintro m s rfl
    simp only [impl_betterCircuit_L6, bdF (show ¬ ((g.Events.toNat : Nat) : Int) < g.Events by omega)]

theorem better_gather {F : Nat} {g : GEventGraph} (h : graphB g = true) {vs : List Nat} (hv : ViaOk g.Events.toNat g.Places.length vs) {s : Nat} : ∀ (m : Nat) {x : Nat} {xs : List Int} {fuel : Nat}, x < g.Events.toNat → itn (backN g vs) (m + 1) x = s → m < fuel → xs.length + m + 1 ≤ 1000 →
    ∃ ys, impl_betterCircuit_L7 F g (nl vs) (s : Int) fuel xs (x : Int) = some ys ∧ xs.length < ys.length ∧ ys.length ≤ xs.length + m + 1 := by
  intro m
  induction m with
  | zero =>
    intro x xs fuel hx hs hf hl
    obtain ⟨fuel, rfl⟩ : ∃ k, fuel = k + 1 := ⟨fuel - 1, by omega⟩
    obtain ⟨u, p, h1, h2, h3, _⟩ := back_at h hv hx
    have hs : backN g vs x = s := hs
    refine ⟨xs ++ [(u : Int)], ?_, by simp, by simp⟩
    simp only [impl_betterCircuit_L7, idx_nat, nl_at, h1, Option.map_some, Option.bind_some, app_le (show xs.length + [(u : Int)].length ≤ 67108864 by simp only [List.length_singleton]; omega), h2, h3, hs, beq_self_eq_true, cond_true]
  | succ m ih =>
    intro x xs fuel hx hs hf hl
    obtain ⟨fuel, rfl⟩ : ∃ k, fuel = k + 1 := ⟨fuel - 1, by omega⟩
    obtain ⟨u, p, h1, h2, h3, h4⟩ := back_at h hv hx
    by_cases hc : backN g vs x = s
    · refine ⟨xs ++ [(u : Int)], ?_, by simp, by simp⟩
      simp only [impl_betterCircuit_L7, idx_nat, nl_at, h1, Option.map_some, Option.bind_some, app_le (show xs.length + [(u : Int)].length ≤ 67108864 by simp only [List.length_singleton]; omega), h2, h3, hc, beq_self_eq_true, cond_true]
    · obtain ⟨ys, h5, h6, h7⟩ := ih (x := backN g vs x) (xs := xs ++ [(u : Int)]) (fuel := fuel) h4 hs (by omega) (by rw [List.length_append, List.length_singleton]; omega)
      rw [List.length_append, List.length_singleton] at h6 h7
      refine ⟨ys, ?_, by omega, by omega⟩
      simp only [impl_betterCircuit_L7, idx_nat, nl_at, h1, Option.map_some, Option.bind_some, app_le (show xs.length + [(u : Int)].length ≤ 67108864 by simp only [List.length_singleton]; omega), h2, h3, beq_false_of_ne (show ((backN g vs x : Nat) : Int) ≠ (s : Int) by omega), cond_false, h5]

theorem reverse_loop {F : Nat} : ∀ (m : Nat) {fuel : Nat} {xs : List Int} {i j : Int}, 0 ≤ i → j < (xs.length : Int) → -1 ≤ j → j - i ≤ (m : Int) → m < fuel → xs.length ≤ 1048576 → i ≤ 1048576 → ∃ ys, slices_Reverse_int64_L1 F fuel xs i j = some ys ∧ ys.length = xs.length := by
  intro m
  induction m with
  | zero =>
    intro fuel xs i j h0 h1 h2 h3 h4 h5 h6
    obtain ⟨fuel, rfl⟩ : ∃ k, fuel = k + 1 := ⟨fuel - 1, by omega⟩
    exact ⟨xs, by simp only [slices_Reverse_int64_L1, bdF (show ¬ i < j by omega)], rfl⟩
  | succ m ih =>
    intro fuel xs i j h0 h1 h2 h3 h4 h5 h6
    obtain ⟨fuel, rfl⟩ : ∃ k, fuel = k + 1 := ⟨fuel - 1, by omega⟩
    by_cases hc : i < j
    · obtain ⟨i', rfl⟩ : ∃ k : Nat, i = (k : Int) := ⟨i.toNat, by omega⟩
      obtain ⟨j', rfl⟩ : ∃ k : Nat, j = (k : Int) := ⟨j.toNat, by omega⟩
      have li : i' < xs.length := by omega
      have lj : j' < xs.length := by omega
      obtain ⟨ys, e1, e2⟩ := ih (fuel := fuel) (xs := (xs.set i' xs[j']).set j' xs[i']) (i := ((i' + 1 : Nat) : Int)) (j := (j' : Int) - 1) (by omega) (by rw [List.length_set, List.length_set]; omega) (by omega) (by omega) (by omega) (by rw [List.length_set, List.length_set]; omega) (by omega)
      rw [List.length_set, List.length_set] at e2
      refine ⟨ys, ?_, e2⟩
      have l2 : j' < (xs.set i' xs[j']).length := by rw [List.length_set]; exact lj
      simp only [slices_Reverse_int64_L1, bdT hc, idx_nat, List.getElem?_eq_getElem li, List.getElem?_eq_getElem lj, List.getElem?_eq_getElem l2, Option.bind_some, upd_nat _ li, upd_nat _ l2, wrN (show i' ≤ 67108864 by omega), wr (show -9223372036854775808 ≤ (j' : Int) - 1 by omega) (by omega), e1]
    · exact ⟨xs, by simp only [slices_Reverse_int64_L1, bdF hc], rfl⟩

/-! ### Circuits of places -/
def pcs (g : GEventGraph) (i : Nat) : GPlace := (g.Places[i]?).getD ⟨0, 0, 0, 0⟩

def cF (g : GEventGraph) (i : Nat) : Nat := plF (pcs g i)

def cT (g : GEventGraph) (i : Nat) : Nat := plT (pcs g i)

def sumD (g : GEventGraph) (p : List Nat) : Int := (p.map fun i => (pcs g i).Delay).sum

def sumM (g : GEventGraph) (p : List Nat) : Int := (p.map fun i => (pcs g i).Tokens).sum

theorem sumD_app (g : GEventGraph) (p q : List Nat) : sumD g (p ++ q) = sumD g p + sumD g q := by unfold sumD; rw [List.map_append, List.sum_append]

theorem sumM_app (g : GEventGraph) (p q : List Nat) : sumM g (p ++ q) = sumM g p + sumM g q := by unfold sumM; rw [List.map_append, List.sum_append]

theorem sumD_one (g : GEventGraph) (v : Nat) : sumD g [v] = (pcs g v).Delay := by unfold sumD; simp

theorem sumM_one (g : GEventGraph) (v : Nat) : sumM g [v] = (pcs g v).Tokens := by unfold sumM; simp

def closedC (g : GEventGraph) (p : List Nat) : Bool := decide (cT g (lastN p) = cF g (headN p))

def visC (g : GEventGraph) (p : List Nat) (e : Nat) : Bool := p.any fun i => decide (cF g i = e) || decide (cT g i = e)

def accC (g : GEventGraph) (good : Int → Int → Bool) (p : List Nat) : Bool := closedC g p && good (sumD g p) (sumM g p)

def candC (g : GEventGraph) (p : List Nat) (v : Nat) : Bool := !closedC g p && (decide (cF g v = cT g (lastN p)) && (decide (cF g (headN p) ≤ cT g v) && (decide (cT g v = cF g (headN p)) || !visC g p (cT g v))))

theorem candC_true {g : GEventGraph} {p : List Nat} {v : Nat} : candC g p v = true ↔ closedC g p = false ∧ cF g v = cT g (lastN p) ∧ cF g (headN p) ≤ cT g v ∧ (cT g v = cF g (headN p) ∨ visC g p (cT g v) = false) := by
  unfold candC
  simp only [Bool.and_eq_true, Bool.not_eq_true', decide_eq_true_eq, Bool.or_eq_true]

def firstC (g : GEventGraph) (good : Int → Int → Bool) (K : Nat) : Option (List Nat) := (List.range g.Places.length).findSome? fun i => if cF g i ≤ cT g i then gdfs (accC g good) (candC g) g.Places.length K [i] else none

theorem wT_place {g : GEventGraph} {r : Int} (h : graphB g = true) (h0 : 0 ≤ r) (h1 : r ≤ 100000) {u v : Nat} (ha : wT g r v u ≠ -1000000000000000) : ∃ i, i < g.Places.length ∧ cT g i = v ∧ cF g i = u ∧ (pcs g i).Delay - r * (pcs g i).Tokens = wT g r v u := by
  rcases (wT_arcs h h0 h1).cs v u with e | ⟨p, hp, h2, h3, h4⟩
  · exact absurd e ha
  · obtain ⟨i, hi, rfl⟩ := List.getElem_of_mem hp
    have e : pcs g i = g.Places[i] := by unfold pcs; rw [List.getElem?_eq_getElem hi]; rfl
    exact ⟨i, hi, by unfold cT; rw [e]; exact h2, by unfold cF; rw [e]; exact h3, by rw [e, h4]; rfl⟩

theorem chain_steps {g : GEventGraph} {r : Int} (h : graphB g = true) (h0 : 0 ≤ r) (h1 : r ≤ 100000) {f : Nat} : ∀ (q p : List Nat) (l : Nat) (V : List Nat), p ≠ [] → cT g (lastN p) = l → l ≠ f → cF g (headN p) = f → l ∈ V → (∀ e, e ∉ V → visC g p e = false) → (∀ x, x ∈ q → f < x ∧ x ∉ V) → q.Nodup → Chain (arcB (wT g r)) l q f →
    ∃ ps, Steps (candC g) p ps ∧ closedC g (p ++ ps) = true ∧ (∀ x, x ∈ ps → x < g.Places.length) ∧ sumD g (p ++ ps) - r * sumM g (p ++ ps) = sumD g p - r * sumM g p + cw (wT g r) l q f ∧ ps.length ≤ q.length + 1 := by
  intro q
  induction q with
  | nil =>
    intro p l V hne hl hlf hf _ _ _ _ hc
    obtain ⟨i, hi, i1, i2, i3⟩ := wT_place h h0 h1 (arcB_true.1 hc)
    have hcl : closedC g p = false := by unfold closedC; rw [hl, hf]; exact decide_eq_false hlf
    refine ⟨[i], ⟨candC_true.2 ⟨hcl, by rw [i2, hl], by rw [i1, hf]; exact Nat.le_refl _, .inl (by rw [i1, hf])⟩, trivial⟩, ?_, fun x hx => ?_, ?_, by simp⟩
    · unfold closedC; rw [lastN_snoc, headN_snoc hne, i1, hf]; simp
    · simp only [List.mem_singleton] at hx; subst hx; exact hi
    · rw [sumD_app, sumM_app, sumD_one, sumM_one, Int.mul_add]
      show _ = _ + wT g r f l
      rw [← i3]; omega
  | cons v q ih =>
    intro p l V hne hl hlf hf hlV hvis hq hnd hc
    obtain ⟨i, hi, i1, i2, i3⟩ := wT_place h h0 h1 (arcB_true.1 hc.1)
    have hcl : closedC g p = false := by unfold closedC; rw [hl, hf]; exact decide_eq_false hlf
    obtain ⟨hv1, hv2⟩ := hq v (by simp)
    have hcand : candC g p i = true := candC_true.2 ⟨hcl, by rw [i2, hl], by rw [i1, hf]; omega, .inr (by rw [i1]; exact hvis v hv2)⟩
    rw [List.nodup_cons] at hnd
    obtain ⟨ps, s1, s2, s3, s4, s5⟩ := ih (p ++ [i]) v (v :: V) (by simp) (by rw [lastN_snoc, i1]) (by omega) (by rw [headN_snoc hne, hf]) (by simp) (fun e he => by
        rw [List.mem_cons, not_or] at he
        unfold visC
        rw [List.any_append]
        have := hvis e he.2
        unfold visC at this
        rw [this]
        simp only [List.any_cons, List.any_nil, i1, i2, Bool.or_false, Bool.false_or, Bool.or_eq_false_iff, decide_eq_false_iff_not]
        exact ⟨fun e2 => he.2 (e2 ▸ hlV), fun e2 => he.1 e2.symm⟩) (fun x hx => ⟨(hq x (by simp [hx])).1, fun hm => by
        rcases List.mem_cons.1 hm with rfl | hm
        · exact hnd.1 hx
        · exact (hq x (by simp [hx])).2 hm⟩) hnd.2 hc.2
    refine ⟨i :: ps, ⟨hcand, s1⟩, ?_, fun x hx => ?_, ?_, by simp only [List.length_cons]; omega⟩
    · rw [show p ++ i :: ps = (p ++ [i]) ++ ps by simp]; exact s2
    · rcases List.mem_cons.1 hx with rfl | hx
      · exact hi
      · exact s3 x hx
    · rw [show p ++ i :: ps = (p ++ [i]) ++ ps by simp, s4, sumD_app, sumM_app, sumD_one, sumM_one, Int.mul_add]
      show _ = _ + (wT g r v l + cw (wT g r) v q f)
      rw [← i3]; omega

theorem firstC_none {g : GEventGraph} {r : Int} {K : Nat} (h : graphB g = true) (h0 : 0 ≤ r) (h1 : r ≤ 100000) (hK : 100 ≤ K) (hp : PosCyc (wT g r) g.Events.toNat) : firstC g (fun d m => decide (0 < d - r * m)) K ≠ none := by
  intro hn
  obtain ⟨e1, e2, e3, _, _⟩ := graphB_true h
  obtain ⟨v, q, hv, ⟨q1, q2, q3⟩, hw⟩ := hp
  have hql := nodup_le g.Events.toNat q (List.nodup_cons.1 q2).2 (fun x hx => (q1 x hx).2)
  cases q with
  | nil =>
    obtain ⟨i, hi, i1, i2, i3⟩ := wT_place h h0 h1 (arcB_true.1 q3)
    have h2 := List.findSome?_eq_none_iff.1 hn i (by simpa using hi)
    rw [if_pos (by omega)] at h2
    have h3 := gdfs_none (q := []) h2 (by simp; omega) trivial (fun x hx => (by cases hx))
    rw [List.append_nil] at h3
    have hw' : 0 < wT g r v v := hw
    have hc : closedC g [i] = true := decide_eq_true (show cT g i = cF g i by rw [i1, i2])
    unfold accC at h3
    rw [hc, Bool.true_and] at h3
    have h3 : decide (0 < sumD g [i] - r * sumM g [i]) = false := h3
    rw [sumD_one, sumM_one, i3, dT hw'] at h3
    cases h3
  | cons u q =>
    obtain ⟨i, hi, i1, i2, i3⟩ := wT_place h h0 h1 (arcB_true.1 q3.1)
    have hu := q1 u (by simp)
    have h2 := List.findSome?_eq_none_iff.1 hn i (by simpa using hi)
    rw [if_pos (by omega)] at h2
    have q2' := List.nodup_cons.1 (List.nodup_cons.1 q2).2
    obtain ⟨ps, s1, s2, s3, s4, s5⟩ := chain_steps (g := g) (r := r) h h0 h1 (f := v) q [i] u [u, v] (by simp) i1 (by omega) i2 (by simp) (fun e he => by
        unfold visC
        simp only [List.mem_cons, List.not_mem_nil, or_false, not_or] at he
        simp only [List.any_cons, List.any_nil, i1, i2, Bool.or_false, Bool.or_eq_false_iff, decide_eq_false_iff_not]
        omega) (fun x hx => ⟨(q1 x (by simp [hx])).1, fun hm => by
        simp only [List.mem_cons, List.not_mem_nil, or_false] at hm
        rcases hm with rfl | rfl
        · exact q2'.1 hx
        · have := (q1 x (by simp [hx])).1; omega⟩) q2'.2 q3.2
    have h3 := gdfs_none (q := ps) h2 (by simp only [List.length_cons] at hql; omega) s1 s3
    unfold accC at h3
    have hw' : 0 < wT g r u v + cw (wT g r) u q v := hw
    rw [s2, Bool.true_and] at h3
    have h3 : decide (0 < sumD g ([i] ++ ps) - r * sumM g ([i] ++ ps)) = false := h3
    rw [s4, sumD_one, sumM_one, i3, dT hw'] at h3
    cases h3

/-! ### The program's search for a circuit -/
/-! ### Tables row by row -/
def plD (g : GEventGraph) (i : Nat) : GPlace := g.Places.getD i ⟨0, 0, 0, 0⟩

theorem plD_of {g : GEventGraph} {k : Nat} (h : k < g.Places.length) : g.Places[k]? = some (plD g k) := by
  unfold plD; rw [List.getD_eq_getElem?_getD, List.getElem?_eq_getElem h]; rfl

/-- the parts of a table that is under way -/
structure DOk (g : GEventGraph) (n : Nat) (pre : List (List Int)) (xs : List Int) : Prop where
  rws : ∀ r, r ∈ pre → r.length = n
  row : xs.length = n
  le : pre.length ≤ 50

theorem DOk.at' {g : GEventGraph} {n : Nat} {pre : List (List Int)} {xs : List Int} (h : DOk g n pre xs) {m : Nat} (hm : m ≤ pre.length) : (pre ++ [xs])[m]? = some ((pre ++ [xs]).getD m []) ∧ ((pre ++ [xs]).getD m []).length = n := by
  have hl : m < (pre ++ [xs]).length := by simp; omega
  have e : (pre ++ [xs])[m]? = some ((pre ++ [xs]).getD m []) := by rw [List.getD_eq_getElem?_getD, List.getElem?_eq_getElem hl]; rfl
  refine ⟨e, ?_⟩
  rcases List.mem_append.1 (List.mem_of_getElem? e) with h1 | h1
  · exact h.rws _ h1
  · simp only [List.mem_singleton] at h1; rw [h1]; exact h.row

/-! ### The table of the firing times -/
def tstep (g : GEventGraph) (pre : List (List Int)) (e : Nat) (xs : List Int) (i : Nat) : List Int :=
  bif (plD g i).To == (e : Int) && decide ((plD g i).Tokens ≤ (pre.length : Int)) then xs.set e (max (xs.getD e 0) (IntKind.i64.wrap (((pre ++ [xs]).getD (pre.length - (plD g i).Tokens.toNat) []).getD (plD g i).From.toNat 0 + (plD g i).Delay))) else xs

def tevent (g : GEventGraph) (pre : List (List Int)) (xs : List Int) (e : Nat) : List Int := (List.range g.Places.length).foldl (tstep g pre e) xs

def tround (g : GEventGraph) (o : List Nat) (pre : List (List Int)) (xs : List Int) : List Int := o.foldl (tevent g pre) xs

def ttab (g : GEventGraph) (o : List Nat) (xs : List Int) : Nat → List (List Int)
  | 0 => []
  | k + 1 => ttab g o xs k ++ [tround g o (ttab g o xs k) xs]

theorem ttab_len (g : GEventGraph) (o : List Nat) (xs : List Int) : ∀ k, (ttab g o xs k).length = k
  | 0 => rfl
  | k + 1 => by unfold ttab; rw [List.length_append, ttab_len g o xs k]; rfl

/-! ### The table of the latest times -/
def lstep (g : GEventGraph) (n k e : Nat) (ms : List (List Int)) (i : Nat) : List (List Int) :=
  bif (plD g i).From == (e : Int) && decide ((k : Int) + (plD g i).Tokens < (n : Int)) then ms.set k ((ms.getD k []).set e (min ((ms.getD k []).getD e 0) (IntKind.i64.wrap ((ms.getD (k + (plD g i).Tokens.toNat) []).getD (plD g i).To.toNat 0 - (plD g i).Delay)))) else ms

structure LOk (g : GEventGraph) (n : Nat) (ms : List (List Int)) : Prop where
  len : ms.length = n
  rws : ∀ r, r ∈ ms → r.length = g.Events.toNat

theorem LOk.at' {g : GEventGraph} {n : Nat} {ms : List (List Int)} (h : LOk g n ms) {m : Nat} (hm : m < n) : ms[m]? = some (ms.getD m []) ∧ (ms.getD m []).length = g.Events.toNat := by
  have hl : m < ms.length := by rw [h.len]; exact hm
  have e : ms[m]? = some (ms.getD m []) := by rw [List.getD_eq_getElem?_getD, List.getElem?_eq_getElem hl]; rfl
  exact ⟨e, h.rws _ (List.mem_of_getElem? e)⟩

theorem LOk.step {g : GEventGraph} {n k e : Nat} {ms : List (List Int)} (h : LOk g n ms) (hk : k < n) (i : Nat) : LOk g n (lstep g n k e ms i) := by
  unfold lstep
  cases ((plD g i).From == (e : Int) && decide ((k : Int) + (plD g i).Tokens < (n : Int))) with
  | false => exact h
  | true =>
    refine ⟨by rw [cond_true, List.length_set]; exact h.len, fun r hr => ?_⟩
    rw [cond_true] at hr
    rcases List.mem_or_eq_of_mem_set hr with h1 | h1
    · exact h.rws r h1
    · rw [h1, List.length_set]; exact (h.at' hk).2

/-! ### Floats -/
/-! ### Firings picked out of a table -/
/-! ### Delays lie in their range -/
/-! ### When delays are settled -/
/-! ### How far a delay spreads -/
theorem sum_rep : ∀ n : Nat, (List.replicate n (0 : Int)).sum = 0
  | 0 => rfl
  | n + 1 => by rw [List.replicate_succ, List.sum_cons, sum_rep n]; rfl

theorem sum_set : ∀ (n e : Nat) (x : Int), e < n → ((List.replicate n (0 : Int)).set e x).sum = x
  | 0, _, _, h => by omega
  | n + 1, 0, x, _ => by rw [List.replicate_succ, List.set_cons_zero, List.sum_cons, sum_rep n]; omega
  | n + 1, e + 1, x, h => by rw [List.replicate_succ, List.set_cons_succ, List.sum_cons, sum_set n e x (by omega)]; omega

/-! ### The greatest delays -/
/-! ### Tables by blocks -/
def ent (A : List (List Int)) (i j : Nat) : Int := (A.getD i []).getD j 0

def blk (A B C : List (List Int)) (i j : Nat) : Int :=
  if i < A.length then (if j < A.length then ent A i j else -1000000000000000) else if j < A.length then ent C (i - A.length) j else ent B (i - A.length) (j - A.length)


/-! ### The best word -/
structure MsOk (ms : List (List (List Int))) (n : Nat) : Prop where
  n1 : 1 ≤ n
  n10 : n ≤ 10
  m1 : 1 ≤ ms.length
  m4 : ms.length ≤ 4
  sq : ∀ m, m ∈ ms → m.length = n ∧ ∀ row, row ∈ m → row.length = n

theorem MsOk.at' {ms : List (List (List Int))} {n m : Nat} (h : MsOk ms n) (hm : m < ms.length) : ms[m]? = some (ms.getD m []) ∧ (ms.getD m []).length = n ∧ ∀ row, row ∈ ms.getD m [] → row.length = n := by
  have e : ms[m]? = some (ms.getD m []) := by rw [List.getD_eq_getElem?_getD, List.getElem?_eq_getElem hm]; rfl
  exact ⟨e, h.sq _ (List.mem_of_getElem? e)⟩

/-! ### Draws -/
structure COk (code : List Int) : Prop where
  len : code.length ≤ 4096
  byte : ∀ x, x ∈ code → 0 ≤ x ∧ x ≤ 255

structure SOk (code : List Int) (p s : Int) : Prop where
  p0 : 0 ≤ p
  p1 : p ≤ (code.length : Int)
  s0 : 0 ≤ s
  s1 : s < 2147483647

theorem next_tot {F : Nat} {code : List Int} {p s n : Int} (hc : COk code) (hs : SOk code p s) : Tot (fun r : Int × Int × Int => SOk code r.2.1 r.2.2 ∧ 0 ≤ r.1 ∧ (r.1 < n ∨ r.1 = 0)) (spec_l01Next F code p s n) := by
  obtain ⟨p0, p1, s0, s1⟩ := hs
  have hcl := hc.len
  unfold spec_l01Next
  refine Tot.cond (fun _ => Tot.pure ⟨⟨p0, p1, s0, s1⟩, Int.le_refl _, .inr rfl⟩) (fun h1 => ?_)
  have hn : ¬ n ≤ 1 := of_decide_eq_false h1
  have w1 : IntKind.i64.wrap (s * 48271) = s * 48271 := wr (by omega) (by omega)
  have w2 : IntKind.i64.wrap (s * 48271 + 59) = s * 48271 + 59 := wr (by omega) (by omega)
  have w3 : (s * 48271 + 59).tmod 2147483647 = (s * 48271 + 59) % 2147483647 := Int.tmod_eq_emod_of_nonneg (by omega)
  rw [w1, w2, w3]
  obtain ⟨u, hu⟩ : ∃ u, u = (s * 48271 + 59) % 2147483647 := ⟨_, rfl⟩
  rw [← hu]
  have u0 : 0 ≤ u := by omega
  have u1 : u < 2147483647 := by omega
  have w4 : u.tdiv 31 = u / 31 := Int.tdiv_eq_ediv_of_nonneg u0
  rw [w4, wr (show -9223372036854775808 ≤ u / 31 by omega) (by omega)]
  refine Tot.bind (P := fun r : Int × Int => 0 ≤ r.1 ∧ r.1 ≤ (code.length : Int) ∧ 0 ≤ r.2) (Tot.cond (fun hp => ?_) (fun _ => Tot.pure ⟨p0, p1, by simp only; omega⟩)) ?_
  · have hp : p < (code.length : Int) := of_decide_eq_true hp
    have w5 : IntKind.i64.wrap (p + 1) = p + 1 := wr (by omega) (by omega)
    have w6 : IntKind.i64.wrap (p + 1 - 1) = p := by rw [wr (by omega) (by omega)]; omega
    refine Tot.bind (idx_tot p0 hp) fun q hq => ?_
    have hq2 := hc.byte q hq
    have w7 : IntKind.i64.wrap q = q := wr (by omega) (by omega)
    rw [w5, w6, w7, wr (show -9223372036854775808 ≤ u / 31 + q by omega) (by omega)]
    refine Tot.bind (P := fun _ => True) (Tot.cond (fun _ => Tot.pure trivial) fun _ => Tot.pure trivial) fun b _ => ?_
    refine Tot.cond (fun _ => Tot.bind (idx_tot p0 hp) fun q2 hq2 => ?_) (fun _ => Tot.pure ⟨by simp only; omega, by simp only; omega, by simp only; omega⟩)
    have hq3 := hc.byte q2 hq2
    exact Tot.pure ⟨by simp only; omega, by simp only; omega, by simp only; rw [wr (by omega) (by omega)]; omega⟩
  · rintro ⟨p', x⟩ ⟨h1, h2, h3⟩
    simp only at h1 h2 h3 ⊢
    rw [if_neg (show ¬ n = 0 by omega)]
    refine ⟨(x.tmod n, p', u), rfl, ⟨h1, h2, u0, u1⟩, Int.tmod_nonneg n h3, .inl (Int.tmod_lt_of_pos x (by omega))⟩

theorem pick_tot {F : Nat} {code list : List Int} {p s : Int} (hc : COk code) (hs : SOk code p s) (hl : 0 < list.length) : Tot (fun r : Int × Int × Int => SOk code r.2.1 r.2.2 ∧ r.1 ∈ list) (spec_l01Pick F code p s list) := by
  unfold spec_l01Pick
  refine Tot.bind (next_tot hc hs) fun r hr => Tot.bind (idx_tot hr.2.1 (by omega)) fun q hq => Tot.pure ⟨hr.1, hq⟩

theorem from_tot {F : Nat} {code : List Int} (hF : 134217728 ≤ F) (hc : COk code) : Tot (fun r : Int × Int => SOk code r.1 r.2) (spec_l01From F code) := by
  have hcl := hc.len
  unfold spec_l01From
  refine Tot.bind (P := fun s : Int => 0 ≤ s ∧ s < 2147483647) ?_ fun s hs => Tot.pure ⟨Int.le_refl _, by simp only; omega, hs.1, hs.2⟩
  refine for0 (L := spec_l01From_L1 F code) (len := min code.length 64) (fun _ s => 0 ≤ s ∧ s < 2147483647) (R := Tot fun s => 0 ≤ s ∧ s < 2147483647) ?_ ?_ (by omega) (by omega)
  · rintro n k s hk ⟨s0, s1⟩
    have hx : code[k]? = some (code[k]'(by omega)) := List.getElem?_eq_getElem _
    have hb := hc.byte _ (List.getElem_mem (show k < code.length by omega))
    generalize code[k]'(by omega) = q at hx hb
    have w1 : IntKind.i64.wrap (s * 67) = s * 67 := wr (by omega) (by omega)
    have w2 : IntKind.i64.wrap q = q := wr (by omega) (by omega)
    have w3 : IntKind.i64.wrap (s * 67 + q) = s * 67 + q := wr (by omega) (by omega)
    have w4 : (s * 67 + q).tmod 2147483647 = (s * 67 + q) % 2147483647 := Int.tmod_eq_emod_of_nonneg (by omega)
    refine .inl ⟨(s * 67 + q) % 2147483647, ?_, by omega⟩
    simp only [spec_l01From_L1, bdT (show (k : Int) < (code.length : Int) by omega), dT (show (k : Int) < 64 by omega), Option.bind_some, cond_true, idx_nat, hx, w1, w2, w3, w4, wrN (show k ≤ 67108864 by omega)]
  · rintro n s hs
    by_cases h : code.length < 64
    · have e : min code.length 64 = code.length := by omega
      simp only [spec_l01From_L1, e, bdF (show ¬ (code.length : Int) < (code.length : Int) by omega), Option.bind_some, cond_false]
      exact Tot.pure hs
    · have e : min code.length 64 = 64 := by omega
      rw [e]
      refine ⟨s, ?_, hs⟩
      by_cases h2 : 64 < code.length
      · simp only [spec_l01From_L1, bdT (show ((64 : Nat) : Int) < (code.length : Int) by omega), dF (show ¬ ((64 : Nat) : Int) < 64 by omega), Option.bind_some, cond_false]
      · simp only [spec_l01From_L1, bdF (show ¬ ((64 : Nat) : Int) < (code.length : Int) by omega), Option.bind_some, cond_false]

theorem l11L1_tot {F : Nat} {code : List Int} {r2 : Int × Int × Int} (hc : COk code) : ∀ (n f : Nat) (p s : Int) (xs : List GPlace), n < f → xs.length + n ≤ 1000 → SOk code p s → Tot (fun r : Int × Int × List GPlace => SOk code r.1 r.2.1 ∧ r.2.2.length ≤ xs.length + n) (spec_l11Draw_L1 F code r2 f p s xs (n : Int)) := by
  intro n
  induction n with
  | zero =>
    intro f p s xs hf hx hs
    obtain ⟨f, rfl⟩ : ∃ q, f = q + 1 := ⟨f - 1, by omega⟩
    simp only [spec_l11Draw_L1, bdF (show ¬ 0 < ((0 : Nat) : Int) by omega)]
    exact Tot.pure ⟨hs, Nat.le_refl _⟩
  | succ n ih =>
    intro f p s xs hf hx hs
    obtain ⟨f, rfl⟩ : ∃ q, f = q + 1 := ⟨f - 1, by omega⟩
    simp only [spec_l11Draw_L1, bdT (show 0 < ((n + 1 : Nat) : Int) by omega)]
    refine Tot.bind (P := fun r : Int × Int × Int × Int × Int => SOk code r.1 r.2.1) (Tot.bind (next_tot hc hs) fun r1 h1 => Tot.bind (next_tot hc h1.1) fun r2 h2 => Tot.bind (next_tot hc h2.1) fun r3 h3 => Tot.pure h3.1) ?_
    rintro ⟨p1, s1, v1, v2, v3⟩ h1
    refine Tot.bind (P := fun r : Int × Int × Bool => SOk code r.1 r.2.1) (Tot.cond (fun _ => Tot.pure h1) (fun _ => Tot.bind (next_tot hc h1) fun r h => Tot.pure h.1)) ?_
    rintro ⟨p2, s2, b⟩ h2
    refine Tot.bind (P := fun r : Int × Int × Int => SOk code r.1 r.2.1) (Tot.cond (fun _ => Tot.bind (next_tot hc h2) fun r h => Tot.bind (next_tot hc h.1) fun r h => Tot.pure h.1) (fun _ => Tot.pure h2)) ?_
    rintro ⟨p3, s3, tk⟩ h3
    refine Tot.bind (next_tot hc h3) fun r h4 => ?_
    refine Tot.bind (P := fun _ => True) (Tot.cond (fun _ => Tot.pure trivial) fun _ => Tot.pure trivial) fun tk2 _ => ?_
    refine Tot.bind (app_tot (by simp; omega)) fun ys hys => ?_
    rw [wr (show -9223372036854775808 ≤ ((n + 1 : Nat) : Int) - 1 by omega) (by omega), show ((n + 1 : Nat) : Int) - 1 = (n : Int) by omega]
    have hyl : ys.length = xs.length + 1 := by rw [hys]; simp
    exact (ih f _ _ ys (by omega) (by omega) h4.1).mono fun r hr => ⟨hr.1, by have := hr.2; omega⟩

theorem l11L2_tot {F : Nat} {code : List Int} (hc : COk code) : ∀ (d k f : Nat) (p s : Int) (xs : List GPlace), k + d = 31 → d < f → xs.length + d ≤ 1000 → SOk code p s → Tot (fun r : Int × Int × List GPlace => SOk code r.1 r.2.1 ∧ r.2.2.length ≤ xs.length + d) (spec_l11Draw_L2 F code f p s xs (k : Int)) := by
  intro d
  induction d with
  | zero =>
    intro k f p s xs hk hf hx hs
    obtain ⟨f, rfl⟩ : ∃ q, f = q + 1 := ⟨f - 1, by omega⟩
    simp only [spec_l11Draw_L2]
    refine Tot.bind (next_tot hc hs) fun r h => ?_
    rw [wr (show -9223372036854775808 ≤ 22 + r.1 by omega) (by omega), bdF (by omega)]
    exact Tot.pure ⟨h.1, Nat.le_refl _⟩
  | succ d ih =>
    intro k f p s xs hk hf hx hs
    obtain ⟨f, rfl⟩ : ∃ q, f = q + 1 := ⟨f - 1, by omega⟩
    simp only [spec_l11Draw_L2]
    refine Tot.bind (next_tot hc hs) fun r h => Tot.cond (fun _ => ?_) (fun _ => Tot.pure ⟨h.1, by simp only; omega⟩)
    refine Tot.bind (app_tot (by simp; omega)) fun ys hys => ?_
    rw [wrN (show k ≤ 67108864 by omega)]
    have hyl : ys.length = xs.length + 1 := by rw [hys]; simp
    exact (ih (k + 1) f _ _ ys (by omega) (by omega) (by omega) h.1).mono fun r hr => ⟨hr.1, by have := hr.2; omega⟩

theorem l11Draw_tot {F : Nat} {code : List Int} {p s : Int} (hF : 134217728 ≤ F) (hc : COk code) (hs : SOk code p s) : Tot (fun r : GEventGraph × Int × Int => SOk code r.2.1 r.2.2 ∧ r.1.Places.length ≤ 100 ∧ 0 ≤ r.1.Events ∧ r.1.Events ≤ 11) (spec_l11Draw F code p s) := by
  unfold spec_l11Draw
  refine Tot.bind (next_tot hc hs) fun r1 h1 => Tot.bind (next_tot hc h1.1) fun r2 h2 => ?_
  have hE : IntKind.i64.wrap (1 + r1.1) = 1 + r1.1 := wr (by omega) (by omega)
  rw [hE]
  obtain ⟨m, hm⟩ : ∃ m : Nat, r2.1 = (m : Int) := ⟨r2.1.toNat, by omega⟩
  rw [hm]
  refine Tot.bind (l11L1_tot hc m F _ _ [] (by omega) (by simp; omega) h2.1) ?_
  rintro ⟨p3, s3, xs⟩ ⟨h3, hx⟩
  simp only [List.length_nil] at h3 hx ⊢
  refine Tot.bind (next_tot hc h3) fun r4 h4 => ?_
  refine Tot.cond (fun _ => Tot.bind (pick_tot hc h4.1 (by decide)) fun r5 h5 => Tot.pure ⟨h5.1, by simp only; omega, ?_⟩) fun _ => ?_
  · have := h5.2
    simp only [List.mem_cons, List.not_mem_nil, or_false] at this
    simp only
    omega
  refine Tot.cond (fun _ => ?_) fun _ => ?_
  · refine Tot.bind (P := fun r : Int × Int × List GPlace => SOk code r.1 r.2.1 ∧ r.2.2.length ≤ 60) (Tot.bind (pick_tot hc h4.1 (by simp)) fun r5 h5 => Tot.bind (pick_tot hc h5.1 (by decide)) fun r6 h6 => Tot.bind (app_tot (by simp; omega)) fun ys hys => Tot.pure ⟨h6.1, by simp only [hys, List.length_append, List.length_singleton]; omega⟩) ?_
    rintro ⟨p7, s7, ys⟩ ⟨h7, hy⟩
    exact Tot.pure ⟨h7, by simp only at hy ⊢; omega, by simp only; omega, by simp only; omega⟩
  refine Tot.cond (fun _ => ?_) fun _ => ?_
  · refine Tot.bind (pick_tot hc h4.1 (by decide)) fun r5 h5 => Tot.bind (app_tot (by simp; omega)) fun ys hys => Tot.pure ⟨h5.1, by simp only [hys, List.length_append, List.length_singleton]; omega, by simp only; omega, by simp only; omega⟩
  refine Tot.cond (fun _ => ?_) fun _ => Tot.pure ⟨h4.1, by simp only; omega, by simp only; omega, by simp only; omega⟩
  refine Tot.bind (l11L2_tot hc 31 0 F _ _ xs (by omega) (by omega) (by omega) h4.1) ?_
  rintro ⟨p7, s7, ys⟩ ⟨h7, hy⟩
  exact Tot.pure ⟨h7, by simp only at hy ⊢; omega, by simp only; omega, by simp only; omega⟩

/-! ### The equations of the latest times -/
/-! ### The firing times, with their code -/
/-! ### Runs as folds, responses as powers; runs are convolutions -/
/-! ### Draws of matrices -/
/-! ### Systems in series -/
/-! ### Responses in series and in parallel -/
/-! ### The firing times by their equations -/
theorem order_rank {g : GEventGraph} {o : List Nat} (hg : graphB g = true) (ho : fire (eP g.Places) g.Events.toNat g.Events.toNat [] = some o) : ∀ u v, eP g.Places u v = true → o.idxOf u < o.idxOf v := by
  intro u v huv
  have hE := (GOk.of hg).edge
  obtain ⟨h1, h2⟩ := fire_ok hE _ [] o (OrderOk.nil _ _) ho
  have hn : o.length = g.Events.toNat := by simpa using h2
  have hw := full_mem h1.nodup h1.lt hn (hE u v huv).2
  have hi : o.idxOf v < o.length := List.idxOf_lt_length_of_mem hw
  have hmem := h1.topo (o.idxOf v) v u (by rw [List.getElem?_eq_getElem hi, List.getElem_idxOf]) huv
  obtain ⟨j, hj, hj2⟩ := List.getElem_of_mem hmem
  rw [List.length_take] at hj
  rw [List.getElem_take] at hj2
  have : o.idxOf u ≤ j := by
    rw [← hj2]
    rw [List.Nodup.idxOf_getElem h1.nodup]
    exact Nat.le_refl _
  omega

theorem live_rank {g : GEventGraph} (hg : graphB g = true) : liveB g g.Events.toNat = true ↔ ∃ ρ : Nat → Nat, ∀ u v, eP g.Places u v = true → ρ u < ρ v := by
  constructor
  · intro h
    unfold liveB at h
    cases ho : fire (eP g.Places) g.Events.toNat g.Events.toNat [] with
    | none => rw [ho] at h; cases h
    | some o => exact ⟨fun u => o.idxOf u, order_rank hg ho⟩
  · rintro ⟨ρ, h⟩
    unfold liveB
    cases ho : fire (eP g.Places) g.Events.toNat g.Events.toNat [] with
    | some o => rfl
    | none =>
      obtain ⟨v, q, _, hc⟩ := fire_stuck (GOk.of hg).edge _ [] (OrderOk.nil _ _) (by simp) ho
      exact absurd hc (no_cyc h)

theorem eP_mem {ps : List GPlace} {p : GPlace} {u v : Nat} (hp : p ∈ ps) (h0 : p.Tokens = 0) (hf : p.From = (u : Int)) (ht : p.To = (v : Int)) : eP ps u v = true := by
  unfold eP; rw [List.any_eq_true]; exact ⟨p, hp, by rw [h0, hf, ht]; simp⟩

theorem mem_eP {ps : List GPlace} {u v : Nat} (h : eP ps u v = true) : ∃ p, p ∈ ps ∧ p.Tokens = 0 ∧ p.From = (u : Int) ∧ p.To = (v : Int) := by
  unfold eP at h
  rw [List.any_eq_true] at h
  obtain ⟨p, hp, h⟩ := h
  simp only [Bool.and_eq_true, beq_iff_eq] at h
  exact ⟨p, hp, h.1, h.2.2, h.2.1⟩

theorem ttab_row {g : GEventGraph} {o : List Nat} {xs : List Int} {k : Nat} : ∀ n, k < n → (ttab g o xs n).getD k [] = tround g o (ttab g o xs k) xs
  | 0, h => by omega
  | n + 1, h => by
    have hl := ttab_len g o xs n
    show (ttab g o xs n ++ [tround g o (ttab g o xs n) xs]).getD k [] = _
    rw [List.getD_eq_getElem?_getD]
    by_cases e : k = n
    · subst e
      rw [List.getElem?_append_right (by omega), hl, Nat.sub_self]; rfl
    · rw [List.getElem?_append_left (by omega), ← List.getD_eq_getElem?_getD]
      exact ttab_row n (by omega)

/-! ### The pointers of a search for a better circuit -/
structure PtrOk {α : Type} (t f : α → Nat) (w : α → Int) (ps : List α) (x : Nat → Int) (vs : List Nat) (S : Nat → Prop) (τ : Nat → Nat) (T : Nat) : Prop where
  ptr : ∀ v, S v → ∃ k p, vs[v]? = some k ∧ ps[k]? = some p ∧ t p = v ∧ (x v < x (f p) + w p ∨ (x v = x (f p) + w p ∧ τ (f p) < τ v))
  tim : ∀ v, τ v ≤ T
  non : ∀ v, ¬ S v → x v = 0

theorem PtrOk.p_nil {α : Type} {t f : α → Nat} {w : α → Int} {ps : List α} {vs : List Nat} : PtrOk t f w ps (fun _ => 0) vs (fun _ => False) (fun _ => 0) 0 :=
  ⟨fun _ h => h.elim, fun _ => Nat.le_refl _, fun _ _ => rfl⟩

theorem PtrOk.p_step {α : Type} {t f : α → Nat} {w : α → Int} {ps : List α} {x : Nat → Int} {vs : List Nat} {S : Nat → Prop} {τ : Nat → Nat} {T k : Nat} {p : α} (h : PtrOk t f w ps x vs S τ T) (hp : ps[k]? = some p) (hv : t p < vs.length) (hc : x (t p) < x (f p) + w p) :
    PtrOk t f w ps (stp t f w x p) (vs.set (t p) k) (fun v => v = t p ∨ S v) (fun v => if v = t p then T + 1 else τ v) (T + 1) := by
  have hx : ∀ v, stp t f w x p v = if v = t p then x (f p) + w p else x v := by
    intro v; unfold stp
    by_cases e : v = t p
    · rw [if_pos e, if_pos e]; omega
    · rw [if_neg e, if_neg e]
  refine ⟨fun v hS => ?_, fun v => ?_, fun v hS => ?_⟩
  · by_cases e : v = t p
    · subst e
      refine ⟨k, p, by rw [List.getElem?_set, if_pos rfl, if_pos hv], hp, rfl, ?_⟩
      rw [hx, hx, if_pos rfl, if_pos rfl]
      by_cases e2 : f p = t p
      · rw [if_pos e2]; left; rw [e2] at hc ⊢; omega
      · rw [if_neg e2, if_neg e2]
        right; exact ⟨rfl, by have := h.tim (f p); omega⟩
    · have hS' : S v := hS.resolve_left e
      obtain ⟨k', q, a1, a2, a3, a4⟩ := h.ptr v hS'
      refine ⟨k', q, by rw [List.getElem?_set, if_neg (fun hh => e hh.symm)]; exact a1, a2, a3, ?_⟩
      rw [hx, hx, if_neg e, if_neg e]
      by_cases e2 : f q = t p
      · rw [if_pos e2]; left
        rw [e2] at a4
        rcases a4 with a4 | ⟨a4, _⟩ <;> omega
      · rw [if_neg e2, if_neg e2]; exact a4
  · show (if v = t p then T + 1 else τ v) ≤ T + 1
    split
    · exact Nat.le_refl _
    · have := h.tim v; omega
  · have e : v ≠ t p := fun e => hS (.inl e)
    rw [hx, if_neg e]
    exact h.non v fun h2 => hS (.inr h2)

/-- the place that an event points to, and the event before it -/
def viaP {α : Type} (ps : List α) (d : α) (vs : List Nat) (v : Nat) : α := (ps[(vs[v]?).getD 0]?).getD d

theorem viaP_of {α : Type} {ps : List α} {d p : α} {vs : List Nat} {v k : Nat} (h1 : vs[v]? = some k) (h2 : ps[k]? = some p) : viaP ps d vs v = p := by
  unfold viaP; rw [h1, Option.getD_some, h2, Option.getD_some]

theorem its_le {α : Type} {t f : α → Nat} {w : α → Int} (x : Nat → Int) (ps : List α) (v : Nat) : ∀ d k, its t f w x ps k v ≤ its t f w x ps (k + d) v
  | 0, _ => Int.le_refl _
  | d + 1, k => Int.le_trans (its_le x ps v d k) (rnd_ge ps _ v)

/-- a chain of pointers does not end early -/
theorem PtrOk.p_chain {α : Type} {t f : α → Nat} {w : α → Int} {ps : List α} {x : Nat → Int} {vs : List Nat} {S : Nat → Prop} {τ : Nat → Nat} {T : Nat} {d : α} (h : PtrOk t f w ps x vs S τ T) :
    ∀ (k v : Nat), (∀ i, i < k → S (itn (fun v => f (viaP ps d vs v)) i v)) → ¬ S (itn (fun v => f (viaP ps d vs v)) k v) → x v ≤ its t f w (fun _ => 0) ps k v
  | 0, v, _, h2 => by
    have h2 : ¬ S v := h2
    rw [h.non v h2]; exact Int.le_refl _
  | k + 1, v, h1, h2 => by
    have hS : S v := h1 0 (by omega)
    obtain ⟨k', p, a1, a2, a3, a4⟩ := h.ptr v hS
    have hv : viaP ps d vs v = p := viaP_of a1 a2
    have ih := PtrOk.p_chain h k (f (viaP ps d vs v)) (fun i hi => h1 (i + 1) (by omega)) h2
    have ha := rnd_arc (t := t) (f := f) (w := w) ps (its t f w (fun _ => 0) ps k) p (List.mem_of_getElem? a2)
    rw [hv] at ih
    rw [a3] at ha
    show x v ≤ rnd t f w (its t f w (fun _ => 0) ps k) ps v
    rcases a4 with a4 | ⟨a4, _⟩ <;> omega

/-- the weights along a chain -/
def chainW (φ : Nat → Nat) (ω : Nat → Int) : Nat → Nat → Int
  | 0, _ => 0
  | m + 1, v => ω v + chainW φ ω m (φ v)

theorem PtrOk.p_sum {α : Type} {t f : α → Nat} {w : α → Int} {ps : List α} {x : Nat → Int} {vs : List Nat} {S : Nat → Prop} {τ : Nat → Nat} {T : Nat} {d : α} (h : PtrOk t f w ps x vs S τ T) :
    ∀ (m v : Nat), (∀ i, i < m → S (itn (fun v => f (viaP ps d vs v)) i v)) → (m : Int) ≤ ((T : Int) + 1) * (x (itn (fun v => f (viaP ps d vs v)) m v) + chainW (fun v => f (viaP ps d vs v)) (fun v => w (viaP ps d vs v)) m v - x v) + ((τ v : Int) - (τ (itn (fun v => f (viaP ps d vs v)) m v) : Int))
  | 0, v, _ => by
    show ((0 : Nat) : Int) ≤ ((T : Int) + 1) * (x v + 0 - x v) + ((τ v : Int) - (τ v : Int))
    rw [show x v + 0 - x v = 0 by omega, Int.mul_zero]; omega
  | m + 1, v, h1 => by
    have hS : S v := h1 0 (by omega)
    obtain ⟨k', p, a1, a2, a3, a4⟩ := h.ptr v hS
    have hv : viaP ps d vs v = p := viaP_of a1 a2
    have ih := PtrOk.p_sum h m (f (viaP ps d vs v)) (fun i hi => h1 (i + 1) (by omega))
    have e1 : itn (fun v => f (viaP ps d vs v)) (m + 1) v = itn (fun v => f (viaP ps d vs v)) m (f (viaP ps d vs v)) := rfl
    have e2 : chainW (fun v => f (viaP ps d vs v)) (fun v => w (viaP ps d vs v)) (m + 1) v = w (viaP ps d vs v) + chainW (fun v => f (viaP ps d vs v)) (fun v => w (viaP ps d vs v)) m (f (viaP ps d vs v)) := rfl
    rw [e1, e2]
    rw [hv] at ih ⊢
    generalize itn (fun v => f (viaP ps d vs v)) m (f p) = u at ih ⊢
    generalize chainW (fun v => f (viaP ps d vs v)) (fun v => w (viaP ps d vs v)) m (f p) = c at ih ⊢
    have t1 := h.tim (f p)
    have t2 := h.tim v
    have e3 : ((T : Int) + 1) * (x u + (w p + c) - x v) = ((T : Int) + 1) * (x u + c - x (f p)) + ((T : Int) + 1) * (x (f p) + w p - x v) := by
      rw [← Int.mul_add]; congr 1; omega
    rw [e3]
    rcases a4 with a4 | ⟨a4, a5⟩
    · have h5 : ((T : Int) + 1) * 1 ≤ ((T : Int) + 1) * (x (f p) + w p - x v) := Int.mul_le_mul_of_nonneg_left (by omega) (by omega)
      rw [Int.mul_one] at h5
      omega
    · rw [show x (f p) + w p - x v = 0 by omega, Int.mul_zero]
      omega

/-- a cycle of pointers is positive -/
theorem PtrOk.p_cycle {α : Type} {t f : α → Nat} {w : α → Int} {ps : List α} {x : Nat → Int} {vs : List Nat} {S : Nat → Prop} {τ : Nat → Nat} {T : Nat} {d : α} (h : PtrOk t f w ps x vs S τ T) {m v : Nat} (hm : 0 < m) (hS : ∀ i, i < m → S (itn (fun v => f (viaP ps d vs v)) i v)) (hv : itn (fun v => f (viaP ps d vs v)) m v = v) :
    0 < chainW (fun v => f (viaP ps d vs v)) (fun v => w (viaP ps d vs v)) m v := by
  have h1 := h.p_sum m v hS
  rw [hv] at h1
  generalize chainW (fun v => f (viaP ps d vs v)) (fun v => w (viaP ps d vs v)) m v = c at h1 ⊢
  rw [show x v + c - x v = c by omega] at h1
  refine Int.not_le.1 fun hc => ?_
  have h2 : ((T : Int) + 1) * c ≤ ((T : Int) + 1) * 0 := Int.mul_le_mul_of_nonneg_left hc (by omega)
  rw [Int.mul_zero] at h2
  omega

/-- from the event that the last round changed, every pointer is a true one -/
theorem PtrOk.p_whole {α : Type} {t f : α → Nat} {w : α → Int} {ps : List α} {x : Nat → Int} {vs : List Nat} {S : Nat → Prop} {τ : Nat → Nat} {T n e : Nat} {d : α} (h : PtrOk t f w ps x vs S τ T) (hlt : ∀ v, v < n → f (viaP ps d vs v) < n) (he : e < n) (hx : its t f w (fun _ => 0) ps n e < x e) : ∀ k, S (itn (fun v => f (viaP ps d vs v)) k e) := by
  have first : ∀ k, k ≤ n → S (itn (fun v => f (viaP ps d vs v)) k e) := by
    intro k
    induction k using Nat.strongRecOn with
    | ind k ih =>
      intro hk
      refine Classical.byContradiction fun hS => ?_
      have h1 := h.p_chain k e (fun i hi => ih i hi (by omega)) hS
      have h2 := its_le (t := t) (f := f) (w := w) (fun _ => 0) ps e (n - k) k
      rw [show k + (n - k) = n by omega] at h2
      omega
  obtain ⟨p, q, h1, h2, h3⟩ := pigeon_n (n := n) (c := fun k => itn (fun v => f (viaP ps d vs v)) k e) (fun k _ => itn_lt hlt k he)
  have h3 : itn (fun v => f (viaP ps d vs v)) p e = itn (fun v => f (viaP ps d vs v)) q e := h3
  intro k
  induction k using Nat.strongRecOn with
  | ind k ih =>
    by_cases hk : k ≤ n
    · exact first k hk
    · have e1 : itn (fun v => f (viaP ps d vs v)) k e = itn (fun v => f (viaP ps d vs v)) (k - q + p) e := by
        rw [itn_add, h3, ← itn_add, show k - q + q = k by omega]
      rw [e1]
      exact ih _ (by omega)

/-! ### The search for a better circuit, at any ratio -/
def qW (r : GRatio) (p : GPlace) : Int := r.Den * p.Delay - r.Num * p.Tokens

def RatOk (r : GRatio) : Prop := 0 ≤ r.Num ∧ r.Num ≤ 100000 ∧ 1 ≤ r.Den ∧ r.Den ≤ 100

theorem qW_bd {g : GEventGraph} (h : graphB g = true) {r : GRatio} (hr : RatOk r) {p : GPlace} (hp : p ∈ g.Places) : -1000000 ≤ qW r p ∧ qW r p ≤ 1000000 ∧ IntKind.i64.wrap (IntKind.i64.wrap (r.Den * p.Delay) - IntKind.i64.wrap (r.Num * p.Tokens)) = qW r p := by
  obtain ⟨h0, h1, h2, h3⟩ := hr
  obtain ⟨r1, r2, r3, r4, r5, r6, r7, r8⟩ := graphB_range h p hp
  have a1 : 0 ≤ r.Num * p.Tokens := Int.mul_nonneg h0 (by omega)
  have a2 : r.Num * p.Tokens ≤ 100000 * 5 := Int.mul_le_mul h1 (by omega) (by omega) (by omega)
  have a3 : 0 ≤ r.Den * p.Delay := Int.mul_nonneg (by omega) (by omega)
  have a4 : r.Den * p.Delay ≤ 100 * 1000 := Int.mul_le_mul h3 (by omega) (by omega) (by omega)
  unfold qW
  refine ⟨by omega, by omega, ?_⟩
  rw [wr (n := r.Den * p.Delay) (by omega) (by omega), wr (n := r.Num * p.Tokens) (by omega) (by omega), wr (by omega) (by omega)]

/-- pointers and times that are kept somewhere -/
def PtrEx (g : GEventGraph) (r : GRatio) (x : Nat → Int) (vs : List Nat) : Prop := ∃ S τ T, PtrOk plT plF (qW r) g.Places x vs S τ T

theorem btr_round {F : Nat} {g : GEventGraph} {r : GRatio} (hF : 134217728 ≤ F) (h : graphB g = true) (hr : RatOk r) {x : Nat → Int} {M : Int} (hM : 0 ≤ M) (hM1 : M ≤ 1000000000000) (hx : ∀ i, i < g.Events.toNat → -M ≤ x i ∧ x i ≤ M) {vs : List Nat} (hv : ViaOk g.Events.toNat g.Places.length vs) (hP : PtrEx g r x vs) :
    ∃ vs' e, impl_betterCircuit_L5 F g r F (tb g.Events.toNat x) (nl vs) (-1) 0 = some (tb g.Events.toNat (rnd plT plF (qW r) x g.Places), nl vs', e) ∧ ViaOk g.Events.toNat g.Places.length vs' ∧ PtrEx g r (rnd plT plF (qW r) x g.Places) vs' ∧ ((e = -1 ∧ chd plT plF (qW r) x g.Places = false) ∨ ∃ e' : Nat, e = (e' : Int) ∧ e' < g.Events.toNat ∧ x e' < rnd plT plF (qW r) x g.Places e') := by
  obtain ⟨e1, e2, e3, _, _⟩ := graphB_true h
  refine for0 (L := fun m (s : List Int × List Int × Int) i => impl_betterCircuit_L5 F g r m s.1 s.2.1 s.2.2 i) (len := g.Places.length)
    (fun k s => s.1 = tb g.Events.toNat (rnd plT plF (qW r) x (g.Places.take k)) ∧ ∃ vs', s.2.1 = nl vs' ∧ ViaOk g.Events.toNat g.Places.length vs' ∧ PtrEx g r (rnd plT plF (qW r) x (g.Places.take k)) vs' ∧ ((s.2.2 = -1 ∧ chd plT plF (qW r) x (g.Places.take k) = false) ∨ ∃ e' : Nat, s.2.2 = (e' : Int) ∧ e' < g.Events.toNat ∧ x e' < rnd plT plF (qW r) x (g.Places.take k) e'))
    (R := fun o => ∃ vs' e, o = some (tb g.Events.toNat (rnd plT plF (qW r) x g.Places), nl vs', e) ∧ ViaOk g.Events.toNat g.Places.length vs' ∧ PtrEx g r (rnd plT plF (qW r) x g.Places) vs' ∧ ((e = -1 ∧ chd plT plF (qW r) x g.Places = false) ∨ ∃ e' : Nat, e = (e' : Int) ∧ e' < g.Events.toNat ∧ x e' < rnd plT plF (qW r) x g.Places e')) (s := (tb g.Events.toNat x, nl vs, -1)) ?_ ?_ ⟨rfl, vs, rfl, hv, hP, .inl ⟨rfl, rfl⟩⟩ (by omega)
  · rintro m k ⟨xs, us, e⟩ hk ⟨rfl, vs', rfl, hv', hP', he⟩
    have hp : g.Places[k]? = some g.Places[k] := List.getElem?_eq_getElem hk
    have hmem := List.getElem_mem hk
    have hge := rnd_ge (t := plT) (f := plF) (w := qW r) (g.Places.take k) x
    rw [List.take_add_one, hp, Option.toList_some, rnd_snoc, chd_snoc]
    have hy := rnd_bd (t := plT) (f := plF) (w := qW r) (n := g.Events.toNat) (ps := g.Places.take k) (x := x) (M := M) (fun p hp => ⟨⟨(pl_at h (List.mem_of_mem_take hp)).2.2.1, (pl_at h (List.mem_of_mem_take hp)).2.2.2⟩, (qW_bd h hr (List.mem_of_mem_take hp)).1, (qW_bd h hr (List.mem_of_mem_take hp)).2.1⟩) hx
    have hl : (g.Places.take k).length ≤ 30 := by rw [List.length_take]; omega
    generalize (g.Places.take k).length = l at hy hl
    generalize rnd plT plF (qW r) x (g.Places.take k) = y at hy he hP' hge
    generalize chd plT plF (qW r) x (g.Places.take k) = b at he
    generalize g.Places[k] = p at hp hmem
    obtain ⟨a1, a2, a3, a4⟩ := pl_at h hmem
    obtain ⟨b1, b2, a5⟩ := qW_bd h hr hmem
    have y1 := hy _ a3
    have y2 := hy _ a4
    have hw : IntKind.i64.wrap (y (plF p) + qW r p) = y (plF p) + qW r p := wr (by omega) (by omega)
    have hwk : IntKind.i64.wrap ((k : Int) + 1) = ((k + 1 : Nat) : Int) := wrN (by omega)
    by_cases hc : y (plT p) < y (plF p) + qW r p
    · obtain ⟨S, τ, T, hQ⟩ := hP'
      refine .inl ⟨(tb g.Events.toNat (stp plT plF (qW r) y p), nl (vs'.set (plT p) k), (plT p : Int)), ?_, rfl, _, rfl, via_set hv' hk _, ⟨_, _, _, hQ.p_step hp (by rw [hv'.1]; exact a3) hc⟩, .inr ⟨plT p, rfl, a3, ?_⟩⟩
      · simp only [impl_betterCircuit_L5, impl_placeWeight, bdT (show (k : Int) < (g.Places.length : Int) by omega), idx_nat, hp, Option.bind_some, a5]
        rw [a1, a2]
        simp only [idx_nat, tb_at a3, tb_at a4, Option.bind_some, hw, bdT hc, upd_nat _ (show plT p < (tb g.Events.toNat y).length by rw [tb_len]; exact a3), nl_at, List.getElem?_eq_getElem (show plT p < vs'.length by rw [hv'.1]; exact a3), Option.map_some, upd_nat _ (show plT p < (nl vs').length by rw [nl_len, hv'.1]; exact a3), nl_set, tb_set, hwk]
        congr 2
        funext i
        unfold stp
        by_cases ei : i = plT p
        · rw [if_pos ei, if_pos ei]; omega
        · rw [if_neg ei, if_neg ei]
      · have h1 := hge (plT p)
        have h2 := stp_arc (t := plT) (f := plF) (w := qW r) y p
        omega
    · refine .inl ⟨(tb g.Events.toNat (stp plT plF (qW r) y p), nl vs', e), ?_, rfl, _, rfl, hv', ?_, ?_⟩
      · rw [stp_same (show y (plF p) + qW r p ≤ y (plT p) by omega)]
        simp only [impl_betterCircuit_L5, impl_placeWeight, bdT (show (k : Int) < (g.Places.length : Int) by omega), idx_nat, hp, Option.bind_some, a5]
        rw [a1, a2]
        simp only [idx_nat, tb_at a3, tb_at a4, Option.bind_some, hw, bdF hc, hwk]
      · rw [stp_same (show y (plF p) + qW r p ≤ y (plT p) by omega)]; exact hP'
      · have : chg plT plF (qW r) y p = false := chg_false.2 (by omega)
        rw [this, Bool.or_false, stp_same (show y (plF p) + qW r p ≤ y (plT p) by omega)]; exact he
  · rintro m ⟨xs, us, e⟩ ⟨rfl, vs', rfl, hv', hP', he⟩
    rw [List.take_length] at he hP'
    refine ⟨vs', e, ?_, hv', hP', he⟩
    simp only [impl_betterCircuit_L5, bdF (show ¬ (g.Places.length : Int) < (g.Places.length : Int) by omega), List.take_length]

theorem itsq_small {g : GEventGraph} {r : GRatio} (h : graphB g = true) (hr : RatOk r) : ∀ (k i : Nat), i < g.Events.toNat → -(30000000 * (k : Int)) ≤ its plT plF (qW r) (fun _ => 0) g.Places k i ∧ its plT plF (qW r) (fun _ => 0) g.Places k i ≤ 30000000 * (k : Int) := by
  intro k
  obtain ⟨_, _, e3, _, _⟩ := graphB_true h
  induction k with
  | zero => intro i hi; show -(30000000 * ((0 : Nat) : Int)) ≤ (0 : Int) ∧ (0 : Int) ≤ _; omega
  | succ k ih =>
    intro i hi
    have := rnd_bd (t := plT) (f := plF) (w := qW r) (n := g.Events.toNat) (ps := g.Places) (fun p hp => ⟨⟨(pl_at h hp).2.2.1, (pl_at h hp).2.2.2⟩, (qW_bd h hr hp).1, (qW_bd h hr hp).2.1⟩) ih i hi
    show -(30000000 * ((k + 1 : Nat) : Int)) ≤ rnd plT plF (qW r) (its plT plF (qW r) (fun _ => 0) g.Places k) g.Places i ∧ rnd plT plF (qW r) (its plT plF (qW r) (fun _ => 0) g.Places k) g.Places i ≤ _
    omega

theorem btr_rounds {F : Nat} {g : GEventGraph} {r : GRatio} (hF : 134217728 ≤ F) (h : graphB g = true) (hr : RatOk r) {vs : List Nat} (hv : ViaOk g.Events.toNat g.Places.length vs) :
    (impl_betterCircuit_L4 F g r F (tb g.Events.toNat fun _ => 0) (nl vs) (-1) 0 = some (.inl []) ∧ ∃ x : Nat → Int, ∀ p, p ∈ g.Places → x (plF p) + qW r p ≤ x (plT p)) ∨ ∃ vs' e x, impl_betterCircuit_L4 F g r F (tb g.Events.toNat fun _ => 0) (nl vs) (-1) 0 = some (.inr (nl vs', ((e : Nat) : Int))) ∧ ViaOk g.Events.toNat g.Places.length vs' ∧ e < g.Events.toNat ∧ PtrEx g r x vs' ∧ its plT plF (qW r) (fun _ => 0) g.Places g.Events.toNat e < x e := by
  obtain ⟨e1, e2, e3, _, _⟩ := graphB_true h
  have hw1 : IntKind.i64.wrap (g.Events + 1) = ((g.Events.toNat + 1 : Nat) : Int) := by rw [wr (by omega) (by omega)]; omega
  refine for0 (L := fun m (s : List Int × List Int × Int) i => impl_betterCircuit_L4 F g r m s.1 s.2.1 s.2.2 i) (len := g.Events.toNat + 1)
    (fun k s => s.1 = tb g.Events.toNat (its plT plF (qW r) (fun _ => 0) g.Places k) ∧ (∃ vs', s.2.1 = nl vs' ∧ ViaOk g.Events.toNat g.Places.length vs' ∧ PtrEx g r (its plT plF (qW r) (fun _ => 0) g.Places k) vs') ∧ (k = 0 ∨ ∃ e' : Nat, s.2.2 = (e' : Int) ∧ e' < g.Events.toNat ∧ its plT plF (qW r) (fun _ => 0) g.Places (k - 1) e' < its plT plF (qW r) (fun _ => 0) g.Places k e'))
    (R := fun o => (o = some (.inl []) ∧ ∃ x : Nat → Int, ∀ p, p ∈ g.Places → x (plF p) + qW r p ≤ x (plT p)) ∨ ∃ vs' e x, o = some (.inr (nl vs', ((e : Nat) : Int))) ∧ ViaOk g.Events.toNat g.Places.length vs' ∧ e < g.Events.toNat ∧ PtrEx g r x vs' ∧ its plT plF (qW r) (fun _ => 0) g.Places g.Events.toNat e < x e) (s := (tb g.Events.toNat fun _ => 0, nl vs, -1)) ?_ ?_ ⟨rfl, ⟨vs, rfl, hv, _, _, _, PtrOk.p_nil⟩, .inl rfl⟩ (by omega)
  · intro m k s hk hs
    have hwk : IntKind.i64.wrap ((k : Int) + 1) = ((k + 1 : Nat) : Int) := wrN (by omega)
    have hlt : (k : Int) < ((g.Events.toNat + 1 : Nat) : Int) := by omega
    revert hs
    obtain ⟨xs, us, e⟩ := s
    rintro ⟨rfl, ⟨vs', rfl, hv', hP'⟩, _⟩
    have hb := itsq_small h hr k
    obtain ⟨vs2, e2, hrd, hv2, hP2, he⟩ := btr_round hF h hr (x := its plT plF (qW r) (fun _ => 0) g.Places k) (M := 30000000 * (k : Int)) (by omega) (by omega) hb hv' hP'
    have S : impl_betterCircuit_L4 F g r (m + 1) (tb g.Events.toNat (its plT plF (qW r) (fun _ => 0) g.Places k)) (nl vs') e (k : Int) = bif decide (e2 < 0) then some (.inl []) else impl_betterCircuit_L4 F g r m (tb g.Events.toNat (its plT plF (qW r) (fun _ => 0) g.Places (k + 1))) (nl vs2) e2 ((k + 1 : Nat) : Int) := by
      simp only [impl_betterCircuit_L4, hw1, bdT hlt, hrd, Option.bind_some, hwk]
      rfl
    rcases he with ⟨rfl, hc⟩ | ⟨e', rfl, he', hc⟩
    · exact .inr (.inl ⟨S.trans rfl, _, (chd_false hc).2⟩)
    · refine .inl ⟨(tb g.Events.toNat (its plT plF (qW r) (fun _ => 0) g.Places (k + 1)), nl vs2, (e' : Int)), ?_, rfl, ⟨vs2, rfl, hv2, hP2⟩, .inr ⟨e', rfl, he', hc⟩⟩
      exact S.trans (by rw [bdF (show ¬ (e' : Int) < 0 by omega)])
  · rintro m ⟨xs, us, e⟩ ⟨rfl, ⟨vs', rfl, hv', hP'⟩, he⟩
    rcases he with he | ⟨e', rfl, he', hc⟩
    · omega
    · refine .inr ⟨vs', e', _, ?_, hv', he', hP', hc⟩
      simp only [impl_betterCircuit_L4, hw1, bdF (show ¬ ((g.Events.toNat + 1 : Nat) : Int) < ((g.Events.toNat + 1 : Nat) : Int) by omega)]

/-- the circuit that the pointers hold is better -/
theorem btr_cycle {g : GEventGraph} {r : GRatio} (h : graphB g = true) {vs : List Nat} {x : Nat → Int} {e : Nat} (hv : ViaOk g.Events.toNat g.Places.length vs) (hP : PtrEx g r x vs) (he : e < g.Events.toNat) (hx : its plT plF (qW r) (fun _ => 0) g.Places g.Events.toNat e < x e) {m : Nat} (hm : 0 < m) (hc : itn (backN g vs) m (itn (backN g vs) g.Events.toNat e) = itn (backN g vs) g.Events.toNat e) :
    0 < chainW (backN g vs) (fun v => qW r (viaP g.Places ⟨0, 0, 0, 0⟩ vs v)) m (itn (backN g vs) g.Events.toNat e) ∧ ∀ i, plT (viaP g.Places ⟨0, 0, 0, 0⟩ vs (itn (backN g vs) i e)) = itn (backN g vs) i e := by
  obtain ⟨S, τ, T, hQ⟩ := hP
  have hb : (backN g vs) = fun v => plF (viaP g.Places ⟨0, 0, 0, 0⟩ vs v) := rfl
  have hlt : ∀ v, v < g.Events.toNat → backN g vs v < g.Events.toNat := fun v hn => by
    obtain ⟨_, _, _, _, _, hb⟩ := back_at h hv hn
    exact hb
  have hall := hQ.p_whole (d := GPlace.mk 0 0 0 0) (n := g.Events.toNat) (e := e) hlt he hx
  refine ⟨?_, fun i => ?_⟩
  · refine hQ.p_cycle (d := GPlace.mk 0 0 0 0) hm (fun i _ => ?_) hc
    have := hall (i + g.Events.toNat)
    rw [itn_add] at this
    exact this
  · obtain ⟨k, p, a1, a2, a3, _⟩ := hQ.ptr _ (hall i)
    rw [hb, viaP_of a1 a2]; exact a3

/-! ### The circuit that is gathered -/
def chainL (vs : List Nat) (φ : Nat → Nat) : Nat → Nat → List Int
  | 0, _ => []
  | m + 1, v => (((vs[v]?).getD 0 : Nat) : Int) :: chainL vs φ m (φ v)

theorem btr_gather {F : Nat} {g : GEventGraph} (h : graphB g = true) {vs : List Nat} (hv : ViaOk g.Events.toNat g.Places.length vs) {s : Nat} : ∀ (m : Nat) {x : Nat} {xs : List Int} {fuel : Nat}, x < g.Events.toNat → itn (backN g vs) (m + 1) x = s → m < fuel → xs.length + m + 1 ≤ 1000 →
    ∃ d, d ≤ m ∧ impl_betterCircuit_L7 F g (nl vs) (s : Int) fuel xs (x : Int) = some (xs ++ chainL vs (backN g vs) (d + 1) x) ∧ itn (backN g vs) (d + 1) x = s := by
  intro m
  induction m with
  | zero =>
    intro x xs fuel hx hs hf hl
    obtain ⟨fuel, rfl⟩ : ∃ k, fuel = k + 1 := ⟨fuel - 1, by omega⟩
    obtain ⟨u, p, h1, h2, h3, _⟩ := back_at h hv hx
    have hs' : backN g vs x = s := hs
    have hch : chainL vs (backN g vs) (0 + 1) x = [(u : Int)] := by unfold chainL chainL; rw [h1]; rfl
    refine ⟨0, Nat.le_refl _, ?_, hs⟩
    rw [hch]
    simp only [impl_betterCircuit_L7, idx_nat, nl_at, h1, Option.map_some, Option.bind_some, app_le (show xs.length + [(u : Int)].length ≤ 67108864 by simp only [List.length_singleton]; omega), h2, h3, hs', beq_self_eq_true, cond_true]
  | succ m ih =>
    intro x xs fuel hx hs hf hl
    obtain ⟨fuel, rfl⟩ : ∃ k, fuel = k + 1 := ⟨fuel - 1, by omega⟩
    obtain ⟨u, p, h1, h2, h3, h4⟩ := back_at h hv hx
    by_cases hc : backN g vs x = s
    · have hch : chainL vs (backN g vs) (0 + 1) x = [(u : Int)] := by unfold chainL chainL; rw [h1]; rfl
      refine ⟨0, by omega, ?_, hc⟩
      rw [hch]
      simp only [impl_betterCircuit_L7, idx_nat, nl_at, h1, Option.map_some, Option.bind_some, app_le (show xs.length + [(u : Int)].length ≤ 67108864 by simp only [List.length_singleton]; omega), h2, h3, hc, beq_self_eq_true, cond_true]
    · obtain ⟨d, h5, h6, h7⟩ := ih (x := backN g vs x) (xs := xs ++ [(u : Int)]) (fuel := fuel) h4 hs (by omega) (by rw [List.length_append, List.length_singleton]; omega)
      refine ⟨d + 1, by omega, ?_, h7⟩
      have hch : chainL vs (backN g vs) (d + 1 + 1) x = (u : Int) :: chainL vs (backN g vs) (d + 1) (backN g vs x) := by
        show (((vs[x]?).getD 0 : Nat) : Int) :: _ = _
        rw [h1]; rfl
      rw [hch]
      rw [List.append_assoc] at h6
      simp only [impl_betterCircuit_L7, idx_nat, nl_at, h1, Option.map_some, Option.bind_some, app_le (show xs.length + [(u : Int)].length ≤ 67108864 by simp only [List.length_singleton]; omega), h2, h3, beq_false_of_ne (show ((backN g vs x : Nat) : Int) ≠ (s : Int) by omega), cond_false, h6]
      rfl

theorem reverse_perm {F : Nat} : ∀ (m : Nat) {fuel : Nat} {xs : List Int} {i j : Int}, 0 ≤ i → j < (xs.length : Int) → -1 ≤ j → j - i ≤ (m : Int) → m < fuel → xs.length ≤ 1048576 → i ≤ 1048576 → ∃ ys, slices_Reverse_int64_L1 F fuel xs i j = some ys ∧ List.Perm ys xs := by
  intro m
  induction m with
  | zero =>
    intro fuel xs i j h0 h1 h2 h3 h4 h5 h6
    obtain ⟨fuel, rfl⟩ : ∃ k, fuel = k + 1 := ⟨fuel - 1, by omega⟩
    exact ⟨xs, by simp only [slices_Reverse_int64_L1, bdF (show ¬ i < j by omega)], List.Perm.refl _⟩
  | succ m ih =>
    intro fuel xs i j h0 h1 h2 h3 h4 h5 h6
    obtain ⟨fuel, rfl⟩ : ∃ k, fuel = k + 1 := ⟨fuel - 1, by omega⟩
    by_cases hc : i < j
    · obtain ⟨i', rfl⟩ : ∃ k : Nat, i = (k : Int) := ⟨i.toNat, by omega⟩
      obtain ⟨j', rfl⟩ : ∃ k : Nat, j = (k : Int) := ⟨j.toNat, by omega⟩
      have li : i' < xs.length := by omega
      have lj : j' < xs.length := by omega
      obtain ⟨ys, e1, e2⟩ := ih (fuel := fuel) (xs := (xs.set i' xs[j']).set j' xs[i']) (i := ((i' + 1 : Nat) : Int)) (j := (j' : Int) - 1) (by omega) (by rw [List.length_set, List.length_set]; omega) (by omega) (by omega) (by omega) (by rw [List.length_set, List.length_set]; omega) (by omega)
      refine ⟨ys, ?_, e2.trans (List.set_set_perm li lj)⟩
      have l2 : j' < (xs.set i' xs[j']).length := by rw [List.length_set]; exact lj
      simp only [slices_Reverse_int64_L1, bdT hc, idx_nat, List.getElem?_eq_getElem li, List.getElem?_eq_getElem lj, List.getElem?_eq_getElem l2, Option.bind_some, upd_nat _ li, upd_nat _ l2, wrN (show i' ≤ 67108864 by omega), wr (show -9223372036854775808 ≤ (j' : Int) - 1 by omega) (by omega), e1]
    · exact ⟨xs, by simp only [slices_Reverse_int64_L1, bdF hc], List.Perm.refl _⟩

/-! ### Sums over a circuit -/
def pS (g : GEventGraph) (f : GPlace → Int) (c : List Int) : Int := c.foldr (fun i s => f (plD g i.toNat) + s) 0

theorem pS_cons (g : GEventGraph) (f : GPlace → Int) (i : Int) (c : List Int) : pS g f (i :: c) = f (plD g i.toNat) + pS g f c := rfl

theorem pS_perm {g : GEventGraph} {f : GPlace → Int} {a b : List Int} (h : List.Perm a b) : pS g f a = pS g f b := by
  induction h with
  | nil => rfl
  | cons i _ ih => rw [pS_cons, pS_cons, ih]
  | swap i j l => rw [pS_cons, pS_cons, pS_cons, pS_cons]; omega
  | trans _ _ h1 h2 => exact h1.trans h2

theorem pS_add (g : GEventGraph) (f f' : GPlace → Int) : ∀ c : List Int, pS g (fun p => f p + f' p) c = pS g f c + pS g f' c
  | [] => rfl
  | i :: c => by rw [pS_cons, pS_cons, pS_cons, pS_add g f f' c]; omega

theorem pS_mul (g : GEventGraph) (k : Int) (f : GPlace → Int) : ∀ c : List Int, pS g (fun p => k * f p) c = k * pS g f c
  | [] => by show (0 : Int) = k * 0; rw [Int.mul_zero]
  | i :: c => by rw [pS_cons, pS_cons, pS_mul g k f c, Int.mul_add]

theorem pS_le {g : GEventGraph} {f f' : GPlace → Int} : ∀ c : List Int, (∀ i, i ∈ c → f (plD g i.toNat) ≤ f' (plD g i.toNat)) → pS g f c ≤ pS g f' c
  | [], _ => Int.le_refl _
  | i :: c, h => by
    have h1 := h i List.mem_cons_self
    have h2 := pS_le c fun j hj => h j (List.mem_cons_of_mem _ hj)
    rw [pS_cons, pS_cons]; omega

/-- a circuit, for all that is asked of it: every potential has the same sum over the heads as over the tails -/
structure Clo (g : GEventGraph) (c : List Int) : Prop where
  rng : ∀ i, i ∈ c → 0 ≤ i ∧ i < (g.Places.length : Int)
  bal : ∀ y : Nat → Int, pS g (fun p => y (plT p)) c = pS g (fun p => y (plF p)) c

theorem chain_sum {g : GEventGraph} {vs : List Nat} (f : GPlace → Int) : ∀ (m v : Nat), pS g f (chainL vs (backN g vs) m v) = chainW (backN g vs) (fun v => f (viaP g.Places ⟨0, 0, 0, 0⟩ vs v)) m v
  | 0, _ => rfl
  | m + 1, v => by
    show pS g f ((((vs[v]?).getD 0 : Nat) : Int) :: chainL vs (backN g vs) m (backN g vs v)) = _
    rw [pS_cons, chain_sum f m]
    have e : plD g (((vs[v]?).getD 0 : Nat) : Int).toNat = viaP g.Places ⟨0, 0, 0, 0⟩ vs v := by
      unfold plD viaP; rw [Int.toNat_natCast, List.getD_eq_getElem?_getD]
    rw [e]; rfl

theorem chain_tele {g : GEventGraph} {vs : List Nat} (y : Nat → Int) : ∀ (m v : Nat), (∀ i, i < m → plT (viaP g.Places ⟨0, 0, 0, 0⟩ vs (itn (backN g vs) i v)) = itn (backN g vs) i v) → chainW (backN g vs) (fun v => y (plT (viaP g.Places ⟨0, 0, 0, 0⟩ vs v))) m v - chainW (backN g vs) (fun v => y (plF (viaP g.Places ⟨0, 0, 0, 0⟩ vs v))) m v = y v - y (itn (backN g vs) m v)
  | 0, v, _ => by show (0 : Int) - 0 = y v - y v; omega
  | m + 1, v, h => by
    have ih := chain_tele y m (backN g vs v) fun i hi => h (i + 1) (by omega)
    have h0 : plT (viaP g.Places ⟨0, 0, 0, 0⟩ vs v) = v := h 0 (by omega)
    have e1 : itn (backN g vs) (m + 1) v = itn (backN g vs) m (backN g vs v) := rfl
    have e2 : plF (viaP g.Places ⟨0, 0, 0, 0⟩ vs v) = backN g vs v := rfl
    show (y (plT (viaP g.Places ⟨0, 0, 0, 0⟩ vs v)) + chainW (backN g vs) (fun v => y (plT (viaP g.Places ⟨0, 0, 0, 0⟩ vs v))) m (backN g vs v)) - (y (plF (viaP g.Places ⟨0, 0, 0, 0⟩ vs v)) + chainW (backN g vs) (fun v => y (plF (viaP g.Places ⟨0, 0, 0, 0⟩ vs v))) m (backN g vs v)) = _
    rw [h0, e1, e2]; omega

theorem chain_rng {g : GEventGraph} {vs : List Nat} (h : graphB g = true) (hv : ViaOk g.Events.toNat g.Places.length vs) : ∀ (m v : Nat), v < g.Events.toNat → ∀ i, i ∈ chainL vs (backN g vs) m v → 0 ≤ i ∧ i < (g.Places.length : Int)
  | 0, _, _, i, hi => by cases hi
  | m + 1, v, hn, i, hi => by
    obtain ⟨u, p, h1, h2, h3, h4⟩ := back_at h hv hn
    have hi : i ∈ (((vs[v]?).getD 0 : Nat) : Int) :: chainL vs (backN g vs) m (backN g vs v) := hi
    rcases List.mem_cons.1 hi with rfl | hi
    · have := (List.getElem?_eq_some_iff.1 h2).1
      rw [h1, Option.getD_some]; omega
    · exact chain_rng h hv m _ h4 i hi

/-- betterCircuit: a potential, or a circuit that is better -/
theorem btr_is {F : Nat} {g : GEventGraph} {r : GRatio} (hF : 134217728 ≤ F) (h : graphB g = true) (hr : RatOk r) (hne : g.Places ≠ []) :
    (impl_betterCircuit F g r = some [] ∧ ∃ x : Nat → Int, ∀ p, p ∈ g.Places → x (plF p) + qW r p ≤ x (plT p)) ∨ ∃ c, impl_betterCircuit F g r = some c ∧ c ≠ [] ∧ c.length ≤ 10 ∧ Clo g c ∧ 0 < pS g (qW r) c := by
  obtain ⟨e1, e2, e3, _, _⟩ := graphB_true h
  have hmk : mk g.Events (0 : Int) = some (List.replicate g.Events.toNat 0) := mk_int 0 (by omega) (by omega)
  have hnl : List.replicate g.Events.toNat (0 : Int) = nl (List.replicate g.Events.toNat 0) := by unfold nl; simp
  have hv : ViaOk g.Events.toNat g.Places.length (List.replicate g.Events.toNat 0) := ⟨by simp, fun v hv => by
    have := List.length_pos_iff.2 hne
    have := (List.mem_replicate.1 hv).2
    omega⟩
  unfold impl_betterCircuit
  rw [hmk, Option.bind_some, Option.bind_some]
  rcases btr_rounds hF h hr hv with ⟨hrd, hx⟩ | ⟨vs', e, x, hrd, hv', he, hP, hx⟩
  · rw [← tb_zero, ← hnl] at hrd
    rw [hrd]
    exact .inl ⟨rfl, hx⟩
  · rw [← tb_zero, ← hnl] at hrd
    have hlt : ∀ v, v < g.Events.toNat → backN g vs' v < g.Events.toNat := fun v hn => by
      obtain ⟨_, _, _, _, _, hb⟩ := back_at h hv' hn
      exact hb
    obtain ⟨d, hd, hback⟩ := itn_back hlt he
    obtain ⟨d', h4, h5, h6⟩ := btr_gather (F := F) h hv' d (x := itn (backN g vs') g.Events.toNat e) (xs := []) (fuel := F) (itn_lt hlt _ he) hback (by omega) (by simp only [List.length_nil]; omega)
    rw [List.nil_append] at h5
    have hln : ∀ (m v : Nat), (chainL vs' (backN g vs') m v).length = m := by
      intro m
      induction m with
      | zero => intro _; rfl
      | succ m ih => intro v; show (_ :: chainL vs' (backN g vs') m _).length = _; rw [List.length_cons, ih]
    obtain ⟨q1, q2⟩ := btr_cycle h hv' hP he hx (m := d' + 1) (by omega) h6
    have hl := hln (d' + 1) (itn (backN g vs') g.Events.toNat e)
    obtain ⟨ys, r1, r2⟩ := reverse_perm (F := F) (chainL vs' (backN g vs') (d' + 1) (itn (backN g vs') g.Events.toNat e)).length (fuel := F) (xs := chainL vs' (backN g vs') (d' + 1) (itn (backN g vs') g.Events.toNat e)) (i := 0) (j := ((chainL vs' (backN g vs') (d' + 1) (itn (backN g vs') g.Events.toNat e)).length : Int) - 1) (by omega) (by omega) (by omega) (by omega) (by omega) (by omega) (by omega)
    have hrv : slices_Reverse_int64 F (chainL vs' (backN g vs') (d' + 1) (itn (backN g vs') g.Events.toNat e)) = some ((), ys) := by
      unfold slices_Reverse_int64
      rw [wr (by omega) (by omega), r1]; rfl
    have hyl := r2.length_eq
    have hz : ys ≠ [] := fun hz => by rw [hz, List.length_nil] at hyl; omega
    have hne2 : nonE ys = some () := by
      cases ys with
      | nil => exact absurd rfl hz
      | cons _ _ => rfl
    refine .inr ⟨ys, ?_, hz, by omega, ⟨fun i hi => chain_rng h hv' _ _ (itn_lt hlt _ he) i (r2.mem_iff.1 hi), fun y => ?_⟩, ?_⟩
    · rw [hrd]
      simp only [Option.bind_some, better_back hF h hv' he, h5, hrv, hne2]
    · rw [pS_perm r2, pS_perm r2, chain_sum, chain_sum]
      have ht := chain_tele (g := g) (vs := vs') y (d' + 1) (itn (backN g vs') g.Events.toNat e) (fun i _ => by rw [← itn_add]; exact q2 _)
      rw [h6] at ht
      omega
    · rw [pS_perm r2, chain_sum]; exact q1

/-! ### The sums of a circuit and what they bound -/
def sDel (g : GEventGraph) (c : List Int) : Int := pS g (fun p => p.Delay) c

def sTok (g : GEventGraph) (c : List Int) : Int := pS g (fun p => p.Tokens) c

theorem pS_qW (g : GEventGraph) (r : GRatio) (c : List Int) : pS g (qW r) c = r.Den * sDel g c - r.Num * sTok g c := by
  have h := pS_add g (fun p => r.Den * p.Delay) (fun p => (-r.Num) * p.Tokens) c
  rw [pS_mul, pS_mul] at h
  have e : (qW r) = fun p => r.Den * p.Delay + (-r.Num) * p.Tokens := by
    funext p; unfold qW; rw [Int.neg_mul]; omega
  rw [e, h, Int.neg_mul]
  unfold sDel sTok
  exact (Int.sub_eq_add_neg).symm

theorem Clo.pot {g : GEventGraph} {c : List Int} (h : Clo g c) {r : GRatio} {x : Nat → Int} (hx : ∀ p, p ∈ g.Places → x (plF p) + qW r p ≤ x (plT p)) : r.Den * sDel g c ≤ r.Num * sTok g c := by
  have h1 := pS_le (g := g) (f := fun p => x (plF p) + qW r p) (f' := fun p => x (plT p)) c fun i hi => by
    obtain ⟨i0, i1⟩ := h.rng i hi
    exact hx _ (List.mem_of_getElem? (plD_of (by omega)))
  have h2 := h.bal x
  have h3 := pS_add g (fun p => x (plF p)) (qW r) c
  rw [h3, pS_qW] at h1
  omega

theorem pS_bd {g : GEventGraph} {f : GPlace → Int} {M : Int} : ∀ c : List Int, (∀ i, i ∈ c → 0 ≤ f (plD g i.toNat) ∧ f (plD g i.toNat) ≤ M) → 0 ≤ pS g f c ∧ pS g f c ≤ M * c.length
  | [], _ => by show (0 : Int) ≤ 0 ∧ (0 : Int) ≤ M * ((0 : Nat) : Int); simp
  | i :: c, h => by
    have h1 := h i List.mem_cons_self
    have h2 := pS_bd c fun j hj => h j (List.mem_cons_of_mem _ hj)
    rw [pS_cons, List.length_cons, Int.natCast_succ, Int.mul_add, Int.mul_one]
    omega

theorem pS_zero {g : GEventGraph} {f : GPlace → Int} : ∀ c : List Int, (∀ i, i ∈ c → 0 ≤ f (plD g i.toNat)) → pS g f c ≤ 0 → ∀ i, i ∈ c → f (plD g i.toNat) = 0
  | [], _, _, i, hi => by cases hi
  | j :: c, h, h0, i, hi => by
    have h1 := h j List.mem_cons_self
    have h2 : 0 ≤ pS g f c := by
      have := pS_le (g := g) (f := fun _ => 0) (f' := f) c fun k hk => h k (List.mem_cons_of_mem _ hk)
      have e := pS_mul g 0 (fun _ => 0) c
      rw [Int.zero_mul] at e
      simp only at e
      omega
    rw [pS_cons] at h0
    rcases List.mem_cons.1 hi with rfl | hi
    · omega
    · exact pS_zero c (fun k hk => h k (List.mem_cons_of_mem _ hk)) (by omega) i hi

theorem Clo.tok {g : GEventGraph} {c : List Int} (hg : graphB g = true) (h : Clo g c) (hne : c ≠ []) {ρ : Nat → Nat} (hρ : ∀ u v, eP g.Places u v = true → ρ u < ρ v) : 0 < sTok g c := by
  refine Int.not_le.1 fun h0 => ?_
  have hz := pS_zero (g := g) (f := fun p => p.Tokens) c (fun i hi => by
    obtain ⟨i0, i1⟩ := h.rng i hi
    exact (graphB_range hg _ (List.mem_of_getElem? (plD_of (g := g) (k := i.toNat) (by omega)))).2.2.2.2.2.2.1) h0
  have h1 := pS_le (g := g) (f := fun p => (ρ (plF p) : Int) + 1) (f' := fun p => (ρ (plT p) : Int)) c fun i hi => by
    obtain ⟨i0, i1⟩ := h.rng i hi
    obtain ⟨a1, a2, _, _⟩ := pl_at hg (List.mem_of_getElem? (plD_of (g := g) (k := i.toNat) (by omega)))
    have := hρ _ _ (eP_mem (List.mem_of_getElem? (plD_of (g := g) (k := i.toNat) (by omega))) (hz i hi) a2 a1)
    show ((ρ (plF (plD g i.toNat)) : Nat) : Int) + 1 ≤ _
    omega
  have h2 := h.bal fun v => (ρ v : Int)
  have h3 := pS_add g (fun p => (ρ (plF p) : Int)) (fun _ => 1) c
  rw [h3, h2] at h1
  have h4 : 0 < pS g (fun _ => 1) c := by
    cases c with
    | nil => exact absurd rfl hne
    | cons i c =>
      rw [pS_cons]
      have := (pS_bd (g := g) (f := fun _ => 1) (M := 1) c (fun _ _ => ⟨by decide, by decide⟩)).1
      omega
  omega

theorem sums_is {F : Nat} {g : GEventGraph} {c : List Int} (hF : 134217728 ≤ F) (hg : graphB g = true) (hc : c.length ≤ 10) (h : ∀ i, i ∈ c → 0 ≤ i ∧ i < (g.Places.length : Int)) : impl_circuitSums F g c = some (sDel g c, sTok g c) := by
  unfold impl_circuitSums
  have key : ∀ (d : List Int) (pre : List Int) (a b : Int) (fuel : Nat), c = pre ++ d → d.length < fuel → 0 ≤ a ∧ a ≤ 1000 * pre.length → 0 ≤ b ∧ b ≤ 5 * pre.length → impl_circuitSums_L1 F g c fuel a b (pre.length : Int) = some (a + sDel g d, b + sTok g d) := by
    intro d
    induction d with
    | nil =>
      intro pre a b fuel e hf ha hb
      obtain ⟨fuel, rfl⟩ : ∃ k, fuel = k + 1 := ⟨fuel - 1, by simp at hf; omega⟩
      rw [List.append_nil] at e
      subst e
      simp only [impl_circuitSums_L1, bdF (show ¬ (c.length : Int) < (c.length : Int) by omega)]
      show some (a, b) = some (a + 0, b + 0)
      rw [Int.add_zero, Int.add_zero]
    | cons i d ih =>
      intro pre a b fuel e hf ha hb
      obtain ⟨fuel, rfl⟩ : ∃ k, fuel = k + 1 := ⟨fuel - 1, by simp at hf; omega⟩
      have hcl : c.length = pre.length + (d.length + 1) := by rw [e, List.length_append, List.length_cons]
      have hci : c[pre.length]? = some i := by rw [e]; simp
      obtain ⟨i0, i1⟩ := h i (List.mem_of_getElem? hci)
      have hx : idx g.Places i = some (plD g i.toNat) := by
        have := idx_nat g.Places i.toNat
        rw [show ((i.toNat : Nat) : Int) = i by omega] at this
        rw [this, plD_of (by omega)]
      obtain ⟨r1, r2, r3, r4, r5, r6, r7, r8⟩ := graphB_range hg _ (List.mem_of_getElem? (plD_of (g := g) (k := i.toNat) (by omega)))
      have hl : ((pre ++ [i]).length : Int) = (pre.length : Int) + 1 := by rw [List.length_append, List.length_singleton]; omega
      have ih' := ih (pre ++ [i]) (a + (plD g i.toNat).Delay) (b + (plD g i.toNat).Tokens) fuel (by rw [List.append_assoc]; exact e) (by simp at hf; omega) (by rw [hl]; omega) (by rw [hl]; omega)
      rw [hl] at ih'
      simp only [impl_circuitSums_L1, bdT (show (pre.length : Int) < (c.length : Int) by omega), idx_nat, hci, Option.bind_some, hx, wr (n := a + (plD g i.toNat).Delay) (by omega) (by omega), wr (n := b + (plD g i.toNat).Tokens) (by omega) (by omega), wr (n := (pre.length : Int) + 1) (by omega) (by omega), ih']
      unfold sDel sTok
      rw [pS_cons, pS_cons, Int.add_assoc, Int.add_assoc]
  have := key c [] 0 0 F rfl (by omega) (by simp) (by simp)
  rw [show ((([] : List Int).length : Nat) : Int) = 0 from rfl] at this
  rw [this, Option.bind_some, Int.zero_add, Int.zero_add]

/-! ### Fractions in lowest terms -/
theorem divisor_is {F : Nat} : ∀ (m : Nat) {fuel a b : Nat}, b ≤ m → m < fuel → impl_divisorOf_L1 F fuel (a : Int) (b : Int) = some ((Nat.gcd a b : Nat) : Int)
  | 0, fuel, a, b, hb, hf => by
    obtain ⟨fuel, rfl⟩ : ∃ k, fuel = k + 1 := ⟨fuel - 1, by omega⟩
    obtain rfl : b = 0 := by omega
    simp only [impl_divisorOf_L1, bdF (show ¬ (0 : Int) < ((0 : Nat) : Int) by omega), Nat.gcd_zero_right]
  | m + 1, fuel, a, b, hb, hf => by
    obtain ⟨fuel, rfl⟩ : ∃ k, fuel = k + 1 := ⟨fuel - 1, by omega⟩
    by_cases h0 : b = 0
    · subst h0
      simp only [impl_divisorOf_L1, bdF (show ¬ (0 : Int) < ((0 : Nat) : Int) by omega), Nat.gcd_zero_right]
    · have hlt := Nat.mod_lt a (show 0 < b by omega)
      have ih := divisor_is (F := F) m (fuel := fuel) (a := b) (b := a % b) (by omega) (by omega)
      have ht : ((a : Int)).tmod (b : Int) = ((a % b : Nat) : Int) := by rw [Int.ofNat_tmod]
      have hg : Nat.gcd b (a % b) = Nat.gcd a b := by rw [Nat.gcd_comm a b, Nat.gcd_rec b a, Nat.gcd_comm]
      simp only [impl_divisorOf_L1, bdT (show (0 : Int) < (b : Int) by omega), if_neg (show ¬ (b : Int) = 0 by omega), Option.bind_some, ht, ih, hg]

theorem ratio_is {F a b : Nat} (hF : 134217728 ≤ F) (ha : a ≤ 1000000) (hb0 : 0 < b) (hb : b ≤ 1000000) : impl_ratioOf F (a : Int) (b : Int) = some ⟨((a / Nat.gcd a b : Nat) : Int), ((b / Nat.gcd a b : Nat) : Int)⟩ := by
  have hg : 0 < Nat.gcd a b := Nat.gcd_pos_of_pos_right a hb0
  have hd := divisor_is (F := F) b (fuel := F) (a := a) (b := b) (Nat.le_refl _) (by omega)
  have q1 : a / Nat.gcd a b ≤ a := Nat.div_le_self _ _
  have q2 : b / Nat.gcd a b ≤ b := Nat.div_le_self _ _
  have t1 : ((a : Int)).tdiv ((Nat.gcd a b : Nat) : Int) = ((a / Nat.gcd a b : Nat) : Int) := by rw [Int.ofNat_tdiv]
  have t2 : ((b : Int)).tdiv ((Nat.gcd a b : Nat) : Int) = ((b / Nat.gcd a b : Nat) : Int) := by rw [Int.ofNat_tdiv]
  unfold impl_ratioOf impl_divisorOf impl_absOf
  rw [bdF (show ¬ (b : Int) < 0 by omega)]
  simp only [Option.bind_some]
  rw [bdF (show ¬ (a : Int) < 0 by omega)]
  simp only [Option.bind_some, hd, if_neg (show ¬ ((Nat.gcd a b : Nat) : Int) = 0 by omega), t1, t2]
  generalize a / Nat.gcd a b = u at q1 ⊢
  generalize b / Nat.gcd a b = v at q2 ⊢
  rw [wr (n := (u : Int)) (by omega) (by omega), wr (n := (v : Int)) (by omega) (by omega)]

/-! ### The cycle time -/
def Pot (g : GEventGraph) (r : GRatio) : Prop := ∃ x : Nat → Int, ∀ p, p ∈ g.Places → x (plF p) + qW r p ≤ x (plT p)

def Att (g : GEventGraph) (r : GRatio) : Prop := ∃ c, Clo g c ∧ 0 < sTok g c ∧ r.Den * sDel g c = r.Num * sTok g c

def Red (r : GRatio) : Prop := ∃ a b : Nat, r = ⟨(a : Int), (b : Int)⟩ ∧ 0 < b ∧ Nat.gcd a b = 1

theorem circ_bd {g : GEventGraph} {c : List Int} (hg : graphB g = true) (hc : Clo g c) (hl : c.length ≤ 10) : (0 ≤ sDel g c ∧ sDel g c ≤ 10000) ∧ 0 ≤ sTok g c ∧ sTok g c ≤ 50 := by
  have h1 := pS_bd (g := g) (f := fun p => p.Delay) (M := 1000) c fun i hi => by
    obtain ⟨i0, i1⟩ := hc.rng i hi
    obtain ⟨r1, r2, r3, r4, r5, r6, r7, r8⟩ := graphB_range hg _ (List.mem_of_getElem? (plD_of (g := g) (k := i.toNat) (by omega)))
    exact ⟨r5, r6⟩
  have h2 := pS_bd (g := g) (f := fun p => p.Tokens) (M := 5) c fun i hi => by
    obtain ⟨i0, i1⟩ := hc.rng i hi
    obtain ⟨r1, r2, r3, r4, r5, r6, r7, r8⟩ := graphB_range hg _ (List.mem_of_getElem? (plD_of (g := g) (k := i.toNat) (by omega)))
    exact ⟨r7, r8⟩
  unfold sDel sTok
  omega

/-- two answers are one fraction -/
theorem att_le {g : GEventGraph} {r r' : GRatio} (hd : 0 ≤ r.Den) (hA : Att g r) (hP : Pot g r') : r.Num * r'.Den ≤ r'.Num * r.Den := by
  obtain ⟨c, hc, ht, he⟩ := hA
  obtain ⟨x, hx⟩ := hP
  have h1 := hc.pot hx
  have h2 : r.Den * (r'.Den * sDel g c) ≤ r.Den * (r'.Num * sTok g c) := Int.mul_le_mul_of_nonneg_left h1 hd
  have e1 : r.Den * (r'.Den * sDel g c) = r.Num * r'.Den * sTok g c := by
    rw [Int.mul_left_comm, he, Int.mul_left_comm, ← Int.mul_assoc]
  have e2 : r.Den * (r'.Num * sTok g c) = r'.Num * r.Den * sTok g c := by
    rw [← Int.mul_assoc, Int.mul_comm r.Den r'.Num]
  rw [e1, e2] at h2
  exact Int.le_of_mul_le_mul_right h2 ht

theorem rise {a b d w q : Nat} (hb : 0 < b) (hb2 : b ≤ 50) (hw : 0 < w) (hw2 : w ≤ 50) (h : a * w < d * b) (hq : q = 2500 * a / b) : q + 1 ≤ 2500 * (d / Nat.gcd d w) / (w / Nat.gcd d w) := by
  have hg : 0 < Nat.gcd d w := Nat.gcd_pos_of_pos_right d hw
  have e1 : 2500 * (d / Nat.gcd d w) / (w / Nat.gcd d w) = 2500 * d / w := by
    have h1 : d = d / Nat.gcd d w * Nat.gcd d w := (Nat.div_mul_cancel (Nat.gcd_dvd_left d w)).symm
    have h2 : w = w / Nat.gcd d w * Nat.gcd d w := (Nat.div_mul_cancel (Nat.gcd_dvd_right d w)).symm
    generalize hγ : Nat.gcd d w = γ at *
    generalize d / γ = u at *
    generalize w / γ = v at *
    subst h1 h2
    rw [← Nat.mul_assoc, Nat.mul_div_mul_right _ _ hg]
  rw [e1, Nat.le_div_iff_mul_le hw]
  have h3 : q * b ≤ 2500 * a := by rw [hq]; exact Nat.div_mul_le_self _ _
  have h4 : q * b * w ≤ 2500 * a * w := Nat.mul_le_mul_right w h3
  have h5 : w * b ≤ 50 * 50 := Nat.mul_le_mul hw2 hb2
  have h6 : 2500 * (a * w + 1) ≤ 2500 * (d * b) := Nat.mul_le_mul_left 2500 h
  refine Nat.le_of_mul_le_mul_right (c := b) ?_ hb
  have e2 : (q + 1) * w * b = q * b * w + w * b := by
    rw [Nat.add_mul, Nat.one_mul, Nat.add_mul, Nat.mul_right_comm]
  have e3 : 2500 * d * b = 2500 * (d * b) := Nat.mul_assoc _ _ _
  have e4 : 2500 * a * w = 2500 * (a * w) := Nat.mul_assoc _ _ _
  rw [e2, e3]
  omega

theorem red_rat {d w : Nat} (hw : 0 < w) (hw2 : w ≤ 50) (hd : d ≤ 10000) : RatOk ⟨((d / Nat.gcd d w : Nat) : Int), ((w / Nat.gcd d w : Nat) : Int)⟩ ∧ 0 < w / Nat.gcd d w ∧ w / Nat.gcd d w ≤ 50 ∧ d / Nat.gcd d w ≤ 10000 ∧ Nat.gcd (d / Nat.gcd d w) (w / Nat.gcd d w) = 1 ∧ (w / Nat.gcd d w) * d = (d / Nat.gcd d w) * w := by
  have hg : 0 < Nat.gcd d w := Nat.gcd_pos_of_pos_right d hw
  have q1 : d / Nat.gcd d w ≤ d := Nat.div_le_self _ _
  have q2 : w / Nat.gcd d w ≤ w := Nat.div_le_self _ _
  have q3 : 0 < w / Nat.gcd d w := Nat.div_pos (Nat.le_of_dvd hw (Nat.gcd_dvd_right d w)) hg
  have q4 : Nat.gcd (d / Nat.gcd d w) (w / Nat.gcd d w) = 1 := Nat.gcd_div_gcd_div_gcd_of_pos_right hw
  have q5 : (w / Nat.gcd d w) * d = (d / Nat.gcd d w) * w := by
    have h1 : d = d / Nat.gcd d w * Nat.gcd d w := (Nat.div_mul_cancel (Nat.gcd_dvd_left d w)).symm
    have h2 : w = w / Nat.gcd d w * Nat.gcd d w := (Nat.div_mul_cancel (Nat.gcd_dvd_right d w)).symm
    generalize Nat.gcd d w = γ at *
    generalize d / γ = u at *
    generalize w / γ = v at *
    subst h1 h2
    rw [Nat.mul_left_comm]
  refine ⟨?_, q3, by omega, by omega, q4, q5⟩
  generalize d / Nat.gcd d w = u at *
  generalize w / Nat.gcd d w = v at *
  exact ⟨by show (0 : Int) ≤ (u : Int); omega, by show (u : Int) ≤ 100000; omega, by show 1 ≤ (v : Int); omega, by show (v : Int) ≤ 100; omega⟩

def CytSt (g : GEventGraph) (a b : Nat) (c : List Int) : Prop := (c = [] ∧ Pot g ⟨(a : Int), (b : Int)⟩ ∧ (Att g ⟨(a : Int), (b : Int)⟩ ∨ (a = 0 ∧ b = 1))) ∨ (c ≠ [] ∧ c.length ≤ 10 ∧ Clo g c ∧ 0 < pS g (qW ⟨(a : Int), (b : Int)⟩) c)

theorem cyt_loop {F : Nat} {g : GEventGraph} (hF : 134217728 ≤ F) (hg : graphB g = true) (hne : g.Places ≠ []) {ρ : Nat → Nat} (hρ : ∀ u v, eP g.Places u v = true → ρ u < ρ v) : ∀ (m fuel a b : Nat) (c : List Int), 25000001 ≤ m + 2500 * a / b → m < fuel → 0 < b → b ≤ 50 → a ≤ 10000 → Nat.gcd a b = 1 → CytSt g a b c →
    ∃ a' b' : Nat, impl_cycleTime_L1 F g fuel (a : Int) (b : Int) c = some ((a' : Int), (b' : Int)) ∧ 0 < b' ∧ b' ≤ 50 ∧ a' ≤ 10000 ∧ Nat.gcd a' b' = 1 ∧ Pot g ⟨(a' : Int), (b' : Int)⟩ ∧ (Att g ⟨(a' : Int), (b' : Int)⟩ ∨ (a' = 0 ∧ b' = 1)) := by
  intro m
  induction m with
  | zero =>
    intro fuel a b c hm _ hb _ ha _ _
    have : 2500 * a / b ≤ 2500 * a := Nat.div_le_self _ _
    omega
  | succ m ih =>
    intro fuel a b c hm hf hb hb2 ha hgc hst
    obtain ⟨fuel, rfl⟩ : ∃ k, fuel = k + 1 := ⟨fuel - 1, by omega⟩
    rcases hst with ⟨rfl, hP, hA⟩ | ⟨hc, hl, hC, hpos⟩
    · exact ⟨a, b, by simp only [impl_cycleTime_L1, List.isEmpty_nil, Bool.not_true, cond_false], hb, hb2, ha, hgc, hP, hA⟩
    · obtain ⟨⟨d0, d1⟩, w0, w1⟩ := circ_bd hg hC hl
      have ht := hC.tok hg hc hρ
      rw [pS_qW] at hpos
      have hsum := sums_is (F := F) hF hg hl hC.rng
      obtain ⟨d, hd⟩ : ∃ d : Nat, sDel g c = (d : Int) := ⟨(sDel g c).toNat, by omega⟩
      obtain ⟨w, hw⟩ : ∃ w : Nat, sTok g c = (w : Int) := ⟨(sTok g c).toNat, by omega⟩
      rw [hd, hw] at hsum hpos
      simp only at hpos
      have hlt : a * w < d * b := by
        have h1 : (a : Int) * (w : Int) < (d : Int) * (b : Int) := by rw [Int.mul_comm (d : Int)]; omega
        exact_mod_cast h1
      obtain ⟨r1, r2, r3, r4, r5, r6⟩ := red_rat (d := d) (w := w) (by omega) (by omega) (by omega)
      have hrise := rise hb hb2 (show 0 < w by omega) (by omega) hlt rfl
      have hrat := ratio_is (F := F) (a := d) (b := w) hF (by omega) (by omega) (by omega)
      have hAt : Att g ⟨((d / Nat.gcd d w : Nat) : Int), ((w / Nat.gcd d w : Nat) : Int)⟩ := ⟨c, hC, ht, by
        rw [hd, hw]
        show ((w / Nat.gcd d w : Nat) : Int) * (d : Int) = ((d / Nat.gcd d w : Nat) : Int) * (w : Int)
        exact_mod_cast r6⟩
      have hem : (!c.isEmpty) = true := by
        cases c with
        | nil => exact absurd rfl hc
        | cons _ _ => rfl
      rcases btr_is (F := F) hF hg r1 hne with ⟨hbt, hP⟩ | ⟨c', hbt, hc', hl', hC', hp'⟩
      · obtain ⟨a', b', h1, h2⟩ := ih fuel (d / Nat.gcd d w) (w / Nat.gcd d w) [] (by omega) (by omega) r2 r3 r4 r5 (.inl ⟨rfl, hP, .inl hAt⟩)
        refine ⟨a', b', ?_, h2⟩
        simp only [impl_cycleTime_L1, hem, cond_true, hsum, Option.bind_some, hrat, hbt, h1]
      · obtain ⟨a', b', h1, h2⟩ := ih fuel (d / Nat.gcd d w) (w / Nat.gcd d w) c' (by omega) (by omega) r2 r3 r4 r5 (.inr ⟨hc', hl', hC', hp'⟩)
        refine ⟨a', b', ?_, h2⟩
        simp only [impl_cycleTime_L1, hem, cond_true, hsum, Option.bind_some, hrat, hbt, h1]

/-! ### What is reached along the places -/
def sN : Nat → (Nat → Nat) → Nat
  | 0, _ => 0
  | n + 1, h => sN n h + h n

theorem sN_same {h k : Nat → Nat} : ∀ n, (∀ v, v < n → h v = k v) → sN n h = sN n k
  | 0, _ => rfl
  | n + 1, e => by show sN n h + h n = sN n k + k n; rw [sN_same n (fun v hv => e v (by omega)), e n (by omega)]

theorem sN_upd {h k : Nat → Nat} {i : Nat} : ∀ n, i < n → (∀ v, v < n → v ≠ i → h v = k v) → sN n h + k i = sN n k + h i
  | 0, hi, _ => by omega
  | n + 1, hi, e => by
    show sN n h + h n + k i = sN n k + k n + h i
    by_cases hn : i = n
    · subst hn
      rw [sN_same i (fun v hv => e v (by omega) (by omega))]; omega
    · have := sN_upd n (by omega) fun v hv => e v (by omega)
      rw [e n (by omega) (by omega)]; omega

theorem sN_le {h k : Nat → Nat} : ∀ n, (∀ v, v < n → h v ≤ k v) → sN n h ≤ sN n k
  | 0, _ => Nat.le_refl _
  | n + 1, e => by show sN n h + h n ≤ sN n k + k n; have := sN_le n (fun v hv => e v (by omega)); have := e n (by omega); omega

theorem sN_const (c : Nat) : ∀ n, sN n (fun _ => c) = n * c
  | 0 => by show 0 = 0 * c; rw [Nat.zero_mul]
  | n + 1 => by show sN n _ + c = (n + 1) * c; rw [sN_const c n, Nat.add_mul, Nat.one_mul]

/-- how many are reached, and what is left to do -/
def cnt (n : Nat) (t : Nat → Int) : Nat := sN n fun v => if 0 ≤ t v then 1 else 0

def togo (n : Nat) (t : Nat → Int) : Nat := sN n fun v => if 0 ≤ t v then (t v).toNat else 100

structure TdOk (g : GEventGraph) (u : Nat) (t : Nat → Int) : Prop where
  low : ∀ v, v < g.Events.toNat → -1 ≤ t v ∧ t v ≤ 5 * cnt g.Events.toNat t
  start : 0 ≤ t u
  ind : ∀ Q : Nat → Prop, Q u → (∀ p, p ∈ g.Places → Q (plF p) → Q (plT p)) → ∀ v, v < g.Events.toNat → 0 ≤ t v → Q v

theorem cnt_le (n : Nat) (t : Nat → Int) : cnt n t ≤ n := by
  have h := sN_le (h := fun v => if 0 ≤ t v then 1 else 0) (k := fun _ => 1) n fun v _ => by
    show (if 0 ≤ t v then 1 else 0) ≤ 1
    split <;> omega
  rw [sN_const] at h
  unfold cnt; omega

def tdc (t : Nat → Int) (p : GPlace) : Prop := 0 ≤ t (plF p) ∧ (t (plT p) < 0 ∨ t (plF p) + p.Tokens < t (plT p))

def tds (t : Nat → Int) (p : GPlace) (v : Nat) : Int := if v = plT p then t (plF p) + p.Tokens else t v

theorem TdOk.t_step {g : GEventGraph} {u : Nat} {t : Nat → Int} {p : GPlace} (hg : graphB g = true) (h : TdOk g u t) (hp : p ∈ g.Places) (hc : tdc t p) : TdOk g u (tds t p) ∧ togo g.Events.toNat (tds t p) < togo g.Events.toNat t := by
  obtain ⟨a1, a2, a3, a4⟩ := pl_at hg hp
  obtain ⟨r1, r2, r3, r4, r5, r6, r7, r8⟩ := graphB_range hg p hp
  obtain ⟨c1, c2⟩ := hc
  obtain ⟨g1, g10, _, _, _⟩ := graphB_true hg
  have hfl := h.low _ a4
  have htl := h.low _ a3
  have hcn := cnt_le g.Events.toNat t
  have hT : tds t p (plT p) = t (plF p) + p.Tokens := by unfold tds; rw [if_pos rfl]
  have hO : ∀ v, v ≠ plT p → tds t p v = t v := fun v hv => by unfold tds; rw [if_neg hv]
  have hcu := sN_upd (h := fun v => if 0 ≤ tds t p v then 1 else 0) (k := fun v => if 0 ≤ t v then 1 else 0) (i := plT p) g.Events.toNat a3 fun v _ hv => by
    show (if 0 ≤ tds t p v then 1 else 0) = if 0 ≤ t v then 1 else 0
    rw [hO v hv]
  have hlu := sN_upd (h := fun v => if 0 ≤ tds t p v then (tds t p v).toNat else 100) (k := fun v => if 0 ≤ t v then (t v).toNat else 100) (i := plT p) g.Events.toNat a3 fun v _ hv => by
    show (if 0 ≤ tds t p v then (tds t p v).toNat else 100) = if 0 ≤ t v then (t v).toNat else 100
    rw [hO v hv]
  have hcu : cnt g.Events.toNat (tds t p) + (if 0 ≤ t (plT p) then 1 else 0) = cnt g.Events.toNat t + (if 0 ≤ tds t p (plT p) then 1 else 0) := hcu
  have hlu : togo g.Events.toNat (tds t p) + (if 0 ≤ t (plT p) then (t (plT p)).toNat else 100) = togo g.Events.toNat t + (if 0 ≤ tds t p (plT p) then (tds t p (plT p)).toNat else 100) := hlu
  rw [hT, if_pos (show 0 ≤ t (plF p) + p.Tokens by omega)] at hcu hlu
  refine ⟨⟨fun v hv => ?_, ?_, fun Q q0 q1 v hv hn => ?_⟩, ?_⟩
  · have hvl := h.low v hv
    by_cases e : v = plT p
    · subst e
      rw [hT]
      by_cases h0 : 0 ≤ t (plT p)
      · rw [if_pos h0] at hcu; omega
      · rw [if_neg h0] at hcu; omega
    · rw [hO v e]
      by_cases h0 : 0 ≤ t (plT p)
      · rw [if_pos h0] at hcu; omega
      · rw [if_neg h0] at hcu; omega
  · by_cases e : u = plT p
    · rw [e, hT]; omega
    · rw [hO u e]; exact h.start
  · by_cases e : v = plT p
    · rw [e]; exact q1 p hp (h.ind Q q0 q1 _ a4 c1)
    · rw [hO v e] at hn; exact h.ind Q q0 q1 v hv hn
  · by_cases h0 : 0 ≤ t (plT p)
    · rw [if_pos h0] at hlu; omega
    · rw [if_neg h0] at hlu; omega

theorem tds_set {N : Nat} {t : Nat → Int} {p : GPlace} : (tb N t).set (plT p) (t (plF p) + p.Tokens) = tb N (tds t p) := by
  rw [tb_set]; rfl

theorem td_round {F : Nat} {g : GEventGraph} {u : Nat} {t : Nat → Int} (hF : 134217728 ≤ F) (hg : graphB g = true) (h : TdOk g u t) :
    ∃ t' b', impl_tokenDistances_L6 F g F (tb g.Events.toNat t) false 0 = some (tb g.Events.toNat t', b') ∧ TdOk g u t' ∧ ((b' = false ∧ t' = t ∧ ∀ p, p ∈ g.Places → ¬ tdc t p) ∨ (b' = true ∧ togo g.Events.toNat t' < togo g.Events.toNat t)) := by
  obtain ⟨g1, g10, g3, _, _⟩ := graphB_true hg
  refine for0 (L := fun m (s : List Int × Bool) i => impl_tokenDistances_L6 F g m s.1 s.2 i) (len := g.Places.length)
    (fun k s => ∃ t', s.1 = tb g.Events.toNat t' ∧ TdOk g u t' ∧ ((s.2 = false ∧ t' = t ∧ ∀ p, p ∈ g.Places.take k → ¬ tdc t p) ∨ (s.2 = true ∧ togo g.Events.toNat t' < togo g.Events.toNat t)))
    (R := fun o => ∃ t' b', o = some (tb g.Events.toNat t', b') ∧ TdOk g u t' ∧ ((b' = false ∧ t' = t ∧ ∀ p, p ∈ g.Places → ¬ tdc t p) ∨ (b' = true ∧ togo g.Events.toNat t' < togo g.Events.toNat t))) (s := (tb g.Events.toNat t, false)) ?_ ?_ ⟨t, rfl, h, .inl ⟨rfl, rfl, fun p hp => by simp at hp⟩⟩ (by omega)
  · rintro m k ⟨xs, b⟩ hk ⟨t', rfl, hT, hb⟩
    have hp : g.Places[k]? = some g.Places[k] := List.getElem?_eq_getElem hk
    have hmem := List.getElem_mem hk
    have htk : g.Places.take (k + 1) = g.Places.take k ++ [g.Places[k]] := by rw [List.take_add_one, hp]; rfl
    generalize g.Places[k] = p at hp hmem htk
    obtain ⟨a1, a2, a3, a4⟩ := pl_at hg hmem
    obtain ⟨r1, r2, r3, r4, r5, r6, r7, r8⟩ := graphB_range hg p hmem
    have hfl := hT.low _ a4
    have htl := hT.low _ a3
    have hcn := cnt_le g.Events.toNat t'
    have hw : IntKind.i64.wrap (t' (plF p) + p.Tokens) = t' (plF p) + p.Tokens := wr (by omega) (by omega)
    have hwk : IntKind.i64.wrap ((k : Int) + 1) = ((k + 1 : Nat) : Int) := wrN (by omega)
    have hu := upd_nat (xs := tb g.Events.toNat t') (t' (plF p) + p.Tokens) (show plT p < (tb g.Events.toNat t').length by rw [tb_len]; exact a3)
    rw [tds_set] at hu
    by_cases hc : tdc t' p
    · obtain ⟨h1, h2⟩ := hT.t_step hg hmem hc
      refine .inl ⟨(tb g.Events.toNat (tds t' p), true), ?_, tds t' p, rfl, h1, .inr ⟨rfl, ?_⟩⟩
      · obtain ⟨c1, c2⟩ := hc
        have hcond : (bif decide (t' (plT p) < 0) then some true else (idx (tb g.Events.toNat t') ((plT p : Nat) : Int)).bind fun q1037 => some (decide (IntKind.i64.wrap (t' (plF p) + p.Tokens) < q1037))) = some true := by
          by_cases h0 : t' (plT p) < 0
          · rw [bdT h0]
          · rw [bdF h0, idx_nat, tb_at a3, Option.bind_some, hw, decide_eq_true (by omega)]
        simp only [impl_tokenDistances_L6, bdT (show (k : Int) < (g.Places.length : Int) by omega), idx_nat, hp, Option.bind_some]
        rw [a1, a2]
        simp only [idx_nat, tb_at a3, tb_at a4, Option.bind_some, bdF (show ¬ t' (plF p) < 0 by omega)]
        simp only [idx_nat, tb_at a3, Option.bind_some, hw] at hcond
        simp only [hw, hcond, Option.bind_some, cond_true, hu, hwk]
      · rcases hb with ⟨_, e, _⟩ | ⟨_, hl⟩
        · rw [← e]; exact h2
        · omega
    · refine .inl ⟨(tb g.Events.toNat t', b), ?_, t', rfl, hT, ?_⟩
      · simp only [impl_tokenDistances_L6, bdT (show (k : Int) < (g.Places.length : Int) by omega), idx_nat, hp, Option.bind_some]
        rw [a1, a2]
        simp only [idx_nat, tb_at a3, tb_at a4, Option.bind_some]
        by_cases c1 : t' (plF p) < 0
        · simp only [bdT c1, Option.bind_some, hwk]
        · have c2 : ¬ t' (plT p) < 0 := fun c2 => hc ⟨by omega, .inl c2⟩
          have c3 : ¬ t' (plF p) + p.Tokens < t' (plT p) := fun c3 => hc ⟨by omega, .inr c3⟩
          simp only [bdF c1, bdF c2, hw, decide_eq_false c3, cond_false, Option.bind_some, hwk]
      · rcases hb with ⟨e1, e2, e3⟩ | hb
        · refine .inl ⟨e1, e2, fun q hq => ?_⟩
          rw [htk] at hq
          rcases List.mem_append.1 hq with hq | hq
          · exact e3 q hq
          · have : q = p := by simpa using hq
            rw [this, ← e2]; exact hc
        · exact .inr hb
  · rintro m ⟨xs, b⟩ ⟨t', rfl, hT, hb⟩
    rw [List.take_length] at hb
    exact ⟨t', b, by simp only [impl_tokenDistances_L6, bdF (show ¬ (g.Places.length : Int) < (g.Places.length : Int) by omega)], hT, hb⟩

theorem td_rounds {F : Nat} {g : GEventGraph} {u : Nat} (hF : 134217728 ≤ F) (hg : graphB g = true) : ∀ (m fuel : Nat) (t : Nat → Int), togo g.Events.toNat t ≤ m → m + 1 < fuel → TdOk g u t → ∃ t', impl_tokenDistances_L5 F g fuel (tb g.Events.toNat t) true = some (tb g.Events.toNat t') ∧ TdOk g u t' ∧ ∀ p, p ∈ g.Places → ¬ tdc t' p := by
  intro m
  induction m with
  | zero =>
    intro fuel t hm hf h
    obtain ⟨fuel, rfl⟩ : ∃ k, fuel = k + 2 := ⟨fuel - 2, by omega⟩
    obtain ⟨t', b', h1, h2, h3⟩ := td_round hF hg h
    rcases h3 with ⟨rfl, rfl, h4⟩ | ⟨_, h4⟩
    · exact ⟨t', by simp only [impl_tokenDistances_L5, cond_true, h1, Option.bind_some, cond_false], h2, h4⟩
    · omega
  | succ m ih =>
    intro fuel t hm hf h
    obtain ⟨fuel, rfl⟩ : ∃ k, fuel = k + 2 := ⟨fuel - 2, by omega⟩
    obtain ⟨t', b', h1, h2, h3⟩ := td_round hF hg h
    rcases h3 with ⟨rfl, rfl, h4⟩ | ⟨rfl, h4⟩
    · exact ⟨t', by simp only [impl_tokenDistances_L5, cond_true, h1, Option.bind_some, cond_false], h2, h4⟩
    · obtain ⟨t2, q1, q2, q3⟩ := ih (fuel + 1) t' (by omega) (by omega) h2
      refine ⟨t2, ?_, q2, q3⟩
      have : impl_tokenDistances_L5 F g (fuel + 1 + 1) (tb g.Events.toNat t) true = impl_tokenDistances_L5 F g (fuel + 1) (tb g.Events.toNat t') true := by
        rw [impl_tokenDistances_L5]
        simp only [cond_true, h1, Option.bind_some]
      rw [this]; exact q1

/-! ### Circuits or ranks -/
def Live (g : GEventGraph) : Prop := ∃ ρ : Nat → Nat, ∀ u v, eP g.Places u v = true → ρ u < ρ v

def Acy (g : GEventGraph) : Prop := ∃ x : Nat → Int, ∀ p, p ∈ g.Places → x (plF p) + 1 ≤ x (plT p)

theorem clo_noacy {g : GEventGraph} {c : List Int} (h : Clo g c) (hne : c ≠ []) (ha : Acy g) : False := by
  obtain ⟨x, hx⟩ := ha
  have h1 := pS_le (g := g) (f := fun p => x (plF p) + 1) (f' := fun p => x (plT p)) c fun i hi => by
    obtain ⟨i0, i1⟩ := h.rng i hi
    exact hx _ (List.mem_of_getElem? (plD_of (g := g) (k := i.toNat) (by omega)))
  have h2 := h.bal x
  have h3 := pS_add g (fun p => x (plF p)) (fun _ => 1) c
  rw [h3, h2] at h1
  have h4 : 0 < pS g (fun _ => 1) c := by
    cases c with
    | nil => exact absurd rfl hne
    | cons i c =>
      rw [pS_cons]
      have := (pS_bd (g := g) (f := fun _ => 1) (M := 1) c (fun _ _ => ⟨by decide, by decide⟩)).1
      omega
  omega

/-- a walk along places, for all that is asked of it -/
def Wlk (g : GEventGraph) (u v : Nat) : Prop := ∃ c : List Int, (∀ i, i ∈ c → 0 ≤ i ∧ i < (g.Places.length : Int)) ∧ ∀ y : Nat → Int, pS g (fun p => y (plT p)) c - pS g (fun p => y (plF p)) c = y v - y u

theorem Wlk.w_refl (g : GEventGraph) (u : Nat) : Wlk g u u := ⟨[], fun i hi => (by cases hi), fun y => by show (0 : Int) - 0 = y u - y u; omega⟩

theorem Wlk.w_step {g : GEventGraph} {u : Nat} {p : GPlace} (hp : p ∈ g.Places) (h : Wlk g u (plF p)) : ∃ c : List Int, c ≠ [] ∧ (∀ i, i ∈ c → 0 ≤ i ∧ i < (g.Places.length : Int)) ∧ ∀ y : Nat → Int, pS g (fun p => y (plT p)) c - pS g (fun p => y (plF p)) c = y (plT p) - y u := by
  obtain ⟨c, h1, h2⟩ := h
  obtain ⟨k, hk, hk2⟩ := List.getElem_of_mem hp
  have hd : plD g ((k : Nat) : Int).toNat = p := by
    unfold plD; rw [Int.toNat_natCast, List.getD_eq_getElem?_getD, List.getElem?_eq_getElem hk, hk2]; rfl
  refine ⟨(k : Int) :: c, fun h => (by cases h), fun i hi => ?_, fun y => ?_⟩
  · rcases List.mem_cons.1 hi with rfl | hi
    · omega
    · exact h1 i hi
  · rw [pS_cons, pS_cons, hd]
    have := h2 y
    omega

theorem Wlk.w_place {g : GEventGraph} {u : Nat} {p : GPlace} (hp : p ∈ g.Places) (h : Wlk g u (plF p)) : Wlk g u (plT p) := by
  obtain ⟨c, _, h1, h2⟩ := h.w_step hp
  exact ⟨c, h1, h2⟩

theorem Wlk.w_clo {g : GEventGraph} {p : GPlace} (hp : p ∈ g.Places) (h : Wlk g (plT p) (plF p)) : ∃ c, c ≠ [] ∧ Clo g c := by
  obtain ⟨c, h0, h1, h2⟩ := h.w_step hp
  exact ⟨c, h0, h1, fun y => by have := h2 y; omega⟩

theorem sN_lt {h k : Nat → Nat} {i : Nat} : ∀ n, (∀ v, v < n → h v ≤ k v) → i < n → h i < k i → sN n h < sN n k
  | 0, _, hi, _ => by omega
  | n + 1, e, hi, hl => by
    show sN n h + h n < sN n k + k n
    have h1 := e n (by omega)
    by_cases hn : i = n
    · subst hn
      have := sN_le i fun v hv => e v (by omega)
      omega
    · have := sN_lt n (fun v hv => e v (by omega)) (by omega) hl
      omega

/-- what is reached from each event: a place that closes a circuit, or a rank -/
theorem reach_rank {g : GEventGraph} {T : Nat → Nat → Int} (hg : graphB g = true) (hT : ∀ u, u < g.Events.toNat → TdOk g u (T u) ∧ ∀ p, p ∈ g.Places → ¬ tdc (T u) p) (hno : ∀ p, p ∈ g.Places → ¬ 0 ≤ T (plT p) (plF p)) : Acy g := by
  refine ⟨fun v => -(cnt g.Events.toNat (T v) : Int), fun p hp => ?_⟩
  obtain ⟨a1, a2, a3, a4⟩ := pl_at hg hp
  obtain ⟨f1, f2⟩ := hT _ a4
  obtain ⟨t1, t2⟩ := hT _ a3
  have hcl : ∀ q, q ∈ g.Places → 0 ≤ T (plF p) (plF q) → 0 ≤ T (plF p) (plT q) := fun q hq h0 => by
    refine Int.not_lt.1 fun h1 => f2 q hq ⟨h0, .inl h1⟩
  have hsub : ∀ v, v < g.Events.toNat → 0 ≤ T (plT p) v → 0 ≤ T (plF p) v := fun v hv h0 => t1.ind (fun v => 0 ≤ T (plF p) v) (hcl p hp f1.start) hcl v hv h0
  have hlt : cnt g.Events.toNat (T (plT p)) < cnt g.Events.toNat (T (plF p)) := by
    refine sN_lt (i := plF p) _ (fun v hv => ?_) a4 ?_
    · show (if 0 ≤ T (plT p) v then 1 else 0) ≤ if 0 ≤ T (plF p) v then 1 else 0
      by_cases h0 : 0 ≤ T (plT p) v
      · rw [if_pos h0, if_pos (hsub v hv h0)]; exact Nat.le_refl _
      · rw [if_neg h0]; exact Nat.zero_le _
    · show (if 0 ≤ T (plT p) (plF p) then 1 else 0) < if 0 ≤ T (plF p) (plF p) then 1 else 0
      rw [if_neg (hno p hp), if_pos f1.start]; exact Nat.one_pos
  show -(cnt g.Events.toNat (T (plF p)) : Int) + 1 ≤ -(cnt g.Events.toNat (T (plT p)) : Int)
  omega

theorem td_fill {F : Nat} {n : Nat} (hn : n ≤ 100) {fuel : Nat} (hf : n < fuel) : impl_tokenDistances_L1 F (List.replicate n 0) fuel (List.replicate n 0) 0 = some (List.replicate n (-1)) := by
  have h := fill_loop (ps := List.replicate n (0 : Int)) (f := fun _ => (-1 : Int)) (L := impl_tokenDistances_L1 F (List.replicate n 0)) (xs := List.replicate n (0 : Int)) (n := fuel) ?_ ?_ rfl (by rw [List.length_replicate]; exact hf)
  · rw [h]; simp
  · intro m xs k x hk _ hl
    rw [List.length_replicate] at hk hl
    simp only [impl_tokenDistances_L1, List.length_replicate, bdT (show (k : Int) < (n : Int) by omega), idx_lt (show k < xs.length by omega), upd_nat _ (show k < xs.length by omega), Option.bind_some, wrN (show k ≤ 67108864 by omega)]
  · intro m xs
    simp only [impl_tokenDistances_L1, List.length_replicate, bdF (show ¬ (n : Int) < (n : Int) by omega)]

theorem td_is {F : Nat} {g : GEventGraph} {u : Nat} (hF : 134217728 ≤ F) (hg : graphB g = true) (hu : u < g.Events.toNat) : ∃ t, impl_tokenDistances F g (u : Int) = some (tb g.Events.toNat t) ∧ TdOk g u t ∧ ∀ p, p ∈ g.Places → ¬ tdc t p := by
  obtain ⟨g1, g10, g3, _, _⟩ := graphB_true hg
  have hmk : mk g.Events (0 : Int) = some (List.replicate g.Events.toNat 0) := mk_int 0 (by omega) (by omega)
  have hset : (List.replicate g.Events.toNat (-1 : Int)).set u 0 = tb g.Events.toNat fun v => if v = u then 0 else -1 := by
    have : List.replicate g.Events.toNat (-1 : Int) = tb g.Events.toNat fun _ => -1 := by
      unfold tb; apply List.ext_getElem?; intro i
      rw [List.getElem?_map, List.getElem?_replicate]
      by_cases hi : i < g.Events.toNat
      · rw [if_pos hi, List.getElem?_range hi]; rfl
      · rw [if_neg hi, List.getElem?_eq_none (by simp; omega)]; rfl
    rw [this, tb_set]
  have hup := upd_nat (xs := List.replicate g.Events.toNat (-1 : Int)) (k := u) 0 (by rw [List.length_replicate]; exact hu)
  rw [hset] at hup
  have h0 : TdOk g u fun v => if v = u then 0 else -1 := by
    refine ⟨fun v _ => ?_, ?_, fun Q q0 _ v _ hv => ?_⟩
    · show -1 ≤ (if v = u then (0 : Int) else -1) ∧ (if v = u then (0 : Int) else -1) ≤ _
      split <;> omega
    · show 0 ≤ (if u = u then (0 : Int) else -1)
      rw [if_pos rfl]; exact Int.le_refl _
    · by_cases e : v = u
      · rw [e]; exact q0
      · rw [if_neg e] at hv; omega
  have hl : togo g.Events.toNat (fun v => if v = u then 0 else -1) ≤ 1000 := by
    have h := sN_le (h := fun v => if 0 ≤ (if v = u then (0 : Int) else -1) then (if v = u then (0 : Int) else -1).toNat else 100) (k := fun _ => 100) g.Events.toNat fun v _ => by
      by_cases e : v = u
      · simp only [if_pos e]; decide
      · simp only [if_neg e]; decide
    rw [sN_const] at h
    exact Nat.le_trans h (by omega)
  obtain ⟨t, h1, h2, h3⟩ := td_rounds (F := F) hF hg 1000 F _ hl (by omega) h0
  refine ⟨t, ?_, h2, h3⟩
  unfold impl_tokenDistances
  simp only [hmk, Option.bind_some, td_fill (F := F) (n := g.Events.toNat) (fuel := F) (by omega) (by omega), idx_lt (show u < (List.replicate g.Events.toNat (-1 : Int)).length by rw [List.length_replicate]; exact hu), hup, h1]

/-- hasCircuit -/
theorem has_is {F : Nat} {g : GEventGraph} (hF : 134217728 ≤ F) (hg : graphB g = true) : (impl_hasCircuit F g = some true ∧ ∃ c, c ≠ [] ∧ Clo g c) ∨ (impl_hasCircuit F g = some false ∧ Acy g) := by
  obtain ⟨g1, g10, g3, _, _⟩ := graphB_true hg
  have hall : ∀ u, ∃ t, u < g.Events.toNat → impl_tokenDistances F g (u : Int) = some (tb g.Events.toNat t) ∧ TdOk g u t ∧ ∀ p, p ∈ g.Places → ¬ tdc t p := fun u => by
    by_cases hu : u < g.Events.toNat
    · obtain ⟨t, ht⟩ := td_is hF hg hu
      exact ⟨t, fun _ => ht⟩
    · exact ⟨fun _ => 0, fun h => absurd h hu⟩
  obtain ⟨T, hT⟩ := Classical.axiomOfChoice hall
  have hc : impl_hasCircuit F g = some (g.Places.any fun p => decide (0 ≤ T (plT p) (plF p))) := by
    unfold impl_hasCircuit
    rw [slices_ContainsFunc_Place_is (h := fun p => decide (0 ≤ T (plT p) (plF p))) hF (show g.Places.length ≤ 16777216 by omega) (fun p hp => ?_)]
    · rfl
    · obtain ⟨a1, a2, a3, a4⟩ := pl_at hg hp
      obtain ⟨h1, h2, h3⟩ := hT _ a3
      simp only [impl_hasCircuit_c1]
      rw [a1, a2, h1]
      simp only [Option.bind_some, idx_nat, tb_at a4]
  rw [hc]
  cases hb : g.Places.any fun p => decide (0 ≤ T (plT p) (plF p)) with
  | true =>
    left
    refine ⟨rfl, ?_⟩
    obtain ⟨p, hp, h0⟩ := List.any_eq_true.1 hb
    have h0 := of_decide_eq_true h0
    obtain ⟨a1, a2, a3, a4⟩ := pl_at hg hp
    obtain ⟨_, h2, _⟩ := hT _ a3
    exact Wlk.w_clo hp (h2.ind (fun v => Wlk g (plT p) v) (Wlk.w_refl _ _) (fun q hq hw => hw.w_place hq) _ a4 h0)
  | false =>
    right
    refine ⟨rfl, reach_rank hg (fun u hu => (hT u hu).2) fun p hp h0 => ?_⟩
    have := List.any_eq_false.1 hb p hp
    exact this (decide_eq_true h0)

/-- what CycleTime answers -/
def CtOk (g : GEventGraph) (r : GRatio) (code : Int) : Prop := (code = 5 ∧ ¬ Live g ∧ r = ⟨0, 0⟩) ∨ (code = 4 ∧ Live g ∧ Acy g ∧ r = ⟨0, 0⟩) ∨ (code = 0 ∧ Live g ∧ ¬ Acy g ∧ Pot g r ∧ Att g r ∧ Red r ∧ r.Num ≤ 10000 ∧ r.Den ≤ 50)

theorem cyt_is {F : Nat} {g : GEventGraph} (hF : 134217728 ≤ F) (hg : graphB g = true) : ∃ r code, impl_CycleTime F g = some (r, code) ∧ CtOk g r code := by
  obtain ⟨g1, g10, g3, _, _⟩ := graphB_true hg
  unfold impl_CycleTime
  rw [bind_of (implGraph_is hF (by omega)), hg]
  simp only [Bool.not_true, cond_false]
  have hlive := live_rank hg
  unfold impl_cycleTime
  rw [bind_of (implLive_is hF (GOk.of hg))]
  cases hL : liveB g g.Events.toNat with
  | false =>
    rw [hL] at hlive
    exact ⟨⟨0, 0⟩, 5, rfl, .inl ⟨rfl, fun h => (by have := hlive.2 h; cases this), rfl⟩⟩
  | true =>
    rw [hL] at hlive
    have hlv : Live g := hlive.1 rfl
    obtain ⟨ρ, hρ⟩ := hlv
    simp only [Bool.not_true, cond_false]
    rcases has_is hF hg with ⟨h1, c, hc, hC⟩ | ⟨h1, hA⟩
    · rw [bind_of h1]
      simp only [Bool.not_true, cond_false]
      have hne : g.Places ≠ [] := fun h => by
        cases c with
        | nil => exact hc rfl
        | cons i c =>
          obtain ⟨i0, i1⟩ := hC.rng i List.mem_cons_self
          rw [h] at i1
          simp only [List.length_nil] at i1
          omega
      have hno : ¬ Acy g := fun ha => clo_noacy hC hc ha
      have hr0 : RatOk ⟨((0 : Nat) : Int), ((1 : Nat) : Int)⟩ := ⟨by decide, by decide, by decide, by decide⟩
      have fin : ∀ c0, CytSt g 0 1 c0 → impl_betterCircuit F g ⟨((0 : Nat) : Int), ((1 : Nat) : Int)⟩ = some c0 → ∃ r code, (((impl_betterCircuit F g ⟨0, 1⟩).bind fun q => (impl_cycleTime_L1 F g F 0 1 q).bind fun s => some ((⟨s.1, s.2⟩ : GRatio), (0 : Int))).bind fun r6 => some ((⟨r6.1.Num, r6.1.Den⟩ : GRatio), r6.2)) = some (r, code) ∧ CtOk g r code := fun c0 hst hb => by
        have hb : impl_betterCircuit F g ⟨0, 1⟩ = some c0 := hb
        obtain ⟨a, b, e1, e2, e3, e4, e5, e6, e7⟩ := cyt_loop hF hg hne hρ 25000001 F 0 1 c0 (by omega) (by omega) (by omega) (by omega) (by omega) (by decide) hst
        have e1 : impl_cycleTime_L1 F g F 0 1 c0 = some ((a : Int), (b : Int)) := e1
        refine ⟨⟨(a : Int), (b : Int)⟩, 0, by rw [hb, Option.bind_some, e1]; rfl, .inr (.inr ⟨rfl, ⟨ρ, hρ⟩, hno, e6, ?_, ⟨a, b, rfl, e2, e5⟩, by show (a : Int) ≤ 10000; omega, by show (b : Int) ≤ 50; omega⟩)⟩
        rcases e7 with e7 | ⟨rfl, rfl⟩
        · exact e7
        · obtain ⟨x, hx⟩ := e6
          have hp := hC.pot hx
          have hd : 0 ≤ sDel g c := (pS_bd (g := g) (f := fun p => p.Delay) (M := 1000) c fun i hi => by
            obtain ⟨i0, i1⟩ := hC.rng i hi
            obtain ⟨r1, r2, r3, r4, r5, r6, r7, r8⟩ := graphB_range hg _ (List.mem_of_getElem? (plD_of (g := g) (k := i.toNat) (by omega)))
            exact ⟨r5, r6⟩).1
          refine ⟨c, hC, hC.tok hg hc hρ, ?_⟩
          simp only at hp ⊢
          omega
      rcases btr_is (F := F) hF hg hr0 hne with ⟨hbt, hP⟩ | ⟨c', hbt, hc', hl', hC', hp'⟩
      · exact fin [] (.inl ⟨rfl, hP, .inr ⟨rfl, rfl⟩⟩) hbt
      · exact fin c' (.inr ⟨hc', hl', hC', hp'⟩) hbt
    · rw [bind_of h1]
      exact ⟨⟨0, 0⟩, 4, rfl, .inr (.inl ⟨rfl, ⟨ρ, hρ⟩, hA, rfl⟩)⟩

/-! ### Two graphs with one cycle time -/
theorem live_of {g : GEventGraph} (ρ : Nat → Nat) (h : ∀ p, p ∈ g.Places → p.Tokens = 0 → ρ (plF p) < ρ (plT p)) : Live g := ⟨ρ, fun u v e => by
  obtain ⟨p, hp, h0, hf, ht⟩ := mem_eP e
  have := h p hp h0
  unfold plF plT at this
  rw [hf, ht] at this
  exact this⟩

theorem live_to {g : GEventGraph} (hg : graphB g = true) (h : Live g) : ∃ ρ : Nat → Nat, ∀ p, p ∈ g.Places → p.Tokens = 0 → ρ (plF p) < ρ (plT p) := by
  obtain ⟨ρ, hρ⟩ := h
  refine ⟨ρ, fun p hp h0 => ?_⟩
  obtain ⟨a1, a2, _, _⟩ := pl_at hg hp
  exact hρ _ _ (eP_mem hp h0 a2 a1)

theorem sN_mem {h : Nat → Nat} {v : Nat} : ∀ n, v < n → h v ≤ sN n h
  | 0, hv => by omega
  | n + 1, hv => by
    show h v ≤ sN n h + h n
    by_cases e : v = n
    · subst e; omega
    · have := sN_mem (h := h) (v := v) n (by omega); omega

/-- two reduced fractions that are one -/
theorem red_eq {r r' : GRatio} (h : Red r) (h' : Red r') (he : r.Num * r'.Den = r'.Num * r.Den) : r = r' := by
  obtain ⟨a, b, rfl, hb, hg⟩ := h
  obtain ⟨c, d, rfl, hd, hg'⟩ := h'
  have he : a * d = c * b := by
    have he : (a : Int) * (d : Int) = (c : Int) * (b : Int) := he
    exact_mod_cast he
  have h1 : b ∣ d := Nat.Coprime.dvd_of_dvd_mul_left (Nat.Coprime.symm hg) ⟨c, by rw [he, Nat.mul_comm]⟩
  have h2 : d ∣ b := Nat.Coprime.dvd_of_dvd_mul_left (Nat.Coprime.symm hg') ⟨a, by rw [← he, Nat.mul_comm]⟩
  have hbd : b = d := Nat.dvd_antisymm h1 h2
  subst hbd
  have : a = c := Nat.eq_of_mul_eq_mul_right hb he
  rw [this]

theorem red_den {r : GRatio} (h : Red r) : 0 < r.Den ∧ 0 ≤ r.Num := by
  obtain ⟨a, b, rfl, hb, _⟩ := h
  exact ⟨by show (0 : Int) < (b : Int); omega, by show (0 : Int) ≤ (a : Int); omega⟩

/-- the codes are alike when the ranks go over -/
theorem ctok_same {g g' : GEventGraph} {r r' : GRatio} {c c' : Int} (h : CtOk g r c) (h' : CtOk g' r' c') (hL : Live g ↔ Live g') (hA : Acy g ↔ Acy g') : c = c' ∧ ((c ≠ 0 ∧ r = r') ∨ (c = 0 ∧ Pot g r ∧ Att g r ∧ Red r ∧ (r.Num ≤ 10000 ∧ r.Den ≤ 50) ∧ Pot g' r' ∧ Att g' r' ∧ Red r' ∧ r'.Num ≤ 10000 ∧ r'.Den ≤ 50)) := by
  rcases h with ⟨e, a, q⟩ | ⟨e, a, b, q⟩ | ⟨e, a, b, p1, p2, p3, k1, k2⟩ <;> rcases h' with ⟨e', a', q'⟩ | ⟨e', a', b', q'⟩ | ⟨e', a', b', p1', p2', p3', k3, k4⟩
  · exact ⟨e.trans e'.symm, .inl ⟨by omega, q.trans q'.symm⟩⟩
  · exact absurd (hL.2 a') a
  · exact absurd (hL.2 a') a
  · exact absurd (hL.1 a) a'
  · exact ⟨e.trans e'.symm, .inl ⟨by omega, q.trans q'.symm⟩⟩
  · exact absurd (hA.1 b) b'
  · exact absurd (hL.1 a) a'
  · exact absurd (hA.2 b') b
  · exact ⟨e.trans e'.symm, .inr ⟨e, p1, p2, p3, ⟨k1, k2⟩, p1', p2', p3', k3, k4⟩⟩

/-! ### Turned around -/
def revP (p : GPlace) : GPlace := ⟨p.To, p.From, p.Delay, p.Tokens⟩

def revG (g : GEventGraph) : GEventGraph := ⟨g.Events, g.Places.map revP⟩

theorem revG_revG (g : GEventGraph) : revG (revG g) = g := by
  unfold revG
  simp only [List.map_map]
  rw [show revP ∘ revP = id from rfl, List.map_id]

theorem revG_ok {g : GEventGraph} (hg : graphB g = true) : graphB (revG g) = true := by
  have h5 := graphB_range hg
  obtain ⟨g1, g2, g3, gw, _⟩ := graphB_true hg
  unfold graphB
  simp only [Bool.and_eq_true, inB_true, decide_eq_true_eq, List.all_eq_true]
  refine ⟨fun q hq => ?_, ⟨g1, g2⟩, by show ((g.Places.map revP).length : Int) ≤ 30; rw [List.length_map]; omega⟩
  obtain ⟨p, hp, rfl⟩ := List.mem_map.1 hq
  have := h5 p hp
  show placeB (IntKind.i64.wrap (g.Events - 1)) (revP p) = true
  rw [gw]
  unfold placeB revP
  simp only [Bool.and_eq_true, inB_true]
  omega

theorem rev_live {g : GEventGraph} (hg : graphB g = true) (h : Live g) : Live (revG g) := by
  obtain ⟨ρ, hρ⟩ := live_to hg h
  refine live_of (fun v => sN g.Events.toNat ρ - ρ v) fun q hq h0 => ?_
  obtain ⟨p, hp, rfl⟩ := List.mem_map.1 hq
  have h1 := hρ p hp h0
  obtain ⟨_, _, a3, a4⟩ := pl_at hg hp
  have h2 := sN_mem (h := ρ) _ a3
  show sN g.Events.toNat ρ - ρ (plT p) < sN g.Events.toNat ρ - ρ (plF p)
  omega

theorem rev_acy {g : GEventGraph} (h : Acy g) : Acy (revG g) := by
  obtain ⟨x, hx⟩ := h
  refine ⟨fun v => -x v, fun q hq => ?_⟩
  obtain ⟨p, hp, rfl⟩ := List.mem_map.1 hq
  have := hx p hp
  show -x (plT p) + 1 ≤ -x (plF p)
  omega

theorem rev_pot {g : GEventGraph} {r : GRatio} (h : Pot g r) : Pot (revG g) r := by
  obtain ⟨x, hx⟩ := h
  refine ⟨fun v => -x v, fun q hq => ?_⟩
  obtain ⟨p, hp, rfl⟩ := List.mem_map.1 hq
  have := hx p hp
  show -x (plT p) + qW r p ≤ -x (plF p)
  omega

theorem rev_same {g : GEventGraph} {r r' : GRatio} {c c' : Int} (hg : graphB g = true) (h : CtOk g r c) (h' : CtOk (revG g) r' c') : c = c' ∧ r = r' := by
  obtain ⟨e, h1⟩ := ctok_same h h' ⟨rev_live hg, fun hh => by have := rev_live (revG_ok hg) hh; rw [revG_revG] at this; exact this⟩ ⟨rev_acy, fun hh => by have := rev_acy hh; rw [revG_revG] at this; exact this⟩
  refine ⟨e, ?_⟩
  rcases h1 with ⟨_, h1⟩ | ⟨_, p1, p2, p3, ⟨k1, k2⟩, p1', p2', p3', k3, k4⟩
  · exact h1
  · have q1 := red_den p3
    have q2 := red_den p3'
    have hb := rev_pot p1'
    rw [revG_revG] at hb
    exact red_eq p3 p3' (Int.le_antisymm (att_le (by omega) p2 hb) (att_le (by omega) p2' (rev_pot p1)))

/-! ### Stretched -/
def strP (n : Int) (p : GPlace) : GPlace := ⟨p.From, p.To, p.Delay * n, p.Tokens⟩

def strG (n : Int) (g : GEventGraph) : GEventGraph := ⟨g.Events, g.Places.map (strP n)⟩

theorem str_same {g : GEventGraph} {n : Int} {r r' : GRatio} {c c' : Int} (hg : graphB g = true) (hg' : graphB (strG n g) = true) (hn : 0 ≤ n) (h : CtOk g r c) (h' : CtOk (strG n g) r' c') : c = c' ∧ (c = 0 → r'.Num * r.Den = n * r.Num * r'.Den ∧ (0 ≤ r.Num ∧ r.Num ≤ 10000 ∧ 0 < r.Den ∧ r.Den ≤ 50) ∧ 0 ≤ r'.Num ∧ r'.Num ≤ 10000 ∧ 0 < r'.Den ∧ r'.Den ≤ 50) := by
  have hmem : ∀ p, p ∈ g.Places → strP n p ∈ (strG n g).Places := fun p hp => List.mem_map.2 ⟨p, hp, rfl⟩
  have hL : Live g ↔ Live (strG n g) := by
    constructor
    · intro hh
      obtain ⟨ρ, hρ⟩ := live_to hg hh
      refine live_of ρ fun q hq h0 => ?_
      obtain ⟨p, hp, rfl⟩ := List.mem_map.1 hq
      exact hρ p hp h0
    · intro hh
      obtain ⟨ρ, hρ⟩ := live_to hg' hh
      exact live_of ρ fun p hp h0 => hρ (strP n p) (hmem p hp) h0
  have hA : Acy g ↔ Acy (strG n g) := by
    constructor
    · rintro ⟨x, hx⟩
      refine ⟨x, fun q hq => ?_⟩
      obtain ⟨p, hp, rfl⟩ := List.mem_map.1 hq
      exact hx p hp
    · rintro ⟨x, hx⟩
      exact ⟨x, fun p hp => hx (strP n p) (hmem p hp)⟩
  obtain ⟨e, h1⟩ := ctok_same h h' hL hA
  refine ⟨e, fun h0 => ?_⟩
  rcases h1 with ⟨h1, _⟩ | ⟨_, p1, p2, p3, ⟨k1, k2⟩, p1', p2', p3', k3, k4⟩
  · exact absurd h0 h1
  · have q1 := red_den p3
    have q2 := red_den p3'
    have b1 : Pot g ⟨r'.Num, n * r'.Den⟩ := by
      obtain ⟨x, hx⟩ := p1'
      refine ⟨x, fun p hp => ?_⟩
      have := hx _ (hmem p hp)
      have e : qW ⟨r'.Num, n * r'.Den⟩ p = qW r' (strP n p) := by
        unfold qW strP
        show n * r'.Den * p.Delay - r'.Num * p.Tokens = r'.Den * (p.Delay * n) - r'.Num * p.Tokens
        rw [Int.mul_comm p.Delay n, ← Int.mul_assoc, Int.mul_comm n r'.Den]
      rw [e]
      exact this
    have b2 : Pot (strG n g) ⟨n * r.Num, r.Den⟩ := by
      obtain ⟨x, hx⟩ := p1
      refine ⟨fun v => n * x v, fun q hq => ?_⟩
      obtain ⟨p, hp, rfl⟩ := List.mem_map.1 hq
      have := Int.mul_le_mul_of_nonneg_left (hx p hp) hn
      have e : qW ⟨n * r.Num, r.Den⟩ (strP n p) = n * qW r p := by
        unfold qW strP
        show r.Den * (p.Delay * n) - n * r.Num * p.Tokens = n * (r.Den * p.Delay - r.Num * p.Tokens)
        rw [Int.mul_sub, ← Int.mul_assoc, Int.mul_comm _ n, Int.mul_assoc n r.Num]
      rw [e]
      show n * x (plF p) + n * qW r p ≤ n * x (plT p)
      rw [← Int.mul_add]
      exact this
    have l1 := att_le (by omega) p2 b1
    have l2 := att_le (by omega) p2' b2
    have e1 : r.Num * (n * r'.Den) = n * r.Num * r'.Den := by rw [Int.mul_left_comm, Int.mul_assoc]
    simp only at l1 l2
    rw [e1] at l1
    exact ⟨Int.le_antisymm l2 l1, ⟨q1.2, k1, q1.1, k2⟩, q2.2, k3, q2.1, k4⟩

/-! ### Unrolled -/
end Go.Proofs.Ytgkgimglgjfcjaa
