/- The reference and the program answer alike. -/
import Derived.Test.YthbcakdjdbfepaaLateFiringsSmall
namespace Go.Proofs.Ythbcakdjdbfepaa

/-- the firings of one round, of all rounds -/
def pickRow (p : Nat → Nat → Bool) (k n : Nat) : List (List Int) := (List.range n).flatMap fun e => bif p k e then [[((k + 1 : Nat) : Int), (e : Int)]] else []
def pickAll (p : Nat → Nat → Bool) (n : Nat) (m : Nat) : List (List Int) := (List.range m).flatMap fun k => pickRow p k n
theorem pickRow_len (p : Nat → Nat → Bool) (k : Nat) : ∀ n, (pickRow p k n).length ≤ n
  | 0 => by simp [pickRow]
  | n + 1 => by
    have := pickRow_len p k n
    have e : pickRow p k (n + 1) = pickRow p k n ++ bif p k n then [[((k + 1 : Nat) : Int), (n : Int)]] else [] := by
      unfold pickRow; rw [List.range_succ, List.flatMap_append]; simp
    rw [e]
    cases p k n <;> simp <;> omega
theorem pickAll_len (p : Nat → Nat → Bool) (n : Nat) : ∀ m, (pickAll p n m).length ≤ m * n
  | 0 => by simp [pickAll]
  | m + 1 => by
    have := pickAll_len p n m
    have h2 := pickRow_len p m n
    have e : pickAll p n (m + 1) = pickAll p n m ++ pickRow p m n := by
      unfold pickAll; rw [List.range_succ, List.flatMap_append]; simp
    rw [e, List.length_append, Nat.succ_mul]; omega
theorem pickAll_rows (p : Nat → Nat → Bool) (n m : Nat) : ∀ r, r ∈ pickAll p n m → r.length = 2 := by
  intro r hr
  unfold pickAll pickRow at hr
  rw [List.mem_flatMap] at hr
  obtain ⟨k, _, hr⟩ := hr
  rw [List.mem_flatMap] at hr
  obtain ⟨e, _, hr⟩ := hr
  cases h : p k e with
  | false => rw [h] at hr; cases hr
  | true => rw [h] at hr; simp only [cond_true, List.mem_singleton] at hr; rw [hr]; rfl
/-- a loop over a round that appends -/
theorem row_loop {p : Nat → Nat → Bool} {k n : Nat} {acc : List (List Int)} {L : Nat → List (List Int) → Int → Option (List (List Int))} (ha : acc.length ≤ 1000) (hn : n ≤ 10)
    (hL : ∀ m ms e, e < n → ms.length ≤ 2000 → L (m + 1) ms (e : Int) = L m (ms ++ bif p k e then [[((k + 1 : Nat) : Int), (e : Int)]] else []) ((e + 1 : Nat) : Int))
    (hE : ∀ m ms, L (m + 1) ms (n : Int) = some ms) {F : Nat} (hF : 134217728 ≤ F) : L F acc 0 = some (acc ++ pickRow p k n) := by
  refine for0 (L := L) (len := n) (fun j s => s = acc ++ pickRow p k j) (R := fun q => q = some (acc ++ pickRow p k n)) ?_ ?_ (by unfold pickRow; simp) (by omega)
  · rintro m j s hj rfl
    have hl := pickRow_len p k j
    refine .inl ⟨_, hL m _ j hj (by rw [List.length_append]; omega), ?_⟩
    have e : pickRow p k (j + 1) = pickRow p k j ++ bif p k j then [[((k + 1 : Nat) : Int), (j : Int)]] else [] := by
      unfold pickRow; rw [List.range_succ, List.flatMap_append]; simp
    rw [e, List.append_assoc]
  · rintro m s rfl
    exact hE m _
theorem all_rounds {p : Nat → Nat → Bool} {n len : Nat} {L : Nat → List (List Int) → Int → Option (List (List Int))} (hn : n ≤ 10) (hlen : len ≤ 50)
    (hL : ∀ m k ms, k < len → ms.length ≤ 1000 → L (m + 1) ms (k : Int) = L m (ms ++ pickRow p k n) ((k + 1 : Nat) : Int))
    (hE : ∀ m ms, L (m + 1) ms (len : Int) = some ms) {F : Nat} (hF : 134217728 ≤ F) : L F [] 0 = some (pickAll p n len) := by
  refine for0 (L := L) (len := len) (fun j s => s = pickAll p n j) (R := fun q => q = some (pickAll p n len)) ?_ ?_ (by unfold pickAll; simp) (by omega)
  · rintro m j s hj rfl
    have hl := pickAll_len p n j
    have h2 := Nat.mul_le_mul (show j ≤ 50 by omega) hn
    refine .inl ⟨_, hL m j _ hj (by omega), ?_⟩
    unfold pickAll; rw [List.range_succ, List.flatMap_append]; simp
  · rintro m s rfl
    exact hE m _
theorem off_rows {rows : List (List Int)} {n : Nat} (h : ∀ r, r ∈ rows → r.length = n) : ∀ k, k ≤ rows.length → offR rows k = k * n := by
  intro k
  induction k with
  | zero => intro _; rw [offR_zero]; omega
  | succ k ih =>
    intro hk
    have hr : rows[k]? = some rows[k] := List.getElem?_eq_getElem (by omega)
    rw [offR_succ hr, ih (by omega), h _ (List.mem_of_getElem? hr), Nat.succ_mul]
theorem rowD {T : List (List Int)} {k : Nat} (h : k < T.length) : T[k]? = some (T.getD k []) := by
  rw [List.getD_eq_getElem?_getD, List.getElem?_eq_getElem h]; rfl
def lateP (T due : List (List Int)) (k e : Nat) : Bool := decide ((due.getD k []).getD e 0 < (T.getD k []).getD e 0)

theorem same_LateFirings {F : Nat} {x0 : GEventGraph} {x1 : List (List Int)} (hF : 134217728 ≤ F) (h0 : x0.Places.length ≤ 1048576) (h1 : x1.length ≤ 1048576) (h2 : offR x1 x1.length ≤ 1048576) :
    ∃ r : List (List Int) × Int, spec_LateFirings F x0 x1 = some r ∧ impl_LateFirings F x0 x1 = some r ∧ (r.1.length ≤ 1048576 ∧ offR r.1 r.1.length ≤ 1048576) := by
  have hrl := rows_le h2
  have hs := specDueCode_is hF h0 h1 hrl
  unfold spec_LateFirings impl_LateFirings
  rw [bind_of (implDueCode_is hF h0 h1 hrl)]
  obtain ⟨b, hb⟩ := specDueTot (g := x0) hF h1 hrl
  rw [hb] at hs ⊢
  simp only [Option.bind_some] at hs ⊢
  rw [hs]
  simp only [Option.bind_some]
  by_cases hd : dueCode x0 x1 = 0
  · rw [bF (neF hd), bF (neF hd)]
    obtain ⟨g1, g2, o, ho⟩ := dueCode_zero hd
    obtain ⟨hn, hrow⟩ := dueB_true g1 g2
    have hG := GOk.of g1
    have h10 := hG.n10
    have hmk : mk x0.Events (0 : Int) = some (zeros x0) := by rw [hG.ev, mk_nat _ (by omega)]; rfl
    have hz : (zeros x0).length = x0.Events.toNat := by unfold zeros; simp
    have hT := ttab_len x0 o (zeros x0) x1.length
    have hTr := ttab_rows (g := x0) (o := o) hz x1.length
    simp only [hmk, Option.bind_some, specTimes13_is hF g1 ho hz hn, implTimes13_is hF g1 ho hz hn]
    generalize ttab x0 o (zeros x0) x1.length = T at hT hTr
    have S := all_rounds (p := lateP T x1) (n := x0.Events.toNat) (len := x1.length) (L := spec_LateFirings_L4 F x1 T) h10 hn ?_ ?_ hF
    have I := all_rounds (p := lateP T x1) (n := x0.Events.toNat) (len := x1.length) (L := impl_firingsWith_L4 F T (fun y0 y1 => impl_LateFirings_c1 F y0 y1 T x1)) h10 hn ?_ ?_ hF
    · refine ⟨(pickAll (lateP T x1) x0.Events.toNat x1.length, 0), ?_, ?_, ?_, ?_⟩
      · rw [S]; rfl
      · unfold impl_firingsWith; rw [I]; rfl
      · have := pickAll_len (lateP T x1) x0.Events.toNat x1.length
        have h3 := Nat.mul_le_mul hn h10
        simp only; omega
      · have := pickAll_len (lateP T x1) x0.Events.toNat x1.length
        have h3 := Nat.mul_le_mul hn h10
        have h4 := off_rows (pickAll_rows (lateP T x1) x0.Events.toNat x1.length) _ (Nat.le_refl _)
        simp only [h4]; omega
    · intro m k ms hk hms
      have r1 := rowD (T := T) (k := k) (by omega)
      have l1 := hTr _ (List.mem_of_getElem? r1)
      have inner := row_loop (p := lateP T x1) (k := k) (n := x0.Events.toNat) (acc := ms) (L := impl_firingsWith_L5 F (fun y0 y1 => impl_LateFirings_c1 F y0 y1 T x1) (k : Int) (T.getD k [])) hms h10 ?_ ?_ hF
      · simp only [impl_firingsWith_L4, bdT (show (k : Int) < (T.length : Int) by omega), idx_nat, r1, Option.bind_some, inner, wrN (show k ≤ 67108864 by omega)]
      · intro m ms e he hml
        have r2 := rowD (T := x1) (k := k) hk
        have l2 := (hrow _ (List.mem_of_getElem? r2)).1
        simp only [impl_firingsWith_L5, impl_LateFirings_c1, bdT (show (e : Int) < ((T.getD k []).length : Int) by omega), idx_nat, r1, r2, getD_of (show e < (T.getD k []).length by omega), getD_of (show e < (x1.getD k []).length by omega), Option.bind_some, wrN (show k ≤ 67108864 by omega), wrN (show e ≤ 67108864 by omega)]
        rw [show decide ((x1.getD k []).getD e 0 < (T.getD k []).getD e 0) = lateP T x1 k e from rfl]
        cases lateP T x1 k e with
        | false => simp
        | true => rw [cond_true, app_le (by simp only [List.length_singleton]; omega)]; rfl
      · intro m ms
        simp only [impl_firingsWith_L5, bdF (show ¬ (x0.Events.toNat : Int) < ((T.getD k []).length : Int) by omega)]
    · intro m ms
      simp only [impl_firingsWith_L4, bdF (show ¬ (x1.length : Int) < (T.length : Int) by omega)]
    · intro m k ms hk hms
      have r1 := rowD (T := T) (k := k) (by omega)
      have l1 := hTr _ (List.mem_of_getElem? r1)
      have inner := row_loop (p := lateP T x1) (k := k) (n := x0.Events.toNat) (acc := ms) (L := spec_LateFirings_L5 F x1 T (k : Int)) hms h10 ?_ ?_ hF
      · simp only [spec_LateFirings_L4, bdT (show (k : Int) < (T.length : Int) by omega), Option.bind_some, inner, wrN (show k ≤ 67108864 by omega)]
      · intro m ms e he hml
        have r2 := rowD (T := x1) (k := k) hk
        have l2 := (hrow _ (List.mem_of_getElem? r2)).1
        simp only [spec_LateFirings_L5, idx_nat, r1, Option.bind_some, bdT (show (e : Int) < ((T.getD k []).length : Int) by omega), r2, getD_of (show e < (T.getD k []).length by omega), getD_of (show e < (x1.getD k []).length by omega), wrN (show k ≤ 67108864 by omega), wrN (show e ≤ 67108864 by omega)]
        rw [show decide ((x1.getD k []).getD e 0 < (T.getD k []).getD e 0) = lateP T x1 k e from rfl]
        cases lateP T x1 k e with
        | false => simp
        | true => rw [cond_true, app_le (by simp only [List.length_singleton]; omega)]; rfl
      · intro m ms
        simp only [spec_LateFirings_L5, idx_nat, r1, Option.bind_some, bdF (show ¬ (x0.Events.toNat : Int) < ((T.getD k []).length : Int) by omega)]
    · intro m ms
      simp only [spec_LateFirings_L4, bdF (show ¬ (x1.length : Int) < (T.length : Int) by omega)]
  · rw [bT (neT hd), bT (neT hd)]
    exact ⟨_, rfl, rfl, by simp, by simp [offR_zero]⟩

end Go.Proofs.Ythbcakdjdbfepaa
