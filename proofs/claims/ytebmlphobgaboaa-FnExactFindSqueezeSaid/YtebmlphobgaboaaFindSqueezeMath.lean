/- The reference and the program answer alike. -/
import Derived.Test.YtebmlphobgaboaaFindSqueezeSmall
namespace Go.Proofs.Ytebmlphobgaboaa

/-! ### Walks of exactly so many arcs -/
def PW (a : Nat → Nat → Int) (n : Nat) : Nat → Nat → Nat → Int
  | 0 => un
  | k + 1 => fun i j => mx n fun q => ta (PW a n k i q) (a q j)
theorem ta_comm' (x y : Int) : ta x y = ta y x := by
  unfold ta
  by_cases e : x = -1000000000000000 ∨ y = -1000000000000000
  · rw [if_pos e, if_pos e.symm]
  · rw [if_neg e, if_neg (fun h => e h.symm)]; omega
theorem un_comm' (i j : Nat) : un i j = un j i := by
  unfold un
  by_cases e : i = j
  · rw [if_pos e, if_pos e.symm]
  · rw [if_neg e, if_neg (fun h => e h.symm)]
theorem ta_ne {x y : Int} (h : ta x y ≠ -1000000000000000) : x ≠ -1000000000000000 ∧ y ≠ -1000000000000000 ∧ ta x y = x + y := by
  have h1 : x ≠ -1000000000000000 := fun e => h (by rw [e, ta_botl])
  have h2 : y ≠ -1000000000000000 := fun e => h (by rw [e, ta_botr])
  exact ⟨h1, h2, ta_fin h1 h2⟩
section pw
variable {a : Nat → Nat → Int} {n : Nat} (ha : TabOk a n)
include ha
theorem PW_ok : ∀ (k : Nat) {i j : Nat}, i < n → j < n → Okw (1000000 * (k : Int)) (PW a n k i j)
  | 0, i, j, _, _ => un_ok (by omega) i j
  | k + 1, i, j, hi, hj => mx_ok fun q hq => ok_up (ta_ok (PW_ok k hi hq) (ha q j hq hj)) (by omega)
theorem turn_ok : TabOk (fun i j => a j i) n := fun i j hi hj => ha j i hj hi
theorem PW_le : ∀ (k : Nat) {i j : Nat}, k ≤ 5000 → i < n → j < n → PW a n k i j ≤ WW (fun i j => a j i) n k j i
  | 0, i, j, _, _, _ => by show un i j ≤ un j i; rw [un_comm' i j]; exact Int.le_refl _
  | k + 1, i, j, hk, hi, hj => by
    refine mx_le (ok_ge (WW_ok (turn_ok ha) (k + 1) hj hi) (by omega)) fun q hq => ?_
    refine Int.le_trans ?_ (WW_arc (turn_ok ha) (k := k) (i := j) (j := i) hq)
    rw [ta_comm' (PW a n k i q)]
    exact ta_mono (M := 1000000) (K := 1000000 * (k : Int)) (ha q j hq hj) (PW_ok ha k hi hq) (ha q j hq hj) (WW_ok (turn_ok ha) k hq hi) (by omega) (by omega) (by omega) (Int.le_refl _) (PW_le k (by omega) hi hq)
theorem PW_hit : ∀ (k : Nat) {i j : Nat}, k ≤ 5000 → i < n → j < n → WW (fun i j => a j i) n k j i = -1000000000000000 ∨ ∃ m, m ≤ k ∧ PW a n m i j = WW (fun i j => a j i) n k j i
  | 0, i, j, _, _, _ => .inr ⟨0, Nat.le_refl _, un_comm' i j⟩
  | k + 1, i, j, hk, hi, hj => by
    rcases WW_cases (turn_ok ha) (k := k) (i := j) (j := i) with h | h | ⟨q, hq, h⟩
    · exact .inr ⟨0, by omega, by rw [h]; exact un_comm' i j⟩
    · exact .inl h
    · by_cases hb : WW (fun i j => a j i) n (k + 1) j i = -1000000000000000
      · exact .inl hb
      right
      rw [h] at hb
      obtain ⟨h1, h2, h3⟩ := ta_ne hb
      rcases PW_hit k (by omega) hi hq with h4 | ⟨m, h4, h5⟩
      · exact absurd h4 h2
      · refine ⟨m + 1, by omega, Int.le_antisymm ?_ ?_⟩
        · exact Int.le_trans (PW_le ha (m + 1) (by omega) hi hj) (WW_le (turn_ok ha) (by omega) (by omega) hj hi)
        · rw [h, ← h5, ta_comm']
          exact mx_ge (g := fun q => ta (PW a n m i q) (a q j)) hq
theorem PW_star (hn : n ≤ 11) (hfw : FwOk a n) {i j : Nat} (hi : i < n) (hj : j < n) (h : fw a n i j ≠ -1000000000000000) : ∃ m, m ≤ n ∧ PW a n m i j = fw a n i j := by
  have hfw' : FwOk (fun i j => a j i) n := fun k hk => by rw [fw_turn]; exact hfw k hk
  have e : fw a n i j = WW (fun i j => a j i) n n j i := by rw [← star_eq (turn_ok ha) hn hfw' hj hi, fw_turn]
  rw [e] at h ⊢
  rcases PW_hit ha n (by omega) hi hj with h1 | h1
  · exact absurd h1 h
  · exact h1
end pw
/-- the next point of a path -/
def hitB (a : Nat → Nat → Int) (n to k l v : Nat) : Bool := (a v l != -1000000000000000) && (tms (a v l) (PW a n k to v) == PW a n (k + 1) to l)
theorem hit_some {a : Nat → Nat → Int} {n : Nat} (ha : TabOk a n) (hn : n ≤ 10) {to k l : Nat} (hk : k ≤ 10) (ht : to < n) (hl : l < n) (h : PW a n (k + 1) to l ≠ -1000000000000000) : ∃ v, (List.range n).find? (hitB a n to k l) = some v := by
  rcases mx_cases (fun q => ta (PW a n k to q) (a q l)) n with h1 | ⟨q, hq, h1⟩
  · exact absurd h1 h
  · have e : PW a n (k + 1) to l = ta (PW a n k to q) (a q l) := h1
    obtain ⟨h2, h3, _⟩ := ta_ne (show ta (PW a n k to q) (a q l) ≠ -1000000000000000 by rw [← e]; exact h)
    have hq' : hitB a n to k l q = true := by
      unfold hitB
      rw [neT h3, tms_ta (ha q l hq hl) (ok_up (PW_ok ha k ht hq) (show 1000000 * (k : Int) ≤ 10000000 by omega)) (by omega) (by omega), ta_comm', ← e, beq_self_eq_true]; rfl
    cases hf : (List.range n).find? (hitB a n to k l) with
    | some v => exact ⟨v, rfl⟩
    | none => exact absurd hq' (List.find?_eq_none.1 hf q (by simpa using hq))
theorem hit_is {a : Nat → Nat → Int} {n : Nat} (ha : TabOk a n) (hn : n ≤ 10) {to k l v : Nat} (hk : k ≤ 10) (ht : to < n) (hl : l < n) (h : PW a n (k + 1) to l ≠ -1000000000000000) (hf : (List.range n).find? (hitB a n to k l) = some v) :
    v < n ∧ a v l ≠ -1000000000000000 ∧ PW a n k to v ≠ -1000000000000000 ∧ a v l + PW a n k to v = PW a n (k + 1) to l := by
  have _ := hn
  have hv : v < n := by simpa using List.mem_of_find?_eq_some hf
  have hp := List.find?_some hf
  unfold hitB at hp
  rw [Bool.and_eq_true] at hp
  obtain ⟨h1, h2⟩ := hp
  rw [bne_iff_ne] at h1
  rw [beq_iff_eq, tms_ta (ha v l hv hl) (ok_up (PW_ok ha k ht hv) (show 1000000 * (k : Int) ≤ 10000000 by omega)) (by omega) (by omega)] at h2
  obtain ⟨h3, h4, h5⟩ := ta_ne (show ta (a v l) (PW a n k to v) ≠ -1000000000000000 by rw [h2]; exact h)
  exact ⟨hv, h3, h4, by omega⟩

/-! ### The powers, the vectors -/
def pows (a : Nat → Nat → Int) (n k : Nat) : List (List (List Int)) := (List.range (k + 1)).map fun q => tabM n n (PW a n q)
def lefts (a : Nat → Nat → Int) (n to k : Nat) : List (List Int) := (List.range (k + 1)).map fun q => (List.range n).map (PW a n q to)
theorem pows_at {a : Nat → Nat → Int} {n k q : Nat} (h : q ≤ k) : (pows a n k)[q]? = some (tabM n n (PW a n q)) := by
  unfold pows; rw [List.getElem?_map, List.getElem?_range (by omega)]; rfl
theorem lefts_at {a : Nat → Nat → Int} {n to k q : Nat} (h : q ≤ k) : (lefts a n to k)[q]? = some ((List.range n).map (PW a n q to)) := by
  unfold lefts; rw [List.getElem?_map, List.getElem?_range (by omega)]; rfl
theorem pows_len (a : Nat → Nat → Int) (n k : Nat) : (pows a n k).length = k + 1 := by unfold pows; simp
theorem lefts_len (a : Nat → Nat → Int) (n to k : Nat) : (lefts a n to k).length = k + 1 := by unfold lefts; simp
theorem pows_succ (a : Nat → Nat → Int) (n k : Nat) : pows a n (k + 1) = pows a n k ++ [tabM n n (PW a n (k + 1))] := by
  unfold pows; rw [List.range_succ (n := k + 1), List.map_append]; rfl
theorem lefts_succ (a : Nat → Nat → Int) (n to k : Nat) : lefts a n to (k + 1) = lefts a n to k ++ [(List.range n).map (PW a n (k + 1) to)] := by
  unfold lefts; rw [List.range_succ (n := k + 1), List.map_append]; rfl

theorem pow_loop {F n fr to m0 : Nat} {a : Nat → Nat → Int} {q : Bool} (hF : 134217728 ≤ F) (ha : TabOk a n) (h1 : 1 ≤ n) (hn : n ≤ 10) (hfr : fr < n) (hto : to < n) (hm0 : m0 ≤ 10) (hm : PW a n m0 to fr = fw a n to fr) :
    ∀ (d k fuel : Nat), k + d = m0 → d < fuel → ∃ K, K ≤ m0 ∧ PW a n K to fr = fw a n to fr ∧ spec_HeaviestPath_L1 F (tabM n n a) (fr : Int) (to : Int) (tabM n n (fw a n), q) fuel (pows a n k) = some (pows a n K) ∧ impl_heaviestPath_L2 F (tabM n n a) (tabM n n (fw a n)) (fr : Int) (to : Int) fuel (lefts a n to k) = some (lefts a n to K) := by
  intro d
  induction d with
  | zero =>
    intro k fuel hk hf
    obtain ⟨fuel, rfl⟩ : ∃ m, fuel = m + 1 := ⟨fuel - 1, by omega⟩
    obtain rfl : k = m0 := by omega
    have w1 : IntKind.i64.wrap (((pows a n k).length : Int) - 1) = (k : Int) := by rw [pows_len, wr (by omega) (by omega)]; omega
    have w2 : IntKind.i64.wrap (((lefts a n to k).length : Int) - 1) = (k : Int) := by rw [lefts_len, wr (by omega) (by omega)]; omega
    refine ⟨k, Nat.le_refl _, hm, ?_, ?_⟩
    · simp only [spec_HeaviestPath_L1, w1, idx_nat, pows_at (Nat.le_refl k), tabM_row hto, tabM_at hfr, Option.bind_some, hm, bne_self_eq_false, cond_false]
    · simp only [impl_heaviestPath_L2, w2, idx_nat, lefts_at (Nat.le_refl k), tabM_row hto, tabM_at hfr, Option.bind_some, hm, bne_self_eq_false, cond_false]
  | succ d ih =>
    intro k fuel hk hf
    obtain ⟨fuel, rfl⟩ : ∃ m, fuel = m + 1 := ⟨fuel - 1, by omega⟩
    have w1 : IntKind.i64.wrap (((pows a n k).length : Int) - 1) = (k : Int) := by rw [pows_len, wr (by omega) (by omega)]; omega
    have w2 : IntKind.i64.wrap (((lefts a n to k).length : Int) - 1) = (k : Int) := by rw [lefts_len, wr (by omega) (by omega)]; omega
    by_cases he : PW a n k to fr = fw a n to fr
    · refine ⟨k, by omega, he, ?_, ?_⟩
      · simp only [spec_HeaviestPath_L1, w1, idx_nat, pows_at (Nat.le_refl k), tabM_row hto, tabM_at hfr, Option.bind_some, he, bne_self_eq_false, cond_false]
      · simp only [impl_heaviestPath_L2, w2, idx_nat, lefts_at (Nat.le_refl k), tabM_row hto, tabM_at hfr, Option.bind_some, he, bne_self_eq_false, cond_false]
    · obtain ⟨K, k1, k2, k3, k4⟩ := ih (k + 1) fuel (by omega) (by omega)
      refine ⟨K, k1, k2, ?_, ?_⟩
      · have hM : spec_l02Multiply F (tabM n n (PW a n k)) (tabM n n a) = some (tabM n n (PW a n (k + 1))) := by
          rw [specMul_is (n := n) hF (by rw [tabM_len]; omega) (by rw [tabM_len]; omega) (by rw [tabM_len]; omega) (by omega) (fun r hr => by rw [tabM_rows r hr, tabM_len]) (fun r hr => tabM_rows r hr),
            mulM_tab (M := 10000000) (K := 1000000) (fun i j hi hj => ok_up (PW_ok ha k hi hj) (by omega)) ha (by omega) (by omega)]
          rfl
        unfold spec_HeaviestPath_L1
        simp only [w1, idx_nat, pows_at (Nat.le_refl k), tabM_row hto, tabM_at hfr, Option.bind_some, neT he, cond_true, hM, app_le (show (pows a n k).length + [tabM n n (PW a n (k + 1))].length ≤ 67108864 by rw [pows_len]; simp; omega)]
        rw [← pows_succ]; exact k3
      · have hA : impl_timesVector F (tabM n n fun i j => a j i) ((List.range n).map (PW a n k to)) = some ((List.range n).map (PW a n (k + 1) to)) := by
          rw [implApply_is hF (by rw [tabM_len]; omega) (by simp; omega) (fun r hr => by rw [tabM_rows r hr]; simp),
            applyv_tab (M := 1000000) (K := 10000000) (turn_ok ha) (fun q hq => ?_) (by omega) (by omega)]
          · refine congrArg some (List.map_congr_left fun i hi => mx_congr fun q hq => ?_)
            rw [List.getD_eq_getElem?_getD, tabM_at hq, Option.getD_some, ta_comm']
          · rw [List.getD_eq_getElem?_getD, tabM_at hq, Option.getD_some]
            exact ok_up (PW_ok ha k hto hq) (by omega)
        unfold impl_heaviestPath_L2
        simp only [w2, idx_nat, lefts_at (Nat.le_refl k), tabM_row hto, tabM_at hfr, Option.bind_some, neT he, cond_true, implTrans_is hF h1 hn, hA, app_le (show (lefts a n to k).length + [(List.range n).map (PW a n (k + 1) to)].length ≤ 67108864 by rw [lefts_len]; simp; omega)]
        rw [← lefts_succ]; exact k4

/-! ### The path -/
theorem specNext {F n to k l K : Nat} {a : Nat → Nat → Int} (hn : n ≤ 10) (hto : to < n) (hl : l < n) (hk : k < K) : ∀ (j fuel : Nat) (x : Int), j ≤ n → j < fuel →
    spec_HeaviestPath_L6 F (tabM n n a) (to : Int) (pows a n K) (PW a n (k + 1) to l) (k : Int) (l : Int) fuel x ((j : Int) - 1) = some (((List.range j).find? (hitB a n to k l)).elim x fun v => (v : Int)) := by
  intro j
  induction j with
  | zero =>
    intro fuel x _ hf
    obtain ⟨fuel, rfl⟩ : ∃ m, fuel = m + 1 := ⟨fuel - 1, by omega⟩
    simp only [spec_HeaviestPath_L6, bdF (show ¬ (0 : Int) ≤ ((0 : Nat) : Int) - 1 by omega)]
    rfl
  | succ j ih =>
    intro fuel x hj hf
    obtain ⟨fuel, rfl⟩ : ∃ m, fuel = m + 1 := ⟨fuel - 1, by omega⟩
    have hjn : j < n := by omega
    have hw : IntKind.i64.wrap ((j : Int) - 1) = (j : Int) - 1 := wr (by omega) (by omega)
    have hfind : (List.range (j + 1)).find? (hitB a n to k l) = ((List.range j).find? (hitB a n to k l)).or (if hitB a n to k l j then some j else none) := by
      rw [List.range_succ, List.find?_append, List.find?_singleton]
    have e : ((j + 1 : Nat) : Int) - 1 = (j : Int) := by omega
    rw [e]
    unfold spec_HeaviestPath_L6
    simp only [bdT (show (0 : Int) ≤ (j : Int) by omega), idx_nat, tabM_row hjn, tabM_at hl, Option.bind_some, pows_at (show k ≤ K by omega), tabM_row hto, tabM_at hjn, specTimes_is, hw]
    have hb : (bif a j l != -1000000000000000 then some (tms (a j l) (PW a n k to j) == PW a n (k + 1) to l) else some false) = some (hitB a n to k l j) := cond_and
    rw [hb, Option.bind_some, hfind]
    cases hh : hitB a n to k l j with
    | true =>
      rw [cond_true, ih fuel _ (by omega) (by omega), if_pos rfl]
      cases (List.range j).find? (hitB a n to k l) <;> rfl
    | false =>
      rw [cond_false, ih fuel _ (by omega) (by omega), if_neg (by decide)]
      cases (List.range j).find? (hitB a n to k l) <;> rfl

theorem implNext {F n to k l K v : Nat} {a : Nat → Nat → Int} {xs : List Int} (hF : 134217728 ≤ F) (ha : TabOk a n) (hn : n ≤ 10) (hto : to < n) (hl : l < n) (hk : k < K) (hK : K ≤ 10) (hx : xs.length ≤ 1000) (h : PW a n (k + 1) to l ≠ -1000000000000000) (hf : (List.range n).find? (hitB a n to k l) = some v) :
    impl_heaviestPath_L7 F (tabM n n a) (lefts a n to K) xs ((k + 1 : Nat) : Int) (l : Int) F 0 = some (xs ++ [(v : Int)]) := by
  obtain ⟨hv, hp⟩ := hit_is ha hn (by omega) hto hl h hf
  have hw : IntKind.i64.wrap (((k + 1 : Nat) : Int) - 1) = (k : Int) := by rw [wr (by omega) (by omega)]; omega
  have S : ∀ (m j : Nat), j < n → impl_heaviestPath_L7 F (tabM n n a) (lefts a n to K) xs ((k + 1 : Nat) : Int) (l : Int) (m + 1) (j : Int) = bif hitB a n to k l j then some (xs ++ [(j : Int)]) else impl_heaviestPath_L7 F (tabM n n a) (lefts a n to K) xs ((k + 1 : Nat) : Int) (l : Int) m ((j + 1 : Nat) : Int) := by
    intro m j hj
    have hlen : ((tabM n n a).length : Int) = (n : Int) := by rw [tabM_len]
    simp only [impl_heaviestPath_L7, hlen, bdT (show (j : Int) < (n : Int) by omega), idx_nat, tabM_row hj, tabM_at hl, Option.bind_some, hw, lefts_at (show k ≤ K by omega), lefts_at (show k + 1 ≤ K by omega), tabM_at hj, wrN (show j ≤ 67108864 by omega), app_le (show xs.length + [(j : Int)].length ≤ 67108864 by simp; omega)]
    have hok := PW_ok ha k hto hj
    have haj := ha j l hj hl
    have hb : (bif a j l != -1000000000000000 then (bif PW a n k to j != -1000000000000000 then some (IntKind.i64.wrap (a j l + PW a n k to j) == PW a n (k + 1) to l) else some false) else some false) = some (hitB a n to k l j) := by
      unfold hitB
      by_cases h1 : a j l = -1000000000000000
      · rw [bF (neF h1), neF h1]; rfl
      · rw [bT (neT h1), neT h1, Bool.true_and, tms_ta haj (ok_up hok (show 1000000 * (k : Int) ≤ 10000000 by omega)) (by omega) (by omega)]
        by_cases h2 : PW a n k to j = -1000000000000000
        · rw [bF (neF h2), h2, ta_botr, beq_false_of_ne (fun e => h e.symm)]
        · rw [bT (neT h2), ta_fin h1 h2]
          unfold Okw at hok haj
          rw [wr (by omega) (by omega)]
    rw [hb, Option.bind_some]
  have hmin : ∀ j, j < v → hitB a n to k l j = false := fun j hj => by
    have h1 := List.find?_eq_some_iff_getElem.1 hf
    obtain ⟨_, i, hi, he, hall⟩ := h1
    have he' : i = v := by simpa using he
    have := hall j (by omega)
    simpa using this
  have hhit : hitB a n to k l v = true := List.find?_some hf
  refine for_ind (fun m (_ : Unit) j => impl_heaviestPath_L7 F (tabM n n a) (lefts a n to K) xs ((k + 1 : Nat) : Int) (l : Int) m j) v (fun _ _ => True) (fun o => o = some (xs ++ [(v : Int)])) ?_ ?_ v 0 () F (by omega) trivial (by omega)
  · intro m j _ hj _
    exact .inl ⟨(), by rw [S m j (by omega), hmin j hj]; rfl, trivial⟩
  · intro m _ _
    rw [S m v hv, hhit]; rfl

theorem path_loop {F n to K : Nat} {a : Nat → Nat → Int} (hF : 134217728 ≤ F) (ha : TabOk a n) (h1 : 1 ≤ n) (hn : n ≤ 10) (hto : to < n) (hK : K ≤ 10) :
    ∀ (k l fuel : Nat) (pre : List Int), k ≤ K → l < n → PW a n k to l ≠ -1000000000000000 → k < fuel → pre.length + 1 + k ≤ 100 →
    ∃ ys, spec_HeaviestPath_L5 F (tabM n n a) (to : Int) (pows a n K) fuel (pre ++ [(l : Int)]) (PW a n k to l) ((k : Int) - 1) = some ys ∧ impl_heaviestPath_L6 F (tabM n n a) (lefts a n to K) fuel (pre ++ [(l : Int)]) (k : Int) = some ys ∧ ys.length ≤ 100 := by
  intro k
  induction k with
  | zero =>
    intro l fuel pre _ _ _ hf hp
    obtain ⟨fuel, rfl⟩ : ∃ m, fuel = m + 1 := ⟨fuel - 1, by omega⟩
    refine ⟨pre ++ [(l : Int)], ?_, ?_, by simp; omega⟩
    · simp only [spec_HeaviestPath_L5, bdF (show ¬ (0 : Int) ≤ ((0 : Nat) : Int) - 1 by omega)]
    · simp only [impl_heaviestPath_L6, bdF (show ¬ (0 : Int) < ((0 : Nat) : Int) by omega)]
  | succ k ih =>
    intro l fuel pre hk hl hne hf hp
    obtain ⟨fuel, rfl⟩ : ∃ m, fuel = m + 1 := ⟨fuel - 1, by omega⟩
    obtain ⟨v, hv⟩ := hit_some ha hn (show k ≤ 10 by omega) hto hl hne
    obtain ⟨v1, v2, v3, v4⟩ := hit_is ha hn (show k ≤ 10 by omega) hto hl hne hv
    obtain ⟨ys, y1, y2, y3⟩ := ih v fuel (pre ++ [(l : Int)]) (by omega) v1 v3 (by omega) (by simp; omega)
    have hlast : (pre ++ [(l : Int)])[pre.length]? = some (l : Int) := by simp
    have hw : IntKind.i64.wrap (((pre ++ [(l : Int)]).length : Int) - 1) = (pre.length : Int) := by
      rw [List.length_append, List.length_singleton, wr (by omega) (by omega)]; omega
    have e : ((k + 1 : Nat) : Int) - 1 = (k : Int) := by omega
    have hwn : IntKind.i64.wrap (((tabM n n a).length : Int) - 1) = (n : Int) - 1 := by rw [tabM_len, wr (by omega) (by omega)]
    have hwk : IntKind.i64.wrap ((k : Int) - 1) = (k : Int) - 1 := wr (by omega) (by omega)
    have hwk1 : IntKind.i64.wrap (((k + 1 : Nat) : Int) - 1) = (k : Int) := by rw [wr (by omega) (by omega)]; omega
    have hN := specNext (F := F) (a := a) hn hto hl (show k < K by omega) n F (-1) (Nat.le_refl _) (by omega)
    rw [hv] at hN
    have hI := implNext (F := F) (xs := pre ++ [(l : Int)]) hF ha hn hto hl (show k < K by omega) hK (by simp; omega) hne hv
    have hok := PW_ok ha (k + 1) hto hl
    have hok2 := PW_ok ha k hto v1
    have hal := ha v l v1 hl
    have hwd : IntKind.i64.wrap (PW a n (k + 1) to l - a v l) = PW a n k to v := by
      unfold Okw at hok hok2 hal
      rw [wr (by omega) (by omega)]; omega
    refine ⟨ys, ?_, ?_, y3⟩
    · rw [e]
      unfold spec_HeaviestPath_L5
      simp only [bdT (show (0 : Int) ≤ (k : Int) by omega), hw, idx_nat, hlast, Option.bind_some, hwn, hN, Option.elim_some, tabM_row v1, tabM_at hl, app_le (show (pre ++ [(l : Int)]).length + [(v : Int)].length ≤ 67108864 by simp; omega), hwd, hwk]
      exact y1
    · unfold impl_heaviestPath_L6
      simp only [bdT (show (0 : Int) < ((k + 1 : Nat) : Int) by omega), hw, idx_nat, hlast, Option.bind_some, hI, hwk1]
      exact y2

theorem paths_is {F n fr to : Nat} {a : Nat → Nat → Int} (hF : 134217728 ≤ F) (ha : TabOk a n) (h1 : 1 ≤ n) (hn : n ≤ 10) (hfr : fr < n) (hto : to < n) (hfw : FwOk a n) (hne : fw a n to fr ≠ -1000000000000000) :
    ∃ ys, spec_HeaviestPath F (tabM n n a) (fr : Int) (to : Int) = some (ys, 0) ∧ impl_heaviestPath F (tabM n n a) (tabM n n (fw a n)) (fr : Int) (to : Int) = some ys ∧ ys.length ≤ 100 := by
  obtain ⟨m0, m1, m2⟩ := PW_star ha (by omega) hfw hto hfr hne
  obtain ⟨K, k1, k2, k3, k4⟩ := pow_loop (F := F) (q := true) hF ha h1 hn hfr hto (by omega) m2 m0 0 F (by omega) (by omega)
  have hK : K ≤ 10 := by omega
  obtain ⟨ys, y1, y2, y3⟩ := path_loop (F := F) hF ha h1 hn hto hK K fr F [] (Nat.le_refl _) hfr (by rw [k2]; exact hne) (by omega) (by simp; omega)
  rw [k2] at y1
  have hsq : squareB (tabM n n a) = true := squareB_tab h1 hn ha
  have hst := (specStars_is (F := F) hF h1 hn ha)
  have hs : spec_l03Star F (tabM n n a) = some (tabM n n (fw a n), true) := by
    rcases hst with ⟨_, h⟩ | ⟨h, _⟩
    · exact h
    · exact absurd hfw h
  have hnode : ∀ v, v < n → spec_l03Node F (tabM n n a) (v : Int) = some true := fun v hv => by
    unfold spec_l03Node
    rw [tabM_len, specIn_is, wr (by omega) (by omega), inB_true.2 ⟨by omega, by omega⟩]; rfl
  refine ⟨ys, ?_, ?_, y3⟩
  · have hp0 : pows a n 0 = [unitM n] := rfl
    rw [hp0] at k3
    have hwK : IntKind.i64.wrap (((pows a n K).length : Int) - 2) = (K : Int) - 1 := by rw [pows_len, wr (by omega) (by omega)]; omega
    have y1' : spec_HeaviestPath_L5 F (tabM n n a) (to : Int) (pows a n K) F [(fr : Int)] (fw a n to fr) ((K : Int) - 1) = some ys := y1
    unfold spec_HeaviestPath
    rw [specSquare_is hF (rows_tab hn), hsq]
    simp only [Option.bind_some, Bool.not_true, cond_false, hnode fr hfr, hnode to hto, hs, idx_nat, tabM_row hto, tabM_at hfr, beq_false_of_ne hne, tabM_len, specUnit_is hF (show n ≤ 1048576 by omega), k3, hwK, y1']
  · have hl0 : lefts a n to 0 = [(List.range n).map (un to)] := rfl
    rw [hl0] at k4
    have hwK : IntKind.i64.wrap (((lefts a n to K).length : Int) - 1) = (K : Int) := by rw [lefts_len, wr (by omega) (by omega)]; omega
    have y2' : impl_heaviestPath_L6 F (tabM n n a) (lefts a n to K) F [(fr : Int)] (K : Int) = some ys := y2
    have hL1 : impl_heaviestPath_L1 F (List.replicate n 0) F [List.replicate n 0] 0 = some [List.replicate n (-1000000000000000)] := by
      refine for0 (L := impl_heaviestPath_L1 F (List.replicate n 0)) (len := n) (fun k t => ∃ r, t = [r] ∧ r.length = n ∧ (∀ j, j < k → r[j]? = some (-1000000000000000))) (R := fun o => o = some [List.replicate n (-1000000000000000)]) ?_ ?_ ⟨_, rfl, by simp, fun j hj => by omega⟩ (by omega)
      · rintro m k t hk ⟨r, rfl, hl, h2⟩
        have hkr : k < r.length := by omega
        have hq : r[k]? = some r[k] := List.getElem?_eq_getElem hkr
        have i0 : idx [r] 0 = some r := rfl
        have u0 : upd [r] 0 (r.set k (-1000000000000000)) = some [r.set k (-1000000000000000)] := by
          rw [show (0 : Int) = ((0 : Nat) : Int) from rfl, upd_nat _ (by simp)]; rfl
        refine .inl ⟨[r.set k (-1000000000000000)], ?_, _, rfl, by rw [List.length_set]; exact hl, fun j hj => ?_⟩
        · simp only [impl_heaviestPath_L1, List.length_replicate, bdT (show (k : Int) < (n : Int) by omega), i0, idx_nat, hq, Option.bind_some, upd_nat _ hkr, u0, wrN (show k ≤ 67108864 by omega)]
        · by_cases e : j = k
          · subst e; exact set_here hkr
          · rw [set_keep e]; exact h2 j (by omega)
      · rintro m t ⟨r, rfl, hl, h2⟩
        have hr : r = List.replicate n (-1000000000000000) := by
          apply List.ext_getElem?; intro q
          by_cases hq : q < n
          · rw [h2 q hq, List.getElem?_replicate, if_pos hq]
          · rw [List.getElem?_eq_none (by omega), List.getElem?_eq_none (by simp; omega)]
        simp only [impl_heaviestPath_L1, List.length_replicate, bdF (show ¬ (n : Int) < (n : Int) by omega), hr]
    have i0 : ∀ r : List Int, idx [r] 0 = some r := fun r => rfl
    have u0 : ∀ r s : List Int, upd [r] 0 s = some [s] := fun r s => by
      rw [show (0 : Int) = ((0 : Nat) : Int) from rfl, upd_nat _ (by simp)]; rfl
    have hrow : (List.replicate n (-1000000000000000 : Int)).set to 0 = (List.range n).map (un to) := by
      refine row_of (by simp) fun j hj => ?_
      by_cases e : j = to
      · subst e; rw [set_here (by simpa using hj), un_self]
      · rw [set_keep e, List.getElem?_replicate, if_pos hj, un_ne (fun h => e h.symm)]
    have hrt : (List.replicate n (-1000000000000000 : Int))[to]? = some (-1000000000000000) := by rw [List.getElem?_replicate, if_pos hto]
    unfold impl_heaviestPath
    simp only [tabM_len, mk_nat (0 : Int) (show n ≤ 67108864 by omega), Option.bind_some, i0, hL1, idx_nat, hrt, upd_nat _ (show to < (List.replicate n (-1000000000000000 : Int)).length by simpa using hto), hrow, u0, k4, hwK, y2']

/-! ### The search for a squeeze -/
theorem both_loop {R : Type} {P : R → Prop} {L L' : Nat → Int → Option (Sum R Unit)} {len : Nat}
    (hs : ∀ n k, k < len → (L (n + 1) (k : Int) = L n ((k + 1 : Nat) : Int) ∧ L' (n + 1) (k : Int) = L' n ((k + 1 : Nat) : Int)) ∨ ∃ r, P r ∧ L (n + 1) (k : Int) = some (.inl r) ∧ L' (n + 1) (k : Int) = some (.inl r))
    (he : ∀ n, L (n + 1) (len : Int) = some (.inr ()) ∧ L' (n + 1) (len : Int) = some (.inr ())) : ∀ (d k n : Nat), k + d = len → d < n →
    (L n (k : Int) = some (.inr ()) ∧ L' n (k : Int) = some (.inr ())) ∨ ∃ r, P r ∧ L n (k : Int) = some (.inl r) ∧ L' n (k : Int) = some (.inl r) := by
  intro d
  induction d with
  | zero =>
    intro k n hk hn
    obtain ⟨n, rfl⟩ : ∃ m, n = m + 1 := ⟨n - 1, by omega⟩
    obtain rfl : k = len := by omega
    exact .inl (he n)
  | succ d ih =>
    intro k n hk hn
    obtain ⟨n, rfl⟩ : ∃ m, n = m + 1 := ⟨n - 1, by omega⟩
    rcases hs n k (by omega) with ⟨h1, h2⟩ | h
    · rw [h1, h2]; exact ih (k + 1) n (by omega) (by omega)
    · exact .inr h

theorem same_FindSqueeze {F : Nat} {x0 : List GWindow} {x1 : List GBond} (hF : 134217728 ≤ F) (h0 : x0.length ≤ 1048576) (h1 : x1.length ≤ 1048576) :
    ∃ r : List Int × Int, spec_FindSqueeze F x0 x1 = some r ∧ impl_FindSqueeze F x0 x1 = some r ∧ r.1.length ≤ 1048576 := by
  unfold spec_FindSqueeze impl_FindSqueeze
  rw [specTask_is hF h0 h1, implTask_is hF h0 h1]
  cases ht : taskB x0 x1 with
  | false => exact ⟨([], 1), rfl, rfl, by simp⟩
  | true =>
    obtain ⟨n1, n10, _, hw, _⟩ := taskB_true ht
    have hk := bT_ok ht x0.length
    simp only [Bool.not_true, cond_false, Option.bind_some, specBonds_is hF ht, implBonds_is hF ht]
    rcases stars_is (F := F) hF n1 n10 hk with ⟨hfw, s1, s2⟩ | ⟨_, s1, z, s2⟩
    · rw [s1, s2]
      simp only [Option.bind_some, Bool.not_true, cond_false]
      have H5 : ∀ fr, fr < x0.length → (spec_FindSqueeze_L5 F x0 (tabM x0.length x0.length (bT' x1)) (tabM x0.length x0.length (fw (bT' x1) x0.length), true) (fr : Int) F 0 = some (.inr ()) ∧ impl_FindSqueeze_L5 F x0 (tabM x0.length x0.length (bT' x1)) (tabM x0.length x0.length (fw (bT' x1) x0.length), true) (fr : Int) (x0.getD fr ⟨0, 0⟩) F 0 = some (.inr ())) ∨
          ∃ r : List Int × Int, r.1.length ≤ 1048576 ∧ spec_FindSqueeze_L5 F x0 (tabM x0.length x0.length (bT' x1)) (tabM x0.length x0.length (fw (bT' x1) x0.length), true) (fr : Int) F 0 = some (.inl r) ∧ impl_FindSqueeze_L5 F x0 (tabM x0.length x0.length (bT' x1)) (tabM x0.length x0.length (fw (bT' x1) x0.length), true) (fr : Int) (x0.getD fr ⟨0, 0⟩) F 0 = some (.inl r) := by
        intro fr hfr
        have hq : x0[fr]? = some (x0.getD fr ⟨0, 0⟩) := by rw [List.getD_eq_getElem?_getD, List.getElem?_eq_getElem hfr]; rfl
        have hwl := hw _ (List.mem_of_getElem? hq)
        generalize x0.getD fr ⟨0, 0⟩ = wf at hq hwl
        refine both_loop (P := fun r : List Int × Int => r.1.length ≤ 1048576) (L := spec_FindSqueeze_L5 F x0 (tabM x0.length x0.length (bT' x1)) (tabM x0.length x0.length (fw (bT' x1) x0.length), true) (fr : Int)) (L' := impl_FindSqueeze_L5 F x0 (tabM x0.length x0.length (bT' x1)) (tabM x0.length x0.length (fw (bT' x1) x0.length), true) (fr : Int) wf) (len := x0.length) ?_ ?_ x0.length 0 F (by omega) (by omega)
        · intro n to hto
          have hv : x0[to]? = some x0[to] := List.getElem?_eq_getElem hto
          have hvl := hw _ (List.mem_of_getElem? hv)
          generalize x0[to] = wt at hv hvl
          have hok := ok_up (fw_ok hk x0.length (Nat.le_refl _) hto hfr) (bdw_le (show x0.length ≤ 11 by omega))
          have e1 : spec_FindSqueeze_L5 F x0 (tabM x0.length x0.length (bT' x1)) (tabM x0.length x0.length (fw (bT' x1) x0.length), true) (fr : Int) (n + 1) (to : Int) = bif (fw (bT' x1) x0.length to fr != -1000000000000000) && decide (wt.High < wf.Low + fw (bT' x1) x0.length to fr) then ((spec_HeaviestPath F (tabM x0.length x0.length (bT' x1)) (fr : Int) (to : Int)).bind fun r497 => some (Sum.inl (r497.1, r497.2))) else spec_FindSqueeze_L5 F x0 (tabM x0.length x0.length (bT' x1)) (tabM x0.length x0.length (fw (bT' x1) x0.length), true) (fr : Int) n ((to + 1 : Nat) : Int) := by
            simp only [spec_FindSqueeze_L5, bdT (show (to : Int) < (x0.length : Int) by omega), idx_nat, hq, hv, tabM_row hto, tabM_at hfr, Option.bind_some, specTimes_is, wrN (show to ≤ 67108864 by omega)]
            have h2 : tms wf.Low (fw (bT' x1) x0.length to fr) = ta wf.Low (fw (bT' x1) x0.length to fr) := tms_ta (M := 1000000) (.inr ⟨by omega, by omega⟩) hok (by omega) (by omega)
            rw [h2]
            by_cases hb : fw (bT' x1) x0.length to fr = -1000000000000000
            · rw [hb, ta_botr]; rfl
            · rw [ta_fin (by omega) hb, neT hb, Bool.true_and]
              unfold Okw at hok
              rw [bT (neT (show wf.Low + fw (bT' x1) x0.length to fr ≠ -1000000000000000 by omega)), Option.bind_some]
          have e2 : impl_FindSqueeze_L5 F x0 (tabM x0.length x0.length (bT' x1)) (tabM x0.length x0.length (fw (bT' x1) x0.length), true) (fr : Int) wf (n + 1) (to : Int) = bif (fw (bT' x1) x0.length to fr != -1000000000000000) && decide (wt.High < wf.Low + fw (bT' x1) x0.length to fr) then ((impl_heaviestPath F (tabM x0.length x0.length (bT' x1)) (tabM x0.length x0.length (fw (bT' x1) x0.length)) (fr : Int) (to : Int)).bind fun r765 => some (Sum.inl (r765, 0))) else impl_FindSqueeze_L5 F x0 (tabM x0.length x0.length (bT' x1)) (tabM x0.length x0.length (fw (bT' x1) x0.length), true) (fr : Int) wf n ((to + 1 : Nat) : Int) := by
            simp only [impl_FindSqueeze_L5, bdT (show (to : Int) < (x0.length : Int) by omega), idx_nat, hv, tabM_row hto, tabM_at hfr, Option.bind_some, wrN (show to ≤ 67108864 by omega)]
            by_cases hb : fw (bT' x1) x0.length to fr = -1000000000000000
            · rw [hb]; rfl
            · rw [bT (neT hb), neT hb, Bool.true_and]
              unfold Okw at hok
              rw [wr (by omega) (by omega), Option.bind_some]
          rw [e1, e2]
          cases hc : (fw (bT' x1) x0.length to fr != -1000000000000000) && decide (wt.High < wf.Low + fw (bT' x1) x0.length to fr) with
          | false => exact .inl ⟨rfl, rfl⟩
          | true =>
            rw [Bool.and_eq_true, bne_iff_ne] at hc
            obtain ⟨ys, y1, y2, y3⟩ := paths_is (F := F) hF hk n1 n10 hfr hto hfw hc.1
            refine .inr ⟨(ys, 0), by simp only; omega, ?_, ?_⟩
            · rw [cond_true, y1]; rfl
            · rw [cond_true, y2]; rfl
        · intro n
          constructor
          · simp only [spec_FindSqueeze_L5, bdF (show ¬ (x0.length : Int) < (x0.length : Int) by omega)]
          · simp only [impl_FindSqueeze_L5, bdF (show ¬ (x0.length : Int) < (x0.length : Int) by omega)]
      have H4 := both_loop (P := fun r : List Int × Int => r.1.length ≤ 1048576) (L := spec_FindSqueeze_L4 F x0 (tabM x0.length x0.length (bT' x1)) (tabM x0.length x0.length (fw (bT' x1) x0.length), true)) (L' := impl_FindSqueeze_L4 F x0 (tabM x0.length x0.length (bT' x1)) (tabM x0.length x0.length (fw (bT' x1) x0.length), true)) (len := x0.length) ?_ ?_ x0.length 0 F (by omega) (by omega)
      · rcases H4 with ⟨a1, a2⟩ | ⟨r, r1, a1, a2⟩
        · have a1' : spec_FindSqueeze_L4 F x0 (tabM x0.length x0.length (bT' x1)) (tabM x0.length x0.length (fw (bT' x1) x0.length), true) F 0 = some (.inr ()) := a1
          have a2' : impl_FindSqueeze_L4 F x0 (tabM x0.length x0.length (bT' x1)) (tabM x0.length x0.length (fw (bT' x1) x0.length), true) F 0 = some (.inr ()) := a2
          rw [a1', a2']
          exact ⟨([], 4), rfl, rfl, by simp⟩
        · have a1' : spec_FindSqueeze_L4 F x0 (tabM x0.length x0.length (bT' x1)) (tabM x0.length x0.length (fw (bT' x1) x0.length), true) F 0 = some (.inl r) := a1
          have a2' : impl_FindSqueeze_L4 F x0 (tabM x0.length x0.length (bT' x1)) (tabM x0.length x0.length (fw (bT' x1) x0.length), true) F 0 = some (.inl r) := a2
          rw [a1', a2']
          exact ⟨r, rfl, rfl, r1⟩
      · intro n fr hfr
        have hq : x0[fr]? = some (x0.getD fr ⟨0, 0⟩) := by rw [List.getD_eq_getElem?_getD, List.getElem?_eq_getElem hfr]; rfl
        rcases H5 fr hfr with ⟨a1, a2⟩ | ⟨r, r1, a1, a2⟩
        · refine .inl ⟨?_, ?_⟩
          · simp only [spec_FindSqueeze_L4, bdT (show (fr : Int) < (x0.length : Int) by omega), a1, Option.bind_some, wrN (show fr ≤ 67108864 by omega)]
          · simp only [impl_FindSqueeze_L4, bdT (show (fr : Int) < (x0.length : Int) by omega), idx_nat, hq, a2, Option.bind_some, wrN (show fr ≤ 67108864 by omega)]
        · refine .inr ⟨r, r1, ?_, ?_⟩
          · simp only [spec_FindSqueeze_L4, bdT (show (fr : Int) < (x0.length : Int) by omega), a1, Option.bind_some]
          · simp only [impl_FindSqueeze_L4, bdT (show (fr : Int) < (x0.length : Int) by omega), idx_nat, hq, a2, Option.bind_some]
      · intro n
        constructor
        · simp only [spec_FindSqueeze_L4, bdF (show ¬ (x0.length : Int) < (x0.length : Int) by omega)]
        · simp only [impl_FindSqueeze_L4, bdF (show ¬ (x0.length : Int) < (x0.length : Int) by omega)]
    · rw [s1, s2]
      exact ⟨([], 5), rfl, rfl, by simp⟩

end Go.Proofs.Ytebmlphobgaboaa
