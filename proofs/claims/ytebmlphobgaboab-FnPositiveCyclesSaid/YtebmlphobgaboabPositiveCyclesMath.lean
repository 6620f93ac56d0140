/- The law's model answers true. -/
import Derived.Test.YtebmlphobgaboabPositiveCyclesSmall
namespace Go.Proofs.Ytebmlphobgaboab

theorem same_PositiveCycle {F : Nat} {x0 : List (List Int)} (hF : 134217728 ≤ F) (h0 : x0.length ≤ 1048576) (h1 : offR x0 x0.length ≤ 1048576) :
    ∃ r : List Int × Int, spec_PositiveCycle F x0 = some r ∧ impl_PositiveCycle F x0 = some r ∧ r.1.length ≤ 1048576 := by
  unfold spec_PositiveCycle impl_PositiveCycle
  rw [specSquare_is hF (rows_le h1), implSquare_is hF (rows_le h1)]
  cases hs : squareB x0 with
  | false => exact ⟨([], 1), rfl, rfl, by simp⟩
  | true =>
    obtain ⟨n1, n10, e, hk⟩ := square_tab hs
    generalize hn : x0.length = n at n1 n10 e hk
    generalize hf : entryOf x0 = f at e hk
    subst e
    have hW : ∀ (l : List Int) (w : Int), (fun x0 x1 => impl_PositiveCycle_c1 F x0 x1) l w = some (decide (0 < w)) := fun l w => rfl
    have hS := specOverT_is (F := F) (over := 0) hF n10 hk
    have hI := implFirst_is (F := F) (good := fun w => decide (0 < w)) hF n10 hk hW
    have hp := firstCyc_pos (a := f) (n := n) (K := F) (by omega)
    simp only [Bool.not_true, cond_false, Option.bind_some, hS, hI]
    rcases implStar_is (F := F) hF n1 n10 hk with ⟨hok, h2⟩ | ⟨hno, h2⟩
    · have hc : firstCyc f n (fun w => decide (0 < w)) F = none := by
        cases h : firstCyc f n (fun w => decide (0 < w)) F with
        | none => rfl
        | some r => exact absurd (hp.1 (by rw [h]; rfl)) (fwok_none hk (by omega) hok)
      rw [h2, hc]
      exact ⟨([], 4), rfl, rfl, by simp⟩
    · have hpos : PosCyc f n := Classical.byContradiction fun h => hno ((fwok_iff hk (by omega)).2 h)
      obtain ⟨r, hr⟩ := Option.isSome_iff_exists.1 (hp.2 hpos)
      obtain ⟨r0, r1, _⟩ := firstCyc_ne hr
      have := List.length_pos_iff.2 r0
      rw [h2, hr]
      simp only [Option.bind_some, Option.elim_some, cond_false, nl_len, beq_false_of_ne (show (r.length : Int) ≠ 0 by omega)]
      exact ⟨(nl r, 0), rfl, rfl, by simp only [nl_len]; omega⟩

/-! ### Cycles and their weights -/
def prevI (c : List Int) (i : Nat) : Int := if i = 0 then c.getD (c.length - 1) 0 else c.getD (i - 1) 0
def gArc (f : Nat → Nat → Int) (c : List Int) (i : Nat) : Int := f (c.getD i 0).toNat (prevI c i).toNat
def sumA (f : Nat → Nat → Int) (c : List Int) (k : Nat) : Int := ((List.range k).map (gArc f c)).sum
theorem sumA_succ (f : Nat → Nat → Int) (c : List Int) (k : Nat) : sumA f c (k + 1) = sumA f c k + gArc f c k := by
  unfold sumA; rw [List.range_succ, List.map_append, List.sum_append]; simp
theorem sum_first (g : Nat → Int) (m : Nat) : ((List.range (m + 1)).map g).sum = g 0 + ((List.range m).map fun j => g (j + 1)).sum := by
  rw [List.range_succ_eq_map, List.map_cons, List.map_map, List.sum_cons]; rfl
def okP (f : Nat → Nat → Int) (n : Nat) (c : List Int) : Prop := c.length ≠ 0 ∧ (∀ x, x ∈ c → 0 ≤ x ∧ x < (n : Int)) ∧ c.Nodup ∧ ∀ i, i < c.length → gArc f c i ≠ -1000000000000000
theorem dup_iff {c : List Int} : (∀ i, i < c.length → ((c.take i).any fun y => y == c.getD i 0) = false) ↔ c.Nodup := by
  unfold List.Nodup
  rw [List.pairwise_iff_getElem]
  constructor
  · intro h i j hi hj hij e
    have := h j hj
    rw [List.any_eq_false] at this
    refine this c[i] ?_ ?_
    · rw [List.mem_take_iff_getElem]; exact ⟨i, by omega, rfl⟩
    · rw [beq_iff_eq, List.getD_eq_getElem?_getD, List.getElem?_eq_getElem hj]; exact e
  · intro h i hi
    rw [List.any_eq_false]
    intro y hy hq
    rw [beq_iff_eq, List.getD_eq_getElem?_getD, List.getElem?_eq_getElem hi] at hq
    rw [List.mem_take_iff_getElem] at hy
    obtain ⟨j, hj, e⟩ := hy
    exact h j i (by omega) hi (by omega) (by rw [e]; exact hq)
def goodB (f : Nat → Nat → Int) (n : Nat) (c : List Int) (i : Nat) : Bool :=
  inB (c.getD i 0) 0 ((n : Int) - 1) && (inB (prevI c i) 0 ((n : Int) - 1) && (!((c.take i).any fun y => y == c.getD i 0) && !(gArc f c i == -1000000000000000)))
theorem prevI_mem {c : List Int} (h : c.length ≠ 0) {i : Nat} (hi : i < c.length) : prevI c i ∈ c := by
  unfold prevI
  split
  · exact List.mem_of_getElem? (getD_of (by omega))
  · exact List.mem_of_getElem? (getD_of (by omega))
theorem good_iff {f : Nat → Nat → Int} {n : Nat} {c : List Int} (h : c.length ≠ 0) : (List.range c.length).all (goodB f n c) = true ↔ okP f n c := by
  rw [List.all_eq_true]
  unfold okP
  rw [← dup_iff]
  constructor
  · intro hg
    have hg' : ∀ i, i < c.length → goodB f n c i = true := fun i hi => hg i (by simpa using hi)
    refine ⟨h, fun x hx => ?_, fun i hi => ?_, fun i hi => ?_⟩
    · obtain ⟨i, hi, rfl⟩ := List.getElem_of_mem hx
      have := hg' i hi
      unfold goodB at this
      rw [Bool.and_eq_true, inB_true, List.getD_eq_getElem?_getD, List.getElem?_eq_getElem hi] at this
      have := this.1
      simp only [Option.getD_some] at this
      omega
    · have := hg' i hi
      unfold goodB at this
      simp only [Bool.and_eq_true, Bool.not_eq_true'] at this
      exact this.2.2.1
    · have := hg' i hi
      unfold goodB at this
      simp only [Bool.and_eq_true, Bool.not_eq_true', beq_eq_false_iff_ne] at this
      exact this.2.2.2
  · rintro ⟨_, h1, h2, h3⟩ i hi
    have hi : i < c.length := by simpa using hi
    have a1 := h1 _ (List.mem_of_getElem? (getD_of hi))
    have a2 := h1 _ (prevI_mem h hi)
    unfold goodB
    simp only [Bool.and_eq_true, Bool.not_eq_true', beq_eq_false_iff_ne, inB_true]
    exact ⟨by omega, by omega, h2 i hi, h3 i hi⟩
theorem ok_len {f : Nat → Nat → Int} {n : Nat} {c : List Int} (h : okP f n c) : c.length ≤ n := by
  obtain ⟨_, h1, h2, _⟩ := h
  have h3 : (c.map Int.toNat).Nodup := by
    unfold List.Nodup at h2 ⊢
    rw [List.pairwise_map]
    refine h2.imp_of_mem ?_
    intro a b ha hb hab e
    have := h1 a ha
    have := h1 b hb
    omega
  have := nodup_le n (c.map Int.toNat) h3 (fun x hx => by
    rw [List.mem_map] at hx
    obtain ⟨y, hy, rfl⟩ := hx
    have := h1 y hy
    omega)
  simpa using this
theorem sumA_bd {f : Nat → Nat → Int} {n : Nat} {c : List Int} (hf : TabOk f n) : ∀ k, (∀ i, i < k → (0 ≤ c.getD i 0 ∧ c.getD i 0 < (n : Int)) ∧ (0 ≤ prevI c i ∧ prevI c i < (n : Int)) ∧ gArc f c i ≠ -1000000000000000) → -(1000000 * (k : Int)) ≤ sumA f c k ∧ sumA f c k ≤ 1000000 * (k : Int)
  | 0, _ => by unfold sumA; simp
  | k + 1, h => by
    have ih := sumA_bd hf k (fun i hi => h i (by omega))
    obtain ⟨h1, h2, h3⟩ := h k (by omega)
    have h4 : Okw 1000000 (gArc f c k) := hf _ _ (by omega) (by omega)
    unfold Okw at h4
    rw [sumA_succ]; omega
theorem implCW_is {F n : Nat} {f : Nat → Nat → Int} {c : List Int} (hF : 134217728 ≤ F) (hn : n ≤ 10) (hf : TabOk f n) (hl : c.length ≤ 100000) : ∃ b : Bool, (b = true ↔ okP f n c) ∧ impl_cycleWeight F (tabM n n f) c = some (bif b then (sumA f c c.length, true) else (0, false)) := by
  by_cases h0 : c.length = 0
  · refine ⟨false, ⟨(fun h => by cases h), fun h => absurd h0 h.1⟩, ?_⟩
    unfold impl_cycleWeight
    rw [show (((c.length : Nat) : Int) == 0) = true from by rw [h0]; rfl]; rfl
  refine ⟨(List.range c.length).all (goodB f n c), good_iff h0, ?_⟩
  unfold impl_cycleWeight
  have hw : IntKind.i64.wrap ((c.length : Int) - 1) = ((c.length - 1 : Nat) : Int) := by rw [wr (by omega) (by omega)]; omega
  rw [beq_false_of_ne (show ((c.length : Nat) : Int) ≠ 0 by omega), cond_false, hw, idx_nat, getD_of (show c.length - 1 < c.length by omega), Option.bind_some]
  have hwn : IntKind.i64.wrap (((tabM n n f).length : Int) - 1) = (n : Int) - 1 := by rw [tabM_len, wr (by omega) (by omega)]
  have H := for0 (L := fun m (s : Int × Int) i => impl_cycleWeight_L1 F (tabM n n f) c m s.1 s.2 i) (len := c.length) (fun k s => s = (sumA f c k, if k = 0 then c.getD (c.length - 1) 0 else c.getD (k - 1) 0) ∧ ∀ i, i < k → goodB f n c i = true)
    (R := fun o => o = some (bif (List.range c.length).all (goodB f n c) then .inr (sumA f c c.length) else .inl (0, false))) (s := (0, c.getD (c.length - 1) 0)) (n := F) ?_ ?_ ⟨rfl, fun i hi => by omega⟩ (by omega)
  · simp only at H
    rw [H]
    cases (List.range c.length).all (goodB f n c) <;> rfl
  · rintro m k s hk ⟨rfl, hg⟩
    have hck := getD_of hk
    have hp : (if k = 0 then c.getD (c.length - 1) 0 else c.getD (k - 1) 0) = prevI c k := rfl
    simp only [hp]
    have hct : cutTo c (k : Int) = some (c.take k) := by
      unfold cutTo; rw [if_pos ⟨by omega, by omega⟩]; rfl
    have S : impl_cycleWeight_L1 F (tabM n n f) c (m + 1) (sumA f c k) (prevI c k) (k : Int) = bif goodB f n c k then impl_cycleWeight_L1 F (tabM n n f) c m (sumA f c (k + 1)) (c.getD k 0) ((k + 1 : Nat) : Int) else some (.inl (0, false)) := by
      simp only [impl_cycleWeight_L1, bdT (show (k : Int) < (c.length : Int) by omega), idx_nat, hck, Option.bind_some, impl_isNode, within_is, hwn, hct, implHas_is (F := F) (xs := c.take k) hF (by rw [List.length_take]; omega), wrN (show k ≤ 67108864 by omega)]
      unfold goodB
      cases e1 : inB (c.getD k 0) 0 ((n : Int) - 1) with
      | false => rfl
      | true =>
        cases e2 : inB (prevI c k) 0 ((n : Int) - 1) with
        | false => rfl
        | true =>
          have b1 := inB_true.1 e1
          have b2 := inB_true.1 e2
          obtain ⟨u, hu⟩ : ∃ u : Nat, c.getD k 0 = (u : Int) := ⟨(c.getD k 0).toNat, by omega⟩
          obtain ⟨v, hv⟩ : ∃ v : Nat, prevI c k = (v : Int) := ⟨(prevI c k).toNat, by omega⟩
          have hun : u < n := by omega
          have hvn : v < n := by omega
          have hga : gArc f c k = f u v := by unfold gArc; rw [hu, hv, Int.toNat_natCast, Int.toNat_natCast]
          cases e3 : (c.take k).any fun y => y == c.getD k 0 with
          | true => simp
          | false =>
            rw [hu, hv, hga]
            simp only [Bool.not_true, cond_false, Bool.not_false, Bool.true_and, idx_nat, tabM_row hun, tabM_at hvn, Option.bind_some]
            by_cases e4 : f u v = -1000000000000000
            · rw [e4]; rfl
            · rw [beq_false_of_ne e4]
              simp only [cond_false, Bool.not_false, cond_true]
              have hbd := sumA_bd (c := c) hf k (fun i hi => by
                have := hg i hi
                unfold goodB at this
                simp only [Bool.and_eq_true, Bool.not_eq_true', beq_eq_false_iff_ne, inB_true] at this
                obtain ⟨c1, c2, _, c4⟩ := this
                exact ⟨⟨c1.1, by omega⟩, ⟨c2.1, by omega⟩, c4⟩)
              have h4 : Okw 1000000 (f u v) := hf u v hun hvn
              unfold Okw at h4
              rw [sumA_succ, hga, wr (n := sumA f c k + f u v) (by omega) (by omega)]
    cases hgk : goodB f n c k with
    | true =>
      refine .inl ⟨(sumA f c (k + 1), c.getD k 0), by rw [S, hgk]; rfl, ?_, fun i hi => ?_⟩
      · rw [if_neg (by omega), Nat.add_sub_cancel]
      · by_cases e : i = k
        · rw [e]; exact hgk
        · exact hg i (by omega)
    | false =>
      refine .inr ?_
      rw [S, hgk, show (List.range c.length).all (goodB f n c) = false from ?_]
      · rfl
      · rw [List.all_eq_false]; exact ⟨k, by simpa using hk, by rw [hgk]; decide⟩
  · rintro m s ⟨rfl, hg⟩
    simp only
    rw [show (List.range c.length).all (goodB f n c) = true from by rw [List.all_eq_true]; intro i hi; exact hg i (by simpa using hi)]
    simp only [impl_cycleWeight_L1, bdF (show ¬ (c.length : Int) < (c.length : Int) by omega), cond_true]
theorem specCW_is {F n : Nat} {f : Nat → Nat → Int} {c : List Int} (hF : 134217728 ≤ F) (hn : n ≤ 10) (hf : TabOk f n) (hl : c.length ≤ 100000) : ∃ b : Bool, (b = true ↔ okP f n c) ∧ spec_l03Cycle F (tabM n n f) c = some (bif b then (sumA f c c.length, true) else (0, false)) := by
  have hwn : IntKind.i64.wrap (((tabM n n f).length : Int) - 1) = (n : Int) - 1 := by rw [tabM_len, wr (by omega) (by omega)]
  unfold spec_l03Cycle
  by_cases h0 : c.length = 0
  · refine ⟨false, ⟨(fun h => by cases h), fun h => absurd h0 h.1⟩, ?_⟩
    rw [show (((c.length : Nat) : Int) == 0) = true from by rw [h0]; rfl]; rfl
  rw [beq_false_of_ne (show ((c.length : Nat) : Int) ≠ 0 by omega), cond_false]
  unfold spec_l03Nodes
  simp only [hwn, specWithin_is (F := F) (xs := c) hF (by omega), dT (show (c.length : Int) ≤ (c.length : Int) by omega), Bool.and_true, Option.bind_some]
  cases hN : c.all fun x => inB x 0 ((n : Int) - 1) with
  | false =>
    refine ⟨false, ⟨fun h => (by cases h), fun h => ?_⟩, rfl⟩
    rw [List.all_eq_false] at hN
    obtain ⟨x, hx, h2⟩ := hN
    have := h.2.1 x hx
    exact absurd (inB_true.2 ⟨this.1, by omega⟩) h2
  | true =>
    have hnode : ∀ x, x ∈ c → 0 ≤ x ∧ x < (n : Int) := fun x hx => by
      have := inB_true.1 (List.all_eq_true.1 hN x hx)
      omega
    simp only [Bool.not_true, cond_false]
    have H1 := all_loop (ps := List.range c.length) (g := fun i => !((c.take i).any fun y => y == c.getD i 0)) (r := ((0, false) : Int × Bool)) (L := spec_l03Cycle_L1 F c) (n := F) ?_ ?_ (by rw [List.length_range]; omega)
    · rw [H1, Option.bind_some]
      cases hD : (List.range c.length).all fun i => !((c.take i).any fun y => y == c.getD i 0) with
      | false =>
        refine ⟨false, ⟨fun h => (by cases h), fun h => ?_⟩, rfl⟩
        rw [List.all_eq_false] at hD
        obtain ⟨i, hi, h2⟩ := hD
        have := dup_iff.2 h.2.2.1 i (by simpa using hi)
        rw [this] at h2
        exact absurd rfl h2
      | true =>
        have hdup : c.Nodup := dup_iff.1 fun i hi => by
          have := List.all_eq_true.1 hD i (by simpa using hi)
          simpa using this
        have hc0 := getD_of (show 0 < c.length by omega)
        have hcz : idx c 0 = some (c.getD 0 0) := (idx_nat c 0).trans hc0
        have happ : app c [c.getD 0 0] = some (c ++ [c.getD 0 0]) := app_le (by simp only [List.length_singleton]; omega)
        simp only [cond_true, hcz, Option.bind_some, specOwn_is (F := F) (x := c) (by omega), happ]
        generalize hxs : c ++ [c.getD 0 0] = xs
        have hxl : xs.length = c.length + 1 := by rw [← hxs]; simp
        have hx1 : ∀ i, i < c.length → xs.getD i 0 = c.getD i 0 := fun i hi => by
          rw [← hxs, List.getD_eq_getElem?_getD, List.getElem?_append_left hi, List.getD_eq_getElem?_getD]
        have hx2 : xs.getD c.length 0 = c.getD 0 0 := by
          rw [← hxs, List.getD_eq_getElem?_getD, List.getElem?_append_right (Nat.le_refl _), Nat.sub_self]; rfl
        have harc : ∀ j, j < c.length → f (xs.getD (j + 1) 0).toNat (xs.getD j 0).toNat = gArc f c (if j + 1 = c.length then 0 else j + 1) := fun j hj => by
          unfold gArc prevI
          rw [hx1 j hj]
          by_cases e : j + 1 = c.length
          · rw [if_pos e, e, hx2, if_pos rfl, ← e]; rfl
          · rw [if_neg e, hx1 (j + 1) (by omega), if_neg (by omega)]; rfl
        have hxn : ∀ j, j ≤ c.length → 0 ≤ xs.getD j 0 ∧ xs.getD j 0 < (n : Int) := fun j hj => by
          by_cases e : j = c.length
          · rw [e, hx2]; exact hnode _ (List.mem_of_getElem? hc0)
          · rw [hx1 j (by omega)]; exact hnode _ (List.mem_of_getElem? (getD_of (by omega)))
        have hlen : c.length ≤ n := by
          by_cases hA : ∀ i, i < c.length → gArc f c i ≠ -1000000000000000
          · exact ok_len ⟨h0, hnode, hdup, hA⟩
          · have h3 : (c.map Int.toNat).Nodup := by
              have h2 := hdup
              unfold List.Nodup at h2 ⊢
              rw [List.pairwise_map]
              refine h2.imp_of_mem ?_
              intro a b ha hb hab e
              have := hnode a ha
              have := hnode b hb
              omega
            have := nodup_le n (c.map Int.toNat) h3 (fun x hx => by
              rw [List.mem_map] at hx
              obtain ⟨y, hy, rfl⟩ := hx
              have := hnode y hy
              omega)
            simpa using this
        have W : ∀ (d k fuel : Nat) (w : Int), k + d = c.length → d < fuel → w = ((List.range k).map fun j => f (xs.getD (j + 1) 0).toNat (xs.getD j 0).toNat).sum → -(1000000 * (k : Int)) ≤ w → w ≤ 1000000 * (k : Int) → (∀ j, j < k → f (xs.getD (j + 1) 0).toNat (xs.getD j 0).toNat ≠ -1000000000000000) →
            (spec_l03Walk_L1 F (tabM n n f) xs fuel w ((k : Int) + 1) = some (.inl (0, false)) ∧ ¬ ∀ j, j < c.length → f (xs.getD (j + 1) 0).toNat (xs.getD j 0).toNat ≠ -1000000000000000) ∨
            (spec_l03Walk_L1 F (tabM n n f) xs fuel w ((k : Int) + 1) = some (.inr ((List.range c.length).map fun j => f (xs.getD (j + 1) 0).toNat (xs.getD j 0).toNat).sum) ∧ ∀ j, j < c.length → f (xs.getD (j + 1) 0).toNat (xs.getD j 0).toNat ≠ -1000000000000000) := by
          intro d
          induction d with
          | zero =>
            intro k fuel w hk hf2 hw hw1 hw2 hall
            obtain ⟨fuel, rfl⟩ : ∃ m, fuel = m + 1 := ⟨fuel - 1, by omega⟩
            obtain rfl : k = c.length := by omega
            right
            refine ⟨?_, hall⟩
            simp only [spec_l03Walk_L1, hxl, bdF (show ¬ (c.length : Int) + 1 < ((c.length + 1 : Nat) : Int) by omega), hw]
          | succ d ih =>
            intro k fuel w hk hf2 hw hw1 hw2 hall
            obtain ⟨fuel, rfl⟩ : ∃ m, fuel = m + 1 := ⟨fuel - 1, by omega⟩
            have b1 := hxn (k + 1) (by omega)
            have b2 := hxn k (by omega)
            obtain ⟨u, hu⟩ : ∃ u : Nat, xs.getD (k + 1) 0 = (u : Int) := ⟨(xs.getD (k + 1) 0).toNat, by omega⟩
            obtain ⟨v, hv⟩ : ∃ v : Nat, xs.getD k 0 = (v : Int) := ⟨(xs.getD k 0).toNat, by omega⟩
            have hk1 : (k : Int) + 1 = ((k + 1 : Nat) : Int) := by omega
            have hx3 := getD_of (show k + 1 < xs.length by omega)
            have hx4 := getD_of (show k < xs.length by omega)
            have hwk : IntKind.i64.wrap (((k + 1 : Nat) : Int) - 1) = (k : Int) := by rw [wr (by omega) (by omega)]; omega
            have S : spec_l03Walk_L1 F (tabM n n f) xs (fuel + 1) w ((k : Int) + 1) = bif f u v == -1000000000000000 then some (.inl (0, false)) else spec_l03Walk_L1 F (tabM n n f) xs fuel (IntKind.i64.wrap (w + f u v)) (((k + 1 : Nat) : Int) + 1) := by
              rw [hk1]
              simp only [spec_l03Walk_L1, hxl, bdT (show ((k + 1 : Nat) : Int) < ((c.length + 1 : Nat) : Int) by omega), idx_nat, hx3, hu, hwk, hx4, hv, tabM_row (show u < n by omega), tabM_at (show v < n by omega), Option.bind_some, wr (n := ((k + 1 : Nat) : Int) + 1) (by omega) (by omega)]
            have hfe : f (xs.getD (k + 1) 0).toNat (xs.getD k 0).toNat = f u v := by rw [hu, hv, Int.toNat_natCast, Int.toNat_natCast]
            by_cases e : f u v = -1000000000000000
            · left
              refine ⟨by rw [S, e]; rfl, fun h => h k (by omega) (by rw [hfe]; exact e)⟩
            · have h4 : Okw 1000000 (f u v) := hf u v (by omega) (by omega)
              unfold Okw at h4
              rw [S, beq_false_of_ne e, cond_false, wr (n := w + f u v) (by omega) (by omega)]
              refine ih (k + 1) fuel (w + f u v) (by omega) (by omega) ?_ (by omega) (by omega) (fun j hj => ?_)
              · rw [List.range_succ, List.map_append, List.sum_append, ← hw]
                simp only [List.map_cons, List.map_nil, List.sum_cons, List.sum_nil, hfe]; omega
              · by_cases e2 : j = k
                · rw [e2, hfe]; exact e
                · exact hall j (by omega)
        have hsum : ((List.range c.length).map fun j => f (xs.getD (j + 1) 0).toNat (xs.getD j 0).toNat).sum = sumA f c c.length := by
          obtain ⟨m, hm⟩ : ∃ m, c.length = m + 1 := ⟨c.length - 1, by omega⟩
          have e1 : ((List.range c.length).map fun j => f (xs.getD (j + 1) 0).toNat (xs.getD j 0).toNat) = (List.range c.length).map fun j => gArc f c (if j + 1 = c.length then 0 else j + 1) := List.map_congr_left fun j hj => harc j (by simpa using hj)
          rw [e1]
          unfold sumA
          rw [hm, sum_first (gArc f c) m, List.range_succ, List.map_append, List.sum_append]
          simp only [List.map_cons, List.map_nil, List.sum_cons, List.sum_nil, if_true]
          have e2 : ((List.range m).map fun j => gArc f c (if j + 1 = m + 1 then 0 else j + 1)) = (List.range m).map fun j => gArc f c (j + 1) := List.map_congr_left fun j hj => by
            have : j < m := by simpa using hj
            rw [if_neg (by omega)]
          rw [e2]; omega
        have hall : (∀ j, j < c.length → f (xs.getD (j + 1) 0).toNat (xs.getD j 0).toNat ≠ -1000000000000000) ↔ ∀ i, i < c.length → gArc f c i ≠ -1000000000000000 := by
          constructor
          · intro h i hi
            by_cases e : i = 0
            · have := h (c.length - 1) (by omega)
              rw [harc _ (by omega), if_pos (by omega)] at this
              rw [e]; exact this
            · have := h (i - 1) (by omega)
              rw [harc _ (by omega), if_neg (by omega), show i - 1 + 1 = i by omega] at this
              exact this
          · intro h j hj
            rw [harc j hj]
            split
            · exact h 0 (by omega)
            · exact h (j + 1) (by omega)
        have W0 := W c.length 0 F 0 (by omega) (by omega) (by simp) (by omega) (by omega) (fun j hj => by omega)
        unfold spec_l03Walk
        rcases W0 with ⟨e, hno⟩ | ⟨e, hyes⟩
        · refine ⟨false, ⟨(fun h => by cases h), fun h => absurd (hall.2 h.2.2.2) hno⟩, ?_⟩
          have e' : spec_l03Walk_L1 F (tabM n n f) xs F 0 1 = some (.inl (0, false)) := e
          rw [e']; rfl
        · refine ⟨true, ⟨fun _ => ⟨h0, hnode, hdup, hall.1 hyes⟩, fun _ => rfl⟩, ?_⟩
          have e' : spec_l03Walk_L1 F (tabM n n f) xs F 0 1 = some (.inr ((List.range c.length).map fun j => f (xs.getD (j + 1) 0).toNat (xs.getD j 0).toNat).sum) := e
          rw [e', hsum]; rfl
    · intro m k i hk hi
      rw [List.length_range] at hk
      have e : i = k := by rw [List.getElem?_range hk] at hi; cases hi; rfl
      subst e
      have hct : cutTo c (i : Int) = some (c.take i) := by
        unfold cutTo; rw [if_pos ⟨by omega, by omega⟩]; rfl
      simp only [spec_l03Cycle_L1, bdT (show (i : Int) < (c.length : Int) by omega), hct, idx_nat, getD_of hk, Option.bind_some, specHas_is (F := F) (xs := c.take i) hF (by rw [List.length_take]; omega), condn, wrN (show i ≤ 67108864 by omega)]
    · intro m
      rw [List.length_range]
      simp only [spec_l03Cycle_L1, bdF (show ¬ (c.length : Int) < (c.length : Int) by omega)]

/-! ### Turned cycles; found cycles -/
theorem turn_sum {g h : Nat → Int} {m : Nat} (hh : ∀ j, j < m + 1 → h j = g (if j + 1 = m + 1 then 0 else j + 1)) : ((List.range (m + 1)).map h).sum = ((List.range (m + 1)).map g).sum := by
  rw [sum_first g m, List.range_succ, List.map_append, List.sum_append]
  have e2 : ((List.range m).map h) = (List.range m).map fun j => g (j + 1) := List.map_congr_left fun j hj => by
    have : j < m := by simpa using hj
    rw [hh j (by omega), if_neg (by omega)]
  rw [e2]
  simp only [List.map_cons, List.map_nil, List.sum_cons, List.sum_nil]
  rw [hh m (by omega), if_pos rfl]; omega
theorem rot_ok {f : Nat → Nat → Int} {n : Nat} {c : List Int} (h : okP f n c) : okP f n (c.drop 1 ++ [c.getD 0 0]) ∧ sumA f (c.drop 1 ++ [c.getD 0 0]) (c.drop 1 ++ [c.getD 0 0]).length = sumA f c c.length := by
  obtain ⟨h0, h1, h2, h3⟩ := h
  cases c with
  | nil => exact absurd rfl h0
  | cons x q =>
    have e : (x :: q).drop 1 ++ [(x :: q).getD 0 0] = q ++ [x] := rfl
    rw [e]
    have hl : (q ++ [x]).length = q.length + 1 := by simp
    have r1 : ∀ j, j < q.length → (q ++ [x]).getD j 0 = (x :: q).getD (j + 1) 0 := fun j hj => by
      rw [List.getD_eq_getElem?_getD, List.getElem?_append_left hj, List.getD_cons_succ, List.getD_eq_getElem?_getD]
    have r2 : (q ++ [x]).getD q.length 0 = x := by
      rw [List.getD_eq_getElem?_getD, List.getElem?_append_right (Nat.le_refl _), Nat.sub_self]; rfl
    have hp : ∀ j, j < q.length + 1 → prevI (q ++ [x]) j = (x :: q).getD j 0 := fun j hj => by
      unfold prevI
      by_cases e : j = 0
      · rw [if_pos e, hl, Nat.add_sub_cancel, r2, e]; rfl
      · rw [if_neg e, r1 (j - 1) (by omega), show j - 1 + 1 = j by omega]
    have hg : ∀ j, j < q.length + 1 → gArc f (q ++ [x]) j = gArc f (x :: q) (if j + 1 = q.length + 1 then 0 else j + 1) := fun j hj => by
      unfold gArc
      rw [hp j hj]
      by_cases e : j = q.length
      · rw [if_pos (by omega), e, r2]
        unfold prevI
        rw [if_pos rfl, List.length_cons, Nat.add_sub_cancel]; rfl
      · rw [if_neg (by omega), r1 j (by omega)]
        unfold prevI
        rw [if_neg (by omega), Nat.add_sub_cancel]
    refine ⟨⟨by omega, fun y hy => h1 y ?_, ?_, fun i hi => ?_⟩, ?_⟩
    · rw [List.mem_append, List.mem_singleton] at hy
      rcases hy with hy | hy
      · exact List.mem_cons_of_mem _ hy
      · rw [hy]; exact List.mem_cons_self
    · exact (List.perm_append_singleton x q).nodup_iff.2 h2
    · rw [hl] at hi
      rw [hg i hi]
      split
      · exact h3 0 (by simp)
      · exact h3 (i + 1) (by simp only [List.length_cons]; omega)
    · rw [hl]
      exact turn_sum hg
theorem chain_arcs {a : Nat → Nat → Int} : ∀ (q : List Nat) (l f : Nat), Chain (arcB a) l q f → ∀ i, i < q.length + 1 → a ((q ++ [f]).getD i 0) ((l :: q).getD i 0) ≠ -1000000000000000
  | [], l, f, h, i, hi => by
    have : i = 0 := by simp at hi; exact hi
    subst this
    exact arcB_true.1 h
  | v :: q, l, f, h, i, hi => by
    cases i with
    | zero => exact arcB_true.1 h.1
    | succ i => exact chain_arcs q v f h.2 i (by simp only [List.length_cons] at hi; omega)
theorem cw_sum (a : Nat → Nat → Int) (f : Nat) : ∀ (q : List Nat) (l : Nat), cw a l q f = ((List.range (q.length + 1)).map fun i => a ((q ++ [f]).getD i 0) ((l :: q).getD i 0)).sum
  | [], l => by
    show a f l = a f l + 0
    omega
  | v :: q, l => by
    have h := sum_first (fun i => a (((v :: q) ++ [f]).getD i 0) ((l :: v :: q).getD i 0)) (q.length + 1)
    show a v l + cw a v q f = _
    rw [List.length_cons, h, cw_sum a f q v]; rfl
theorem first_ok {f : Nat → Nat → Int} {n K : Nat} {r : List Nat} (h : firstCyc f n (fun w => decide (0 < w)) K = some r) : okP f n (nl r) ∧ 0 < sumA f (nl r) (nl r).length := by
  obtain ⟨v, hv, h1⟩ := List.exists_of_findSome?_eq_some h
  have hv : v < n := by simpa using hv
  obtain ⟨h2, q, rfl, h3, h4⟩ := gdfs_some h1
  unfold accG at h2
  rw [Bool.and_eq_true, decide_eq_true_eq] at h2
  obtain ⟨h5, h6⟩ := h2
  obtain ⟨c1, _, c3⟩ := cyc_steps (a := f) (f := v) (q := q) (p := [v]) (by simp) rfl h3 (by simp) h5
  have e : [v] ++ q = v :: q := rfl
  rw [e] at c3 h6 ⊢
  have c1 : Chain (arcB f) v q v := c1
  have hl : (nl (v :: q)).length = q.length + 1 := by rw [nl_len]; rfl
  have hat : ∀ i, i < q.length + 1 → (nl (v :: q)).getD i 0 = (((v :: q).getD i 0 : Nat) : Int) := fun i hi => by
    rw [List.getD_eq_getElem?_getD, nl_at, List.getD_eq_getElem?_getD, List.getElem?_eq_getElem (show i < (v :: q).length by simpa using hi)]; rfl
  have hg : ∀ j, j < q.length + 1 → f ((q ++ [v]).getD j 0) ((v :: q).getD j 0) = gArc f (nl (v :: q)) (if j + 1 = q.length + 1 then 0 else j + 1) := fun j hj => by
    unfold gArc prevI
    by_cases e : j = q.length
    · have r2 : (q ++ [v]).getD q.length 0 = v := by
        rw [List.getD_eq_getElem?_getD, List.getElem?_append_right (Nat.le_refl _), Nat.sub_self]; rfl
      rw [if_pos (by omega), if_pos rfl, hl, hat 0 (by omega), hat (q.length + 1 - 1) (by omega), Int.toNat_natCast, Int.toNat_natCast, e, r2, Nat.add_sub_cancel]; rfl
    · have r1 : (q ++ [v]).getD j 0 = (v :: q).getD (j + 1) 0 := by
        rw [List.getD_eq_getElem?_getD, List.getElem?_append_left (by omega), List.getD_cons_succ, List.getD_eq_getElem?_getD]
      rw [if_neg (by omega), if_neg (by omega), hat (j + 1) (by omega), Nat.add_sub_cancel, hat j (by omega), Int.toNat_natCast, Int.toNat_natCast, r1]
  refine ⟨⟨by omega, fun x hx => ?_, ?_, fun i hi => ?_⟩, ?_⟩
  · unfold nl at hx
    rw [List.mem_map] at hx
    obtain ⟨y, hy, rfl⟩ := hx
    have : y < n := by
      rcases List.mem_cons.1 hy with rfl | hy
      · exact hv
      · exact h4 y hy
    omega
  · unfold nl List.Nodup
    rw [List.pairwise_map]
    exact c3.imp fun {a b} hab e => hab (by omega)
  · rw [hl] at hi
    by_cases e : i = 0
    · have := hg q.length (by omega)
      rw [if_pos rfl] at this
      rw [e, ← this]
      exact chain_arcs q v v c1 q.length (by omega)
    · have := hg (i - 1) (by omega)
      rw [if_neg (by omega), show i - 1 + 1 = i by omega] at this
      rw [← this]
      exact chain_arcs q v v c1 (i - 1) (by omega)
  · rw [hl]
    have h7 := cw_path f v q v
    have h8 := cw_sum f v q v
    have h9 := turn_sum (g := gArc f (nl (v :: q))) (h := fun j => f ((q ++ [v]).getD j 0) ((v :: q).getD j 0)) (m := q.length) hg
    have h10 : headN (v :: q) = v := rfl
    rw [h10] at h6
    unfold sumA
    rw [← h9, ← h8, h7]; exact h6

/-! ### Draws -/
theorem nodes5_tot {F : Nat} {a : List (List Int)} {y : Int} (ha : 1 ≤ a.length) (ha2 : a.length ≤ 1000) (hy : 0 ≤ y) : ∀ (d k f : Nat) (x : Int), k + d = a.length → d < f → 0 ≤ x → x < (a.length : Int) → Tot (fun r : Int => 0 ≤ r ∧ r < (a.length : Int)) (spec_l03DrawNodes_L5 F a y f x (k : Int)) := by
  intro d
  induction d with
  | zero =>
    intro k f x hk hf h0 h1
    obtain ⟨f, rfl⟩ : ∃ q, f = q + 1 := ⟨f - 1, by omega⟩
    simp only [spec_l03DrawNodes_L5, bdF (show ¬ (k : Int) < (a.length : Int) by omega), Option.bind_some, cond_false]
    exact Tot.pure ⟨h0, h1⟩
  | succ d ih =>
    intro k f x hk hf h0 h1
    obtain ⟨f, rfl⟩ : ∃ q, f = q + 1 := ⟨f - 1, by omega⟩
    simp only [spec_l03DrawNodes_L5, bdT (show (k : Int) < (a.length : Int) by omega), wrN (show k ≤ 67108864 by omega)]
    have hx := idx_int h0 h1
    generalize a[x.toNat]'(by omega) = row at hx
    simp only [hx, Option.bind_some]
    refine Tot.bind (P := fun _ => True) (Tot.cond (fun hc => ?_) fun _ => Tot.pure trivial) fun b _ => Tot.cond (fun _ => ?_) fun _ => Tot.pure ⟨h0, h1⟩
    · exact Tot.bind (idx_tot hy (of_decide_eq_true hc)) fun _ _ => Tot.pure trivial
    · rw [if_neg (show ¬ (a.length : Int) = 0 by omega), Option.bind_some, wr (n := x + 1) (by omega) (by omega)]
      exact ih (k + 1) f _ (by omega) (by omega) (Int.tmod_nonneg _ (by omega)) (Int.tmod_lt_of_pos _ (by omega))

theorem nodes4_tot {F : Nat} {code : List Int} {a : List (List Int)} (hF : 134217728 ≤ F) (hc : COk code) (ha : 1 ≤ a.length) (ha2 : a.length ≤ 1000) : ∀ (d f : Nat) (p s : Int) (xs : List Int), d < f → 1 ≤ xs.length → xs.length + d ≤ 1000 → (∀ y, y ∈ xs → 0 ≤ y) → SOk code p s → Tot (fun r : Int × Int × List Int => SOk code r.1 r.2.1 ∧ r.2.2.length ≤ xs.length + d) (spec_l03DrawNodes_L4 F code a f p s xs (d : Int)) := by
  intro d
  induction d with
  | zero =>
    intro f p s xs hf hx1 hx2 hp hs
    obtain ⟨f, rfl⟩ : ∃ q, f = q + 1 := ⟨f - 1, by omega⟩
    simp only [spec_l03DrawNodes_L4, bdF (show ¬ (0 : Int) < ((0 : Nat) : Int) by omega)]
    exact Tot.pure ⟨hs, Nat.le_refl _⟩
  | succ d ih =>
    intro f p s xs hf hx1 hx2 hp hs
    obtain ⟨f, rfl⟩ : ∃ q, f = q + 1 := ⟨f - 1, by omega⟩
    have hw : IntKind.i64.wrap (((d + 1 : Nat) : Int) - 1) = (d : Int) := by rw [wr (by omega) (by omega)]; omega
    have hwl : IntKind.i64.wrap ((xs.length : Int) - 1) = (xs.length : Int) - 1 := wr (by omega) (by omega)
    simp only [spec_l03DrawNodes_L4, bdT (show (0 : Int) < ((d + 1 : Nat) : Int) by omega), hw, hwl]
    refine Tot.bind (next_tot hc hs) fun r1 h1 => Tot.bind (idx_tot (by omega) (by omega)) fun y hy => ?_
    have h2 := h1.2.1
    have h3 : r1.1 < (a.length : Int) := by have := h1.2.2; omega
    refine Tot.bind (nodes5_tot ha ha2 (hp y hy) a.length 0 F r1.1 (by omega) (by omega) h2 h3) fun z hz => Tot.bind (app_tot (by simp only [List.length_singleton]; omega)) fun ys hys => ?_
    have hyl : ys.length = xs.length + 1 := by rw [hys]; simp
    refine (ih f _ _ ys (by omega) (by omega) (by omega) (fun q hq => ?_) h1.1).mono fun r hr => ⟨hr.1, by have := hr.2; omega⟩
    rw [hys, List.mem_append, List.mem_singleton] at hq
    rcases hq with hq | hq
    · exact hp q hq
    · rw [hq]; exact hz.1
theorem nodes_tot {F : Nat} {code : List Int} {p s : Int} {a : List (List Int)} (hF : 134217728 ≤ F) (hc : COk code) (ha2 : a.length ≤ 1000) (hs : SOk code p s) : Tot (fun r : List Int × Int × Int => r.1.length ≤ 2000) (spec_l03DrawNodes F code p s a) := by
  unfold spec_l03DrawNodes
  by_cases h0 : a.length = 0
  · rw [show (((a.length : Nat) : Int) == 0) = true from by rw [h0]; rfl, cond_true]
    exact Tot.pure (by simp)
  rw [beq_false_of_ne (show ((a.length : Nat) : Int) ≠ 0 by omega), cond_false]
  refine Tot.bind (next_tot hc hs) fun r4 h4 => Tot.bind (next_tot hc h4.1) fun r8 h8 => ?_
  obtain ⟨d, hd⟩ : ∃ d : Nat, r8.1 = (d : Int) := ⟨r8.1.toNat, by have := h8.2.1; omega⟩
  have hd8 : d < 6 := by have := h8.2.2; omega
  rw [hd]
  refine Tot.bind (nodes4_tot hF hc (by omega) ha2 d F _ _ [r4.1] (by omega) (by simp) (by simp; omega) (fun y hy => ?_) h8.1) ?_
  · rw [List.mem_singleton] at hy; rw [hy]; exact h4.2.1
  rintro ⟨p1, s1, xs⟩ ⟨h5, h6⟩
  simp only [List.length_singleton] at h5 h6 ⊢
  refine Tot.bind (next_tot hc h5) fun r h => Tot.cond (fun _ => ?_) fun _ => Tot.cond (fun _ => Tot.pure (by simp)) fun _ => Tot.pure (by simp only; omega)
  exact Tot.bind (pick_tot hc h.1 (by simp)) fun r2 h7 => Tot.bind (app_tot (by simp only [List.length_singleton]; omega)) fun ys hys => Tot.pure (by simp only [hys, List.length_append, List.length_singleton]; omega)
theorem cycle_tot {F : Nat} {code : List Int} {p s : Int} {a : List (List Int)} (hF : 134217728 ≤ F) (hc : COk code) (ha2 : a.length ≤ 1000) (hr : ∀ row, row ∈ a → row.length ≤ 1000) (hs : SOk code p s) : Tot (fun r : List Int × Int × Int => r.1.length ≤ 2000) (spec_l03DrawCycle F code p s a) := by
  unfold spec_l03DrawCycle
  rw [specSquare_is hF (fun row h => by have := hr row h; omega), Option.bind_some]
  refine Tot.bind (P := fun r : Int × Int × Bool => SOk code r.1 r.2.1 ∧ (r.2.2 = true → squareB a = true)) (Tot.cond (fun hq => Tot.bind (next_tot hc hs) fun r h => Tot.pure ⟨h.1, fun _ => hq⟩) fun _ => Tot.pure ⟨hs, fun h => by cases h⟩) ?_
  rintro ⟨p1, s1, b⟩ ⟨h1, h2⟩
  simp only at h1 h2 ⊢
  refine Tot.bind (P := fun r : Sum (List Int × Int × Int) (Int × Int) => match r with | .inl x => x.1.length ≤ 2000 | .inr y => SOk code y.1 y.2) (Tot.cond (fun hb => ?_) fun _ => Tot.pure h1) ?_
  · obtain ⟨n1, n10, e, hk⟩ := square_tab (h2 hb)
    refine Tot.bind (pick_tot hc h1 (by simp)) fun r65 h65 => ?_
    have hO := specOverT_is (F := F) (n := a.length) (f := entryOf a) (over := r65.1) hF n10 hk
    rw [← e] at hO
    rw [hO, Option.bind_some]
    cases hf : firstCyc (entryOf a) a.length (fun w => decide (r65.1 < w)) F with
    | none => exact Tot.pure h65.1
    | some r =>
      obtain ⟨r0, r1, _⟩ := firstCyc_ne hf
      have hrl := List.length_pos_iff.2 r0
      simp only [Option.elim_some, nl_len]
      rw [bdT (show (0 : Int) < (r.length : Int) by omega)]
      refine Tot.bind (next_tot hc h65.1) fun r74 h74 => ?_
      have g0 := h74.2.1
      have g1 : r74.1 < (r.length : Int) := by have := h74.2.2; omega
      obtain ⟨d, hd⟩ : ∃ d : Nat, r74.1 = (d : Int) := ⟨r74.1.toNat, by omega⟩
      rw [hd]
      have hcf : cutFrom (nl r) (d : Int) = some ((nl r).drop d) := by
        unfold cutFrom; rw [if_pos ⟨by omega, by rw [nl_len]; omega⟩]; rfl
      have hct : cutTo (nl r) (d : Int) = some ((nl r).take d) := by
        unfold cutTo; rw [if_pos ⟨by omega, by rw [nl_len]; omega⟩]; rfl
      have l1 : ((nl r).drop d).length ≤ 10 := by rw [List.length_drop, nl_len]; omega
      have l2 : ((nl r).take d).length ≤ 10 := by rw [List.length_take, nl_len]; omega
      rw [hcf, hct]
      simp only [Option.bind_some, specOwn_is (F := F) (x := (nl r).drop d) (by omega), app_le (show ((nl r).drop d).length + ((nl r).take d).length ≤ 67108864 by omega)]
      exact Tot.pure (by simp only [List.length_append]; omega)
  · rintro (x | y) h
    · exact Tot.pure h
    · exact Tot.bind (nodes_tot hF hc ha2 h) fun r h => Tot.pure h

theorem impl_CW {F n : Nat} {f : Nat → Nat → Int} {c : List Int} (hF : 134217728 ≤ F) (n1 : 1 ≤ n) (hn : n ≤ 10) (hf : TabOk f n) (hl : c.length ≤ 100000) :
    (okP f n c ∧ impl_IsCycle F (tabM n n f) c = some true ∧ spec_IsCycle F (tabM n n f) c = some true ∧ ((valB (sumA f c c.length) = true ∧ impl_CycleWeight F (tabM n n f) c = some (sumA f c c.length, 0) ∧ spec_CycleWeight F (tabM n n f) c = some (sumA f c c.length, 0)) ∨ (valB (sumA f c c.length) = false ∧ impl_CycleWeight F (tabM n n f) c = some (0, 3) ∧ spec_CycleWeight F (tabM n n f) c = some (0, 3)))) ∨
    (¬ okP f n c ∧ impl_IsCycle F (tabM n n f) c = some false ∧ spec_IsCycle F (tabM n n f) c = some false ∧ impl_CycleWeight F (tabM n n f) c = some (0, 4) ∧ spec_CycleWeight F (tabM n n f) c = some (0, 4)) := by
  obtain ⟨b1, e1, i1⟩ := implCW_is (F := F) hF hn hf hl
  obtain ⟨b2, e2, i2⟩ := specCW_is (F := F) hF hn hf hl
  have hsq := squareB_tab n1 hn hf
  unfold impl_IsCycle spec_IsCycle impl_CycleWeight spec_CycleWeight impl_checkedValue spec_l01Value
  simp only [specSquare_is hF (rows_tab hn), implSquare_is hF (rows_tab hn), hsq, i1, i2, Option.bind_some, Bool.not_true, cond_false, specValue_is, implValue_is]
  by_cases h : okP f n c
  · left
    rw [e1.2 h, e2.2 h]
    refine ⟨h, rfl, rfl, ?_⟩
    simp only [cond_true, Bool.not_true, cond_false]
    cases hv : valB (sumA f c c.length) with
    | true => exact .inl ⟨rfl, rfl, rfl⟩
    | false => exact .inr ⟨rfl, rfl, rfl⟩
  · right
    have f1 : b1 = false := by cases hb : b1 with | false => rfl | true => exact absurd (e1.1 hb) h
    have f2 : b2 = false := by cases hb : b2 with | false => rfl | true => exact absurd (e2.1 hb) h
    rw [f1, f2]
    exact ⟨h, rfl, rfl, rfl, rfl⟩

theorem law_PositiveCycles {F : Nat} {x0 : List Int} (hF0 : 9223372036854775808 ≤ F) (_ : x0.length ≤ 9223372036854775807) (hb : ∀ y, y ∈ x0 → 0 ≤ y ∧ y ≤ 255) : laws_FnPositiveCycles F x0 = some true := by
  have hF : 134217728 ≤ F := by omega
  unfold laws_FnPositiveCycles laws_big
  by_cases hbig : (4096 : Int) < (x0.length : Int)
  · simp only [Option.bind_some, dT hbig, cond_true]
  simp only [Option.bind_some, dF hbig, cond_false]
  have hc : COk x0 := ⟨by omega, hb⟩
  obtain ⟨a, hd1, a0, a1⟩ : Tot (fun r : List (List Int) => r.length ≤ 1000 ∧ ∀ q, q ∈ r → q.length ≤ 1000) (spec_DrawPositiveCycle F x0) := by
    unfold spec_DrawPositiveCycle
    refine Tot.bind (from_tot hF hc) fun r1 h1 => Tot.bind (next_tot hc h1) fun r4 h4 => Tot.cond (fun _ => ?_) fun _ => ?_
    · exact Tot.bind (square_tot hF hc h4.1) fun r h => Tot.pure h.2
    · exact Tot.bind (l03Draw_tot hF hc h4.1) fun r h => Tot.pure h.2
  obtain ⟨⟨b, list⟩, hd3, b0, b1, b2⟩ : Tot (fun r : List (List Int) × List Int => r.1.length ≤ 1000 ∧ (∀ q, q ∈ r.1 → q.length ≤ 1000) ∧ r.2.length ≤ 2000) (spec_DrawIsCycle F x0) := by
    unfold spec_DrawIsCycle
    exact Tot.bind (from_tot hF hc) fun r1 h1 => Tot.bind (l03Draw_tot hF hc h1) fun r4 h4 => Tot.bind (cycle_tot hF hc h4.2.1 h4.2.2 h4.1) fun r11 h11 => Tot.pure ⟨h4.2.1, h4.2.2, h11⟩
  simp only at b0 b1 b2
  have hd2 : spec_DrawCycleWeight F x0 = some (b, list) := by
    unfold spec_DrawCycleWeight; rw [hd3]; rfl
  have ha5 : ∀ row, row ∈ a → row.length ≤ 1048576 := fun row h => by have := a1 row h; omega
  have hb5 : ∀ row, row ∈ b → row.length ≤ 1048576 := fun row h => by have := b1 row h; omega
  -- the second part
  have P2 : (∃ w c : Int, impl_CycleWeight F b list = some (w, c) ∧ spec_CycleWeight F b list = some (w, c) ∧ (∃ q, impl_IsCycle F b list = some q ∧ spec_IsCycle F b list = some q) ∧ (c = 0 → list ≠ [] ∧ impl_CycleWeight F b (list.drop 1 ++ [list.getD 0 0]) = some (w, 0) ∧ impl_IsCycle F b list = some true)) := by
    cases hs : squareB b with
    | false =>
      refine ⟨0, 1, ?_, ?_, ⟨false, ?_, ?_⟩, fun h => by cases h⟩
      · unfold impl_CycleWeight; rw [implSquare_is hF hb5, hs]; rfl
      · unfold spec_CycleWeight; rw [specSquare_is hF hb5, hs]; rfl
      · unfold impl_IsCycle; rw [implSquare_is hF hb5, hs]; rfl
      · unfold spec_IsCycle; rw [specSquare_is hF hb5, hs]; rfl
    | true =>
      obtain ⟨n1, n10, e, hk⟩ := square_tab hs
      generalize hn : b.length = n at n1 n10 e hk
      generalize hf : entryOf b = f at e hk
      subst e
      rcases impl_CW (F := F) (c := list) hF n1 n10 hk (by omega) with ⟨hok, i1, i2, ⟨hv, i3, i4⟩ | ⟨hv, i3, i4⟩⟩ | ⟨hno, i1, i2, i3, i4⟩
      · refine ⟨_, 0, i3, i4, ⟨true, i1, i2⟩, fun _ => ⟨fun e => hok.1 (by rw [e]; rfl), ?_, i1⟩⟩
        obtain ⟨r1, r2⟩ := rot_ok hok
        rcases impl_CW (F := F) (c := list.drop 1 ++ [list.getD 0 0]) hF n1 n10 hk (by rw [List.length_append, List.length_drop, List.length_singleton]; omega) with ⟨_, _, _, ⟨hv2, i5, _⟩ | ⟨hv2, i5, _⟩⟩ | ⟨hno, _⟩
        · rw [i5, r2]
        · rw [r2, hv] at hv2; cases hv2
        · exact absurd r1 hno
      · exact ⟨_, 3, i3, i4, ⟨true, i1, i2⟩, fun h => by cases h⟩
      · exact ⟨_, 4, i3, i4, ⟨false, i1, i2⟩, fun h => by cases h⟩
  obtain ⟨w, c, i3, i4, ⟨q, i1, i2⟩, hrot⟩ := P2
  -- the first part
  have P1 : (∃ d : Int, d ≠ 0 ∧ impl_PositiveCycle F a = some ([], d) ∧ spec_PositiveCycle F a = some ([], d)) ∨ (∃ r : List Int, r.length ≤ 10 ∧ impl_PositiveCycle F a = some (r, 0) ∧ spec_PositiveCycle F a = some (r, 0) ∧ ∃ w2 c2 : Int, impl_CycleWeight F a r = some (w2, c2) ∧ (c2 = 3 ∨ (c2 = 0 ∧ 0 < w2))) := by
    obtain ⟨r, e1, e2, _⟩ := same_PositiveCycle (F := F) (x0 := a) hF (by omega) (by
      have h3 : ∀ k, k ≤ a.length → offR a k ≤ k * 1000 := by
        intro k
        induction k with
        | zero => intro _; simp [offR_zero]
        | succ k ih =>
          intro hk
          have hr : a[k]? = some a[k] := List.getElem?_eq_getElem (by omega)
          have h1 := a1 _ (List.getElem_mem (show k < a.length by omega))
          have h2 := ih (by omega)
          rw [offR_succ hr]; omega
      have h1 := h3 a.length (Nat.le_refl _)
      have h2 : a.length * 1000 ≤ 1000 * 1000 := Nat.mul_le_mul_right _ a0
      omega)
    cases hs : squareB a with
    | false =>
      left
      refine ⟨1, by decide, ?_, ?_⟩
      · unfold impl_PositiveCycle; rw [implSquare_is hF ha5, hs]; rfl
      · unfold spec_PositiveCycle; rw [specSquare_is hF ha5, hs]; rfl
    | true =>
      obtain ⟨n1, n10, e, hk⟩ := square_tab hs
      have hP := implPos_is (F := F) hF n1 n10 hk
      rw [← e, e2] at hP
      cases hf : firstCyc (entryOf a) a.length (fun w => decide (0 < w)) F with
      | none =>
        left
        rw [hf] at hP
        simp only [Option.elim_none, Option.some.injEq] at hP
        exact ⟨4, by decide, by rw [e2, hP], by rw [e1, hP]⟩
      | some r0 =>
        right
        rw [hf] at hP
        simp only [Option.elim_some, Option.some.injEq] at hP
        obtain ⟨_, f1, _⟩ := firstCyc_ne hf
        obtain ⟨k1, k2⟩ := first_ok hf
        refine ⟨nl r0, by rw [nl_len]; omega, by rw [e2, hP], by rw [e1, hP], ?_⟩
        have h6 := impl_CW (F := F) (c := nl r0) hF n1 n10 hk (by rw [nl_len]; omega)
        rw [← e] at h6
        rcases h6 with ⟨_, _, _, ⟨hv2, i5, _⟩ | ⟨hv2, i5, _⟩⟩ | ⟨hno, _⟩
        · exact ⟨_, _, i5, .inr ⟨rfl, k2⟩⟩
        · exact ⟨_, _, i5, .inl rfl⟩
        · exact absurd k1 hno
  have hmid : ∀ K : Option Bool, (Option.bind ((bif (c == 0) then (Option.bind (((cutFrom list 1).bind fun xs302 => ((idx list 0).bind fun q303 => ((app ([] : List Int) xs302).bind fun xs309 => ((app xs309 ([q303])).bind fun xs315 => ((impl_CycleWeight F b xs315).bind fun r317 => some (r317.1, r317.2)))))) : Option (Int × Int)) fun (x279, x280) => (Option.bind ((bif (x280 != 0) then some true else (bif (x279 != w) then some true else some (!q))) : Option (Bool)) fun b349 => (bif b349 then some (Sum.inl false) else some (Sum.inr ())))) else some (Sum.inr ())) : Option (Sum Bool (Unit))) fun r214 => match r214 with | .inl x_ => some x_ | .inr _ => K) = K := by
    intro K
    by_cases h0 : c = 0
    · obtain ⟨r1, r2, r3⟩ := hrot h0
      rw [i1] at r3
      obtain rfl := Option.some.inj r3
      have hl := List.length_pos_iff.2 r1
      have hcf : cutFrom list 1 = some (list.drop 1) := by
        unfold cutFrom; rw [if_pos ⟨by omega, by omega⟩]; rfl
      have hi : idx list 0 = some (list.getD 0 0) := (idx_nat list 0).trans (getD_of hl)
      have ha1 : app ([] : List Int) (list.drop 1) = some (list.drop 1) := by
        rw [app_le (by simp only [List.length_nil, List.length_drop]; omega)]; rfl
      have ha2 : app (list.drop 1) [list.getD 0 0] = some (list.drop 1 ++ [list.getD 0 0]) := app_le (by simp only [List.length_singleton, List.length_drop]; omega)
      rw [h0]
      simp only [beq_self_eq_true, cond_true, hcf, hi, ha1, ha2, r2, Option.bind_some, bne_self_eq_false, cond_false, Bool.not_true]
    · rw [beq_false_of_ne h0]; rfl
  rcases P1 with ⟨d, d0, e1, e2⟩ | ⟨r, rl, e1, e2, w2, c2, e3, e4⟩
  · simp only [hd1, hd2, hd3, e1, e2, i1, i2, i3, i4, Option.bind_some, bne_self_eq_false, cond_false, lkI (F := F) (xs := []) hF (by simp), Bool.not_true, neT d0, cond_true]
    exact hmid (some true)
  · simp only [hd1, hd2, hd3, e1, e2, i1, i2, i3, i4, e3, Option.bind_some, bne_self_eq_false, cond_false, lkI (F := F) (xs := r) hF (by omega), Bool.not_true]
    refine (hmid _).trans ?_
    rcases e4 with e4 | ⟨e4, e5⟩
    · rw [e4]; rfl
    · rw [e4, dT e5]; rfl

end Go.Proofs.Ytebmlphobgaboab
