/- The law's model answers true. -/
import Derived.Test.YtgkgimglgjfcjaaReversedSmall
namespace Go.Proofs.Ytgkgimglgjfcjaa

theorem specResult_is {F : Nat} {g : GEventGraph} (hF : 134217728 ≤ F) (hl : g.Places.length ≤ 1048576) : spec_l19Result F g = some (bif graphB g then (g, 0) else (⟨0, []⟩, 3)) := by
  unfold spec_l19Result
  rw [bind_of (specGraph_is hF hl)]
  cases graphB g <;> rfl
theorem implResult_is {F : Nat} {g : GEventGraph} (hF : 134217728 ≤ F) (hl : g.Places.length ≤ 1048576) : impl_checkedGraph F g = some (bif graphB g then (g, 0) else (⟨0, []⟩, 3)) := by
  unfold impl_checkedGraph
  rw [bind_of (implGraph_is hF hl)]
  cases graphB g <;> rfl

theorem graphB_of {g : GEventGraph} (h1 : 1 ≤ g.Events) (h2 : g.Events ≤ 10) (h3 : g.Places.length ≤ 30) (h : ∀ p, p ∈ g.Places → 0 ≤ p.From ∧ p.From < g.Events ∧ 0 ≤ p.To ∧ p.To < g.Events ∧ 0 ≤ p.Delay ∧ p.Delay ≤ 1000 ∧ 0 ≤ p.Tokens ∧ p.Tokens ≤ 5) : graphB g = true := by
  have hw : IntKind.i64.wrap (g.Events - 1) = g.Events - 1 := wr (by omega) (by omega)
  unfold graphB
  simp only [Bool.and_eq_true, inB_true, decide_eq_true_eq, List.all_eq_true]
  refine ⟨fun p hp => ?_, ⟨h1, h2⟩, by omega⟩
  have := h p hp
  unfold placeB
  rw [hw]
  simp only [Bool.and_eq_true, inB_true]
  omega
theorem lkG {F : Nat} {g : GEventGraph} (hF : 134217728 ≤ F) (hl : g.Places.length ≤ 1048576) : laws_likeGraphs9 F g g = some true := by
  unfold laws_likeGraphs9
  have L : laws_likeGraphs9_L1 F g g F 0 = some (.inr ()) := by
    refine same_loop (len := g.Places.length) (L := laws_likeGraphs9_L1 F g g) ?_ ?_ (by omega)
    · intro n k hk
      simp only [laws_likeGraphs9_L1, bdT (show (k : Int) < (g.Places.length : Int) by omega), idx_nat, plD_of hk, Option.bind_some, beq_self_eq_true, Bool.and_self, Bool.not_true, cond_false, wrN (show k ≤ 67108864 by omega)]
    · intro n
      simp only [laws_likeGraphs9_L1, bdF (show ¬ (g.Places.length : Int) < (g.Places.length : Int) by omega)]
  simp only [bne_self_eq_false, cond_false, Option.bind_some, L]

theorem cutK {xs : List Int} {k : Nat} (h : k ≤ xs.length) : cutTo xs (k : Int) = some (xs.take k) := by
  unfold cutTo; rw [if_pos ⟨by omega, by omega⟩]; rfl
def dupB (p : List Int) (k : Nat) : Bool := (p.take k).any fun y => y == p.getD k 0
def permB (e : Int) (p : List Int) : Bool := ((p.length : Int) == e) && ((p.all fun x => inB x 0 (IntKind.i64.wrap (e - 1))) && (List.range p.length).all fun k => !dupB p k)
theorem specPerm_is {F : Nat} {p : List Int} {e : Int} (hF : 134217728 ≤ F) (hl : p.length ≤ 1048576) : spec_l19Permutes F p e = some (permB e p) := by
  unfold spec_l19Permutes
  rw [all_loop (ps := List.range p.length) (g := fun k => inB (p.getD k 0) 0 (IntKind.i64.wrap (e - 1)) && !dupB p k) (r := false) (L := spec_l19Permutes_L1 F p e) ?_ ?_ (by rw [List.length_range]; omega)]
  · have h : ((List.range p.length).all fun k => inB (p.getD k 0) 0 (IntKind.i64.wrap (e - 1)) && !dupB p k) = ((p.all fun x => inB x 0 (IntKind.i64.wrap (e - 1))) && (List.range p.length).all fun k => !dupB p k) := by
      apply Bool.eq_iff_iff.2
      rw [Bool.and_eq_true, List.all_eq_true, List.all_eq_true, List.all_eq_true]
      constructor
      · intro H
        refine ⟨fun x hx => ?_, fun k hk => ?_⟩
        · obtain ⟨i, hi, rfl⟩ := List.getElem_of_mem hx
          have := H i (by simpa using hi)
          rw [Bool.and_eq_true, List.getD_eq_getElem?_getD, List.getElem?_eq_getElem hi] at this
          exact this.1
        · have := H k hk
          rw [Bool.and_eq_true] at this
          exact this.2
      · rintro ⟨H1, H2⟩ k hk
        rw [Bool.and_eq_true]
        exact ⟨H1 _ (List.mem_of_getElem? (getD_of (by simpa using hk))), H2 k hk⟩
    rw [h]
    unfold permB
    cases ((p.all fun x => inB x 0 (IntKind.i64.wrap (e - 1))) && (List.range p.length).all fun k => !dupB p k) <;> cases ((p.length : Int) == e) <;> rfl
  · intro n k x hk hx
    rw [List.length_range] at hk
    have e : x = k := by rw [List.getElem?_range hk] at hx; cases hx; rfl
    subst e
    simp only [spec_l19Permutes_L1, bdT (show (x : Int) < (p.length : Int) by omega), idx_nat, getD_of hk, Option.bind_some, specIn_is, cutK (show x ≤ p.length by omega), specHas_is (F := F) (xs := p.take x) (x := p.getD x 0) hF (by rw [List.length_take]; omega), wrN (show x ≤ 67108864 by omega)]
    rw [show ((p.take x).any fun y => y == p.getD x 0) = dupB p x from rfl]
    cases inB (p.getD x 0) 0 (IntKind.i64.wrap (e - 1)) <;> cases dupB p x <;> rfl
  · intro n
    rw [List.length_range]
    simp only [spec_l19Permutes_L1, bdF (show ¬ (p.length : Int) < (p.length : Int) by omega)]
theorem implDup_is {F : Nat} {p : List Int} (hF : 134217728 ≤ F) (hl : p.length ≤ 1048576) : impl_RelabelGraph_L1 F p F 0 = some (bif (List.range p.length).all (fun k => !dupB p k) then .inr () else .inl (⟨0, []⟩, 2)) := by
  refine all_loop (ps := List.range p.length) (g := fun k => !dupB p k) (r := (⟨0, []⟩, 2)) (L := impl_RelabelGraph_L1 F p) (n := F) ?_ ?_ (by rw [List.length_range]; omega)
  · intro n k x hk hx
    rw [List.length_range] at hk
    have e : x = k := by rw [List.getElem?_range hk] at hx; cases hx; rfl
    subst e
    simp only [impl_RelabelGraph_L1, bdT (show (x : Int) < (p.length : Int) by omega), idx_nat, getD_of hk, Option.bind_some, cutK (show x ≤ p.length by omega), implHas_is (F := F) (xs := p.take x) (x := p.getD x 0) hF (by rw [List.length_take]; omega), condn, wrN (show x ≤ 67108864 by omega)]
    rw [show ((p.take x).any fun y => y == p.getD x 0) = dupB p x from rfl]
  · intro n
    rw [List.length_range]
    simp only [impl_RelabelGraph_L1, bdF (show ¬ (p.length : Int) < (p.length : Int) by omega)]
def relP (p : List Int) (q : GPlace) : GPlace := ⟨p.getD q.From.toNat 0, p.getD q.To.toNat 0, q.Delay, q.Tokens⟩
def relG (p : List Int) (g : GEventGraph) : GEventGraph := ⟨g.Events, g.Places.map (relP p)⟩
theorem rel_out {F : Nat} {x0 : GEventGraph} {x1 : List Int} (hF : 134217728 ≤ F) (h0 : x0.Places.length ≤ 1048576) (h1 : x1.length ≤ 1048576) :
    (∃ c : Int, c ≠ 0 ∧ (graphB x0 = false ∨ permB x0.Events x1 = false) ∧ spec_RelabelGraph F x0 x1 = some (⟨0, []⟩, c) ∧ impl_RelabelGraph F x0 x1 = some (⟨0, []⟩, c)) ∨
    (graphB x0 = true ∧ permB x0.Events x1 = true ∧ spec_RelabelGraph F x0 x1 = some (relG x1 x0, 0) ∧ impl_RelabelGraph F x0 x1 = some (relG x1 x0, 0)) := by
  unfold spec_RelabelGraph impl_RelabelGraph
  rw [bind_of (specGraph_is hF h0), bind_of (implGraph_is hF h0)]
  cases hg : graphB x0 with
  | false => exact .inl ⟨1, by decide, .inl rfl, rfl, rfl⟩
  | true =>
    simp only [Bool.not_true, cond_false, specPerm_is hF h1, implAllWithin_is hF h1, Option.bind_some, bne]
    cases hl : ((x1.length : Int) == x0.Events) with
    | false =>
      have : permB x0.Events x1 = false := by unfold permB; rw [hl]; rfl
      rw [this]
      exact .inl ⟨2, by decide, .inr (by first | rfl | assumption), rfl, rfl⟩
    | true =>
      cases hw : (x1.all fun x => inB x 0 (IntKind.i64.wrap (x0.Events - 1))) with
      | false =>
        have : permB x0.Events x1 = false := by unfold permB; rw [hl, hw]; rfl
        rw [this]
        exact .inl ⟨2, by decide, .inr (by first | rfl | assumption), rfl, rfl⟩
      | true =>
        simp only [Bool.not_true, cond_false, Option.bind_some, implDup_is hF h1]
        cases hd : (List.range x1.length).all (fun k => !dupB x1 k) with
        | false =>
          have : permB x0.Events x1 = false := by unfold permB; rw [hl, hw, hd]; rfl
          rw [this]
          exact .inl ⟨2, by decide, .inr (by first | rfl | assumption), rfl, rfl⟩
        | true =>
          have hp : permB x0.Events x1 = true := by unfold permB; rw [hl, hw, hd]; rfl
          rw [hp]
          simp only [Bool.not_true, cond_false, cond_true]
          obtain ⟨_, g2, g3, gw, g5⟩ := graphB_true hg
          rw [beq_iff_eq] at hl
          have hpos : ∀ i : Int, 0 ≤ i → i < x0.Events → 0 ≤ x1.getD i.toNat 0 := fun i i0 i1 => by
            have := List.all_eq_true.1 hw _ (List.mem_of_getElem? (getD_of (xs := x1) (i := i.toNat) (by omega)))
            exact (inB_true.1 this).1
          have S : spec_l19Map F x0 x0.Events x1 = some ⟨x0.Events, x0.Places.map (relP x1)⟩ := by
            unfold spec_l19Map
            rw [grow_loop (ps := x0.Places) (g := fun q => [relP x1 q]) (L := spec_l19Map_L1 F x0 x1) (by simp) ?_ ?_ (by omega)]
            · rw [Option.bind_some, flatMap_one]
            · intro n xs k q hk hq hx
              have hq5 := g5 q (List.mem_of_getElem? hq)
              have happ : app xs [relP x1 q] = some (xs ++ [relP x1 q]) := app_le (by simp only [List.length_singleton]; omega)
              have e1 := hpos q.From hq5.1 hq5.2.1
              have e2 := hpos q.To hq5.2.2.1 hq5.2.2.2
              simp only [spec_l19Map_L1, bdT (show (k : Int) < (x0.Places.length : Int) by omega), idx_nat, hq, Option.bind_some, getI (xs := x1) (i := q.From) (by omega) (by omega), getI (xs := x1) (i := q.To) (by omega) (by omega), bdT e1, dT e2, cond_true, wrN (show k ≤ 67108864 by omega)]
              rw [show (GPlace.mk (x1.getD q.From.toNat 0) (x1.getD q.To.toNat 0) q.Delay q.Tokens) = relP x1 q from rfl, happ]; rfl
            · intro n xs
              simp only [spec_l19Map_L1, bdF (show ¬ (x0.Places.length : Int) < (x0.Places.length : Int) by omega)]
          have I : impl_mappedGraph F x0 x0.Events (fun y => impl_RelabelGraph_c1 F y x1) = some ⟨x0.Events, x0.Places.map (relP x1)⟩ := by
            unfold impl_mappedGraph
            rw [grow_loop (ps := x0.Places) (g := fun q => [relP x1 q]) (L := impl_mappedGraph_L1 F x0 (fun y => impl_RelabelGraph_c1 F y x1)) (by simp) ?_ ?_ (by omega)]
            · rw [Option.bind_some, flatMap_one]
            · intro n xs k q hk hq hx
              have hq5 := g5 q (List.mem_of_getElem? hq)
              have happ : app xs [relP x1 q] = some (xs ++ [relP x1 q]) := app_le (by simp only [List.length_singleton]; omega)
              simp only [impl_mappedGraph_L1, impl_RelabelGraph_c1, bdT (show (k : Int) < (x0.Places.length : Int) by omega), idx_nat, hq, Option.bind_some, getI (xs := x1) (i := q.From) (by omega) (by omega), getI (xs := x1) (i := q.To) (by omega) (by omega), wrN (show k ≤ 67108864 by omega)]
              rw [show (GPlace.mk (x1.getD q.From.toNat 0) (x1.getD q.To.toNat 0) q.Delay q.Tokens) = relP x1 q from rfl, happ]; rfl
            · intro n xs
              simp only [impl_mappedGraph_L1, bdF (show ¬ (x0.Places.length : Int) < (x0.Places.length : Int) by omega)]
          rw [S, I]
          exact .inr ⟨by first | trivial | rfl | assumption, by first | trivial | rfl | assumption, rfl, rfl⟩

theorem take_set_here {α : Type} {xs : List α} {k : Nat} {x : α} (h : k < xs.length) : (xs.set k x).take (k + 1) = xs.take k ++ [x] := by
  rw [List.take_add_one, set_here h, List.take_set, List.set_eq_of_length_le (by rw [List.length_take]; omega)]; rfl
/-- what is kept of a list -/
theorem delFunc_is {F : Nat} {xs : List GPlace} {m : GPlace → Option Bool} {h : GPlace → Bool} (hF : 134217728 ≤ F) (hl : xs.length ≤ 1048576) (hm : ∀ x, m x = some (h x)) : ∃ full, slices_DeleteFunc_Place F xs m = some (xs.filter (fun x => !h x), full) := by
  unfold slices_DeleteFunc_Place
  rw [bind_of (slices_IndexFunc_Place_is (h := h) hF (by omega) (fun x _ => hm x))]
  cases hf : xs.findIdx? h with
  | none =>
    have hn := List.findIdx?_eq_none_iff.1 hf
    have : xs.filter (fun x => !h x) = xs := List.filter_eq_self.2 fun x hx => by rw [hn x hx]; rfl
    rw [this]
    exact ⟨xs, rfl⟩
  | some i =>
    obtain ⟨hi, h1, h2⟩ := List.findIdx?_eq_some_iff_getElem.1 hf
    have hpre : xs.take i = (xs.take (i + 1)).filter (fun x => !h x) := by
      have hk : (xs.take i).filter (fun x => !h x) = xs.take i := List.filter_eq_self.2 fun x hx => by
        obtain ⟨j, hj, rfl⟩ := List.getElem_of_mem hx
        rw [List.getElem_take]
        rw [List.length_take] at hj
        have := h2 j (by omega)
        cases hh : h xs[j] with
        | false => rfl
        | true => exact absurd hh this
      rw [List.take_add_one, List.getElem?_eq_getElem hi, List.filter_append, hk]
      simp [h1]
    have H := for_ind (fun n (s : List GPlace × Int) i => slices_DeleteFunc_Place_L1 F m n s.1 s.2 i) xs.length
      (fun k s => ∃ w : Nat, s.2 = (w : Int) ∧ w < k ∧ s.1.length = xs.length ∧ s.1.take w = (xs.take k).filter (fun x => !h x) ∧ ∀ j, k ≤ j → s.1[j]? = xs[j]?)
      (fun o => ∃ (c : List GPlace) (w : Nat), o = some (c, (w : Int)) ∧ w ≤ xs.length ∧ c.length = xs.length ∧ c.take w = xs.filter fun x => !h x) ?_ ?_ (xs.length - (i + 1)) (i + 1) (xs, (i : Int)) F (by omega) ⟨i, rfl, by omega, rfl, hpre, fun _ _ => rfl⟩ (by omega)
    · obtain ⟨c, w, e1, e2, e3, e4⟩ := H
      simp only at e1
      have hne : (firstAt (some i) == (-1 : Int)) = false := beq_false_of_ne (by simp only [firstAt]; omega)
      have hw : IntKind.i64.wrap (firstAt (some i) + 1) = ((i + 1 : Nat) : Int) := wrN (by omega)
      have hc : cutFrom c (w : Int) = some (c.drop w) := by unfold cutFrom; rw [if_pos (by omega)]; rfl
      have hc2 : cutTo (clr c (w : Int) (GPlace.mk 0 0 0 0)) (w : Int) = some (xs.filter fun x => !h x) := by
        unfold cutTo
        rw [if_pos (by rw [clr_len]; omega), ← e4]
        unfold clr
        rw [Int.toNat_natCast, List.take_append_of_le_length (by rw [List.length_take]; omega), List.take_take, Nat.min_self]
      rw [bF hne, hw, show firstAt (some i) = (i : Int) from rfl, e1]
      simp only [Option.bind_some, hc, hc2]
      exact ⟨_, rfl⟩
    · rintro n k ⟨c, w0⟩ hk ⟨w, e1, e2, e3, e4, e5⟩
      simp only at e1 e3 e4 e5
      subst e1
      have hx : xs[k]? = some xs[k] := List.getElem?_eq_getElem hk
      have hq : c[k]? = some xs[k] := (e5 k (Nat.le_refl _)).trans hx
      have hwc : c[w]? = some (c[w]'(by omega)) := List.getElem?_eq_getElem _
      have htk : (xs.take (k + 1)).filter (fun x => !h x) = (xs.take k).filter (fun x => !h x) ++ [xs[k]].filter fun x => !h x := by
        rw [List.take_add_one, hx, List.filter_append]; rfl
      cases hd : h xs[k] with
      | false =>
        refine .inl ⟨(c.set w xs[k], ((w + 1 : Nat) : Int)), ?_, w + 1, rfl, by omega, by simp only [List.length_set]; exact e3, ?_, ?_⟩
        · simp only [slices_DeleteFunc_Place_L1, bdT (show (k : Int) < (c.length : Int) by omega), idx_nat, hq, hm, hd, hwc, Option.bind_some, Bool.not_false, cond_true, upd_nat _ (show w < c.length by omega), wrN (show w ≤ 67108864 by omega), wrN (show k ≤ 67108864 by omega)]
        · simp only
          rw [take_set_here (by omega), e4, htk]
          simp [hd]
        · intro j hj
          simp only
          rw [set_keep (by omega)]; exact e5 j (by omega)
      | true =>
        refine .inl ⟨(c, (w : Int)), ?_, w, rfl, by omega, e3, ?_, fun j hj => e5 j (by omega)⟩
        · simp only [slices_DeleteFunc_Place_L1, bdT (show (k : Int) < (c.length : Int) by omega), idx_nat, hq, hm, hd, Option.bind_some, Bool.not_true, cond_false, wrN (show k ≤ 67108864 by omega)]
        · simp only
          rw [e4, htk]
          simp [hd]
    · rintro n ⟨c, w0⟩ ⟨w, e1, e2, e3, e4, e5⟩
      simp only at e1 e3 e4
      subst e1
      rw [List.take_length] at e4
      exact ⟨c, w, by simp only [slices_DeleteFunc_Place_L1, bdF (show ¬ (xs.length : Int) < (c.length : Int) by omega)], by omega, e3, e4⟩
def incP (ev : List Int) : Prop := ∀ k, k + 1 < ev.length → ev.getD k 0 < ev.getD (k + 1) 0
theorem incP_lt {ev : List Int} (h : incP ev) (i : Nat) : ∀ d, i + d + 1 < ev.length → ev.getD i 0 < ev.getD (i + d + 1) 0
  | 0, hd => h i hd
  | d + 1, hd => Int.lt_trans (incP_lt h i d (by omega)) (h (i + d + 1) hd)
theorem incP_ne {ev : List Int} (h : incP ev) {i j : Nat} (hi : i < ev.length) (hj : j < ev.length) (hij : i ≠ j) : ev.getD i 0 ≠ ev.getD j 0 := by
  rcases Nat.lt_or_gt_of_ne hij with h1 | h1
  · have := incP_lt h i (j - i - 1) (by omega)
    rw [show i + (j - i - 1) + 1 = j by omega] at this; omega
  · have := incP_lt h j (i - j - 1) (by omega)
    rw [show j + (i - j - 1) + 1 = i by omega] at this; omega
theorem implInc_is {F : Nat} {ev : List Int} (hF : 134217728 ≤ F) (hl : ev.length ≤ 1048576) (h0 : 1 ≤ ev.length) : ∃ b, impl_increasing F ev = some b ∧ (b = true ↔ incP ev) := by
  by_cases hi : incP ev
  · refine ⟨true, ?_, by simp [hi]⟩
    have H := for_ind (fun n (_ : Unit) i => impl_increasing_L1 F ev n i) ev.length (fun k _ => 1 ≤ k) (fun o => o = some (.inr ())) ?_ ?_ (ev.length - 1) 1 () F (by omega) (Nat.le_refl _) (by omega)
    · unfold impl_increasing
      have H : impl_increasing_L1 F ev F 1 = some (.inr ()) := H
      rw [H]; rfl
    · rintro n k _ hk h1
      obtain ⟨k, rfl⟩ : ∃ q, k = q + 1 := ⟨k - 1, by omega⟩
      refine .inl ⟨(), ?_, by omega⟩
      have := hi k hk
      have hw : IntKind.i64.wrap (((k + 1 : Nat) : Int) - 1) = (k : Int) := by rw [wr (by omega) (by omega)]; omega
      simp only [impl_increasing_L1, bdT (show ((k + 1 : Nat) : Int) < (ev.length : Int) by omega), hw, idx_nat, getD_of (show k < ev.length by omega), getD_of hk, Option.bind_some, bdF (show ¬ ev.getD (k + 1) 0 ≤ ev.getD k 0 by omega), wrN (show k + 1 ≤ 67108864 by omega)]
    · rintro n _ _
      simp only [impl_increasing_L1, bdF (show ¬ (ev.length : Int) < (ev.length : Int) by omega)]
  · refine ⟨false, ?_, by simp [hi]⟩
    have H := for_ind (fun n (_ : Unit) i => impl_increasing_L1 F ev n i) ev.length (fun k _ => 1 ≤ k ∧ ∀ j, j + 1 < k → ev.getD j 0 < ev.getD (j + 1) 0) (fun o => o = some (.inl false)) ?_ ?_ (ev.length - 1) 1 () F (by omega) ⟨Nat.le_refl _, fun j hj => by omega⟩ (by omega)
    · unfold impl_increasing
      have H : impl_increasing_L1 F ev F 1 = some (.inl false) := H
      rw [H]; rfl
    · rintro n k _ hk ⟨h1, h2⟩
      obtain ⟨k, rfl⟩ : ∃ q, k = q + 1 := ⟨k - 1, by omega⟩
      have hw : IntKind.i64.wrap (((k + 1 : Nat) : Int) - 1) = (k : Int) := by rw [wr (by omega) (by omega)]; omega
      by_cases hb : ev.getD (k + 1) 0 ≤ ev.getD k 0
      · refine .inr ?_
        simp only [impl_increasing_L1, bdT (show ((k + 1 : Nat) : Int) < (ev.length : Int) by omega), hw, idx_nat, getD_of (show k < ev.length by omega), getD_of hk, Option.bind_some, bdT hb]
      · refine .inl ⟨(), ?_, by omega, fun j hj => ?_⟩
        · simp only [impl_increasing_L1, bdT (show ((k + 1 : Nat) : Int) < (ev.length : Int) by omega), hw, idx_nat, getD_of (show k < ev.length by omega), getD_of hk, Option.bind_some, bdF hb, wrN (show k + 1 ≤ 67108864 by omega)]
        · by_cases e : j = k
          · subst e; omega
          · exact h2 j (by omega)
    · rintro n _ ⟨_, h2⟩
      exact absurd h2 hi
/-- where an event stands -/
def whr (ev : List Int) (e : Int) : Int := firstAt (ev.findIdx? fun y => e == y)
theorem index_is {F : Nat} {ev : List Int} {e : Int} (hF : 134217728 ≤ F) (hl : ev.length ≤ 1048576) : slices_Index_int64 F ev e = some (whr ev e) := by
  unfold slices_Index_int64
  rw [find_loop (ps := ev) (h := fun y => e == y) (v := fun k => (k : Int)) (L := slices_Index_int64_L1 F ev e) ?_ ?_ (by omega)]
  · unfold whr
    cases ev.findIdx? fun y => e == y <;> rfl
  · intro n k y hk hy
    simp only [slices_Index_int64_L1, bdT (show (k : Int) < (ev.length : Int) by omega), idx_nat, hy, Option.bind_some, wrN (show k ≤ 67108864 by omega)]
  · intro n
    simp only [slices_Index_int64_L1, bdF (show ¬ (ev.length : Int) < (ev.length : Int) by omega)]
theorem whr_at {ev : List Int} (h : incP ev) {i : Nat} (hi : i < ev.length) {e : Int} (he : ev.getD i 0 = e) : whr ev e = (i : Int) := by
  unfold whr
  cases hf : ev.findIdx? fun y => e == y with
  | none =>
    have := List.findIdx?_eq_none_iff.1 hf _ (List.mem_of_getElem? (getD_of hi))
    rw [he, beq_self_eq_true] at this; cases this
  | some j =>
    obtain ⟨hj, h1, _⟩ := List.findIdx?_eq_some_iff_getElem.1 hf
    have h2 : ev.getD j 0 = ev[j] := by rw [List.getD_eq_getElem?_getD, List.getElem?_eq_getElem hj]; rfl
    have h3 : e = ev[j] := by simpa using h1
    by_cases e : j = i
    · subst e; rfl
    · exact absurd (by rw [he, h2, h3]) (incP_ne h hj hi e)
theorem whr_not {ev : List Int} {e : Int} (h : ∀ i, i < ev.length → ev.getD i 0 ≠ e) : whr ev e = -1 := by
  unfold whr
  cases hf : ev.findIdx? fun y => e == y with
  | none => rfl
  | some j =>
    obtain ⟨hj, h1, _⟩ := List.findIdx?_eq_some_iff_getElem.1 hf
    have h2 : ev.getD j 0 = ev[j] := by rw [List.getD_eq_getElem?_getD, List.getElem?_eq_getElem hj]; rfl
    have h3 : e = ev[j] := by simpa using h1
    exact absurd (by rw [h2, h3]) (h j hj)
/-- the table of the reference -/
structure PTab (ev s : List Int) (E k : Nat) : Prop where
  len : s.length = E
  here : ∀ i, i < k → s[(ev.getD i 0).toNat]? = some (i : Int)
  not : ∀ e, e < E → (∀ i, i < k → (ev.getD i 0).toNat ≠ e) → s[e]? = some (-1000000000000000)
def allR (E : Nat) (ev : List Int) : Prop := ∀ x, x ∈ ev → 0 ≤ x ∧ x < (E : Int)
theorem specLoop_good {F E : Nat} {x0 : GEventGraph} {ev : List Int} (hF : 134217728 ≤ F) (hl : ev.length ≤ 1048576) (hE : x0.Events = (E : Int)) (hE1 : 1 ≤ E) (hE2 : E ≤ 10) (ha : allR E ev) (hi : incP ev) :
    ∃ s, spec_PartOfGraph_L1 F x0 ev F (List.replicate E (-1000000000000000)) 0 = some (.inr s) ∧ PTab ev s E ev.length := by
  refine for0 (L := spec_PartOfGraph_L1 F x0 ev) (len := ev.length) (fun k s => PTab ev s E k) (R := fun o => ∃ s, o = some (.inr s) ∧ PTab ev s E ev.length) ?_ ?_ ⟨by simp, fun i hi => by omega, fun e he _ => by rw [List.getElem?_replicate, if_pos he]⟩ (by omega)
  · rintro n k s hk ⟨h1, h2, h3⟩
    have hx := getD_of hk
    obtain ⟨a0, a1⟩ := ha _ (List.mem_of_getElem? hx)
    have hwE : IntKind.i64.wrap (x0.Events - 1) = (E : Int) - 1 := by rw [hE, wr (by omega) (by omega)]
    have hin : inB (ev.getD k 0) 0 ((E : Int) - 1) = true := inB_true.2 ⟨a0, by omega⟩
    have hidx : idx s (ev.getD k 0) = some (s.getD (ev.getD k 0).toNat 0) := getI a0 (by omega)
    have hupd : upd s (ev.getD k 0) (k : Int) = some (s.set (ev.getD k 0).toNat (k : Int)) := upd_int _ a0 (by omega)
    have hcond : (bif decide (0 < (k : Int)) then (idx ev (k : Int)).bind fun q162 => (idx ev (IntKind.i64.wrap ((k : Int) - 1))).bind fun q164 => some (decide (q162 ≤ q164)) else some false) = some false := by
      by_cases hk0 : 0 < k
      · obtain ⟨k, rfl⟩ : ∃ q, k = q + 1 := ⟨k - 1, by omega⟩
        have hw : IntKind.i64.wrap (((k + 1 : Nat) : Int) - 1) = (k : Int) := by rw [wr (by omega) (by omega)]; omega
        have := hi k hk
        rw [bdT (by omega), hw, idx_nat, idx_nat, hx, getD_of (show k < ev.length by omega), Option.bind_some, Option.bind_some, dF (by omega)]
      · rw [bdF (by omega)]
    refine .inl ⟨s.set (ev.getD k 0).toNat (k : Int), ?_, ⟨by rw [List.length_set]; exact h1, fun i hi' => ?_, fun e he hn => ?_⟩⟩
    · simp only [spec_PartOfGraph_L1, bdT (show (k : Int) < (ev.length : Int) by omega)]
      rw [hcond]
      simp only [idx_nat, hx, Option.bind_some, specIn_is, hwE, hin, Bool.not_true, cond_false, hidx, hupd, wrN (show k ≤ 67108864 by omega)]
    · by_cases e : i = k
      · subst e; exact set_here (by omega)
      · have hne := incP_ne hi (show i < ev.length by omega) hk e
        have hxi := ha _ (List.mem_of_getElem? (getD_of (show i < ev.length by omega)))
        rw [set_keep (by omega)]; exact h2 i (by omega)
    · have := hn k (by omega)
      rw [set_keep (Ne.symm this)]; exact h3 e he fun i hi' => hn i (by omega)
  · rintro n s h
    exact ⟨s, by simp only [spec_PartOfGraph_L1, bdF (show ¬ (ev.length : Int) < (ev.length : Int) by omega)], h⟩
theorem specLoop_bad {F E : Nat} {x0 : GEventGraph} {ev : List Int} (hF : 134217728 ≤ F) (hl : ev.length ≤ 1048576) (hE : x0.Events = (E : Int)) (hE1 : 1 ≤ E) (hE2 : E ≤ 10) (hbad : ¬ (allR E ev ∧ incP ev)) :
    spec_PartOfGraph_L1 F x0 ev F (List.replicate E (-1000000000000000)) 0 = some (.inl (⟨0, []⟩, 2)) := by
  refine for0 (L := spec_PartOfGraph_L1 F x0 ev) (len := ev.length) (fun k s => s.length = E ∧ (∀ i, i < k → 0 ≤ ev.getD i 0 ∧ ev.getD i 0 < (E : Int)) ∧ ∀ i, i + 1 < k → ev.getD i 0 < ev.getD (i + 1) 0) (R := fun o => o = some (.inl (⟨0, []⟩, 2))) ?_ ?_ ⟨by simp, fun i hi => by omega, fun i hi => by omega⟩ (by omega)
  · rintro n k s hk ⟨h1, h2, h3⟩
    have hx := getD_of hk
    have hwE : IntKind.i64.wrap (x0.Events - 1) = (E : Int) - 1 := by rw [hE, wr (by omega) (by omega)]
    by_cases hr : 0 ≤ ev.getD k 0 ∧ ev.getD k 0 < (E : Int)
    · have hin : inB (ev.getD k 0) 0 ((E : Int) - 1) = true := inB_true.2 ⟨hr.1, by omega⟩
      have hidx : idx s (ev.getD k 0) = some (s.getD (ev.getD k 0).toNat 0) := getI hr.1 (by omega)
      have hupd : upd s (ev.getD k 0) (k : Int) = some (s.set (ev.getD k 0).toNat (k : Int)) := upd_int _ hr.1 (by omega)
      by_cases hb : 0 < k ∧ ev.getD k 0 ≤ ev.getD (k - 1) 0
      · refine .inr ?_
        have hcond : (bif decide (0 < (k : Int)) then (idx ev (k : Int)).bind fun q162 => (idx ev (IntKind.i64.wrap ((k : Int) - 1))).bind fun q164 => some (decide (q162 ≤ q164)) else some false) = some true := by
          obtain ⟨hk0, hb⟩ := hb
          obtain ⟨k, rfl⟩ : ∃ q, k = q + 1 := ⟨k - 1, by omega⟩
          have hw : IntKind.i64.wrap (((k + 1 : Nat) : Int) - 1) = (k : Int) := by rw [wr (by omega) (by omega)]; omega
          rw [bdT (by omega), hw, idx_nat, idx_nat, hx, getD_of (show k < ev.length by omega), Option.bind_some, Option.bind_some, dT (show ev.getD (k + 1) 0 ≤ ev.getD k 0 from hb)]
        simp only [spec_PartOfGraph_L1, bdT (show (k : Int) < (ev.length : Int) by omega)]
        rw [hcond]
        simp only [idx_nat, hx, Option.bind_some, specIn_is, hwE, hin, Bool.not_true, cond_false, cond_true]
      · have hcond : (bif decide (0 < (k : Int)) then (idx ev (k : Int)).bind fun q162 => (idx ev (IntKind.i64.wrap ((k : Int) - 1))).bind fun q164 => some (decide (q162 ≤ q164)) else some false) = some false := by
          by_cases hk0 : 0 < k
          · obtain ⟨k, rfl⟩ : ∃ q, k = q + 1 := ⟨k - 1, by omega⟩
            have hw : IntKind.i64.wrap (((k + 1 : Nat) : Int) - 1) = (k : Int) := by rw [wr (by omega) (by omega)]; omega
            rw [Nat.add_sub_cancel] at hb
            rw [bdT (by omega), hw, idx_nat, idx_nat, hx, getD_of (show k < ev.length by omega), Option.bind_some, Option.bind_some, dF (by omega)]
          · rw [bdF (by omega)]
        refine .inl ⟨s.set (ev.getD k 0).toNat (k : Int), ?_, by rw [List.length_set]; exact h1, fun i hi' => ?_, fun i hi' => ?_⟩
        · simp only [spec_PartOfGraph_L1, bdT (show (k : Int) < (ev.length : Int) by omega)]
          rw [hcond]
          simp only [idx_nat, hx, Option.bind_some, specIn_is, hwE, hin, Bool.not_true, cond_false, hidx, hupd, wrN (show k ≤ 67108864 by omega)]
        · by_cases e : i = k
          · subst e; exact hr
          · exact h2 i (by omega)
        · by_cases e : i + 1 = k
          · subst e; rw [Nat.add_sub_cancel] at hb; omega
          · exact h3 i (by omega)
    · refine .inr ?_
      have hin : inB (ev.getD k 0) 0 ((E : Int) - 1) = false := inB_false (by omega)
      simp only [spec_PartOfGraph_L1, bdT (show (k : Int) < (ev.length : Int) by omega), idx_nat, hx, Option.bind_some, specIn_is, hwE, hin, Bool.not_false, cond_true]
  · rintro n s ⟨_, h2, h3⟩
    refine absurd ⟨fun x hx => ?_, h3⟩ hbad
    obtain ⟨i, hi, rfl⟩ := List.getElem_of_mem hx
    have := h2 i hi
    rw [List.getD_eq_getElem?_getD, List.getElem?_eq_getElem hi] at this
    exact this
def relW (ev : List Int) (q : GPlace) : GPlace := ⟨whr ev q.From, whr ev q.To, q.Delay, q.Tokens⟩
def keepW (ev : List Int) (q : GPlace) : List GPlace := if 0 ≤ whr ev q.From ∧ 0 ≤ whr ev q.To then [relW ev q] else []
theorem filter_keep (ev : List Int) : ∀ ps : List GPlace, (ps.map (relW ev)).filter (fun x => !(decide (x.From < 0) || decide (x.To < 0))) = ps.flatMap (keepW ev)
  | [] => rfl
  | q :: ps => by
    rw [List.map_cons, List.flatMap_cons, List.filter_cons, filter_keep ev ps]
    unfold keepW
    by_cases h : 0 ≤ whr ev q.From ∧ 0 ≤ whr ev q.To
    · have e : (!(decide ((relW ev q).From < 0) || decide ((relW ev q).To < 0))) = true := by
        rw [dF (show ¬ (relW ev q).From < 0 by simp only [relW]; omega), dF (show ¬ (relW ev q).To < 0 by simp only [relW]; omega)]; rfl
      rw [if_pos e, if_pos h]; rfl
    · have e : ¬ (!(decide ((relW ev q).From < 0) || decide ((relW ev q).To < 0))) = true := by
        intro hh
        rw [Bool.not_eq_true', Bool.or_eq_false_iff, decide_eq_false_iff_not, decide_eq_false_iff_not] at hh
        simp only [relW] at hh
        omega
      rw [if_neg e, if_neg h]; rfl

theorem same_PartOfGraph {F : Nat} {x0 : GEventGraph} {x1 : List Int} (hF : 134217728 ≤ F) (h0 : x0.Places.length ≤ 1048576) (h1 : x1.length ≤ 1048576) :
    ∃ r : GEventGraph × Int, spec_PartOfGraph F x0 x1 = some r ∧ impl_PartOfGraph F x0 x1 = some r ∧ r.1.Places.length ≤ 1048576 := by
  unfold spec_PartOfGraph impl_PartOfGraph
  rw [bind_of (specGraph_is hF h0), bind_of (implGraph_is hF h0)]
  cases hg : graphB x0 with
  | false => exact ⟨(⟨0, []⟩, 1), rfl, rfl, by simp⟩
  | true =>
    obtain ⟨g1, g2, g3, gw, g5⟩ := graphB_true hg
    obtain ⟨E, hE⟩ : ∃ E : Nat, x0.Events = (E : Int) := ⟨x0.Events.toNat, by omega⟩
    have hbot : spec_l02Bottom F 1 x0.Events = some (tabM 1 E fun _ _ => (-1000000000000000)) := by
      rw [hE]; exact specBotM_is (m := 1) hF (by omega) (by omega)
    have hrow : idx (tabM 1 E fun _ _ => (-1000000000000000 : Int)) 0 = some (List.replicate E (-1000000000000000)) := by
      rw [show (0 : Int) = ((0 : Nat) : Int) from rfl, idx_nat, tabM_row (by omega)]
      refine congrArg some (row_of (by simp) fun j hj => ?_).symm
      rw [List.getElem?_replicate, if_pos hj]
    simp only [Bool.not_true, cond_false, hbot, hrow, Option.bind_some, implAllWithin_is hF h1]
    by_cases hgood : allR E x1 ∧ incP x1
    · obtain ⟨s, hs, hP⟩ := specLoop_good (F := F) hF h1 hE (by omega) (by omega) hgood.1 hgood.2
      rw [hs]
      simp only [Option.bind_some]
      have hall : (x1.all fun x => inB x 0 (IntKind.i64.wrap (x0.Events - 1))) = true := List.all_eq_true.2 fun x hx => by
        have := hgood.1 x hx
        rw [gw]; exact inB_true.2 ⟨this.1, by omega⟩
      cases hl : ((x1.length : Int) == 0) with
      | true => exact ⟨(⟨0, []⟩, 2), rfl, rfl, by simp⟩
      | false =>
        have hl0 : 1 ≤ x1.length := by
          have : (x1.length : Int) ≠ 0 := by simpa using hl
          omega
        obtain ⟨b, hb, hbi⟩ := implInc_is hF h1 hl0
        rw [hb, hbi.2 hgood.2, hall]
        simp only [Bool.not_true, cond_false, Option.bind_some]
        have hval : ∀ e : Int, 0 ≤ e → e < (E : Int) → ∃ v, idx s e = some v ∧ ((0 ≤ v ∧ v = whr x1 e) ∨ (v < 0 ∧ whr x1 e < 0)) := by
          intro e e0 e1
          have hge := getI (xs := s) e0 (by rw [hP.len]; exact e1)
          refine ⟨_, hge, ?_⟩
          by_cases hh : ∃ i, i < x1.length ∧ (x1.getD i 0).toNat = e.toNat
          · obtain ⟨i, hi, he⟩ := hh
            have hxi := hgood.1 _ (List.mem_of_getElem? (getD_of hi))
            have he' : x1.getD i 0 = e := by omega
            have hv := hP.here i hi
            rw [he] at hv
            rw [List.getD_eq_getElem?_getD, hv, whr_at hgood.2 hi he', Option.getD_some]
            exact .inl ⟨by omega, rfl⟩
          · have hv := hP.not e.toNat (by omega) fun i hi he => hh ⟨i, hi, he⟩
            rw [List.getD_eq_getElem?_getD, hv, whr_not (fun i hi he => hh ⟨i, hi, by rw [he]⟩), Option.getD_some]
            exact .inr ⟨by decide, by decide⟩
        have S : spec_l19Map F x0 (x1.length : Int) s = some ⟨(x1.length : Int), x0.Places.flatMap (keepW x1)⟩ := by
          unfold spec_l19Map
          rw [grow_loop (ps := x0.Places) (g := keepW x1) (L := spec_l19Map_L1 F x0 s) ?_ ?_ ?_ (by omega)]
          · rfl
          · intro q; unfold keepW; split <;> simp
          · intro n xs k q hk hq hx
            have hq5 := g5 q (List.mem_of_getElem? hq)
            obtain ⟨v1, i1, c1⟩ := hval q.From hq5.1 (by omega)
            obtain ⟨v2, i2, c2⟩ := hval q.To hq5.2.2.1 (by omega)
            have happ : app xs [relW x1 q] = some (xs ++ [relW x1 q]) := app_le (by simp only [List.length_singleton]; omega)
            simp only [spec_l19Map_L1, bdT (show (k : Int) < (x0.Places.length : Int) by omega), idx_nat, hq, Option.bind_some, i1, i2, wrN (show k ≤ 67108864 by omega)]
            rcases c1 with ⟨p1, rfl⟩ | ⟨p1, w1⟩
            · rcases c2 with ⟨p2, rfl⟩ | ⟨p2, w2⟩
              · rw [bdT p1, dT p2, Option.bind_some, cond_true, show (GPlace.mk (whr x1 q.From) (whr x1 q.To) q.Delay q.Tokens) = relW x1 q from rfl, happ, Option.bind_some]
                unfold keepW; rw [if_pos ⟨p1, p2⟩]
              · rw [bdT p1, dF (show ¬ 0 ≤ v2 by omega), Option.bind_some, cond_false]
                unfold keepW; rw [if_neg (by omega), List.append_nil]
            · rw [bdF (show ¬ 0 ≤ v1 by omega), Option.bind_some, cond_false]
              unfold keepW; rw [if_neg (by omega), List.append_nil]
          · intro n xs
            simp only [spec_l19Map_L1, bdF (show ¬ (x0.Places.length : Int) < (x0.Places.length : Int) by omega)]
        have I : impl_mappedGraph F x0 (x1.length : Int) (fun y => impl_PartOfGraph_c1 F y x1) = some ⟨(x1.length : Int), x0.Places.map (relW x1)⟩ := by
          unfold impl_mappedGraph
          rw [grow_loop (ps := x0.Places) (g := fun q => [relW x1 q]) (L := impl_mappedGraph_L1 F x0 (fun y => impl_PartOfGraph_c1 F y x1)) (by simp) ?_ ?_ (by omega)]
          · rw [Option.bind_some, flatMap_one]
          · intro n xs k q hk hq hx
            have happ : app xs [relW x1 q] = some (xs ++ [relW x1 q]) := app_le (by simp only [List.length_singleton]; omega)
            simp only [impl_mappedGraph_L1, impl_PartOfGraph_c1, bdT (show (k : Int) < (x0.Places.length : Int) by omega), idx_nat, hq, Option.bind_some, index_is hF h1, wrN (show k ≤ 67108864 by omega)]
            rw [show (GPlace.mk (whr x1 q.From) (whr x1 q.To) q.Delay q.Tokens) = relW x1 q from rfl, happ]; rfl
          · intro n xs
            simp only [impl_mappedGraph_L1, bdF (show ¬ (x0.Places.length : Int) < (x0.Places.length : Int) by omega)]
        obtain ⟨full, hdel⟩ := delFunc_is (F := F) (xs := x0.Places.map (relW x1)) (m := fun y => impl_PartOfGraph_c2 F y) (h := fun x => decide (x.From < 0) || decide (x.To < 0)) hF (by rw [List.length_map]; exact h0) (fun x => by simp only [impl_PartOfGraph_c2, cond_or, Option.bind_some])
        rw [filter_keep] at hdel
        rw [S, I]
        simp only [Option.bind_some, hdel]
        refine ⟨(⟨(x1.length : Int), x0.Places.flatMap (keepW x1)⟩, 0), rfl, rfl, ?_⟩
        rw [← filter_keep]
        exact Nat.le_trans (List.length_filter_le _ _) (by rw [List.length_map]; omega)
    · rw [specLoop_bad (F := F) hF h1 hE (by omega) (by omega) hgood]
      refine ⟨(⟨0, []⟩, 2), rfl, ?_, by simp⟩
      cases hl : ((x1.length : Int) == 0) with
      | true => rfl
      | false =>
        have hl0 : 1 ≤ x1.length := by
          have : (x1.length : Int) ≠ 0 := by simpa using hl
          omega
        obtain ⟨b, hb, hbi⟩ := implInc_is hF h1 hl0
        cases hall : (x1.all fun x => inB x 0 (IntKind.i64.wrap (x0.Events - 1))) with
        | false => rfl
        | true =>
          have ha : allR E x1 := fun x hx => by
            have := List.all_eq_true.1 hall x hx
            rw [gw] at this
            have := inB_true.1 this
            omega
          have : b = false := by
            cases b with
            | false => rfl
            | true => exact absurd ⟨ha, hbi.1 rfl⟩ hgood
          rw [hb, this]; rfl

/-! ### Lists written over -/
theorem over_loop {α β : Type} {ps : List α} {L : Nat → List α → Int → Option β} {f : α → α} {e : List α → β}
    (hL : ∀ n xs k x, k < ps.length → ps[k]? = some x → xs[k]? = some x → xs.length = ps.length → L (n + 1) xs (k : Int) = L n (xs.set k (f x)) ((k + 1 : Nat) : Int))
    (hE : ∀ n xs, xs.length = ps.length → L (n + 1) xs (ps.length : Int) = some (e xs)) {n : Nat} (hn : ps.length < n) : L n ps 0 = some (e (ps.map f)) := by
  refine for0 (L := L) (len := ps.length) (fun k ys => ys.length = ps.length ∧ (∀ i, i < k → ys[i]? = (ps[i]?).map f) ∧ ∀ i, k ≤ i → ys[i]? = ps[i]?) (R := fun r => r = some (e (ps.map f))) ?_ ?_ ⟨rfl, fun i hi => by omega, fun i _ => rfl⟩ hn
  · intro n k ys hk ⟨hl, hi, hj⟩
    have hx : ps[k]? = some ps[k] := List.getElem?_eq_getElem hk
    refine .inl ⟨_, hL n ys k ps[k] hk hx ((hj k (Nat.le_refl _)).trans hx) hl, by rw [List.length_set]; exact hl, fun i hik => ?_, fun i hik => ?_⟩
    · by_cases h : i = k
      · subst h; rw [set_here (by omega), hx]; rfl
      · rw [set_keep h]; exact hi i (by omega)
    · rw [set_keep (by omega)]; exact hj i (by omega)
  · intro n ys ⟨hl, hi, _⟩
    rw [hE n ys hl, fill_map hl hi]
theorem cloneP {F : Nat} {g : GEventGraph} (hl : g.Places.length ≤ 1048576) : spec_l11Own F g = some g ∧ impl_cloneGraph F g = some g := by
  have ha : app ([] : List GPlace) g.Places = some g.Places := by rw [app_le (by simp only [List.length_nil]; omega)]; rfl
  simp only [spec_l11Own, impl_cloneGraph, slices_Clone_Place, ha, Option.bind_some, and_self]
theorem rev_out {F : Nat} {g : GEventGraph} (hF : 134217728 ≤ F) (hl : g.Places.length ≤ 1048576) :
    (graphB g = false ∧ spec_ReverseGraph F g = some (⟨0, []⟩, 1) ∧ impl_ReverseGraph F g = some (⟨0, []⟩, 1)) ∨
    (graphB g = true ∧ spec_ReverseGraph F g = some (revG g, 0) ∧ impl_ReverseGraph F g = some (revG g, 0)) := by
  unfold spec_ReverseGraph impl_ReverseGraph
  rw [bind_of (specGraph_is hF hl), bind_of (implGraph_is hF hl), (cloneP (F := F) hl).1, (cloneP (F := F) hl).2]
  cases hg : graphB g with
  | false => exact .inl ⟨rfl, rfl, rfl⟩
  | true =>
    have S : spec_ReverseGraph_L1 F F g.Places 0 = some (g.Places.map revP) := by
      refine over_loop (L := spec_ReverseGraph_L1 F) (e := fun xs => xs) ?_ ?_ (by omega)
      · intro n xs k x hk hx hy hxl
        simp only [spec_ReverseGraph_L1, hxl, bdT (show (k : Int) < (g.Places.length : Int) by omega), idx_nat, hy, Option.bind_some, upd_nat _ (show k < xs.length by omega), wrN (show k ≤ 67108864 by omega)]
        rfl
      · intro n xs hxl
        simp only [spec_ReverseGraph_L1, hxl, bdF (show ¬ (g.Places.length : Int) < (g.Places.length : Int) by omega)]
    have I : impl_ReverseGraph_L1 F g F g.Places 0 = some (g.Places.map revP) := by
      refine over_loop (L := impl_ReverseGraph_L1 F g) (e := fun xs => xs) ?_ ?_ (by omega)
      · intro n xs k x hk hx hy hxl
        have h1 : (xs.set k (GPlace.mk x.To x.To x.Delay x.Tokens))[k]? = some (GPlace.mk x.To x.To x.Delay x.Tokens) := set_here (by omega)
        have h2 := upd_nat (xs := xs.set k (GPlace.mk x.To x.To x.Delay x.Tokens)) (k := k) (GPlace.mk x.To x.From x.Delay x.Tokens) (by rw [List.length_set]; omega)
        rw [List.set_set] at h2
        simp only [impl_ReverseGraph_L1, bdT (show (k : Int) < (g.Places.length : Int) by omega), idx_nat, hx, hy, Option.bind_some, upd_nat _ (show k < xs.length by omega), h1, h2, wrN (show k ≤ 67108864 by omega)]
        rfl
      · intro n xs hxl
        simp only [impl_ReverseGraph_L1, bdF (show ¬ (g.Places.length : Int) < (g.Places.length : Int) by omega)]
    simp only [Bool.not_true, cond_false, Option.bind_some, S, I]
    exact .inr ⟨by first | rfl | trivial, rfl, rfl⟩
theorem str_out {F : Nat} {g : GEventGraph} {m : Int} (hF : 134217728 ≤ F) (hl : g.Places.length ≤ 1048576) :
    (∃ c : Int, c ≠ 0 ∧ spec_StretchGraph F g m = some (⟨0, []⟩, c) ∧ impl_StretchGraph F g m = some (⟨0, []⟩, c)) ∨
    (1 ≤ m ∧ m ≤ 1000 ∧ graphB g = true ∧ graphB (strG m g) = true ∧ spec_StretchGraph F g m = some (strG m g, 0) ∧ impl_StretchGraph F g m = some (strG m g, 0)) := by
  unfold spec_StretchGraph impl_StretchGraph
  rw [bind_of (specGraph_is hF hl), bind_of (implGraph_is hF hl), (cloneP (F := F) hl).1, (cloneP (F := F) hl).2]
  cases hg : graphB g with
  | false => exact .inl ⟨1, by decide, rfl, rfl⟩
  | true =>
    simp only [Bool.not_true, cond_false, specIn_is, within_is, Option.bind_some]
    cases hi : inB m 1 1000 with
    | false => exact .inl ⟨2, by decide, rfl, rfl⟩
    | true =>
      obtain ⟨m1, m2⟩ := inB_true.1 hi
      have hw : ∀ x, x ∈ g.Places → IntKind.i64.wrap (x.Delay * m) = x.Delay * m := fun x hx => by
        obtain ⟨r1, r2, r3, r4, r5, r6, r7, r8⟩ := graphB_range hg x hx
        have q1 : x.Delay * m ≤ 1000 * 1000 := Int.mul_le_mul r6 m2 (by omega) (by omega)
        have q2 : 0 ≤ x.Delay * m := Int.mul_nonneg r5 (by omega)
        exact wr (by omega) (by omega)
      have S : spec_StretchGraph_L1 F m F g.Places 0 = some (g.Places.map (strP m)) := by
        refine over_loop (L := spec_StretchGraph_L1 F m) (e := fun xs => xs) ?_ ?_ (by omega)
        · intro n xs k x hk hx hy hxl
          have e : IntKind.i64.wrap (m * x.Delay) = x.Delay * m := by rw [Int.mul_comm, hw x (List.mem_of_getElem? hx)]
          simp only [spec_StretchGraph_L1, hxl, bdT (show (k : Int) < (g.Places.length : Int) by omega), idx_nat, hy, Option.bind_some, e, upd_nat _ (show k < xs.length by omega), wrN (show k ≤ 67108864 by omega)]
          rfl
        · intro n xs hxl
          simp only [spec_StretchGraph_L1, hxl, bdF (show ¬ (g.Places.length : Int) < (g.Places.length : Int) by omega)]
      have I : impl_StretchGraph_L1 F m g F g.Places 0 = some (g.Places.map (strP m)) := by
        refine over_loop (L := impl_StretchGraph_L1 F m g) (e := fun xs => xs) ?_ ?_ (by omega)
        · intro n xs k x hk hx hy hxl
          have e : IntKind.i64.wrap (x.Delay * m) = x.Delay * m := hw x (List.mem_of_getElem? hx)
          simp only [impl_StretchGraph_L1, bdT (show (k : Int) < (g.Places.length : Int) by omega), idx_nat, hy, Option.bind_some, e, upd_nat _ (show k < xs.length by omega), wrN (show k ≤ 67108864 by omega)]
          rfl
        · intro n xs hxl
          simp only [impl_StretchGraph_L1, bdF (show ¬ (g.Places.length : Int) < (g.Places.length : Int) by omega)]
      have eS : GEventGraph.mk g.Events (g.Places.map (strP m)) = strG m g := rfl
      have hsl : (strG m g).Places.length ≤ 1048576 := by show (g.Places.map _).length ≤ _; rw [List.length_map]; exact hl
      simp only [Bool.not_true, cond_false, Option.bind_some, S, I, eS, specResult_is hF hsl, implResult_is hF hsl]
      cases hj : graphB (strG m g) with
      | false => exact .inl ⟨3, by decide, rfl, rfl⟩
      | true => exact .inr ⟨m1, m2, by first | rfl | trivial, by first | exact hj | trivial, rfl, rfl⟩
/-! ### Back again -/
structure BackOk (p s : List Int) (k : Nat) : Prop where
  len : s.length = p.length
  low : ∀ v, v ∈ s → 0 ≤ v ∧ (v = 0 ∨ v < (k : Int))
  at_ : ∀ i, i < k → s.getD (p.getD i 0).toNat 0 = (i : Int)
theorem perm_facts {p : List Int} {e : Int} (h : permB e p = true) (he : 1 ≤ e) (he2 : e ≤ 10) : (p.length : Int) = e ∧ (∀ i, i < p.length → 0 ≤ p.getD i 0 ∧ p.getD i 0 < e) ∧ ∀ i j, i < p.length → j < p.length → p.getD i 0 = p.getD j 0 → i = j := by
  unfold permB at h
  simp only [Bool.and_eq_true, beq_iff_eq, List.all_eq_true, List.mem_range] at h
  obtain ⟨h1, h2, h3⟩ := h
  have hw : IntKind.i64.wrap (e - 1) = e - 1 := wr (by omega) (by omega)
  have key : ∀ i j, j < p.length → i < j → p.getD i 0 = p.getD j 0 → False := fun i j hj hij heq => by
    have h4 := h3 j hj
    unfold dupB at h4
    rw [Bool.not_eq_true', List.any_eq_false] at h4
    refine h4 (p.getD i 0) ?_ (beq_iff_eq.2 heq)
    refine List.mem_of_getElem? (i := i) ?_
    rw [List.getElem?_take, if_pos hij, getD_of (by omega)]
  refine ⟨h1, fun i hi => ?_, fun i j hi hj heq => ?_⟩
  · have := inB_true.1 (h2 _ (List.mem_of_getElem? (getD_of hi)))
    rw [hw] at this
    omega
  · rcases Nat.lt_trichotomy i j with h | h | h
    · exact (key i j hj h heq).elim
    · exact h
    · exact (key j i hi h heq.symm).elim
theorem permB_of {p : List Int} {e : Int} (he : 1 ≤ e) (he2 : e ≤ 10) (h1 : (p.length : Int) = e) (h2 : ∀ i, i < p.length → 0 ≤ p.getD i 0 ∧ p.getD i 0 < e) (h3 : ∀ i j, i < p.length → j < p.length → p.getD i 0 = p.getD j 0 → i = j) : permB e p = true := by
  have hw : IntKind.i64.wrap (e - 1) = e - 1 := wr (by omega) (by omega)
  unfold permB
  simp only [Bool.and_eq_true, beq_iff_eq, List.all_eq_true, List.mem_range]
  refine ⟨h1, fun x hx => ?_, fun k hk => ?_⟩
  · obtain ⟨i, hi, rfl⟩ := List.getElem_of_mem hx
    have := h2 i hi
    rw [List.getD_eq_getElem?_getD, List.getElem?_eq_getElem hi, Option.getD_some] at this
    rw [hw]
    exact inB_true.2 ⟨this.1, by omega⟩
  · unfold dupB
    rw [Bool.not_eq_true', List.any_eq_false]
    intro x hx hxe
    obtain ⟨i, hi, rfl⟩ := List.getElem_of_mem hx
    rw [List.length_take] at hi
    have hxe : (p.take k)[i] = p.getD k 0 := by simpa using hxe
    rw [List.getElem_take] at hxe
    have := h3 i k (by omega) hk (by rw [← hxe, List.getD_eq_getElem?_getD, List.getElem?_eq_getElem (by omega)]; rfl)
    omega
theorem back_loop {F : Nat} {p : List Int} {e : Int} {r0 : GEventGraph} (hF : 134217728 ≤ F) (h : permB e p = true) (he : 1 ≤ e) (he2 : e ≤ 10) : ∃ s, laws_FnReversed_L2 F (r0, p) F (List.replicate p.length 0) 0 = some s ∧ BackOk p s p.length := by
  obtain ⟨h1, h2, h3⟩ := perm_facts h he he2
  refine for0 (L := laws_FnReversed_L2 F (r0, p)) (len := p.length) (fun k s => BackOk p s k) (R := fun o => ∃ s, o = some s ∧ BackOk p s p.length) ?_ ?_ ⟨List.length_replicate, fun v hv => ?_, fun i hi => by omega⟩ (by omega)
  · rintro n k s hk ⟨s1, s2, s3⟩
    obtain ⟨q0, q1⟩ := h2 k hk
    have hx := getD_of hk
    have hq : p.getD k 0 = (((p.getD k 0).toNat : Nat) : Int) := by omega
    have hlt : (p.getD k 0).toNat < s.length := by omega
    have e1 : idx s (p.getD k 0) = some (s.getD (p.getD k 0).toNat 0) := by rw [hq, idx_nat, Int.toNat_natCast, getD_of hlt]
    have e2 : upd s (p.getD k 0) (k : Int) = some (s.set (p.getD k 0).toNat (k : Int)) := by
      have := upd_nat (xs := s) (k := (p.getD k 0).toNat) (k : Int) hlt
      rw [← hq] at this
      exact this
    refine .inl ⟨s.set (p.getD k 0).toNat (k : Int), ?_, by rw [List.length_set]; exact s1, fun v hv => ?_, fun i hi => ?_⟩
    · simp only [laws_FnReversed_L2, bdT (show (k : Int) < (p.length : Int) by omega), idx_nat, hx, Option.bind_some, e1, e2, wrN (show k ≤ 67108864 by omega)]
    · rcases List.mem_or_eq_of_mem_set hv with hv | rfl
      · have := s2 v hv; omega
      · omega
    · rw [List.getD_eq_getElem?_getD, List.getElem?_set]
      by_cases hik : i = k
      · subst hik; rw [if_pos rfl, if_pos hlt, Option.getD_some]
      · have hne : (p.getD k 0).toNat ≠ (p.getD i 0).toNat := fun hh => hik (h3 i k (by omega) hk (by have := h2 i (by omega); omega))
        rw [if_neg hne, ← List.getD_eq_getElem?_getD]
        exact s3 i (by omega)
  · rintro n s hs
    exact ⟨s, by simp only [laws_FnReversed_L2, bdF (show ¬ (p.length : Int) < (p.length : Int) by omega)], hs⟩
  · have := (List.mem_replicate.1 hv).2
    omega
theorem back_perm {p s : List Int} {e : Int} (h : permB e p = true) (he : 1 ≤ e) (he2 : e ≤ 10) (hs : BackOk p s p.length) : permB e s = true := by
  obtain ⟨h1, h2, h3⟩ := perm_facts h he he2
  have hsurj : ∀ v, v < p.length → ∃ i, i < p.length ∧ (p.getD i 0).toNat = v := fun v hv => by
    have hnd : (p.map Int.toNat).Nodup := by
      rw [List.nodup_iff_pairwise_ne, List.pairwise_iff_getElem]
      intro i j hi hj hij heq
      rw [List.length_map] at hi hj
      rw [List.getElem_map, List.getElem_map] at heq
      have a := h2 i hi
      have b := h2 j hj
      have := h3 i j hi hj
      simp only [List.getD_eq_getElem?_getD, List.getElem?_eq_getElem hi, List.getElem?_eq_getElem hj, Option.getD_some] at a b this
      have := this (by omega)
      omega
    have hm := full_mem (n := p.length) hnd (fun x hx => by
      obtain ⟨y, hy, rfl⟩ := List.mem_map.1 hx
      obtain ⟨i, hi, rfl⟩ := List.getElem_of_mem hy
      have a := h2 i hi
      simp only [List.getD_eq_getElem?_getD, List.getElem?_eq_getElem hi, Option.getD_some] at a
      omega) (List.length_map ..) hv
    obtain ⟨y, hy, hy2⟩ := List.mem_map.1 hm
    obtain ⟨i, hi, rfl⟩ := List.getElem_of_mem hy
    exact ⟨i, hi, by rw [List.getD_eq_getElem?_getD, List.getElem?_eq_getElem hi]; exact hy2⟩
  refine permB_of he he2 (by rw [hs.len]; exact h1) (fun i hi => ?_) fun i j hi hj heq => ?_
  · have := hs.low _ (List.mem_of_getElem? (getD_of hi))
    omega
  · rw [hs.len] at hi hj
    obtain ⟨a, ha, rfl⟩ := hsurj i hi
    obtain ⟨b, hb, rfl⟩ := hsurj j hj
    rw [hs.at_ a ha, hs.at_ b hb] at heq
    have : a = b := by omega
    rw [this]
theorem back_graph {g : GEventGraph} {p s : List Int} (hg : graphB g = true) (h : permB g.Events p = true) (hs : BackOk p s p.length) : graphB (relG p g) = true ∧ relG s (relG p g) = g := by
  obtain ⟨g1, g2, g3, gw, g5⟩ := graphB_true hg
  obtain ⟨h1, h2, h3⟩ := perm_facts h g1 g2
  constructor
  · refine graphB_of g1 g2 (by show (g.Places.map (relP p)).length ≤ 30; rw [List.length_map]; exact g3) fun q hq => ?_
    obtain ⟨x, hx, rfl⟩ := List.mem_map.1 hq
    obtain ⟨r1, r2, r3, r4, r5, r6, r7, r8⟩ := graphB_range hg x hx
    have a := h2 x.From.toNat (by omega)
    have b := h2 x.To.toNat (by omega)
    exact ⟨a.1, a.2, b.1, b.2, r5, r6, r7, r8⟩
  · have hm : (g.Places.map (relP p)).map (relP s) = g.Places := by
      rw [List.map_map]
      conv => rhs; rw [← List.map_id g.Places]
      refine List.map_congr_left fun x hx => ?_
      obtain ⟨r1, r2, r3, r4⟩ := g5 x hx
      have a := hs.at_ x.From.toNat (by omega)
      have b := hs.at_ x.To.toNat (by omega)
      show GPlace.mk (s.getD (p.getD x.From.toNat 0).toNat 0) (s.getD (p.getD x.To.toNat 0).toNat 0) x.Delay x.Tokens = x
      rw [a, b, show ((x.From.toNat : Nat) : Int) = x.From by omega, show ((x.To.toNat : Nat) : Int) = x.To by omega]
    show GEventGraph.mk g.Events ((g.Places.map (relP p)).map (relP s)) = g
    rw [hm]
/-! ### Draws -/
theorem cutFrom_tot {α : Type} {xs : List α} {l : Int} (h0 : 0 ≤ l) (h1 : l ≤ (xs.length : Int)) : Tot (fun ys => ys = xs.drop l.toNat) (cutFrom xs l) := by
  refine ⟨_, ?_, rfl⟩
  unfold cutFrom; rw [if_pos ⟨h0, h1⟩]
theorem cutTo_tot' {α : Type} {xs : List α} {l : Int} (h0 : 0 ≤ l) (h1 : l ≤ (xs.length : Int)) : Tot (fun ys => ys = xs.take l.toNat) (cutTo xs l) := by
  refine ⟨_, ?_, rfl⟩
  unfold cutTo; rw [if_pos ⟨h0, h1⟩]
theorem order_tot {F : Nat} {code : List Int} {N : Nat} (hc : COk code) (hN : N ≤ 100) : ∀ (d k f : Nat) (p s : Int) (xs : List Int), k + d = N → d < f → xs.length = k → SOk code p s → Tot (fun r : Int × Int × List Int => SOk code r.1 r.2.1 ∧ r.2.2.length ≤ 100) (spec_l19DrawOrder_L1 F code (N : Int) f p s xs (k : Int)) := by
  intro d
  induction d with
  | zero =>
    intro k f p s xs hk hf hx hs
    obtain ⟨f, rfl⟩ : ∃ q, f = q + 1 := ⟨f - 1, by omega⟩
    simp only [spec_l19DrawOrder_L1]
    rw [bdF (by omega)]
    exact Tot.pure ⟨hs, by simp only; omega⟩
  | succ d ih =>
    intro k f p s xs hk hf hx hs
    obtain ⟨f, rfl⟩ : ∃ q, f = q + 1 := ⟨f - 1, by omega⟩
    simp only [spec_l19DrawOrder_L1]
    rw [bdT (by omega), wrN (show k ≤ 67108864 by omega)]
    refine Tot.bind (next_tot hc hs) fun r h => ?_
    obtain ⟨h1, h2, h3⟩ := h
    refine Tot.bind (P := fun ys : List Int => ys.length = k + 1) ?_ fun ys hy => ih (k + 1) f _ _ ys (by omega) (by omega) hy h1
    refine Tot.bind (cutTo_tot' h2 (by omega)) fun a ha => Tot.bind (cutFrom_tot h2 (by omega)) fun b hb => ?_
    have hal : a.length + b.length = k := by rw [ha, hb, List.length_take, List.length_drop]; omega
    unfold spec_l01Own
    refine Tot.bind (P := fun zs : List Int => zs = a) (Tot.bind (app_tot (by simp only [List.length_nil]; omega)) fun zs hz => Tot.pure (by rw [hz]; rfl)) fun zs hz => ?_
    subst hz
    refine Tot.bind (app_tot (by simp only [List.length_singleton]; omega)) fun c hc => Tot.bind (app_tot (by rw [hc]; simp only [List.length_append, List.length_singleton]; omega)) fun d hd => Tot.pure ?_
    rw [hd, hc]
    simp only [List.length_append, List.length_singleton]
    omega
theorem part_tot {F : Nat} {code : List Int} {N : Nat} {r5 : GEventGraph × Int × Int} (hc : COk code) (hN : N ≤ 100) (hr : r5.1.Events = (N : Int)) : ∀ (d k f : Nat) (p s : Int) (xs : List Int), k + d = N → d < f → xs.length ≤ k → SOk code p s → Tot (fun r : Int × Int × List Int => SOk code r.1 r.2.1 ∧ r.2.2.length ≤ 100) (spec_DrawPartOfGraph_L1 F code r5 f p s xs (k : Int)) := by
  intro d
  induction d with
  | zero =>
    intro k f p s xs hk hf hx hs
    obtain ⟨f, rfl⟩ : ∃ q, f = q + 1 := ⟨f - 1, by omega⟩
    simp only [spec_DrawPartOfGraph_L1]
    rw [bdF (by omega)]
    exact Tot.pure ⟨hs, by simp only; omega⟩
  | succ d ih =>
    intro k f p s xs hk hf hx hs
    obtain ⟨f, rfl⟩ : ∃ q, f = q + 1 := ⟨f - 1, by omega⟩
    simp only [spec_DrawPartOfGraph_L1]
    rw [bdT (by omega), wrN (show k ≤ 67108864 by omega)]
    refine Tot.bind (next_tot hc hs) fun r h => ?_
    refine Tot.cond (fun _ => ?_) fun _ => ih (k + 1) f _ _ xs (by omega) (by omega) (by omega) h.1
    refine Tot.bind (app_tot (by simp only [List.length_singleton]; omega)) fun ys hy => ih (k + 1) f _ _ ys (by omega) (by omega) (by rw [hy, List.length_append, List.length_singleton]; omega) h.1

theorem law_Reversed {F : Nat} {x0 : List Int} (hF0 : 9223372036854775808 ≤ F) (_ : x0.length ≤ 9223372036854775807) (hb : ∀ y, y ∈ x0 → 0 ≤ y ∧ y ≤ 255) : laws_FnReversed F x0 = some true := by
  have hF : 134217728 ≤ F := by omega
  unfold laws_FnReversed laws_big
  by_cases hbig : (4096 : Int) < (x0.length : Int)
  · simp only [Option.bind_some, dT hbig, cond_true]
  simp only [Option.bind_some, dF hbig, cond_false]
  have hc : COk x0 := ⟨by omega, hb⟩
  obtain ⟨g, hd1, a0⟩ : Tot (fun r : GEventGraph => r.Places.length ≤ 100) (spec_DrawReverseGraph F x0) := by
    unfold spec_DrawReverseGraph
    exact Tot.bind (from_tot hF hc) fun r2 h2 => Tot.bind (l11Draw_tot hF hc h2) fun r5 h5 => Tot.pure h5.2.1
  obtain ⟨⟨h, m⟩, hd2, b0⟩ : Tot (fun r : GEventGraph × Int => r.1.Places.length ≤ 100) (spec_DrawStretchGraph F x0) := by
    unfold spec_DrawStretchGraph
    exact Tot.bind (from_tot hF hc) fun r2 h2 => Tot.bind (l11Draw_tot hF hc h2) fun r5 h5 => Tot.bind (next_tot hc h5.1) fun r6 h6 => Tot.cond (fun _ => Tot.bind (pick_tot hc h6.1 (by simp)) fun r7 h7 => Tot.pure h5.2.1) fun _ => Tot.bind (next_tot hc h6.1) fun r7 h7 => Tot.pure h5.2.1
  obtain ⟨⟨r, p⟩, hd3, c0, c1⟩ : Tot (fun r : GEventGraph × List Int => r.1.Places.length ≤ 100 ∧ r.2.length ≤ 200) (spec_DrawRelabelGraph F x0) := by
    unfold spec_DrawRelabelGraph spec_l19DrawOrder
    refine Tot.bind (from_tot hF hc) fun r2 h2 => Tot.bind (l11Draw_tot hF hc h2) fun r5 h5 => ?_
    obtain ⟨N, hN⟩ : ∃ N : Nat, r5.1.Events = (N : Int) := ⟨r5.1.Events.toNat, by omega⟩
    refine Tot.bind (P := fun r : List Int × Int × Int => SOk x0 r.2.1 r.2.2 ∧ r.1.length ≤ 100) ?_ fun r12 h12 => ?_
    · rw [hN]
      exact Tot.bind (order_tot hc (by omega) N 0 F _ _ [] (by omega) (by omega) rfl h5.1) fun r6 h6 => Tot.pure h6
    · refine Tot.bind (next_tot hc h12.1) fun r6 h6 => Tot.cond (fun _ => ?_) fun _ => Tot.cond (fun _ => Tot.cond (fun hlt => ?_) fun _ => Tot.pure ⟨h5.2.1, by simp only; omega⟩) fun _ => Tot.pure ⟨h5.2.1, by simp only; omega⟩
      · exact Tot.bind (pick_tot hc h6.1 (by simp)) fun r7 h7 => Tot.bind (app_tot (by simp only [List.length_singleton]; omega)) fun ys hy => Tot.pure ⟨h5.2.1, by simp only; rw [hy, List.length_append, List.length_singleton]; omega⟩
      · have hlt := of_decide_eq_true hlt
        exact Tot.bind (pick_tot hc h6.1 (by simp)) fun r7 h7 => Tot.bind (idx_tot (by decide) hlt) fun _ _ => Tot.bind (upd_tot (by decide) hlt) fun ys hy => Tot.pure ⟨h5.2.1, by simp only; omega⟩
  obtain ⟨⟨d, ev⟩, hd4, d0, d1⟩ : Tot (fun r : GEventGraph × List Int => r.1.Places.length ≤ 100 ∧ r.2.length ≤ 200) (spec_DrawPartOfGraph F x0) := by
    unfold spec_DrawPartOfGraph
    refine Tot.bind (from_tot hF hc) fun r2 h2 => Tot.bind (l11Draw_tot hF hc h2) fun r5 h5 => ?_
    obtain ⟨N, hN⟩ : ∃ N : Nat, r5.1.Events = (N : Int) := ⟨r5.1.Events.toNat, by omega⟩
    refine Tot.bind (part_tot (N := N) hc (by omega) hN N 0 F _ _ [] (by omega) (by omega) (Nat.zero_le _) h5.1) fun r6 h6 => ?_
    obtain ⟨y1, y2, y3⟩ := r6
    simp only at h6
    refine Tot.bind (next_tot hc h6.1) fun r7 h7 => ?_
    refine Tot.bind (P := fun ys : List Int => ys.length ≤ 200) (Tot.cond (fun _ => Tot.bind (pick_tot hc h7.1 (by simp)) fun r8 h8 => Tot.bind (app_tot (by simp only [List.length_singleton]; omega)) fun ys hy => Tot.pure (by rw [hy, List.length_append, List.length_singleton]; omega)) fun _ => Tot.pure (by omega)) fun ys hy => Tot.pure ⟨h5.2.1, hy⟩
  simp only at a0 b0 c0 c1 d0 d1
  have eg : ∀ q : GEventGraph, GEventGraph.mk q.Events q.Places = q := fun _ => rfl
  have hnil : laws_likeGraphs9 F ⟨0, []⟩ ⟨0, []⟩ = some true := lkG hF (by simp)
  have lk1 : ∀ q : GEventGraph, graphB q = true → laws_likeGraphs9 F q q = some true := fun q hq => lkG hF (by obtain ⟨_, _, h3, _⟩ := graphB_true hq; omega)
  obtain ⟨G, j1, p1, p2, p3, p4⟩ : ∃ G c, spec_ReverseGraph F g = some (G, c) ∧ impl_ReverseGraph F g = some (G, c) ∧ laws_likeGraphs9 F G G = some true ∧ (c = 0 → G = revG g ∧ graphB g = true) := by
    rcases rev_out (F := F) (g := g) hF (by omega) with ⟨_, h1, h2⟩ | ⟨g1, h1, h2⟩
    · exact ⟨_, _, h1, h2, hnil, fun h => by omega⟩
    · exact ⟨_, _, h1, h2, lk1 _ (revG_ok g1), fun _ => ⟨rfl, g1⟩⟩
  obtain ⟨S, s1, q1, q2, q3, q4⟩ : ∃ S c, spec_StretchGraph F h m = some (S, c) ∧ impl_StretchGraph F h m = some (S, c) ∧ laws_likeGraphs9 F S S = some true ∧ (c = 0 → S = strG m h ∧ 1 ≤ m ∧ m ≤ 1000 ∧ graphB h = true ∧ graphB (strG m h) = true) := by
    rcases str_out (F := F) (g := h) (m := m) hF (by omega) with ⟨c, h0, h1, h2⟩ | ⟨m1, m2, g1, g2, h1, h2⟩
    · exact ⟨_, _, h1, h2, hnil, fun h => absurd h h0⟩
    · exact ⟨_, _, h1, h2, lk1 _ g2, fun _ => ⟨rfl, m1, m2, g1, g2⟩⟩
  obtain ⟨Z, z1, t1, t2, t3, t4⟩ : ∃ Z c, spec_RelabelGraph F r p = some (Z, c) ∧ impl_RelabelGraph F r p = some (Z, c) ∧ laws_likeGraphs9 F Z Z = some true ∧ (c = 0 → Z = relG p r ∧ graphB r = true ∧ permB r.Events p = true) := by
    rcases rel_out (F := F) (x0 := r) (x1 := p) hF (by omega) (by omega) with ⟨c, h0, _, h1, h2⟩ | ⟨g1, g2, h1, h2⟩
    · exact ⟨_, _, h1, h2, hnil, fun h => absurd h h0⟩
    · exact ⟨_, _, h1, h2, lkG hF (by show (r.Places.map _).length ≤ _; rw [List.length_map]; omega), fun _ => ⟨rfl, g1, g2⟩⟩
  obtain ⟨⟨D, e1⟩, v1, v2, v3⟩ := same_PartOfGraph (F := F) (x0 := d) (x1 := ev) hF (by omega) (by omega)
  have v4 : laws_likeGraphs9 F D D = some true := lkG hF v3
  simp only [hd1, hd2, hd3, hd4, Option.bind_some, eg, p1, p2, q1, q2, t1, t2, v1, v2, bne_self_eq_false, cond_false, p3, q3, t3, v4, Bool.not_true]
  refine (bind_of (?_ : _ = some (Sum.inr ()))).trans ?_
  · by_cases hz : z1 = 0
    · obtain ⟨rfl, e1, e2⟩ := t4 hz
      rw [bT (show (z1 == 0) = true by simp [hz])]
      obtain ⟨g1, g2, g3, _, _⟩ := graphB_true e1
      have hpl := (perm_facts e2 g1 g2).1
      obtain ⟨s, hs, hB⟩ := back_loop (F := F) (r0 := r) hF e2 g1 g2
      obtain ⟨k1, k2⟩ := back_graph e1 e2 hB
      have k3 : permB (relG p r).Events s = true := back_perm e2 g1 g2 hB
      have hsl := hB.len
      have hmk : mk (p.length : Int) (0 : Int) = some (List.replicate p.length 0) := mk_nat 0 (by omega)
      have hI : impl_RelabelGraph F (relG p r) s = some (r, 0) := by
        rcases rel_out (F := F) (x0 := relG p r) (x1 := s) hF (by show (r.Places.map _).length ≤ _; rw [List.length_map]; omega) (by omega) with ⟨c, h0, hh, h1, h2⟩ | ⟨_, _, h1, h2⟩
        · rw [k1, k3] at hh
          rcases hh with hh | hh <;> cases hh
        · rw [h2, k2]
      simp only [hmk, hs, Option.bind_some, hI, bne_self_eq_false, cond_false, lk1 r e1, Bool.not_true]
    · rw [bF (show (z1 == 0) = false by simp [hz])]
  simp only
  rw [cond_and, Option.bind_some]
  refine (bind_of (?_ : _ = some (Sum.inr ()))).trans ?_
  · cases hb : (s1 == 0 && decide ((h.Places.length : Int) < 16)) with
    | false => rfl
    | true =>
      rw [cond_true]
      rw [Bool.and_eq_true] at hb
      have hs0 : s1 = 0 := by simpa using hb.1
      obtain ⟨rfl, m1, m2, e1, e2⟩ := q4 hs0
      obtain ⟨r1, k, hr, hk⟩ := cyt_is hF e1
      obtain ⟨r', k', hr', hk'⟩ := cyt_is hF e2
      obtain ⟨e, he⟩ := str_same e1 e2 (by omega) hk hk'
      subst e
      simp only [hr, hr', Option.bind_some, bne_self_eq_false, cond_false]
      by_cases h0 : k = 0
      · obtain ⟨w1, ⟨b1, b2, b3, b4⟩, b5, b6, b7, b8⟩ := he h0
        rw [bT (show (k == 0) = true by simp [h0])]
        have n1 : m * r1.Num ≤ 1000 * 10000 := Int.mul_le_mul m2 b2 b1 (by omega)
        have n0 : 0 ≤ m * r1.Num := Int.mul_nonneg (by omega) b1
        rw [wr (n := m * r1.Num) (by omega) (by omega), ← w1]
        simp only [bne_self_eq_false, Option.bind_some, cond_false]
      · rw [bF (show (k == 0) = false by simp [h0])]; rfl
  simp only
  by_cases hj : j1 = 0
  · rw [bF (neF hj), Option.bind_some]
    by_cases h16 : (16 : Int) < (g.Places.length : Int)
    · rw [bdT h16]
    · rw [bdF h16]
      obtain ⟨rfl, e1⟩ := p4 hj
      obtain ⟨r1, k, hr, hk⟩ := cyt_is hF e1
      obtain ⟨r', k', hr', hk'⟩ := cyt_is hF (revG_ok e1)
      obtain ⟨e, e'⟩ := rev_same e1 hk hk'
      subst e e'
      simp only [hr, hr', Option.bind_some, beq_self_eq_true, cond_true, Bool.and_self]
  · rw [bT (neT hj)]; rfl

end Go.Proofs.Ytgkgimglgjfcjaa
