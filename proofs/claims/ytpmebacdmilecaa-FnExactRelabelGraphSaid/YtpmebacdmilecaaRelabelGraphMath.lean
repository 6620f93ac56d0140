/- The reference and the program answer alike. -/
import Derived.Test.YtpmebacdmilecaaRelabelGraphSmall
namespace Go.Proofs.Ytpmebacdmilecaa

theorem specHas_is {F : Nat} {xs : List Int} {x : Int} (hF : 134217728 ≤ F) (hl : xs.length ≤ 1048576) : spec_l01Has F xs x = some (xs.any fun y => y == x) := by
  unfold spec_l01Has
  rw [all_loop (ps := xs) (g := fun y => !(y == x)) (r := true) (L := spec_l01Has_L1 F xs x) ?_ ?_ (by omega)]
  · have := any_not (g := fun y => !(y == x)) xs
    simp only [Bool.not_not] at this
    rw [this]
    cases xs.all (fun y => !(y == x)) <;> rfl
  · intro n k y hk hy
    simp only [spec_l01Has_L1, bdT (show (k : Int) < (xs.length : Int) by omega), idx_nat, hy, Option.bind_some, condn, wrN (show k ≤ 67108864 by omega)]
  · intro n
    simp only [spec_l01Has_L1, bdF (show ¬ (xs.length : Int) < (xs.length : Int) by omega)]
theorem implHas_is {F : Nat} {xs : List Int} {x : Int} (hF : 134217728 ≤ F) (hl : xs.length ≤ 1048576) : slices_Contains_int64 F xs x = some (xs.any fun y => y == x) := by
  unfold slices_Contains_int64 slices_Index_int64
  rw [find_loop (ps := xs) (h := fun y => x == y) (v := fun k => (k : Int)) (L := slices_Index_int64_L1 F xs x) ?_ ?_ (by omega)]
  · have e : (xs.any fun y => y == x) = decide ((0 : Int) ≤ firstAt (xs.findIdx? fun y => x == y)) := by
      rw [find_any]
      congr 1; funext y
      by_cases h : x = y
      · subst h; rfl
      · rw [beq_false_of_ne h, beq_false_of_ne (Ne.symm h)]
    rw [e]
    cases xs.findIdx? fun y => x == y <;> rfl
  · intro n k y hk hy
    simp only [slices_Index_int64_L1, bdT (show (k : Int) < (xs.length : Int) by omega), idx_nat, hy, Option.bind_some, wrN (show k ≤ 67108864 by omega)]
  · intro n
    simp only [slices_Index_int64_L1, bdF (show ¬ (xs.length : Int) < (xs.length : Int) by omega)]
theorem cutTo_nat {xs : List Int} {k : Nat} (h : k ≤ xs.length) : cutTo xs (k : Int) = some (xs.take k) := by
  unfold cutTo; rw [if_pos ⟨by omega, by omega⟩]; rfl
def dupB (p : List Int) (k : Nat) : Bool := (p.take k).any fun y => y == p.getD k 0
def permB (e : Int) (p : List Int) : Bool := ((p.length : Int) == e) && ((p.all fun x => inB x 0 (IntKind.i64.wrap (e - 1))) && (List.range p.length).all fun k => !dupB p k)
theorem specPerm_is {F : Nat} {p : List Int} {e : Int} (hF : 134217728 ≤ F) (hl : p.length ≤ 1048576) : spec_l19Permutes F p e = some (permB e p) := by
  unfold spec_l19Permutes
  rw [all_loop (ps := List.range p.length) (g := fun k => inB (p.getD k 0) 0 (IntKind.i64.wrap (e - 1)) && !dupB p k) (r := false) (L := spec_l19Permutes_L1 F p e) ?_ ?_ (by rw [List.length_range]; omega)]
  · have h : ((List.range p.length).all fun k => inB (p.getD k 0) 0 (IntKind.i64.wrap (e - 1)) && !dupB p k) = ((p.all fun x => inB x 0 (IntKind.i64.wrap (e - 1))) && (List.range p.length).all fun k => !dupB p k) := by
      apply Bool.eq_iff_iff.2
      rw [Bool.and_eq_true, List.all_eq_true, List.all_eq_true, List.all_eq_true]
      constructor
      · intro H
        refine ⟨fun x hx => ?_, fun k hk => ?_⟩
        · obtain ⟨i, hi, rfl⟩ := List.getElem_of_mem hx
          have := H i (by simpa using hi)
          rw [Bool.and_eq_true, List.getD_eq_getElem?_getD, List.getElem?_eq_getElem hi] at this
          exact this.1
        · have := H k hk
          rw [Bool.and_eq_true] at this
          exact this.2
      · rintro ⟨H1, H2⟩ k hk
        rw [Bool.and_eq_true]
        exact ⟨H1 _ (List.mem_of_getElem? (getD_of (by simpa using hk))), H2 k hk⟩
    rw [h]
    unfold permB
    cases ((p.all fun x => inB x 0 (IntKind.i64.wrap (e - 1))) && (List.range p.length).all fun k => !dupB p k) <;> cases ((p.length : Int) == e) <;> rfl
  · intro n k x hk hx
    rw [List.length_range] at hk
    have e : x = k := by rw [List.getElem?_range hk] at hx; cases hx; rfl
    subst e
    simp only [spec_l19Permutes_L1, bdT (show (x : Int) < (p.length : Int) by omega), idx_nat, getD_of hk, Option.bind_some, specIn_is, cutTo_nat (show x ≤ p.length by omega), specHas_is (F := F) (xs := p.take x) (x := p.getD x 0) hF (by rw [List.length_take]; omega), wrN (show x ≤ 67108864 by omega)]
    rw [show ((p.take x).any fun y => y == p.getD x 0) = dupB p x from rfl]
    cases inB (p.getD x 0) 0 (IntKind.i64.wrap (e - 1)) <;> cases dupB p x <;> rfl
  · intro n
    rw [List.length_range]
    simp only [spec_l19Permutes_L1, bdF (show ¬ (p.length : Int) < (p.length : Int) by omega)]
theorem implDup_is {F : Nat} {p : List Int} (hF : 134217728 ≤ F) (hl : p.length ≤ 1048576) : impl_RelabelGraph_L1 F p F 0 = some (bif (List.range p.length).all (fun k => !dupB p k) then .inr () else .inl (⟨0, []⟩, 2)) := by
  refine all_loop (ps := List.range p.length) (g := fun k => !dupB p k) (r := (⟨0, []⟩, 2)) (L := impl_RelabelGraph_L1 F p) (n := F) ?_ ?_ (by rw [List.length_range]; omega)
  · intro n k x hk hx
    rw [List.length_range] at hk
    have e : x = k := by rw [List.getElem?_range hk] at hx; cases hx; rfl
    subst e
    simp only [impl_RelabelGraph_L1, bdT (show (x : Int) < (p.length : Int) by omega), idx_nat, getD_of hk, Option.bind_some, cutTo_nat (show x ≤ p.length by omega), implHas_is (F := F) (xs := p.take x) (x := p.getD x 0) hF (by rw [List.length_take]; omega), condn, wrN (show x ≤ 67108864 by omega)]
    rw [show ((p.take x).any fun y => y == p.getD x 0) = dupB p x from rfl]
  · intro n
    rw [List.length_range]
    simp only [impl_RelabelGraph_L1, bdF (show ¬ (p.length : Int) < (p.length : Int) by omega)]
def relP (p : List Int) (q : GPlace) : GPlace := ⟨p.getD q.From.toNat 0, p.getD q.To.toNat 0, q.Delay, q.Tokens⟩
theorem getI {xs : List Int} {i : Int} (h0 : 0 ≤ i) (h1 : i < (xs.length : Int)) : idx xs i = some (xs.getD i.toNat 0) := by
  rw [idx_int h0 h1, List.getD_eq_getElem?_getD, List.getElem?_eq_getElem (by omega)]; rfl

theorem same_RelabelGraph {F : Nat} {x0 : GEventGraph} {x1 : List Int} (hF : 134217728 ≤ F) (h0 : x0.Places.length ≤ 1048576) (h1 : x1.length ≤ 1048576) :
    ∃ r : GEventGraph × Int, spec_RelabelGraph F x0 x1 = some r ∧ impl_RelabelGraph F x0 x1 = some r ∧ r.1.Places.length ≤ 1048576 := by
  unfold spec_RelabelGraph impl_RelabelGraph
  rw [bind_of (specGraph_is hF h0), bind_of (implGraph_is hF h0)]
  cases hg : graphB x0 with
  | false => exact ⟨(⟨0, []⟩, 1), rfl, rfl, by simp⟩
  | true =>
    simp only [Bool.not_true, cond_false, specPerm_is hF h1, implAllWithin_is hF h1, Option.bind_some, bne]
    cases hl : ((x1.length : Int) == x0.Events) with
    | false =>
      have : permB x0.Events x1 = false := by unfold permB; rw [hl]; rfl
      rw [this]
      exact ⟨(⟨0, []⟩, 2), rfl, rfl, by simp⟩
    | true =>
      cases hw : (x1.all fun x => inB x 0 (IntKind.i64.wrap (x0.Events - 1))) with
      | false =>
        have : permB x0.Events x1 = false := by unfold permB; rw [hl, hw]; rfl
        rw [this]
        exact ⟨(⟨0, []⟩, 2), rfl, rfl, by simp⟩
      | true =>
        simp only [Bool.not_true, cond_false, Option.bind_some, implDup_is hF h1]
        cases hd : (List.range x1.length).all (fun k => !dupB x1 k) with
        | false =>
          have : permB x0.Events x1 = false := by unfold permB; rw [hl, hw, hd]; rfl
          rw [this]
          exact ⟨(⟨0, []⟩, 2), rfl, rfl, by simp⟩
        | true =>
          have hp : permB x0.Events x1 = true := by unfold permB; rw [hl, hw, hd]; rfl
          rw [hp]
          simp only [Bool.not_true, cond_false, cond_true]
          obtain ⟨_, g2, g3, gw, g5⟩ := graphB_true hg
          rw [beq_iff_eq] at hl
          have hpos : ∀ i : Int, 0 ≤ i → i < x0.Events → 0 ≤ x1.getD i.toNat 0 := fun i i0 i1 => by
            have := List.all_eq_true.1 hw _ (List.mem_of_getElem? (getD_of (xs := x1) (i := i.toNat) (by omega)))
            exact (inB_true.1 this).1
          have S : spec_l19Map F x0 x0.Events x1 = some ⟨x0.Events, x0.Places.map (relP x1)⟩ := by
            unfold spec_l19Map
            rw [grow_loop (ps := x0.Places) (g := fun q => [relP x1 q]) (L := spec_l19Map_L1 F x0 x1) (by simp) ?_ ?_ (by omega)]
            · rw [Option.bind_some, flatMap_one]
            · intro n xs k q hk hq hx
              have hq5 := g5 q (List.mem_of_getElem? hq)
              have happ : app xs [relP x1 q] = some (xs ++ [relP x1 q]) := app_le (by simp only [List.length_singleton]; omega)
              have e1 := hpos q.From hq5.1 hq5.2.1
              have e2 := hpos q.To hq5.2.2.1 hq5.2.2.2
              simp only [spec_l19Map_L1, bdT (show (k : Int) < (x0.Places.length : Int) by omega), idx_nat, hq, Option.bind_some, getI (xs := x1) (i := q.From) (by omega) (by omega), getI (xs := x1) (i := q.To) (by omega) (by omega), bdT e1, dT e2, cond_true, wrN (show k ≤ 67108864 by omega)]
              rw [show (GPlace.mk (x1.getD q.From.toNat 0) (x1.getD q.To.toNat 0) q.Delay q.Tokens) = relP x1 q from rfl, happ]; rfl
            · intro n xs
              simp only [spec_l19Map_L1, bdF (show ¬ (x0.Places.length : Int) < (x0.Places.length : Int) by omega)]
          have I : impl_mappedGraph F x0 x0.Events (fun y => impl_RelabelGraph_c1 F y x1) = some ⟨x0.Events, x0.Places.map (relP x1)⟩ := by
            unfold impl_mappedGraph
            rw [grow_loop (ps := x0.Places) (g := fun q => [relP x1 q]) (L := impl_mappedGraph_L1 F x0 (fun y => impl_RelabelGraph_c1 F y x1)) (by simp) ?_ ?_ (by omega)]
            · rw [Option.bind_some, flatMap_one]
            · intro n xs k q hk hq hx
              have hq5 := g5 q (List.mem_of_getElem? hq)
              have happ : app xs [relP x1 q] = some (xs ++ [relP x1 q]) := app_le (by simp only [List.length_singleton]; omega)
              simp only [impl_mappedGraph_L1, impl_RelabelGraph_c1, bdT (show (k : Int) < (x0.Places.length : Int) by omega), idx_nat, hq, Option.bind_some, getI (xs := x1) (i := q.From) (by omega) (by omega), getI (xs := x1) (i := q.To) (by omega) (by omega), wrN (show k ≤ 67108864 by omega)]
              rw [show (GPlace.mk (x1.getD q.From.toNat 0) (x1.getD q.To.toNat 0) q.Delay q.Tokens) = relP x1 q from rfl, happ]; rfl
            · intro n xs
              simp only [impl_mappedGraph_L1, bdF (show ¬ (x0.Places.length : Int) < (x0.Places.length : Int) by omega)]
          rw [S, I]
          exact ⟨(⟨x0.Events, x0.Places.map (relP x1)⟩, 0), rfl, rfl, by simp only [List.length_map]; omega⟩

end Go.Proofs.Ytpmebacdmilecaa
