/- The reference and the program merge events alike. -/
import Derived.Test.YtlpigpplfaehbaaMergeEventsSmall
namespace Go.Proofs.Ytlpigpplfaehbaa

def inB (n lo hi : Int) : Bool := decide (lo ≤ n) && decide (n ≤ hi)
theorem inB_true {n lo hi : Int} : inB n lo hi = true ↔ lo ≤ n ∧ n ≤ hi := by unfold inB; simp
theorem specIn_is {F : Nat} {n lo hi : Int} : spec_l01In F n lo hi = some (inB n lo hi) := by
  simp only [spec_l01In, cond_and, Option.bind_some]; rfl
theorem within_is {F : Nat} {n lo hi : Int} : impl_within F n lo hi = some (inB n lo hi) := by
  simp only [impl_within, cond_and, Option.bind_some]; rfl

def placeB (e : Int) (p : GPlace) : Bool := inB p.From 0 e && (inB p.To 0 e && (inB p.Delay 0 1000 && inB p.Tokens 0 5))
def graphB (g : GEventGraph) : Bool := g.Places.all (placeB (IntKind.i64.wrap (g.Events - 1))) && (inB g.Events 1 10 && decide ((g.Places.length : Int) ≤ 30))

theorem specPlace_is {F : Nat} {p : GPlace} {n : Int} : spec_l11Place F p n = some (placeB (IntKind.i64.wrap (n - 1)) p) := by
  simp only [spec_l11Place, specIn_is, Option.bind_some, cond_and]; rfl
theorem implPlace_is {F : Nat} {g : GEventGraph} {p : GPlace} : impl_isPlace F g p = some (placeB (IntKind.i64.wrap (g.Events - 1)) p) := by
  simp only [impl_isPlace, impl_isEvent, within_is, Option.bind_some, cond_and]; rfl

theorem specGraph_is {F : Nat} {g : GEventGraph} (hF : 134217728 ≤ F) (hl : g.Places.length ≤ 1048576) : spec_IsEventGraph F g = some (graphB g) := by
  unfold spec_IsEventGraph
  rw [all_loop (ps := g.Places) (g := placeB (IntKind.i64.wrap (g.Events - 1))) (r := false) (L := spec_IsEventGraph_L1 F g) ?_ ?_ (by omega)]
  · simp only [specIn_is, Option.bind_some, cond_and, graphB]
    cases g.Places.all (placeB (IntKind.i64.wrap (g.Events - 1))) <;> rfl
  · intro n k x hk hx
    simp only [spec_IsEventGraph_L1, bdT (show (k : Int) < (g.Places.length : Int) by omega), idx_nat, hx, Option.bind_some, specPlace_is, condn, wrN (show k ≤ 67108864 by omega)]
  · intro n
    simp only [spec_IsEventGraph_L1, bdF (show ¬ (g.Places.length : Int) < (g.Places.length : Int) by omega)]

theorem implGraph_is {F : Nat} {g : GEventGraph} (hF : 134217728 ≤ F) (hl : g.Places.length ≤ 1048576) : impl_IsEventGraph F g = some (graphB g) := by
  simp only [impl_IsEventGraph, within_is, Option.bind_some, slices_ContainsFunc_Place_is (h := fun p => !placeB (IntKind.i64.wrap (g.Events - 1)) p) hF (show g.Places.length ≤ 16777216 by omega) (fun x _ => show impl_IsEventGraph_c1 F x g = _ by simp only [impl_IsEventGraph_c1, implPlace_is, Option.bind_some]), cond_and, graphB]
  rw [any_not, Bool.not_not]
  cases g.Places.all (placeB (IntKind.i64.wrap (g.Events - 1))) <;> cases inB g.Events 1 10 <;> cases decide ((g.Places.length : Int) ≤ 30) <;> rfl

theorem graphB_true {g : GEventGraph} (h : graphB g = true) : 1 ≤ g.Events ∧ g.Events ≤ 10 ∧ g.Places.length ≤ 30 ∧ IntKind.i64.wrap (g.Events - 1) = g.Events - 1 ∧ ∀ p, p ∈ g.Places → 0 ≤ p.From ∧ p.From < g.Events ∧ 0 ≤ p.To ∧ p.To < g.Events := by
  unfold graphB at h
  simp only [Bool.and_eq_true, inB_true, decide_eq_true_eq, List.all_eq_true] at h
  obtain ⟨hp, ⟨h1, h2⟩, h3⟩ := h
  have hw : IntKind.i64.wrap (g.Events - 1) = g.Events - 1 := wr (by omega) (by omega)
  refine ⟨h1, h2, by omega, hw, fun p hm => ?_⟩
  have := hp p hm
  rw [hw] at this
  simp only [placeB, Bool.and_eq_true, inB_true] at this
  omega

/-- what becomes of an event -/
def merged (a b e : Int) : Int := if e = b then a else if b < e then e - 1 else e
def mergedPlace (a b : Int) (p : GPlace) : GPlace := ⟨merged a b p.From, merged a b p.To, p.Delay, p.Tokens⟩
def mergedGraph (a b : Int) (g : GEventGraph) : GEventGraph := ⟨g.Events - 1, g.Places.map (mergedPlace a b)⟩

theorem implMerge_is {F : Nat} {a b : Int} {g : GEventGraph} (hF : 134217728 ≤ F) (hl : g.Places.length ≤ 1048576) (hp : ∀ p, p ∈ g.Places → 0 ≤ p.From ∧ p.From < 10 ∧ 0 ≤ p.To ∧ p.To < 10) (n : Int) :
    impl_mappedGraph F g n (fun x0 => impl_MergeEvents_c1 F x0 b a) = some ⟨n, g.Places.map (mergedPlace a b)⟩ := by
  have one : ∀ e : Int, 0 ≤ e → e < 10 → impl_MergeEvents_c1 F e b a = some (merged a b e) := by
    intro e h0 h1
    unfold impl_MergeEvents_c1 merged
    by_cases h : e = b
    · rw [if_pos h, bT (by simp [h])]
    · rw [if_neg h, bF (by simp [h])]
      by_cases h2 : b < e
      · rw [if_pos h2, bdT h2, wr (by omega) (by omega)]
      · rw [if_neg h2, bdF h2]
  unfold impl_mappedGraph
  rw [grow_loop (ps := g.Places) (g := fun p => [mergedPlace a b p]) (L := impl_mappedGraph_L1 F g (fun x0 => impl_MergeEvents_c1 F x0 b a)) (by simp) ?_ ?_ (by omega)]
  · rw [Option.bind_some, flatMap_one]
  · intro n xs k x hk hx hxl
    have hm := hp x (List.mem_of_getElem? hx)
    simp only [impl_mappedGraph_L1, bdT (show (k : Int) < (g.Places.length : Int) by omega), idx_nat, hx, Option.bind_some, one _ hm.1 hm.2.1, one _ hm.2.2.1 hm.2.2.2, app_le (show xs.length + [(⟨merged a b x.From, merged a b x.To, x.Delay, x.Tokens⟩ : GPlace)].length ≤ 67108864 by simp only [List.length_singleton]; omega), wrN (show k ≤ 67108864 by omega), mergedPlace]
  · intro n xs
    simp only [impl_mappedGraph_L1, bdF (show ¬ (g.Places.length : Int) < (g.Places.length : Int) by omega)]

theorem specTable_is {F : Nat} {a b : Int} {g : GEventGraph} (hF : 134217728 ≤ F) (h1 : 1 ≤ g.Events) (h2 : g.Events ≤ 10) :
    spec_MergeEvents_L1 F g a b F [] 0 = some ((List.range g.Events.toNat).map fun (i : Nat) => merged a b (i : Int)) := by
  refine tab_loop (len := g.Events.toNat) (f := fun (i : Nat) => merged a b (i : Int)) (L := spec_MergeEvents_L1 F g a b) ?_ ?_ (by omega)
  · intro n xs k hk hx
    have hlt : (k : Int) < g.Events := by omega
    unfold merged
    by_cases h : (k : Int) = b
    · simp only [spec_MergeEvents_L1, bdT hlt, if_pos h, bT (show ((k : Int) == b) = true by simp [h]), app_le (show xs.length + [a].length ≤ 67108864 by simp only [List.length_singleton]; omega), Option.bind_some, wrN (show k ≤ 67108864 by omega)]
    · have hb : ((k : Int) == b) = false := by simp [h]
      by_cases h2 : b < (k : Int)
      · simp only [spec_MergeEvents_L1, bdT hlt, if_neg h, bF hb, if_pos h2, bdT h2, wr (show -9223372036854775808 ≤ (k : Int) - 1 by omega) (by omega), app_le (show xs.length + [(k : Int) - 1].length ≤ 67108864 by simp only [List.length_singleton]; omega), Option.bind_some, wrN (show k ≤ 67108864 by omega)]
      · simp only [spec_MergeEvents_L1, bdT hlt, if_neg h, bF hb, if_neg h2, bdF h2, app_le (show xs.length + [(k : Int)].length ≤ 67108864 by simp only [List.length_singleton]; omega), Option.bind_some, wrN (show k ≤ 67108864 by omega)]
  · intro n xs hx
    simp only [spec_MergeEvents_L1, bdF (show ¬ ((g.Events.toNat : Nat) : Int) < g.Events by omega)]

theorem table_at {n : Nat} {f : Nat → Int} {i : Int} (h0 : 0 ≤ i) (h1 : i < n) : idx ((List.range n).map f) i = some (f i.toNat) := by
  unfold idx; rw [if_pos h0, List.getElem?_map, List.getElem?_range (by omega)]; rfl

theorem specMap_is {F : Nat} {a b : Int} {g : GEventGraph} (hF : 134217728 ≤ F) (hl : g.Places.length ≤ 1048576) (h1 : 1 ≤ g.Events) (h2 : g.Events ≤ 10) (ha : 0 ≤ a) (hab : a < b) (_ : b < g.Events) (hp : ∀ p, p ∈ g.Places → 0 ≤ p.From ∧ p.From < g.Events ∧ 0 ≤ p.To ∧ p.To < g.Events) (n : Int) :
    spec_l19Map F g n ((List.range g.Events.toNat).map fun (i : Nat) => merged a b (i : Int)) = some ⟨n, g.Places.map (mergedPlace a b)⟩ := by
  have at_ : ∀ e : Int, 0 ≤ e → e < g.Events → idx ((List.range g.Events.toNat).map fun (i : Nat) => merged a b (i : Int)) e = some (merged a b e) ∧ 0 ≤ merged a b e := by
    intro e h0 h1
    refine ⟨?_, by unfold merged; split <;> (try split) <;> omega⟩
    rw [table_at h0 (by omega)]
    rw [show ((e.toNat : Nat) : Int) = e by omega]
  unfold spec_l19Map
  rw [grow_loop (ps := g.Places) (g := fun p => [mergedPlace a b p]) (L := spec_l19Map_L1 F g ((List.range g.Events.toNat).map fun (i : Nat) => merged a b (i : Int))) (by simp) ?_ ?_ (by omega)]
  · rw [Option.bind_some, flatMap_one]
  · intro n xs k x hk hx hxl
    have hm := hp x (List.mem_of_getElem? hx)
    have e1 := at_ _ hm.1 hm.2.1
    have e2 := at_ _ hm.2.2.1 hm.2.2.2
    simp only [spec_l19Map_L1, bdT (show (k : Int) < (g.Places.length : Int) by omega), idx_nat, hx, Option.bind_some, e1.1, e2.1, bdT e1.2, dT e2.2, cond_true, app_le (show xs.length + [(⟨merged a b x.From, merged a b x.To, x.Delay, x.Tokens⟩ : GPlace)].length ≤ 67108864 by simp only [List.length_singleton]; omega), wrN (show k ≤ 67108864 by omega), mergedPlace]
  · intro n xs
    simp only [spec_l19Map_L1, bdF (show ¬ (g.Places.length : Int) < (g.Places.length : Int) by omega)]

/-- both answer the same, and little -/
theorem merge_same {F : Nat} {g : GEventGraph} {a b : Int} (hF : 134217728 ≤ F) (hl : g.Places.length ≤ 1048576) :
    ∃ r : GEventGraph × Int, spec_MergeEvents F g a b = some r ∧ impl_MergeEvents F g a b = some r ∧ r.1.Places.length ≤ 1048576 := by
  unfold spec_MergeEvents impl_MergeEvents
  rw [bind_of (specGraph_is hF hl), bind_of (implGraph_is hF hl)]
  cases hg : graphB g with
  | false => exact ⟨_, rfl, rfl, by simp⟩
  | true =>
    obtain ⟨h1, h2, h3, hw, hp⟩ := graphB_true hg
    simp only [Bool.not_true, cond_false, impl_isEvent, within_is, Option.bind_some, hw, condn, cond_or]
    by_cases hc : 0 ≤ a ∧ a < b ∧ b < g.Events
    · have c1 : (decide (a < 0) || (decide (g.Events ≤ b) || decide (b ≤ a))) = false := by simp; omega
      have c2 : (bif inB a 0 (g.Events - 1) then bif inB b 0 (g.Events - 1) then some (decide (b ≤ a)) else some true else some true) = some false := by
        rw [bT (inB_true.2 ⟨by omega, by omega⟩), bT (inB_true.2 ⟨by omega, by omega⟩), decide_eq_false (by omega)]
      refine ⟨(⟨g.Events - 1, g.Places.map (mergedPlace a b)⟩, 0), ?_, ?_, by simp only [List.length_map]; exact hl⟩
      · rw [bF c1, bind_of (specTable_is hF h1 h2), bind_of (specMap_is hF hl h1 h2 hc.1 hc.2.1 hc.2.2 hp _)]
      · rw [bind_of c2, cond_false, bind_of (implMerge_is hF hl (fun p hm => by have := hp p hm; omega) _)]
    · have c1 : (decide (a < 0) || (decide (g.Events ≤ b) || decide (b ≤ a))) = true := by simp; omega
      have c2 : (bif inB a 0 (g.Events - 1) then bif inB b 0 (g.Events - 1) then some (decide (b ≤ a)) else some true else some true) = some true := by
        cases e1 : inB a 0 (g.Events - 1) with
        | false => rfl
        | true =>
          cases e2 : inB b 0 (g.Events - 1) with
          | false => rfl
          | true =>
            have := inB_true.1 e1; have := inB_true.1 e2
            rw [cond_true, cond_true, decide_eq_true (by omega)]
      exact ⟨(⟨0, []⟩, 2), by rw [bT c1], by rw [bind_of c2, cond_true], by simp⟩

end Go.Proofs.Ytlpigpplfaehbaa
