/- The law's model answers true. -/
import Derived.Test.YtgkgimglgjfcjaaUnrolledSmall
namespace Go.Proofs.Ytgkgimglgjfcjaa

theorem specResult_is {F : Nat} {g : GEventGraph} (hF : 134217728 ≤ F) (hl : g.Places.length ≤ 1048576) : spec_l19Result F g = some (bif graphB g then (g, 0) else (⟨0, []⟩, 3)) := by
  unfold spec_l19Result
  rw [bind_of (specGraph_is hF hl)]
  cases graphB g <;> rfl
theorem implResult_is {F : Nat} {g : GEventGraph} (hF : 134217728 ≤ F) (hl : g.Places.length ≤ 1048576) : impl_checkedGraph F g = some (bif graphB g then (g, 0) else (⟨0, []⟩, 3)) := by
  unfold impl_checkedGraph
  rw [bind_of (implGraph_is hF hl)]
  cases graphB g <;> rfl

theorem lkG {F : Nat} {g : GEventGraph} (hF : 134217728 ≤ F) (hl : g.Places.length ≤ 1048576) : laws_likeGraphs9 F g g = some true := by
  unfold laws_likeGraphs9
  have L : laws_likeGraphs9_L1 F g g F 0 = some (.inr ()) := by
    refine same_loop (len := g.Places.length) (L := laws_likeGraphs9_L1 F g g) ?_ ?_ (by omega)
    · intro n k hk
      simp only [laws_likeGraphs9_L1, bdT (show (k : Int) < (g.Places.length : Int) by omega), idx_nat, plD_of hk, Option.bind_some, beq_self_eq_true, Bool.and_self, Bool.not_true, cond_false, wrN (show k ≤ 67108864 by omega)]
    · intro n
      simp only [laws_likeGraphs9_L1, bdF (show ¬ (g.Places.length : Int) < (g.Places.length : Int) by omega)]
  simp only [bne_self_eq_false, cond_false, Option.bind_some, L]

theorem tdm {a c : Nat} : ((a : Int)).tmod (c : Int) = ((a % c : Nat) : Int) := by rw [Int.ofNat_tmod]
theorem tdd {a c : Nat} : ((a : Int)).tdiv (c : Int) = ((a / c : Nat) : Int) := by rw [Int.ofNat_tdiv]

/-- one copy of a place, as both sides write it -/
theorem unr_place {g : GEventGraph} {q : GPlace} {c k : Nat} (hg : graphB g = true) (hq : q ∈ g.Places) (hk : k < c) (hc : c ≤ 10) :
    GPlace.mk (IntKind.i64.wrap ((IntKind.i64.wrap ((k : Int) * g.Events)) + q.From)) (IntKind.i64.wrap ((IntKind.i64.wrap (((IntKind.i64.wrap ((k : Int) + q.Tokens)).tmod (c : Int)) * g.Events)) + q.To)) q.Delay (IntKind.i64.wrap ((IntKind.i64.wrap ((k : Int) + q.Tokens)).tdiv (c : Int))) = unrP g.Events.toNat c q k := by
  obtain ⟨g1, g10, _, _, _⟩ := graphB_true hg
  obtain ⟨a1, a2, a3, a4⟩ := pl_at hg hq
  obtain ⟨_, _, _, _, _, _, r7, r8⟩ := graphB_range hg q hq
  have hE : g.Events = ((g.Events.toNat : Nat) : Int) := by omega
  have hw : q.Tokens = ((q.Tokens.toNat : Nat) : Int) := by omega
  have h1 : k * g.Events.toNat ≤ 10 * 10 := Nat.mul_le_mul (by omega) (by omega)
  have hm : (k + q.Tokens.toNat) % c < c := Nat.mod_lt _ (by omega)
  have h2 : (k + q.Tokens.toNat) % c * g.Events.toNat ≤ 10 * 10 := Nat.mul_le_mul (by omega) (by omega)
  have h3 : (k + q.Tokens.toNat) / c ≤ k + q.Tokens.toNat := Nat.div_le_self _ _
  have e1 : IntKind.i64.wrap ((k : Int) + q.Tokens) = ((k + q.Tokens.toNat : Nat) : Int) := by rw [wr (by omega) (by omega)]; omega
  have e2 : (k : Int) * g.Events = ((k * g.Events.toNat : Nat) : Int) := by rw [Int.natCast_mul, ← hE]
  have e3 : (((k + q.Tokens.toNat) % c : Nat) : Int) * g.Events = (((k + q.Tokens.toNat) % c * g.Events.toNat : Nat) : Int) := by rw [Int.natCast_mul, ← hE]
  rw [e1, tdm, tdd, e2, e3]
  unfold unrP
  generalize k * g.Events.toNat = A at *
  generalize (k + q.Tokens.toNat) % c * g.Events.toNat = B at *
  generalize (k + q.Tokens.toNat) / c = D at *
  rw [wr (n := (A : Int)) (by omega) (by omega), wr (n := (B : Int)) (by omega) (by omega), wr (n := (D : Int)) (by omega) (by omega), wr (n := (A : Int) + q.From) (by omega) (by omega), wr (n := (B : Int) + q.To) (by omega) (by omega), a1, a2, Int.natCast_add, Int.natCast_add]

theorem specUnrL5 {F : Nat} {g : GEventGraph} {q : GPlace} {c : Nat} (hF : 134217728 ≤ F) (hg : graphB g = true) (hq : q ∈ g.Places) (hc : c ≤ 10) {xs : List GPlace} (hx : xs.length ≤ 1000) :
    spec_UnrollGraph_L5 F g (c : Int) q F xs 0 = some (xs ++ (List.range c).map (unrP g.Events.toNat c q)) := by
  refine for0 (L := spec_UnrollGraph_L5 F g (c : Int) q) (len := c) (fun k ys => ys = xs ++ (List.range k).map (unrP g.Events.toNat c q)) (R := fun o => o = some (xs ++ (List.range c).map (unrP g.Events.toNat c q))) ?_ ?_ (by simp) (by omega)
  · rintro n k ys hk rfl
    refine .inl ⟨_, ?_, rfl⟩
    have ha := app_le (xs := xs ++ (List.range k).map (unrP g.Events.toNat c q)) (ys := [unrP g.Events.toNat c q k]) (by simp only [List.length_append, List.length_map, List.length_range, List.length_singleton]; omega)
    simp only [spec_UnrollGraph_L5, bdT (show (k : Int) < (c : Int) by omega), if_neg (show ¬ (c : Int) = 0 by omega), Option.bind_some, unr_place hg hq hk hc, ha, wrN (show k ≤ 67108864 by omega)]
    rw [List.range_succ, List.map_append, List.append_assoc]; rfl
  · rintro n ys rfl
    simp only [spec_UnrollGraph_L5, bdF (show ¬ (c : Int) < (c : Int) by omega)]
theorem specUnrL4 {F : Nat} {g : GEventGraph} {c : Nat} (hF : 134217728 ≤ F) (hg : graphB g = true) (hc : c ≤ 10) :
    spec_UnrollGraph_L4 F g (c : Int) F [] 0 = some (unrG c g).Places := by
  obtain ⟨g1, g10, g3, _, _⟩ := graphB_true hg
  refine for0 (L := spec_UnrollGraph_L4 F g (c : Int)) (len := g.Places.length) (fun k ys => ys.length ≤ k * 10 ∧ ys = (g.Places.take k).flatMap fun p => (List.range c).map (unrP g.Events.toNat c p)) (R := fun o => o = some (unrG c g).Places) ?_ ?_ ⟨by simp, by simp⟩ (by omega)
  · rintro n k ys hk ⟨hl, rfl⟩
    have hp : g.Places[k]? = some g.Places[k] := List.getElem?_eq_getElem hk
    have h5 := specUnrL5 (F := F) (q := g.Places[k]) (c := c) hF hg (List.getElem_mem hk) hc (xs := (g.Places.take k).flatMap fun p => (List.range c).map (unrP g.Events.toNat c p)) (by omega)
    refine .inl ⟨_, ?_, ?_, rfl⟩
    · simp only [spec_UnrollGraph_L4, bdT (show (k : Int) < (g.Places.length : Int) by omega), idx_nat, hp, Option.bind_some, h5, wrN (show k ≤ 67108864 by omega)]
      rw [List.take_add_one, hp, List.flatMap_append]
      simp
    · have e : ((some g.Places[k]).toList.flatMap fun p => (List.range c).map (unrP g.Events.toNat c p)).length = c := by simp
      rw [List.take_add_one, hp, List.flatMap_append, List.length_append, e]
      omega
  · rintro n ys ⟨_, rfl⟩
    simp only [spec_UnrollGraph_L4, bdF (show ¬ (g.Places.length : Int) < (g.Places.length : Int) by omega), List.take_length]; rfl

theorem implUnrL5 {F : Nat} {g : GEventGraph} {q : GPlace} {c : Nat} (hF : 134217728 ≤ F) (hg : graphB g = true) (hq : q ∈ g.Places) (hc : c ≤ 10) {xs : List GPlace} (hx : xs.length ≤ 1000) :
    impl_UnrollGraph_L5 F g (c : Int) q F xs 0 = some (xs ++ (List.range c).map (unrP g.Events.toNat c q)) := by
  refine for0 (L := impl_UnrollGraph_L5 F g (c : Int) q) (len := c) (fun k ys => ys = xs ++ (List.range k).map (unrP g.Events.toNat c q)) (R := fun o => o = some (xs ++ (List.range c).map (unrP g.Events.toNat c q))) ?_ ?_ (by simp) (by omega)
  · rintro n k ys hk rfl
    refine .inl ⟨_, ?_, rfl⟩
    have ha := app_le (xs := xs ++ (List.range k).map (unrP g.Events.toNat c q)) (ys := [unrP g.Events.toNat c q k]) (by simp only [List.length_append, List.length_map, List.length_range, List.length_singleton]; omega)
    simp only [impl_UnrollGraph_L5, bdT (show (k : Int) < (c : Int) by omega), if_neg (show ¬ (c : Int) = 0 by omega), Option.bind_some, unr_place hg hq hk hc, ha, wrN (show k ≤ 67108864 by omega)]
    rw [List.range_succ, List.map_append, List.append_assoc]; rfl
  · rintro n ys rfl
    simp only [impl_UnrollGraph_L5, bdF (show ¬ (c : Int) < (c : Int) by omega)]
theorem implUnrL4 {F : Nat} {g : GEventGraph} {c : Nat} (hF : 134217728 ≤ F) (hg : graphB g = true) (hc : c ≤ 10) :
    impl_UnrollGraph_L4 F g (c : Int) F [] 0 = some (unrG c g).Places := by
  obtain ⟨g1, g10, g3, _, _⟩ := graphB_true hg
  refine for0 (L := impl_UnrollGraph_L4 F g (c : Int)) (len := g.Places.length) (fun k ys => ys.length ≤ k * 10 ∧ ys = (g.Places.take k).flatMap fun p => (List.range c).map (unrP g.Events.toNat c p)) (R := fun o => o = some (unrG c g).Places) ?_ ?_ ⟨by simp, by simp⟩ (by omega)
  · rintro n k ys hk ⟨hl, rfl⟩
    have hp : g.Places[k]? = some g.Places[k] := List.getElem?_eq_getElem hk
    have h5 := implUnrL5 (F := F) (q := g.Places[k]) (c := c) hF hg (List.getElem_mem hk) hc (xs := (g.Places.take k).flatMap fun p => (List.range c).map (unrP g.Events.toNat c p)) (by omega)
    refine .inl ⟨_, ?_, ?_, rfl⟩
    · simp only [impl_UnrollGraph_L4, bdT (show (k : Int) < (g.Places.length : Int) by omega), idx_nat, hp, Option.bind_some, h5, wrN (show k ≤ 67108864 by omega)]
      rw [List.take_add_one, hp, List.flatMap_append]
      simp
    · have e : ((some g.Places[k]).toList.flatMap fun p => (List.range c).map (unrP g.Events.toNat c p)).length = c := by simp
      rw [List.take_add_one, hp, List.flatMap_append, List.length_append, e]
      omega
  · rintro n ys ⟨_, rfl⟩
    simp only [impl_UnrollGraph_L4, bdF (show ¬ (g.Places.length : Int) < (g.Places.length : Int) by omega), List.take_length]; rfl

theorem unr_len {g : GEventGraph} {c : Nat} (hc : c ≤ 10) : (unrG c g).Places.length ≤ g.Places.length * 10 := by
  unfold unrG
  simp only
  induction g.Places with
  | nil => simp
  | cons p ps ih => rw [List.flatMap_cons, List.length_append, List.length_map, List.length_range, List.length_cons]; omega
theorem unr_out {F : Nat} {g : GEventGraph} {n : Int} (hF : 134217728 ≤ F) (hl : g.Places.length ≤ 1048576) :
    (∃ c : Int, c ≠ 0 ∧ spec_UnrollGraph F g n = some (⟨0, []⟩, c) ∧ impl_UnrollGraph F g n = some (⟨0, []⟩, c)) ∨
    (∃ c : Nat, n = (c : Int) ∧ 1 ≤ c ∧ c ≤ 10 ∧ graphB g = true ∧ graphB (unrG c g) = true ∧ spec_UnrollGraph F g n = some (unrG c g, 0) ∧ impl_UnrollGraph F g n = some (unrG c g, 0)) := by
  unfold spec_UnrollGraph impl_UnrollGraph
  rw [bind_of (specGraph_is hF hl), bind_of (implGraph_is hF hl)]
  cases hg : graphB g with
  | false => exact .inl ⟨1, by decide, rfl, rfl⟩
  | true =>
    simp only [Bool.not_true, cond_false, specIn_is, within_is, Option.bind_some]
    cases hi : inB n 1 10 with
    | false => exact .inl ⟨2, by decide, rfl, rfl⟩
    | true =>
      obtain ⟨n1, n10⟩ := inB_true.1 hi
      obtain ⟨c, rfl⟩ : ∃ c : Nat, n = (c : Int) := ⟨n.toNat, by omega⟩
      obtain ⟨g1, g10, g3, _, _⟩ := graphB_true hg
      have hm : g.Events.toNat * c ≤ 10 * 10 := Nat.mul_le_mul (by omega) (by omega)
      have hE : g.Events = ((g.Events.toNat : Nat) : Int) := by omega
      have w1 : IntKind.i64.wrap (g.Events * (c : Int)) = ((g.Events.toNat * c : Nat) : Int) := by
        have e : g.Events * (c : Int) = ((g.Events.toNat * c : Nat) : Int) := by rw [Int.natCast_mul, ← hE]
        rw [e, wr (by omega) (by omega)]
      have w2 : IntKind.i64.wrap ((c : Int) * g.Events) = ((g.Events.toNat * c : Nat) : Int) := by rw [Int.mul_comm]; exact w1
      have eU : GEventGraph.mk ((g.Events.toNat * c : Nat) : Int) (unrG c g).Places = unrG c g := rfl
      have hul := unr_len (g := g) (c := c) (by omega)
      have hul : (unrG c g).Places.length ≤ 1048576 := by omega
      simp only [Bool.not_true, cond_false, specUnrL4 hF hg (show c ≤ 10 by omega), implUnrL4 hF hg (show c ≤ 10 by omega), Option.bind_some, w1, w2, eU, specResult_is hF hul, implResult_is hF hul]
      cases hj : graphB (unrG c g) with
      | false => exact .inl ⟨3, by decide, rfl, rfl⟩
      | true => exact .inr ⟨c, rfl, by omega, by omega, by first | rfl | trivial, by first | exact hj | trivial, rfl, rfl⟩
theorem unr_times {F : Nat} {g : GEventGraph} {c : Nat} (hF : 134217728 ≤ F) (hg : graphB g = true) (hc : 1 ≤ c) (hc2 : c ≤ 10) (hs : graphB (unrG c g) = true) :
    (impl_FiringTimes F g ((4 * c : Nat) : Int) = some ([], 5) ∧ impl_FiringTimes F (unrG c g) 4 = some ([], 5)) ∨ (∃ A B : List (List Int), (∀ k r e, k < 4 → r < c → e < g.Events.toNat → ∃ Rb Ra v, B[k]? = some Rb ∧ Rb[r * g.Events.toNat + e]? = some v ∧ A[k * c + r]? = some Ra ∧ Ra[e]? = some v) ∧ impl_FiringTimes F g ((4 * c : Nat) : Int) = some (A, 0) ∧ impl_FiringTimes F (unrG c g) 4 = some (B, 0)) := by
  obtain ⟨g1, g2, g3, _, _⟩ := graphB_true hg
  obtain ⟨s1, s2, s3, _, _⟩ := graphB_true hs
  have hlv := unr_live hg hs (by omega)
  have hE : (unrG c g).Events.toNat = g.Events.toNat * c := Int.toNat_natCast _
  cases ho : fire (eP g.Places) g.Events.toNat g.Events.toNat [] with
  | none =>
    left
    have hl1 : liveB g g.Events.toNat = false := by unfold liveB; rw [ho]; rfl
    have hl2 : liveB (unrG c g) (unrG c g).Events.toNat = false := by
      cases hh : liveB (unrG c g) (unrG c g).Events.toNat with
      | false => rfl
      | true =>
        have := (live_rank hg).2 (hlv.2 ((live_rank hs).1 hh))
        rw [hl1] at this; cases this
    have hin : inB ((4 * c : Nat) : Int) 0 50 = true := inB_true.2 ⟨by omega, by omega⟩
    have c1 : fireCode g ((4 * c : Nat) : Int) = 5 := by unfold fireCode; rw [hg, hl1, hin]; rfl
    have c2 : fireCode (unrG c g) 4 = 5 := by unfold fireCode; rw [hs, hl2]; rfl
    constructor
    · unfold impl_FiringTimes; rw [bind_of (implFCode_is hF (by omega)), c1]; rfl
    · unfold impl_FiringTimes; rw [bind_of (implFCode_is hF (by omega)), c2]; rfl
  | some o =>
    right
    have hl1 : liveB g g.Events.toNat = true := by unfold liveB; rw [ho]; rfl
    have hl2 := (live_rank hs).2 (hlv.1 ((live_rank hg).1 hl1))
    cases ho2 : fire (eP (unrG c g).Places) (unrG c g).Events.toNat (unrG c g).Events.toNat [] with
    | none =>
      unfold liveB at hl2
      rw [ho2] at hl2; cases hl2
    | some o2 =>
      have t1 : impl_FiringTimes F g ((4 * c : Nat) : Int) = some (ttab g o (zeros g) (4 * c), 0) := implFiring_is (n := 4 * c) hF hg (by omega) ho
      have t2 : impl_FiringTimes F (unrG c g) 4 = some (ttab (unrG c g) o2 (zeros (unrG c g)) 4, 0) := implFiring_is (n := 4) hF hs (by omega) ho2
      have f1 := unr_ft (n := 4) hg (by omega) (ttab_spec (n := 4 * c) hg ho (by omega))
      have f2 := ttab_spec (n := 4) hs ho2 (by omega)
      have hu := ft_unique hs (order_rank hs ho2) f1 f2
      have hz1 : (zeros g).length = g.Events.toNat := by unfold zeros; simp
      have hz2 : (zeros (unrG c g)).length = (unrG c g).Events.toNat := by unfold zeros; simp
      refine ⟨_, _, fun k r e hk hr he => ?_, t1, t2⟩
      have hkc : (k + 1) * c ≤ 4 * c := Nat.mul_le_mul_right _ hk
      rw [Nat.add_mul, Nat.one_mul] at hkc
      have hre : (r + 1) * g.Events.toNat ≤ c * g.Events.toNat := Nat.mul_le_mul_right _ hr
      rw [Nat.add_mul, Nat.one_mul, Nat.mul_comm c] at hre
      have hlA : k * c + r < (ttab g o (zeros g) (4 * c)).length := by rw [ttab_len]; omega
      have hlB : k < (ttab (unrG c g) o2 (zeros (unrG c g)) 4).length := by rw [ttab_len]; exact hk
      have hrA := ttab_rows hz1 (4 * c) _ (List.getElem_mem hlA)
      have hrB := ttab_rows hz2 4 _ (List.getElem_mem hlB)
      have hv := hu k hk (r * g.Events.toNat + e) (by omega)
      rw [md_div he, md_mod he] at hv
      unfold gE at hv
      have q1 : (ttab g o (zeros g) (4 * c)).getD (k * c + r) [] = (ttab g o (zeros g) (4 * c))[k * c + r] := by rw [List.getD_eq_getElem?_getD, List.getElem?_eq_getElem hlA]; rfl
      have q2 : (ttab (unrG c g) o2 (zeros (unrG c g)) 4).getD k [] = (ttab (unrG c g) o2 (zeros (unrG c g)) 4)[k] := by rw [List.getD_eq_getElem?_getD, List.getElem?_eq_getElem hlB]; rfl
      rw [q1, q2] at hv
      refine ⟨_, _, _, List.getElem?_eq_getElem hlB, getD_of (by omega), List.getElem?_eq_getElem hlA, ?_⟩
      rw [getD_of (show e < _ by rw [hrA]; exact he), hv]

theorem law_Unrolled {F : Nat} {x0 : List Int} (hF0 : 9223372036854775808 ≤ F) (_ : x0.length ≤ 9223372036854775807) (hb : ∀ y, y ∈ x0 → 0 ≤ y ∧ y ≤ 255) : laws_FnUnrolled F x0 = some true := by
  have hF : 134217728 ≤ F := by omega
  unfold laws_FnUnrolled laws_big
  by_cases hbig : (4096 : Int) < (x0.length : Int)
  · simp only [Option.bind_some, dT hbig, cond_true]
  simp only [Option.bind_some, dF hbig, cond_false]
  have hc : COk x0 := ⟨by omega, hb⟩
  obtain ⟨⟨g, n⟩, hd1, a0⟩ : Tot (fun r : GEventGraph × Int => r.1.Places.length ≤ 100) (spec_DrawUnrollGraph F x0) := by
    unfold spec_DrawUnrollGraph
    refine Tot.bind (from_tot hF hc) fun r2 h2 => Tot.bind (l15Draw_tot hF hc h2) fun r5 h5 => ?_
    refine Tot.bind (P := fun ys : List GPlace => ys.length ≤ 100) (Tot.cond (fun hcd => Tot.bind (cutTo_tot (by decide) (by have := of_decide_eq_true hcd; omega)) fun ys hy => Tot.pure (by omega)) fun _ => Tot.pure h5.2.1) fun ys hy => ?_
    exact Tot.bind (next_tot hc h5.1) fun r6 h6 => Tot.cond (fun _ => Tot.bind (pick_tot hc h6.1 (by simp)) fun r7 h7 => Tot.pure hy) fun _ => Tot.bind (next_tot hc h6.1) fun r7 h7 => Tot.pure hy
  simp only at a0
  have eg : ∀ q : GEventGraph, GEventGraph.mk q.Events q.Places = q := fun _ => rfl
  have hnil : laws_likeGraphs9 F ⟨0, []⟩ ⟨0, []⟩ = some true := lkG hF (by simp)
  rcases unr_out (F := F) (g := g) (n := n) hF (by omega) with ⟨c, h0, h1, h2⟩ | ⟨c, rfl, c1, c2, hg, hu, h1, h2⟩
  · simp only [hd1, Option.bind_some, eg, h1, h2, bne_self_eq_false, cond_false, hnil, Bool.not_true, bT (neT h0)]
  obtain ⟨g1, g2, g3, _, _⟩ := graphB_true hg
  obtain ⟨u1, u2, u3, _, _⟩ := graphB_true hu
  have hlk : laws_likeGraphs9 F (unrG c g) (unrG c g) = some true := lkG hF (by omega)
  have hw4 : IntKind.i64.wrap (4 * (c : Int)) = ((4 * c : Nat) : Int) := by rw [wr (by omega) (by omega)]; omega
  simp only [hd1, Option.bind_some, eg, h1, h2, bne_self_eq_false, cond_false, hlk, Bool.not_true, hw4]
  have fin : (bif decide ((12 : Int) < ((unrG c g).Places.length : Int)) then some true else (impl_CycleTime F g).bind fun r1242 => (impl_CycleTime F (unrG c g)).bind fun r1245 => (Option.bind ((bif (r1242.2 == r1245.2) then (bif (r1242.2 != 0) then some true else some ((IntKind.i64.wrap (r1245.1.Num * r1242.1.Den)) == (IntKind.i64.wrap ((IntKind.i64.wrap ((c : Int) * r1242.1.Num)) * r1245.1.Den)))) else some false) : Option (Bool)) fun b1250 => some b1250)) = some true := by
    by_cases h12 : (12 : Int) < ((unrG c g).Places.length : Int)
    · rw [bdT h12]
    rw [bdF h12]
    obtain ⟨r, k, hr, hk⟩ := cyt_is hF hg
    obtain ⟨r', k', hr', hk'⟩ := cyt_is hF hu
    obtain ⟨e, he⟩ := unr_same hg hu (by omega) hk hk'
    subst e
    simp only [hr, hr', Option.bind_some, beq_self_eq_true, cond_true]
    by_cases h0 : k = 0
    · obtain ⟨q1, ⟨b1, b2, b3, b4⟩, b5, b6, b7, b8⟩ := he h0
      rw [bF (neF h0), Option.bind_some]
      have m1 : (c : Int) * r.Num ≤ 10 * 10000 := Int.mul_le_mul (by omega) b2 b1 (by omega)
      have m0 : 0 ≤ (c : Int) * r.Num := Int.mul_nonneg (by omega) b1
      have m2 : r'.Num * r.Den ≤ 10000 * 50 := Int.mul_le_mul b6 b4 (by omega) (by omega)
      have m3 : 0 ≤ r'.Num * r.Den := Int.mul_nonneg b5 (by omega)
      rw [wr (n := (c : Int) * r.Num) (by omega) (by omega), ← q1, beq_self_eq_true]
    · rw [bT (neT h0)]; rfl
  rcases unr_times (F := F) hF hg c1 c2 hu with ⟨w1, w2⟩ | ⟨A, B, hAB, w1, w2⟩
  · have L : laws_FnUnrolled_L16 F (g, (c : Int)) ([], 5) ([], 5) F 0 = some (.inr ()) := by
      obtain ⟨F', rfl⟩ : ∃ q, F = q + 1 := ⟨F - 1, by omega⟩
      rfl
    rw [w1, w2]
    simp only [Option.bind_some, bne_self_eq_false, cond_false, L]
    exact fin
  · have L : laws_FnUnrolled_L16 F (g, (c : Int)) (A, 0) (B, 0) F 0 = some (.inr ()) := by
      refine same_loop (len := 4) (L := laws_FnUnrolled_L16 F (g, (c : Int)) (A, 0) (B, 0)) ?_ ?_ (by omega)
      · intro n k hk
        have L20 : laws_FnUnrolled_L20 F (g, (c : Int)) (A, 0) (B, 0) (k : Int) F 0 = some (.inr ()) := by
          refine same_loop (len := c) (L := laws_FnUnrolled_L20 F (g, (c : Int)) (A, 0) (B, 0) (k : Int)) ?_ ?_ (by omega)
          · intro n2 r hr
            have L21 : laws_FnUnrolled_L21 F (g, (c : Int)) (A, 0) (B, 0) (k : Int) (r : Int) F 0 = some (.inr ()) := by
              refine same_loop (len := g.Events.toNat) (L := laws_FnUnrolled_L21 F (g, (c : Int)) (A, 0) (B, 0) (k : Int) (r : Int)) ?_ ?_ (by omega)
              · intro n3 e he
                obtain ⟨Rb, Ra, v, e1, e2, e3, e4⟩ := hAB k r e hk hr he
                have m1 : r * g.Events.toNat ≤ 10 * 10 := Nat.mul_le_mul (by omega) (by omega)
                have m2 : k * c ≤ 4 * 10 := Nat.mul_le_mul (by omega) (by omega)
                have x1 : IntKind.i64.wrap (IntKind.i64.wrap ((r : Int) * g.Events) + (e : Int)) = ((r * g.Events.toNat + e : Nat) : Int) := by
                  have hE : g.Events = ((g.Events.toNat : Nat) : Int) := by omega
                  have : (r : Int) * g.Events = ((r * g.Events.toNat : Nat) : Int) := by rw [Int.natCast_mul, ← hE]
                  rw [this, wr (n := ((r * g.Events.toNat : Nat) : Int)) (by omega) (by omega), wr (by omega) (by omega)]; omega
                have x2 : IntKind.i64.wrap (IntKind.i64.wrap ((k : Int) * (c : Int)) + (r : Int)) = ((k * c + r : Nat) : Int) := by
                  have : (k : Int) * (c : Int) = ((k * c : Nat) : Int) := by rw [Int.natCast_mul]
                  rw [this, wr (n := ((k * c : Nat) : Int)) (by omega) (by omega), wr (by omega) (by omega)]; omega
                simp only [laws_FnUnrolled_L21, bdT (show (e : Int) < g.Events by omega), x1, x2, idx_nat, e1, e2, e3, e4, Option.bind_some, bne_self_eq_false, cond_false, wrN (show e ≤ 67108864 by omega)]
              · intro n3
                simp only [laws_FnUnrolled_L21, bdF (show ¬ ((g.Events.toNat : Nat) : Int) < g.Events by omega)]
            simp only [laws_FnUnrolled_L20, bdT (show (r : Int) < (c : Int) by omega), L21, Option.bind_some, wrN (show r ≤ 67108864 by omega)]
          · intro n2
            simp only [laws_FnUnrolled_L20, bdF (show ¬ (c : Int) < (c : Int) by omega)]
        simp only [laws_FnUnrolled_L16, beq_self_eq_true, cond_true, Option.bind_some, bdT (show (k : Int) < 4 by omega), L20, wrN (show k ≤ 67108864 by omega)]
      · intro n
        simp only [laws_FnUnrolled_L16, beq_self_eq_true, cond_true, Option.bind_some, bdF (show ¬ (((4 : Nat) : Int)) < 4 by omega)]
    rw [w1, w2]
    simp only [Option.bind_some, bne_self_eq_false, cond_false, L]
    exact fin

end Go.Proofs.Ytgkgimglgjfcjaa
