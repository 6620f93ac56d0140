/- The reference and the program answer alike. -/
import Derived.Test.YtmijmamolmoheaaLatestTimetableSmall
namespace Go.Proofs.Ytmijmamolmoheaa

theorem min_is {F : Nat} {xs : List Int} (h1 : 1 ≤ xs.length) (hF : xs.length < F) (hl : xs.length ≤ 1048576) : ∃ m, slices_Min_int64 F xs = some m ∧ (m < 0 ↔ ∃ i x, i < xs.length ∧ xs[i]? = some x ∧ x < 0) := by
  have hx0 : xs[0]? = some xs[0] := List.getElem?_eq_getElem (by omega)
  have H := for_ind (L := slices_Min_int64_L1 F xs) xs.length (fun k m => m < 0 ↔ ∃ i x, i < k ∧ xs[i]? = some x ∧ x < 0) (fun o => ∃ m, o = some m ∧ (m < 0 ↔ ∃ i x, i < xs.length ∧ xs[i]? = some x ∧ x < 0)) ?_ ?_ (xs.length - 1) 1 xs[0] F (by omega) ?_ (by omega)
  · obtain ⟨m, e, hm⟩ := H
    refine ⟨m, ?_, hm⟩
    have hz : idx xs 0 = some xs[0] := (idx_nat xs 0).trans hx0
    have e' : slices_Min_int64_L1 F xs F xs[0] 1 = some m := e
    unfold slices_Min_int64
    rw [bdF (show ¬ (xs.length : Int) < 1 by omega), hz, Option.bind_some, e']; rfl
  · intro n k m hk hI
    have hx : xs[k]? = some xs[k] := List.getElem?_eq_getElem hk
    refine .inl ⟨min m xs[k], ?_, ?_⟩
    · simp only [slices_Min_int64_L1, bdT (show (k : Int) < (xs.length : Int) by omega), idx_nat, hx, Option.bind_some, wrN (show k ≤ 67108864 by omega)]
    · constructor
      · intro h
        by_cases hm : m < 0
        · obtain ⟨i, x, h1, h2, h3⟩ := hI.1 hm
          exact ⟨i, x, by omega, h2, h3⟩
        · exact ⟨k, xs[k], by omega, hx, by omega⟩
      · rintro ⟨i, x, h1, h2, h3⟩
        by_cases e : i = k
        · subst e; rw [hx] at h2; cases h2; omega
        · have := hI.2 ⟨i, x, by omega, h2, h3⟩; omega
  · intro n m hI
    exact ⟨m, by simp only [slices_Min_int64_L1, bdF (show ¬ (xs.length : Int) < (xs.length : Int) by omega)], hI⟩
  · constructor
    · intro h; exact ⟨0, xs[0], by omega, hx0, h⟩
    · rintro ⟨i, x, h1, h2, h3⟩
      obtain rfl : i = 0 := by omega
      rw [hx0] at h2; cases h2; exact h3

theorem its_bd {α : Type} {t f : α → Nat} {w : α → Int} {n : Nat} {ps : List α} {x : Nat → Int} {M : Int} (hA : ∀ p, p ∈ ps → (t p < n ∧ f p < n) ∧ -1000000 ≤ w p ∧ w p ≤ 1000000) (hl : ps.length ≤ 30) (hx : ∀ i, i < n → -M ≤ x i ∧ x i ≤ M) : ∀ (k i : Nat), i < n → -(M + 30000000 * (k : Int)) ≤ its t f w x ps k i ∧ its t f w x ps k i ≤ M + 30000000 * (k : Int) := by
  intro k
  induction k with
  | zero => intro i hi; have := hx i hi; show -(M + 30000000 * ((0 : Nat) : Int)) ≤ x i ∧ x i ≤ _; omega
  | succ k ih =>
    intro i hi
    have := rnd_bd (t := t) (f := f) (w := w) (n := n) (ps := ps) hA ih i hi
    show -(M + 30000000 * ((k + 1 : Nat) : Int)) ≤ rnd t f w (its t f w x ps k) ps i ∧ rnd t f w (its t f w x ps k) ps i ≤ _
    omega
theorem its_stay {α : Type} {t f : α → Nat} {w : α → Int} {ps : List α} {x : Nat → Int} {k : Nat} (h : chd t f w (its t f w x ps k) ps = false) : ∀ m, its t f w x ps (k + m) = its t f w x ps k
  | 0 => rfl
  | m + 1 => by
    show rnd t f w (its t f w x ps (k + m)) ps = _
    rw [its_stay h m]; exact (chd_false h).1

theorem late_round {F : Nat} {g : GEventGraph} {r : Int} (hF : 134217728 ≤ F) (h : graphB g = true) (h0 : 0 ≤ r) (h1 : r ≤ 100000) {x : Nat → Int} {M : Int} (hM1 : M ≤ 1000000000000) (hx : ∀ i, i < g.Events.toNat → -M ≤ x i ∧ x i ≤ M) :
    impl_LatestTimetable_L5 F g r F (tb g.Events.toNat fun i => - x i) false 0 = some (tb g.Events.toNat (fun i => - rnd plF plT (plW r) x g.Places i), chd plF plT (plW r) x g.Places) := by
  obtain ⟨e1, e2, e3, _, _⟩ := graphB_true h
  have hA := wT_arcs h h0 h1
  refine for0 (L := fun m (s : List Int × Bool) i => impl_LatestTimetable_L5 F g r m s.1 s.2 i) (len := g.Places.length)
    (fun k s => s = (tb g.Events.toNat (fun i => - rnd plF plT (plW r) x (g.Places.take k) i), chd plF plT (plW r) x (g.Places.take k)))
    (R := fun o => o = some (tb g.Events.toNat (fun i => - rnd plF plT (plW r) x g.Places i), chd plF plT (plW r) x g.Places)) (s := (tb g.Events.toNat fun i => - x i, false)) ?_ ?_ rfl (by omega)
  · rintro m k s hk rfl
    have hp : g.Places[k]? = some g.Places[k] := List.getElem?_eq_getElem hk
    have hmem := List.getElem_mem hk
    rw [List.take_add_one, hp, Option.toList_some, rnd_snoc, chd_snoc]
    have hy := rnd_bd (t := plF) (f := plT) (w := plW r) (n := g.Events.toNat) (ps := g.Places.take k) (x := x) (M := M) (fun p hp => ⟨⟨(hA.lt p (List.mem_of_mem_take hp)).2, (hA.lt p (List.mem_of_mem_take hp)).1⟩, hA.bd p (List.mem_of_mem_take hp)⟩) hx
    have hl : (g.Places.take k).length ≤ 30 := by rw [List.length_take]; omega
    generalize (g.Places.take k).length = l at hy hl
    generalize rnd plF plT (plW r) x (g.Places.take k) = y at hy
    generalize chd plF plT (plW r) x (g.Places.take k) = b
    generalize g.Places[k] = p at hp hmem
    obtain ⟨a1, a2, a3, a4⟩ := pl_at h hmem
    obtain ⟨b1, b2, _⟩ := plW_bd h h0 h1 hmem
    have hr := graphB_range h _ hmem
    have h6 : 0 ≤ r * p.Tokens := Int.mul_nonneg h0 (by omega)
    have h7 : r * p.Tokens ≤ 100000 * 5 := Int.mul_le_mul h1 (by omega) (by omega) (by omega)
    have y1 := hy _ a3
    have y2 := hy _ a4
    have hwk : IntKind.i64.wrap ((k : Int) + 1) = ((k + 1 : Nat) : Int) := wrN (by omega)
    have hw : IntKind.i64.wrap (IntKind.i64.wrap (- y (plT p) + IntKind.i64.wrap (p.Tokens * r)) - p.Delay) = -(y (plT p) + plW r p) := by
      unfold plW
      rw [Int.mul_comm p.Tokens r, wr (show -9223372036854775808 ≤ r * p.Tokens by omega) (by omega), wr (show -9223372036854775808 ≤ - y (plT p) + r * p.Tokens by omega) (by omega), wr (by omega) (by omega)]
      omega
    by_cases hc : y (plF p) < y (plT p) + plW r p
    · refine .inl ⟨(tb g.Events.toNat (fun i => - stp plF plT (plW r) y p i), b || chg plF plT (plW r) y p), ?_, rfl⟩
      have hcg : chg plF plT (plW r) y p = true := by unfold chg; exact decide_eq_true hc
      rw [hcg, Bool.or_true]
      simp only [impl_LatestTimetable_L5, bdT (show (k : Int) < (g.Places.length : Int) by omega), idx_nat, hp, Option.bind_some]
      rw [a1, a2]
      simp only [idx_nat, tb_at a3, tb_at a4, Option.bind_some, hw, bdT (show -(y (plT p) + plW r p) < - y (plF p) by omega), upd_nat _ (show plF p < (tb g.Events.toNat fun i => - y i).length by rw [tb_len]; exact a4), tb_set, hwk]
      congr 2
      funext i
      unfold stp
      by_cases ei : i = plF p
      · rw [if_pos ei, if_pos ei]; omega
      · rw [if_neg ei, if_neg ei]
    · refine .inl ⟨(tb g.Events.toNat (fun i => - stp plF plT (plW r) y p i), b || chg plF plT (plW r) y p), ?_, rfl⟩
      have hcg : chg plF plT (plW r) y p = false := chg_false.2 (by omega)
      rw [hcg, Bool.or_false, stp_same (show y (plT p) + plW r p ≤ y (plF p) by omega)]
      simp only [impl_LatestTimetable_L5, bdT (show (k : Int) < (g.Places.length : Int) by omega), idx_nat, hp, Option.bind_some]
      rw [a1, a2]
      simp only [idx_nat, tb_at a3, tb_at a4, Option.bind_some, hw, bdF (show ¬ -(y (plT p) + plW r p) < - y (plF p) by omega), hwk]
  · rintro m s rfl
    simp only [impl_LatestTimetable_L5, bdF (show ¬ (g.Places.length : Int) < (g.Places.length : Int) by omega), List.take_length]

theorem late_rounds {F : Nat} {g : GEventGraph} {r : Int} (hF : 134217728 ≤ F) (h : graphB g = true) (h0 : 0 ≤ r) (h1 : r ≤ 100000) {x : Nat → Int} (hx : ∀ i, i < g.Events.toNat → -1000000 ≤ x i ∧ x i ≤ 1000000) (hrest : chd plF plT (plW r) (its plF plT (plW r) x g.Places g.Events.toNat) g.Places = false) : ∀ (d k fuel : Nat), k + d = g.Events.toNat → d + 1 < fuel →
    impl_LatestTimetable_L4 F g r fuel (tb g.Events.toNat fun i => - its plF plT (plW r) x g.Places k i) true = some (tb g.Events.toNat fun i => - its plF plT (plW r) x g.Places g.Events.toNat i) := by
  obtain ⟨e1, e2, e3, _, _⟩ := graphB_true h
  have hA := wT_arcs h h0 h1
  have hb := its_bd (t := plF) (f := plT) (w := plW r) (n := g.Events.toNat) (ps := g.Places) (x := x) (M := 1000000) (fun p hp => ⟨⟨(hA.lt p hp).2, (hA.lt p hp).1⟩, hA.bd p hp⟩) e3 hx
  intro d
  induction d with
  | zero =>
    intro k fuel hk hf
    obtain ⟨fuel, rfl⟩ : ∃ m, fuel = m + 2 := ⟨fuel - 2, by omega⟩
    obtain rfl : k = g.Events.toNat := by omega
    have hr := late_round hF h h0 h1 (x := its plF plT (plW r) x g.Places g.Events.toNat) (M := 1000000 + 30000000 * ((g.Events.toNat : Nat) : Int)) (by omega) (hb _)
    rw [hrest, (chd_false hrest).1] at hr
    simp only [impl_LatestTimetable_L4, cond_true, hr, Option.bind_some, cond_false]
  | succ d ih =>
    intro k fuel hk hf
    obtain ⟨fuel, rfl⟩ : ∃ m, fuel = m + 2 := ⟨fuel - 2, by omega⟩
    have hr := late_round hF h h0 h1 (x := its plF plT (plW r) x g.Places k) (M := 1000000 + 30000000 * (k : Int)) (by omega) (hb _)
    cases hc : chd plF plT (plW r) (its plF plT (plW r) x g.Places k) g.Places with
    | false =>
      rw [hc, (chd_false hc).1] at hr
      have := its_stay hc (g.Events.toNat - k)
      rw [show k + (g.Events.toNat - k) = g.Events.toNat by omega] at this
      rw [this]
      simp only [impl_LatestTimetable_L4, cond_true, hr, Option.bind_some, cond_false]
    | true =>
      rw [hc] at hr
      have := ih (k + 1) (fuel + 1) (by omega) (by omega)
      unfold impl_LatestTimetable_L4
      rw [cond_true, hr, Option.bind_some]
      exact this

theorem late_is {F : Nat} {g : GEventGraph} {r : Int} {due : List Int} (hF : 134217728 ≤ F) (h : graphB g = true) (h0 : 0 ≤ r) (h1 : r ≤ 100000) (hd : due.length = g.Events.toNat) (hdv : ∀ x, x ∈ due → 0 ≤ x ∧ x ≤ 1000000) (hfw : FwOk (wT g r) g.Events.toNat) :
    ∃ z, spec_l08Sub F (tabM g.Events.toNat g.Events.toNat (fw (wT g r) g.Events.toNat)) due = some z ∧ impl_LatestTimetable_L4 F g r F due true = some z ∧ z.length = g.Events.toNat := by
  obtain ⟨e1, e2, e3, _, _⟩ := graphB_true h
  have hA := wT_arcs h h0 h1
  have hg : ∀ q, q < g.Events.toNat → 0 ≤ due.getD q 0 ∧ due.getD q 0 ≤ 1000000 := fun q hq => by
    have hq' : q < due.length := by omega
    rw [List.getD_eq_getElem?_getD, List.getElem?_eq_getElem hq']
    exact hdv _ (List.getElem_mem hq')
  have hfw' : FwOk (fun i j => wT g r j i) g.Events.toNat := fun k hk => by rw [fw_turn]; exact hfw k hk
  have hdue : due = tb g.Events.toNat fun i => - its plF plT (plW r) (fun q => - due.getD q 0) g.Places 0 i := by
    apply List.ext_getElem?; intro i
    by_cases hi : i < g.Events.toNat
    · rw [tb_at hi]
      show due[i]? = some (- - due.getD i 0)
      rw [Int.neg_neg, List.getD_eq_getElem?_getD, List.getElem?_eq_getElem (show i < due.length by omega)]; rfl
    · rw [List.getElem?_eq_none (by omega), List.getElem?_eq_none (by rw [tb_len]; omega)]
  have hrest := its_rest hA.turn (by omega) hfw' (fun q => - due.getD q 0)
  have S1 := specSub_is (F := F) (T := fw (wT g r) g.Events.toNat) (b := due) (M := 2048000000) hF (show 1 ≤ g.Events.toNat by omega) (by omega) (fun i j hi hj => ok_up (fw_ok hA.ok g.Events.toNat (Nat.le_refl _) hi hj) (bdw_le (by omega))) (by omega) (by omega) (fun i hi => by have := fw_diag hA.ok g.Events.toNat i; omega) hd (fun q hq => by have := hg q hq; omega)
  have S2 := late_rounds hF h h0 h1 (x := fun q => - due.getD q 0) (fun i hi => by have := hg i hi; omega) hrest g.Events.toNat 0 F (by omega) (by omega)
  rw [← hdue] at S2
  refine ⟨_, S1, ?_, by simp⟩
  rw [S2]
  unfold tb
  refine congrArg some (List.map_congr_left fun i hi => ?_)
  have hi : i < g.Events.toNat := by simpa using hi
  obtain ⟨f1, j, f2, f3, f4⟩ := its_full hA.turn (by omega) hfw' (fun q => - due.getD q 0) hi
  rw [fw_turn] at f3 f4
  have hge := its_ge (t := plF) (f := plT) (w := plW r) (fun q => - due.getD q 0) g.Places g.Events.toNat i
  have hgi := hg i hi
  congr 1
  refine Int.le_antisymm ?_ ?_
  · rw [f4, ← ta_fin f3 (show - due.getD j 0 ≠ -1000000000000000 by have := hg j f2; omega)]
    exact mx_ge (g := fun q => ta (fw (wT g r) g.Events.toNat q i) (- due.getD q 0)) f2
  · refine mx_le (by have : - due.getD i 0 ≤ its plF plT (plW r) (fun q => - due.getD q 0) g.Places g.Events.toNat i := hge; omega) fun q hq => ?_
    by_cases e : fw (wT g r) g.Events.toNat q i = -1000000000000000
    · rw [e, ta_botl]
      have : - due.getD i 0 ≤ its plF plT (plW r) (fun q => - due.getD q 0) g.Places g.Events.toNat i := hge
      omega
    · rw [ta_fin e (show - due.getD q 0 ≠ -1000000000000000 by have := hg q hq; omega)]
      have := f1 q hq (by rw [fw_turn]; exact e)
      rw [fw_turn] at this
      exact this

theorem same_LatestTimetable {F : Nat} {x0 : GEventGraph} {x1 : Int} {x2 : List Int} (hF : 134217728 ≤ F) (h0 : x0.Places.length ≤ 1048576) (h2 : x2.length ≤ 1048576) :
    ∃ r : GTimetable × Int, spec_LatestTimetable F x0 x1 x2 = some r ∧ impl_LatestTimetable F x0 x1 x2 = some r ∧ r.1.Starts.length ≤ 1048576 := by
  unfold spec_LatestTimetable impl_LatestTimetable spec_l20Period impl_checkPeriod
  simp only [specGraph_is hF h0, implGraph_is hF h0, specIn_is, within_is, Option.bind_some]
  cases hg : graphB x0 with
  | false => exact ⟨(⟨0, []⟩, 1), rfl, rfl, by simp⟩
  | true =>
    cases hb : inB x1 0 100000 with
    | false => exact ⟨(⟨0, []⟩, 2), rfl, rfl, by simp⟩
    | true =>
      obtain ⟨b0, b1⟩ := inB_true.1 hb
      obtain ⟨e1, e2, e3, _⟩ := graphB_true hg
      simp only [Bool.not_true, cond_false, bne_self_eq_false, beq_self_eq_true, cond_true, Option.bind_some, specWithin_is hF h2, implAllWithin_is hF h2]
      by_cases hl : (x2.length : Int) = x0.Events
      · rw [bF (neF hl), bF (neF hl)]
        have hlen : decide ((x2.length : Int) ≤ 10) = true := dT (by omega)
        rw [hlen, Bool.and_true]
        cases ha : x2.all fun x => inB x 0 1000000 with
        | false => exact ⟨(⟨0, []⟩, 2), rfl, rfl, by simp⟩
        | true =>
          have hk := wT_ok hg b0 b1 x0.Events.toNat
          have hdv : ∀ x, x ∈ x2 → 0 ≤ x ∧ x ≤ 1000000 := fun x hx => inB_true.1 (List.all_eq_true.1 ha x hx)
          obtain ⟨c, hc, hz⟩ := implBetter_is (F := F) (r := x1) hF hg b0 b1
          simp only [Bool.not_true, cond_false, bne_self_eq_false, Option.bind_some, specWeights_is hF hg b0 b1, hc]
          rcases specStars_is (F := F) hF (show 1 ≤ x0.Events.toNat by omega) (by omega) hk with ⟨hfw, h3⟩ | ⟨hfw, z, h3⟩
          · rw [hz.2 ((fwok_iff hk (by omega)).1 hfw), h3]
            obtain ⟨z, z1, z2, z3⟩ := late_is (due := x2) hF hg b0 b1 (by omega) hdv hfw
            have hcl : slices_Clone_int64 F x2 = some x2 := by
              unfold slices_Clone_int64
              rw [app_le (by simp only [List.length_nil]; omega)]; rfl
            obtain ⟨m, m1, m2⟩ := min_is (F := F) (xs := z) (by omega) (by omega) (by omega)
            simp only [Option.bind_some, Bool.not_true, cond_false, z1, z2, hcl, m1]
            rw [all_loop (ps := z) (g := fun x => !decide (x < 0)) (r := ((⟨0, []⟩, 4) : GTimetable × Int)) (L := spec_LatestTimetable_L1 F z) ?_ ?_ (by omega)]
            · cases ha : z.all fun x => !decide (x < 0) with
              | true =>
                have : ¬ m < 0 := fun hm => by
                  obtain ⟨i, x, h1, h2, h3⟩ := m2.1 hm
                  have := List.all_eq_true.1 ha x (List.mem_of_getElem? h2)
                  rw [dT h3] at this; cases this
                rw [bdF this]
                exact ⟨(⟨x1, z⟩, 0), rfl, rfl, by show z.length ≤ _; omega⟩
              | false =>
                rw [List.all_eq_false] at ha
                obtain ⟨x, hx, hn⟩ := ha
                obtain ⟨i, hi, he⟩ := List.getElem_of_mem hx
                have hx0 : x < 0 := by
                  by_cases h : x < 0
                  · exact h
                  · rw [dF h] at hn; exact absurd rfl hn
                rw [bdT (m2.2 ⟨i, x, hi, by rw [List.getElem?_eq_getElem hi, he], hx0⟩)]
                exact ⟨(⟨0, []⟩, 4), rfl, rfl, by simp⟩
            · intro n k x hk hx
              simp only [spec_LatestTimetable_L1, bdT (show (k : Int) < (z.length : Int) by omega), idx_nat, hx, Option.bind_some, wrN (show k ≤ 67108864 by omega)]
              cases decide (x < 0) <;> rfl
            · intro n
              simp only [spec_LatestTimetable_L1, bdF (show ¬ (z.length : Int) < (z.length : Int) by omega)]
          · have he : c.isEmpty = false := by
              cases he : c.isEmpty with
              | false => rfl
              | true => exact absurd ((fwok_iff hk (by omega)).2 (hz.1 he)) hfw
            rw [he, h3]
            exact ⟨(⟨0, []⟩, 5), rfl, rfl, by simp⟩
      · rw [bT (neT hl), bT (neT hl)]
        exact ⟨(⟨0, []⟩, 2), rfl, rfl, by simp⟩

end Go.Proofs.Ytmijmamolmoheaa
