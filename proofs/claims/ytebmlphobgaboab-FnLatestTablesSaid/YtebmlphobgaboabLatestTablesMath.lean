/- The law's model answers true. -/
import Derived.Test.YtebmlphobgaboabLatestTablesSmall
namespace Go.Proofs.Ytebmlphobgaboab

theorem its_bd {α : Type} {t f : α → Nat} {w : α → Int} {n : Nat} {ps : List α} {x : Nat → Int} {M : Int} (hA : ∀ p, p ∈ ps → (t p < n ∧ f p < n) ∧ -1000000 ≤ w p ∧ w p ≤ 1000000) (hl : ps.length ≤ 30) (hx : ∀ i, i < n → -M ≤ x i ∧ x i ≤ M) : ∀ (k i : Nat), i < n → -(M + 30000000 * (k : Int)) ≤ its t f w x ps k i ∧ its t f w x ps k i ≤ M + 30000000 * (k : Int) := by
  intro k
  induction k with
  | zero => intro i hi; have := hx i hi; show -(M + 30000000 * ((0 : Nat) : Int)) ≤ x i ∧ x i ≤ _; omega
  | succ k ih =>
    intro i hi
    have := rnd_bd (t := t) (f := f) (w := w) (n := n) (ps := ps) hA ih i hi
    show -(M + 30000000 * ((k + 1 : Nat) : Int)) ≤ rnd t f w (its t f w x ps k) ps i ∧ rnd t f w (its t f w x ps k) ps i ≤ _
    omega
theorem its_stay {α : Type} {t f : α → Nat} {w : α → Int} {ps : List α} {x : Nat → Int} {k : Nat} (h : chd t f w (its t f w x ps k) ps = false) : ∀ m, its t f w x ps (k + m) = its t f w x ps k
  | 0 => rfl
  | m + 1 => by
    show rnd t f w (its t f w x ps (k + m)) ps = _
    rw [its_stay h m]; exact (chd_false h).1

theorem late_round {F : Nat} {g : GEventGraph} {r : Int} (hF : 134217728 ≤ F) (h : graphB g = true) (h0 : 0 ≤ r) (h1 : r ≤ 100000) {x : Nat → Int} {M : Int} (hM1 : M ≤ 1000000000000) (hx : ∀ i, i < g.Events.toNat → -M ≤ x i ∧ x i ≤ M) :
    impl_LatestTimetable_L5 F g r F (tb g.Events.toNat fun i => - x i) false 0 = some (tb g.Events.toNat (fun i => - rnd plF plT (plW r) x g.Places i), chd plF plT (plW r) x g.Places) := by
  obtain ⟨e1, e2, e3, _, _⟩ := graphB_true h
  have hA := wT_arcs h h0 h1
  refine for0 (L := fun m (s : List Int × Bool) i => impl_LatestTimetable_L5 F g r m s.1 s.2 i) (len := g.Places.length)
    (fun k s => s = (tb g.Events.toNat (fun i => - rnd plF plT (plW r) x (g.Places.take k) i), chd plF plT (plW r) x (g.Places.take k)))
    (R := fun o => o = some (tb g.Events.toNat (fun i => - rnd plF plT (plW r) x g.Places i), chd plF plT (plW r) x g.Places)) (s := (tb g.Events.toNat fun i => - x i, false)) ?_ ?_ rfl (by omega)
  · rintro m k s hk rfl
    have hp : g.Places[k]? = some g.Places[k] := List.getElem?_eq_getElem hk
    have hmem := List.getElem_mem hk
    rw [List.take_add_one, hp, Option.toList_some, rnd_snoc, chd_snoc]
    have hy := rnd_bd (t := plF) (f := plT) (w := plW r) (n := g.Events.toNat) (ps := g.Places.take k) (x := x) (M := M) (fun p hp => ⟨⟨(hA.lt p (List.mem_of_mem_take hp)).2, (hA.lt p (List.mem_of_mem_take hp)).1⟩, hA.bd p (List.mem_of_mem_take hp)⟩) hx
    have hl : (g.Places.take k).length ≤ 30 := by rw [List.length_take]; omega
    generalize (g.Places.take k).length = l at hy hl
    generalize rnd plF plT (plW r) x (g.Places.take k) = y at hy
    generalize chd plF plT (plW r) x (g.Places.take k) = b
    generalize g.Places[k] = p at hp hmem
    obtain ⟨a1, a2, a3, a4⟩ := pl_at h hmem
    obtain ⟨b1, b2, _⟩ := plW_bd h h0 h1 hmem
    have hr := graphB_range h _ hmem
    have h6 : 0 ≤ r * p.Tokens := Int.mul_nonneg h0 (by omega)
    have h7 : r * p.Tokens ≤ 100000 * 5 := Int.mul_le_mul h1 (by omega) (by omega) (by omega)
    have y1 := hy _ a3
    have y2 := hy _ a4
    have hwk : IntKind.i64.wrap ((k : Int) + 1) = ((k + 1 : Nat) : Int) := wrN (by omega)
    have hw : IntKind.i64.wrap (IntKind.i64.wrap (- y (plT p) + IntKind.i64.wrap (p.Tokens * r)) - p.Delay) = -(y (plT p) + plW r p) := by
      unfold plW
      rw [Int.mul_comm p.Tokens r, wr (show -9223372036854775808 ≤ r * p.Tokens by omega) (by omega), wr (show -9223372036854775808 ≤ - y (plT p) + r * p.Tokens by omega) (by omega), wr (by omega) (by omega)]
      omega
    by_cases hc : y (plF p) < y (plT p) + plW r p
    · refine .inl ⟨(tb g.Events.toNat (fun i => - stp plF plT (plW r) y p i), b || chg plF plT (plW r) y p), ?_, rfl⟩
      have hcg : chg plF plT (plW r) y p = true := by unfold chg; exact decide_eq_true hc
      rw [hcg, Bool.or_true]
      simp only [impl_LatestTimetable_L5, bdT (show (k : Int) < (g.Places.length : Int) by omega), idx_nat, hp, Option.bind_some]
      rw [a1, a2]
      simp only [idx_nat, tb_at a3, tb_at a4, Option.bind_some, hw, bdT (show -(y (plT p) + plW r p) < - y (plF p) by omega), upd_nat _ (show plF p < (tb g.Events.toNat fun i => - y i).length by rw [tb_len]; exact a4), tb_set, hwk]
      congr 2
      funext i
      unfold stp
      by_cases ei : i = plF p
      · rw [if_pos ei, if_pos ei]; omega
      · rw [if_neg ei, if_neg ei]
    · refine .inl ⟨(tb g.Events.toNat (fun i => - stp plF plT (plW r) y p i), b || chg plF plT (plW r) y p), ?_, rfl⟩
      have hcg : chg plF plT (plW r) y p = false := chg_false.2 (by omega)
      rw [hcg, Bool.or_false, stp_same (show y (plT p) + plW r p ≤ y (plF p) by omega)]
      simp only [impl_LatestTimetable_L5, bdT (show (k : Int) < (g.Places.length : Int) by omega), idx_nat, hp, Option.bind_some]
      rw [a1, a2]
      simp only [idx_nat, tb_at a3, tb_at a4, Option.bind_some, hw, bdF (show ¬ -(y (plT p) + plW r p) < - y (plF p) by omega), hwk]
  · rintro m s rfl
    simp only [impl_LatestTimetable_L5, bdF (show ¬ (g.Places.length : Int) < (g.Places.length : Int) by omega), List.take_length]

theorem late_rounds {F : Nat} {g : GEventGraph} {r : Int} (hF : 134217728 ≤ F) (h : graphB g = true) (h0 : 0 ≤ r) (h1 : r ≤ 100000) {x : Nat → Int} (hx : ∀ i, i < g.Events.toNat → -1000000 ≤ x i ∧ x i ≤ 1000000) (hrest : chd plF plT (plW r) (its plF plT (plW r) x g.Places g.Events.toNat) g.Places = false) : ∀ (d k fuel : Nat), k + d = g.Events.toNat → d + 1 < fuel →
    impl_LatestTimetable_L4 F g r fuel (tb g.Events.toNat fun i => - its plF plT (plW r) x g.Places k i) true = some (tb g.Events.toNat fun i => - its plF plT (plW r) x g.Places g.Events.toNat i) := by
  obtain ⟨e1, e2, e3, _, _⟩ := graphB_true h
  have hA := wT_arcs h h0 h1
  have hb := its_bd (t := plF) (f := plT) (w := plW r) (n := g.Events.toNat) (ps := g.Places) (x := x) (M := 1000000) (fun p hp => ⟨⟨(hA.lt p hp).2, (hA.lt p hp).1⟩, hA.bd p hp⟩) e3 hx
  intro d
  induction d with
  | zero =>
    intro k fuel hk hf
    obtain ⟨fuel, rfl⟩ : ∃ m, fuel = m + 2 := ⟨fuel - 2, by omega⟩
    obtain rfl : k = g.Events.toNat := by omega
    have hr := late_round hF h h0 h1 (x := its plF plT (plW r) x g.Places g.Events.toNat) (M := 1000000 + 30000000 * ((g.Events.toNat : Nat) : Int)) (by omega) (hb _)
    rw [hrest, (chd_false hrest).1] at hr
    simp only [impl_LatestTimetable_L4, cond_true, hr, Option.bind_some, cond_false]
  | succ d ih =>
    intro k fuel hk hf
    obtain ⟨fuel, rfl⟩ : ∃ m, fuel = m + 2 := ⟨fuel - 2, by omega⟩
    have hr := late_round hF h h0 h1 (x := its plF plT (plW r) x g.Places k) (M := 1000000 + 30000000 * (k : Int)) (by omega) (hb _)
    cases hc : chd plF plT (plW r) (its plF plT (plW r) x g.Places k) g.Places with
    | false =>
      rw [hc, (chd_false hc).1] at hr
      have := its_stay hc (g.Events.toNat - k)
      rw [show k + (g.Events.toNat - k) = g.Events.toNat by omega] at this
      rw [this]
      simp only [impl_LatestTimetable_L4, cond_true, hr, Option.bind_some, cond_false]
    | true =>
      rw [hc] at hr
      have := ih (k + 1) (fuel + 1) (by omega) (by omega)
      unfold impl_LatestTimetable_L4
      rw [cond_true, hr, Option.bind_some]
      exact this

theorem late_is {F : Nat} {g : GEventGraph} {r : Int} {due : List Int} (hF : 134217728 ≤ F) (h : graphB g = true) (h0 : 0 ≤ r) (h1 : r ≤ 100000) (hd : due.length = g.Events.toNat) (hdv : ∀ x, x ∈ due → 0 ≤ x ∧ x ≤ 1000000) (hfw : FwOk (wT g r) g.Events.toNat) :
    ∃ z, spec_l08Sub F (tabM g.Events.toNat g.Events.toNat (fw (wT g r) g.Events.toNat)) due = some z ∧ impl_LatestTimetable_L4 F g r F due true = some z ∧ z.length = g.Events.toNat := by
  obtain ⟨e1, e2, e3, _, _⟩ := graphB_true h
  have hA := wT_arcs h h0 h1
  have hg : ∀ q, q < g.Events.toNat → 0 ≤ due.getD q 0 ∧ due.getD q 0 ≤ 1000000 := fun q hq => by
    have hq' : q < due.length := by omega
    rw [List.getD_eq_getElem?_getD, List.getElem?_eq_getElem hq']
    exact hdv _ (List.getElem_mem hq')
  have hfw' : FwOk (fun i j => wT g r j i) g.Events.toNat := fun k hk => by rw [fw_turn]; exact hfw k hk
  have hdue : due = tb g.Events.toNat fun i => - its plF plT (plW r) (fun q => - due.getD q 0) g.Places 0 i := by
    apply List.ext_getElem?; intro i
    by_cases hi : i < g.Events.toNat
    · rw [tb_at hi]
      show due[i]? = some (- - due.getD i 0)
      rw [Int.neg_neg, List.getD_eq_getElem?_getD, List.getElem?_eq_getElem (show i < due.length by omega)]; rfl
    · rw [List.getElem?_eq_none (by omega), List.getElem?_eq_none (by rw [tb_len]; omega)]
  have hrest := its_rest hA.turn (by omega) hfw' (fun q => - due.getD q 0)
  have S1 := specSub_is (F := F) (T := fw (wT g r) g.Events.toNat) (b := due) (M := 2048000000) hF (show 1 ≤ g.Events.toNat by omega) (by omega) (fun i j hi hj => ok_up (fw_ok hA.ok g.Events.toNat (Nat.le_refl _) hi hj) (bdw_le (by omega))) (by omega) (by omega) (fun i hi => by have := fw_diag hA.ok g.Events.toNat i; omega) hd (fun q hq => by have := hg q hq; omega)
  have S2 := late_rounds hF h h0 h1 (x := fun q => - due.getD q 0) (fun i hi => by have := hg i hi; omega) hrest g.Events.toNat 0 F (by omega) (by omega)
  rw [← hdue] at S2
  refine ⟨_, S1, ?_, by simp⟩
  rw [S2]
  unfold tb
  refine congrArg some (List.map_congr_left fun i hi => ?_)
  have hi : i < g.Events.toNat := by simpa using hi
  obtain ⟨f1, j, f2, f3, f4⟩ := its_full hA.turn (by omega) hfw' (fun q => - due.getD q 0) hi
  rw [fw_turn] at f3 f4
  have hge := its_ge (t := plF) (f := plT) (w := plW r) (fun q => - due.getD q 0) g.Places g.Events.toNat i
  have hgi := hg i hi
  congr 1
  refine Int.le_antisymm ?_ ?_
  · rw [f4, ← ta_fin f3 (show - due.getD j 0 ≠ -1000000000000000 by have := hg j f2; omega)]
    exact mx_ge (g := fun q => ta (fw (wT g r) g.Events.toNat q i) (- due.getD q 0)) f2
  · refine mx_le (by have : - due.getD i 0 ≤ its plF plT (plW r) (fun q => - due.getD q 0) g.Places g.Events.toNat i := hge; omega) fun q hq => ?_
    by_cases e : fw (wT g r) g.Events.toNat q i = -1000000000000000
    · rw [e, ta_botl]
      have : - due.getD i 0 ≤ its plF plT (plW r) (fun q => - due.getD q 0) g.Places g.Events.toNat i := hge
      omega
    · rw [ta_fin e (show - due.getD q 0 ≠ -1000000000000000 by have := hg q hq; omega)]
      have := f1 q hq (by rw [fw_turn]; exact e)
      rw [fw_turn] at this
      exact this

theorem out_LatestTimetable {F : Nat} {x0 : GEventGraph} {x1 : Int} {x2 : List Int} (hF : 134217728 ≤ F) (h0 : x0.Places.length ≤ 1048576) (h2 : x2.length ≤ 1048576) :
    (∃ c : Int, c ≠ 0 ∧ spec_LatestTimetable F x0 x1 x2 = some (⟨0, []⟩, c) ∧ impl_LatestTimetable F x0 x1 x2 = some (⟨0, []⟩, c)) ∨
    (∃ z : List Int, graphB x0 = true ∧ 0 ≤ x1 ∧ x1 ≤ 100000 ∧ x2.length = x0.Events.toNat ∧ (∀ x, x ∈ x2 → 0 ≤ x ∧ x ≤ 1000000) ∧ FwOk (wT x0 x1) x0.Events.toNat ∧ impl_LatestTimetable_L4 F x0 x1 F x2 true = some z ∧ z.length = x0.Events.toNat ∧ (∀ x, x ∈ z → 0 ≤ x) ∧
      spec_LatestTimetable F x0 x1 x2 = some (⟨x1, z⟩, 0) ∧ impl_LatestTimetable F x0 x1 x2 = some (⟨x1, z⟩, 0)) := by
  unfold spec_LatestTimetable impl_LatestTimetable spec_l20Period impl_checkPeriod
  simp only [specGraph_is hF h0, implGraph_is hF h0, specIn_is, within_is, Option.bind_some]
  cases hg : graphB x0 with
  | false => exact .inl ⟨1, by decide, rfl, rfl⟩
  | true =>
    cases hb : inB x1 0 100000 with
    | false => exact .inl ⟨2, by decide, rfl, rfl⟩
    | true =>
      obtain ⟨b0, b1⟩ := inB_true.1 hb
      obtain ⟨e1, e2, e3, _⟩ := graphB_true hg
      simp only [Bool.not_true, cond_false, bne_self_eq_false, beq_self_eq_true, cond_true, Option.bind_some, specWithin_is hF h2, implAllWithin_is hF h2]
      by_cases hl : (x2.length : Int) = x0.Events
      · rw [bF (neF hl), bF (neF hl)]
        have hlen : decide ((x2.length : Int) ≤ 10) = true := dT (by omega)
        rw [hlen, Bool.and_true]
        cases ha : x2.all fun x => inB x 0 1000000 with
        | false => exact .inl ⟨2, by decide, rfl, rfl⟩
        | true =>
          have hk := wT_ok hg b0 b1 x0.Events.toNat
          have hdv : ∀ x, x ∈ x2 → 0 ≤ x ∧ x ≤ 1000000 := fun x hx => inB_true.1 (List.all_eq_true.1 ha x hx)
          obtain ⟨c, hc, hz⟩ := implBetter_is (F := F) (r := x1) hF hg b0 b1
          simp only [Bool.not_true, cond_false, bne_self_eq_false, Option.bind_some, specWeights_is hF hg b0 b1, hc]
          rcases specStars_is (F := F) hF (show 1 ≤ x0.Events.toNat by omega) (by omega) hk with ⟨hfw, h3⟩ | ⟨hfw, z, h3⟩
          · rw [hz.2 ((fwok_iff hk (by omega)).1 hfw), h3]
            obtain ⟨z, z1, z2, z3⟩ := late_is (due := x2) hF hg b0 b1 (by omega) hdv hfw
            have hcl : slices_Clone_int64 F x2 = some x2 := by
              unfold slices_Clone_int64
              rw [app_le (by simp only [List.length_nil]; omega)]; rfl
            obtain ⟨m, m1, m2⟩ := min_is (F := F) (xs := z) (by omega) (by omega) (by omega)
            simp only [Option.bind_some, Bool.not_true, cond_false, z1, z2, hcl, m1]
            rw [all_loop (ps := z) (g := fun x => !decide (x < 0)) (r := ((⟨0, []⟩, 4) : GTimetable × Int)) (L := spec_LatestTimetable_L1 F z) ?_ ?_ (by omega)]
            · cases ha : z.all fun x => !decide (x < 0) with
              | true =>
                have : ¬ m < 0 := fun hm => by
                  obtain ⟨i, x, h1, h2, h3⟩ := m2.1 hm
                  have := List.all_eq_true.1 ha x (List.mem_of_getElem? h2)
                  rw [dT h3] at this; cases this
                rw [bdF this]
                exact .inr ⟨z, trivial, b0, b1, by omega, hdv, hfw, rfl, z3, fun x hx => by
                  have := List.all_eq_true.1 ha x hx
                  simp only [Bool.not_eq_true', decide_eq_false_iff_not] at this
                  omega, rfl, rfl⟩
              | false =>
                rw [List.all_eq_false] at ha
                obtain ⟨x, hx, hn⟩ := ha
                obtain ⟨i, hi, he⟩ := List.getElem_of_mem hx
                have hx0 : x < 0 := by
                  by_cases h : x < 0
                  · exact h
                  · rw [dF h] at hn; exact absurd rfl hn
                rw [bdT (m2.2 ⟨i, x, hi, by rw [List.getElem?_eq_getElem hi, he], hx0⟩)]
                exact .inl ⟨4, by decide, rfl, rfl⟩
            · intro n k x hk hx
              simp only [spec_LatestTimetable_L1, bdT (show (k : Int) < (z.length : Int) by omega), idx_nat, hx, Option.bind_some, wrN (show k ≤ 67108864 by omega)]
              cases decide (x < 0) <;> rfl
            · intro n
              simp only [spec_LatestTimetable_L1, bdF (show ¬ (z.length : Int) < (z.length : Int) by omega)]
          · have he : c.isEmpty = false := by
              cases he : c.isEmpty with
              | false => rfl
              | true => exact absurd ((fwok_iff hk (by omega)).2 (hz.1 he)) hfw
            rw [he, h3]
            exact .inl ⟨5, by decide, rfl, rfl⟩
      · rw [bT (neT hl), bT (neT hl)]
        exact .inl ⟨2, by decide, rfl, rfl⟩

theorem likeInts_self {F : Nat} {xs : List Int} (hF : 134217728 ≤ F) (hl : xs.length ≤ 1048576) : laws_likeInts F xs xs = some true := by
  unfold laws_likeInts
  rw [bne_self_eq_false, cond_false]
  have H := same_loop (len := xs.length) (L := laws_likeInts_L1 F xs xs) (n := F) ?_ ?_ (by omega)
  · rw [H]; rfl
  · intro n k hk
    have hx : xs[k]? = some xs[k] := List.getElem?_eq_getElem hk
    simp only [laws_likeInts_L1, bdT (show (k : Int) < (xs.length : Int) by omega), idx_nat, hx, Option.bind_some, bne_self_eq_false, cond_false, wrN (show k ≤ 67108864 by omega)]
  · intro n
    simp only [laws_likeInts_L1, bdF (show ¬ (xs.length : Int) < (xs.length : Int) by omega)]

/-! ### A value at rest is the first one or is bound by an arc -/
section rest
variable {α : Type} {t f : α → Nat} {w : α → Int}
def BndBy (t f : α → Nat) (w : α → Int) (ps : List α) (x0 x : Nat → Int) : Prop := ∀ i, x i = x0 i ∨ ∃ p, p ∈ ps ∧ t p = i ∧ x i ≤ x (f p) + w p
theorem bnd_stp {ps : List α} {x0 x : Nat → Int} (h : BndBy t f w ps x0 x) {p : α} (hp : p ∈ ps) : BndBy t f w ps x0 (stp t f w x p) := by
  intro i
  by_cases hi : i = t p
  · subst hi
    by_cases hc : x (f p) + w p ≤ x (t p)
    · rw [stp_same hc]; exact h (t p)
    · refine .inr ⟨p, hp, rfl, ?_⟩
      have h1 := stp_ge (t := t) (f := f) (w := w) x p (f p)
      have h2 : stp t f w x p (t p) = max (x (t p)) (x (f p) + w p) := by unfold stp; rw [if_pos rfl]
      omega
  · have h2 : stp t f w x p i = x i := by unfold stp; rw [if_neg hi]
    rcases h i with h3 | ⟨q, hq, e, h3⟩
    · exact .inl (by rw [h2]; exact h3)
    · have h1 := stp_ge (t := t) (f := f) (w := w) x p (f q)
      exact .inr ⟨q, hq, e, by omega⟩
theorem bnd_rnd {ps : List α} {x0 : Nat → Int} : ∀ (qs : List α) (x : Nat → Int), (∀ q, q ∈ qs → q ∈ ps) → BndBy t f w ps x0 x → BndBy t f w ps x0 (rnd t f w x qs)
  | [], _, _, h => h
  | q :: qs, x, hs, h => bnd_rnd qs _ (fun p hp => hs p (by simp [hp])) (bnd_stp h (hs q (by simp)))
theorem bnd_its {ps : List α} {x0 : Nat → Int} : ∀ k, BndBy t f w ps x0 (its t f w x0 ps k)
  | 0 => fun _ => .inl rfl
  | k + 1 => bnd_rnd ps _ (fun _ h => h) (bnd_its k)
/-- what is closed stays above -/
theorem stp_under {x z : Nat → Int} {p : α} (hz : z (f p) + w p ≤ z (t p)) (hx : ∀ i, x i ≤ z i) (i : Nat) : stp t f w x p i ≤ z i := by
  unfold stp
  by_cases hi : i = t p
  · rw [if_pos hi, hi]
    have h1 := hx (t p)
    have h2 := hx (f p)
    omega
  · rw [if_neg hi]; exact hx i
theorem rnd_under {z : Nat → Int} : ∀ (qs : List α) (x : Nat → Int), (∀ p, p ∈ qs → z (f p) + w p ≤ z (t p)) → (∀ i, x i ≤ z i) → ∀ i, rnd t f w x qs i ≤ z i
  | [], _, _, h => h
  | q :: qs, x, hs, h => rnd_under qs _ (fun p hp => hs p (by simp [hp])) (stp_under (hs q (by simp)) h)
theorem its_under {ps : List α} {x z : Nat → Int} (hs : ∀ p, p ∈ ps → z (f p) + w p ≤ z (t p)) (hx : ∀ i, x i ≤ z i) : ∀ k i, its t f w x ps k i ≤ z i
  | 0 => hx
  | k + 1 => rnd_under ps _ hs (its_under hs hx k)
end rest

/-- the latest timetable: kept, in time, each start bound -/
theorem late_tight {F : Nat} {g : GEventGraph} {r : Int} {due z : List Int} (hF : 134217728 ≤ F) (h : graphB g = true) (h0 : 0 ≤ r) (h1 : r ≤ 100000) (hd : due.length = g.Events.toNat) (hdv : ∀ x, x ∈ due → 0 ≤ x ∧ x ≤ 1000000) (hfw : FwOk (wT g r) g.Events.toNat) (hz : impl_LatestTimetable_L4 F g r F due true = some z) :
    z.length = g.Events.toNat ∧ (∀ p, p ∈ g.Places → z.getD (plF p) 0 + plW r p ≤ z.getD (plT p) 0) ∧ (∀ i, i < g.Events.toNat → z.getD i 0 ≤ due.getD i 0) ∧ (∀ i, i < g.Events.toNat → z.getD i 0 = due.getD i 0 ∨ ∃ p, p ∈ g.Places ∧ plF p = i ∧ z.getD (plF p) 0 + plW r p = z.getD (plT p) 0) := by
  obtain ⟨e1, e2, e3, _, _⟩ := graphB_true h
  have hA := wT_arcs h h0 h1
  have hg : ∀ q, q < g.Events.toNat → 0 ≤ due.getD q 0 ∧ due.getD q 0 ≤ 1000000 := fun q hq => by
    have hq' : q < due.length := by omega
    rw [List.getD_eq_getElem?_getD, List.getElem?_eq_getElem hq']
    exact hdv _ (List.getElem_mem hq')
  have hfw' : FwOk (fun i j => wT g r j i) g.Events.toNat := fun k hk => by rw [fw_turn]; exact hfw k hk
  have hdue : due = tb g.Events.toNat fun i => - its plF plT (plW r) (fun q => - due.getD q 0) g.Places 0 i := by
    apply List.ext_getElem?; intro i
    by_cases hi : i < g.Events.toNat
    · rw [tb_at hi]
      show due[i]? = some (- - due.getD i 0)
      rw [Int.neg_neg, List.getD_eq_getElem?_getD, List.getElem?_eq_getElem (show i < due.length by omega)]; rfl
    · rw [List.getElem?_eq_none (by omega), List.getElem?_eq_none (by rw [tb_len]; omega)]
  have hrest := its_rest hA.turn (by omega) hfw' (fun q => - due.getD q 0)
  have S2 := late_rounds hF h h0 h1 (x := fun q => - due.getD q 0) (fun i hi => by have := hg i hi; omega) hrest g.Events.toNat 0 F (by omega) (by omega)
  rw [← hdue, hz] at S2
  obtain rfl := Option.some.inj S2
  have hgd : ∀ i, i < g.Events.toNat → (tb g.Events.toNat fun i => - its plF plT (plW r) (fun q => - due.getD q 0) g.Places g.Events.toNat i).getD i 0 = - its plF plT (plW r) (fun q => - due.getD q 0) g.Places g.Events.toNat i := fun i hi => by
    rw [List.getD_eq_getElem?_getD, tb_at hi]; rfl
  have hcl : ∀ p, p ∈ g.Places → - its plF plT (plW r) (fun q => - due.getD q 0) g.Places g.Events.toNat (plF p) + plW r p ≤ - its plF plT (plW r) (fun q => - due.getD q 0) g.Places g.Events.toNat (plT p) := fun p hp => by
    have := (chd_false hrest).2 p hp
    omega
  refine ⟨tb_len _ _, fun p hp => ?_, fun i hi => ?_, fun i hi => ?_⟩
  · obtain ⟨_, _, p1, p2⟩ := pl_at h hp
    rw [hgd _ p1, hgd _ p2]; exact hcl p hp
  · rw [hgd i hi]
    have := its_ge (t := plF) (f := plT) (w := plW r) (fun q => - due.getD q 0) g.Places g.Events.toNat i
    have e : (fun q => - due.getD q 0) i = - due.getD i 0 := rfl
    omega
  · rw [hgd i hi]
    rcases bnd_its (t := plF) (f := plT) (w := plW r) (ps := g.Places) (x0 := fun q => - due.getD q 0) g.Events.toNat i with h2 | ⟨p, hp, rfl, h2⟩
    · left; rw [h2]; simp
    · right
      obtain ⟨_, _, p1, p2⟩ := pl_at h hp
      refine ⟨p, hp, rfl, ?_⟩
      rw [hgd _ p1, hgd _ p2]
      have := hcl p hp
      omega

/-- the earliest starts are below each that is kept -/
theorem early_under {g : GEventGraph} {r : Int} {z : List Int} (h : graphB g = true) (h0 : 0 ≤ r) (h1 : r ≤ 100000) (hfw : FwOk (wT g r) g.Events.toNat) (hz : ∀ i, 0 ≤ z.getD i 0) (hk : ∀ p, p ∈ g.Places → z.getD (plF p) 0 + plW r p ≤ z.getD (plT p) 0) {i : Nat} (hi : i < g.Events.toNat) :
    (applyv (tabM g.Events.toNat g.Events.toNat (fw (wT g r) g.Events.toNat)) (List.replicate g.Events.toNat 0)).getD i 0 ≤ z.getD i 0 := by
  obtain ⟨e1, e2, e3, _, _⟩ := graphB_true h
  have hA := wT_arcs h h0 h1
  have hr0 : ∀ q, (List.replicate g.Events.toNat (0 : Int)).getD q 0 = 0 := fun q => by
    rw [List.getD_eq_getElem?_getD]
    by_cases hq : q < g.Events.toNat
    · rw [List.getElem?_eq_getElem (by simpa using hq)]; simp
    · rw [List.getElem?_eq_none (by simp; omega)]; rfl
  rw [applyv_tab (M := 2048000000) (K := 0) (fun i j hi hj => ok_up (fw_ok hA.ok g.Events.toNat (Nat.le_refl _) hi hj) (bdw_le (by omega))) (fun q _ => .inr (by rw [hr0]; omega)) (by omega) (by omega)]
  rw [List.getD_eq_getElem?_getD, List.getElem?_map, List.getElem?_range hi]
  simp only [Option.map_some, Option.getD_some]
  refine mx_le (by have := hz i; omega) fun q hq => ?_
  rw [hr0]
  have hu := its_under (t := plT) (f := plF) (w := plW r) (ps := g.Places) (x := fun _ => 0) (z := fun i => z.getD i 0) hk (fun i => hz i) g.Events.toNat i
  by_cases e : fw (wT g r) g.Events.toNat i q = -1000000000000000
  · rw [e, ta_botl]; have := hz i; omega
  · rw [ta_fin e (by decide)]
    have := (its_full hA (by omega) hfw (fun _ => 0) hi).1 q hq e
    exact Int.le_trans this hu

theorem likeTT_self {F : Nat} {t : GTimetable} (hF : 134217728 ≤ F) (hl : t.Starts.length ≤ 1048576) : laws_likeTimetables9 F t t = some true := by
  unfold laws_likeTimetables9
  rw [beq_self_eq_true, cond_true, likeInts_self hF hl]; rfl
theorem below9_is {F : Nat} {xs ys : List Int} (hF : 134217728 ≤ F) (hl : xs.length ≤ 1048576) (he : xs.length = ys.length) (h : ∀ i, i < xs.length → xs.getD i 0 ≤ ys.getD i 0) : laws_below9 F xs ys = some true := by
  unfold laws_below9
  rw [he, bne_self_eq_false, cond_false]
  have H := same_loop (len := xs.length) (L := laws_below9_L1 F xs ys) (n := F) ?_ ?_ (by omega)
  · rw [H]; rfl
  · intro n k hk
    have h1 := getD_of hk
    have h2 := getD_of (show k < ys.length by omega)
    have h3 := h k hk
    simp only [laws_below9_L1, bdT (show (k : Int) < (xs.length : Int) by omega), idx_nat, h1, h2, Option.bind_some, bdF (show ¬ ys.getD k 0 < xs.getD k 0 by omega), wrN (show k ≤ 67108864 by omega)]
  · intro n
    simp only [laws_below9_L1, bdF (show ¬ (xs.length : Int) < (xs.length : Int) by omega)]

theorem out_EarliestTimetable {F : Nat} {g : GEventGraph} {r : Int} (hF : 134217728 ≤ F) (hg : graphB g = true) (b0 : 0 ≤ r) (b1 : r ≤ 100000) (hfw : FwOk (wT g r) g.Events.toNat) :
    impl_EarliestTimetable F g r = some (⟨r, applyv (tabM g.Events.toNat g.Events.toNat (fw (wT g r) g.Events.toNat)) (List.replicate g.Events.toNat 0)⟩, 0) := by
  obtain ⟨e1, e2, e3, _⟩ := graphB_true hg
  have hb : inB r 0 100000 = true := inB_true.2 ⟨b0, b1⟩
  unfold impl_EarliestTimetable impl_checkPeriod
  simp only [implGraph_is hF (show g.Places.length ≤ 1048576 by omega), within_is, Option.bind_some, hg, hb]
  have hk := wT_ok hg b0 b1 g.Events.toNat
  have hmk : mk g.Events (0 : Int) = some (List.replicate g.Events.toNat 0) := mk_int 0 (by omega) (by omega)
  unfold impl_timePotential
  simp only [Bool.not_true, cond_false, bne_self_eq_false, Option.bind_some, implWeights_is hF hg b0 b1]
  rcases stars_is (F := F) hF (show 1 ≤ g.Events.toNat by omega) (by omega) hk with ⟨_, h3, _⟩ | ⟨h1, _⟩
  · have hr : ∀ row, row ∈ tabM g.Events.toNat g.Events.toNat (fw (wT g r) g.Events.toNat) → row.length = (List.replicate g.Events.toNat (0 : Int)).length := fun row hrow => by rw [tabM_rows row hrow]; simp
    have hl : (List.replicate g.Events.toNat (0 : Int)).length ≤ 1048576 := by simp; omega
    rw [h3]
    simp only [Option.bind_some, Bool.not_true, cond_false, hmk]
    rw [implApply_is hF (by rw [tabM_len]; omega) hl hr]
    rfl
  · exact absurd hfw h1

theorem slk_is {g : GEventGraph} {r : Int} {z : List Int} (h : graphB g = true) (h0 : 0 ≤ r) (h1 : r ≤ 100000) (hz : ∀ i, 0 ≤ z.getD i 0 ∧ z.getD i 0 ≤ 1000000) {p : GPlace} (hp : p ∈ g.Places) : slk1 ⟨r, z⟩ p = z.getD (plT p) 0 - z.getD (plF p) 0 - plW r p := by
  have hr := graphB_range h _ hp
  have h6 : 0 ≤ r * p.Tokens := Int.mul_nonneg h0 (by omega)
  have h7 : r * p.Tokens ≤ 100000 * 5 := Int.mul_le_mul h1 (by omega) (by omega) (by omega)
  have a1 := hz (plT p)
  have a2 := hz (plF p)
  unfold plT at a1
  unfold plF at a2
  unfold slk1 plW plT plF
  simp only
  rw [Int.mul_comm p.Tokens r, wr (show -9223372036854775808 ≤ r * p.Tokens by omega) (by omega), wr (n := z.getD p.To.toNat 0 + r * p.Tokens) (by omega) (by omega), wr (n := z.getD p.To.toNat 0 + r * p.Tokens - z.getD p.From.toNat 0) (by omega) (by omega), wr (by omega) (by omega)]
  omega

theorem stuck_is {F : Nat} {g : GEventGraph} {r : Int} {z due : List Int} {e : Nat} (hF : 134217728 ≤ F) (h : graphB g = true) (h0 : 0 ≤ r) (h1 : r ≤ 100000) (hl : z.length = g.Events.toNat) (hz : ∀ i, 0 ≤ z.getD i 0 ∧ z.getD i 0 ≤ 1000000) (he : e < g.Events.toNat) (b : Bool)
    (hs : b = true ∨ ∃ p, p ∈ g.Places ∧ plF p = e ∧ z.getD (plF p) 0 + plW r p = z.getD (plT p) 0) :
    laws_FnLatestTables_L5 F (g, r, due) (⟨r, z⟩, 0) (e : Int) F b 0 = some true := by
  obtain ⟨e1, e2, e3, _, _⟩ := graphB_true h
  have H := for0 (L := laws_FnLatestTables_L5 F (g, r, due) (⟨r, z⟩, 0) (e : Int)) (len := g.Places.length)
    (fun k s => s = true ∨ ∃ p, p ∈ g.Places.drop k ∧ plF p = e ∧ z.getD (plF p) 0 + plW r p = z.getD (plT p) 0) (R := fun o => o = some true) (s := b) (n := F) ?_ ?_ (by rw [List.drop_zero]; exact hs) (by omega)
  · exact H
  · intro n k s hk hI
    have hp : g.Places[k]? = some g.Places[k] := List.getElem?_eq_getElem hk
    have hmem := List.getElem_mem hk
    have hdr : g.Places.drop k = g.Places[k] :: g.Places.drop (k + 1) := List.drop_eq_getElem_cons hk
    rw [hdr] at hI
    generalize g.Places[k] = p at hp hmem hI
    obtain ⟨a1, a2, a3, a4⟩ := pl_at h hmem
    have hsl := slk_is h h0 h1 hz hmem
    unfold slk1 at hsl
    have q1 : z[plT p]? = some (z.getD (plT p) 0) := getD_of (by omega)
    have q2 : z[e]? = some (z.getD e 0) := getD_of (by omega)
    have hwk : IntKind.i64.wrap ((k : Int) + 1) = ((k + 1 : Nat) : Int) := wrN (by omega)
    cases s with
    | true =>
      refine .inl ⟨true, ?_, .inl rfl⟩
      simp only [laws_FnLatestTables_L5, bdT (show (k : Int) < (g.Places.length : Int) by omega), idx_nat, hp, Option.bind_some, cond_true, hwk]
    | false =>
      have hI' : ∃ q, q ∈ p :: g.Places.drop (k + 1) ∧ plF q = e ∧ z.getD (plF q) 0 + plW r q = z.getD (plT q) 0 := by
        rcases hI with hI | hI
        · cases hI
        · exact hI
      by_cases hf : plF p = e
      · have hfe : (p.From == (e : Int)) = true := by rw [a2, hf]; exact beq_self_eq_true _
        have hsl' : IntKind.i64.wrap (IntKind.i64.wrap (IntKind.i64.wrap (z.getD (plT p) 0 + IntKind.i64.wrap (p.Tokens * r)) - z.getD e 0) - p.Delay) = z.getD (plT p) 0 - z.getD (plF p) 0 - plW r p := by
          rw [← hf]; exact hsl
        refine .inl ⟨(z.getD (plT p) 0 - z.getD (plF p) 0 - plW r p) == 0, ?_, ?_⟩
        · simp only [laws_FnLatestTables_L5, bdT (show (k : Int) < (g.Places.length : Int) by omega), idx_nat, hp, Option.bind_some, cond_true, cond_false, hfe]
          rw [a1]
          simp only [idx_nat, q1, q2, Option.bind_some, hsl', hwk]
        · obtain ⟨q, hq, hq1, hq2⟩ := hI'
          rcases List.mem_cons.1 hq with rfl | hq
          · exact .inl (by rw [beq_iff_eq]; omega)
          · exact .inr ⟨q, hq, hq1, hq2⟩
      · have hfe : (p.From == (e : Int)) = false := beq_false_of_ne (by rw [a2]; omega)
        refine .inl ⟨false, ?_, ?_⟩
        · simp only [laws_FnLatestTables_L5, bdT (show (k : Int) < (g.Places.length : Int) by omega), idx_nat, hp, Option.bind_some, cond_false, hfe, hwk]
        · obtain ⟨q, hq, hq1, hq2⟩ := hI'
          rcases List.mem_cons.1 hq with rfl | hq
          · exact absurd hq1 hf
          · exact .inr ⟨q, hq, hq1, hq2⟩
  · intro n s hI
    rw [List.drop_length] at hI
    have hs : s = true := by
      rcases hI with hI | ⟨q, hq, _⟩
      · exact hI
      · cases hq
    simp only [laws_FnLatestTables_L5, bdF (show ¬ (g.Places.length : Int) < (g.Places.length : Int) by omega), hs]

/-! ### The draw -/
theorem dlt_tot {F : Nat} {code : List Int} {r5 : (GEventGraph × Int) × Int × Int} {n : Nat} (hc : COk code) (hn : r5.1.1.Events = (n : Int)) (hn2 : n ≤ 1000) : ∀ (d k f : Nat) (p s : Int) (xs : List Int), k + d = n → d < f → xs.length = k → SOk code p s → Tot (fun r : Int × Int × List Int => SOk code r.1 r.2.1 ∧ r.2.2.length = n) (spec_DrawLatestTimetable_L1 F code r5 f p s xs (k : Int)) := by
  intro d
  induction d with
  | zero =>
    intro k f p s xs hk hf hx hs
    obtain ⟨f, rfl⟩ : ∃ q, f = q + 1 := ⟨f - 1, by omega⟩
    simp only [spec_DrawLatestTimetable_L1, hn, bdF (show ¬ (k : Int) < (n : Int) by omega)]
    exact Tot.pure ⟨hs, by simp only; omega⟩
  | succ d ih =>
    intro k f p s xs hk hf hx hs
    obtain ⟨f, rfl⟩ : ∃ q, f = q + 1 := ⟨f - 1, by omega⟩
    simp only [spec_DrawLatestTimetable_L1, hn, bdT (show (k : Int) < (n : Int) by omega)]
    refine Tot.bind (next_tot hc hs) fun r1 h1 => Tot.bind (app_tot (by simp only [List.length_singleton]; omega)) fun ys hys => ?_
    rw [wrN (show k ≤ 67108864 by omega)]
    have hyl : ys.length = xs.length + 1 := by rw [hys]; simp
    exact ih (k + 1) f _ _ ys (by omega) (by omega) (by omega) h1.1
theorem drawLT_tot {F : Nat} {code : List Int} (hF : 134217728 ≤ F) (hc : COk code) : Tot (fun r : GEventGraph × Int × List Int => r.1.Places.length ≤ 100 ∧ r.2.2.length ≤ 1000) (spec_DrawLatestTimetable F code) := by
  unfold spec_DrawLatestTimetable
  refine Tot.bind (from_tot hF hc) fun r2 h2 => Tot.bind (l20DrawPeriod_tot hF hc h2 (fun g hg => lpS_tot hF hg)) fun r5 h5 => ?_
  obtain ⟨n, hn⟩ : ∃ n : Nat, r5.1.1.Events = (n : Int) := ⟨r5.1.1.Events.toNat, by have := h5.2.2; omega⟩
  refine Tot.bind (dlt_tot hc hn (by have := h5.2.2; omega) n 0 F _ _ [] (by omega) (by have := h5.2.2; omega) rfl h5.1) ?_
  rintro ⟨p1, s1, xs⟩ ⟨h6, h7⟩
  simp only at h6 h7 ⊢
  have hn11 : n ≤ 11 := by have := h5.2.2; omega
  refine Tot.bind (next_tot hc h6) fun r77 h8 => Tot.cond (fun _ => ?_) fun _ => Tot.cond (fun _ => Tot.cond (fun hl => ?_) fun _ => Tot.pure ⟨h5.2.1, by simp only; omega⟩) fun _ => Tot.pure ⟨h5.2.1, by simp only; omega⟩
  · exact Tot.bind (app_tot (by simp only [List.length_singleton]; omega)) fun ys hy => Tot.pure ⟨h5.2.1, by rw [hy]; simp; omega⟩
  · have hl : 0 < (xs.length : Int) := of_decide_eq_true hl
    exact Tot.bind (pick_tot hc h8.1 (by simp)) fun r h => Tot.bind (idx_tot (by decide) hl) fun _ _ => Tot.bind (upd_tot (by decide) hl) fun ys hy => Tot.pure ⟨h5.2.1, by simp only; omega⟩

theorem law_LatestTables {F : Nat} {x0 : List Int} (hF0 : 9223372036854775808 ≤ F) (_ : x0.length ≤ 9223372036854775807) (hb : ∀ y, y ∈ x0 → 0 ≤ y ∧ y ≤ 255) : laws_FnLatestTables F x0 = some true := by
  have hF : 134217728 ≤ F := by omega
  unfold laws_FnLatestTables laws_big
  by_cases hbig : (4096 : Int) < (x0.length : Int)
  · simp only [Option.bind_some, dT hbig, cond_true]
  simp only [Option.bind_some, dF hbig, cond_false]
  have hc : COk x0 := ⟨by omega, hb⟩
  obtain ⟨⟨g, r, due⟩, hd1, a0, a1⟩ := drawLT_tot hF hc
  simp only at a0 a1
  have eg : GEventGraph.mk g.Events g.Places = g := rfl
  have nilT : laws_likeTimetables9 F ⟨0, []⟩ ⟨0, []⟩ = some true := likeTT_self hF (by simp)
  simp only [hd1, Option.bind_some, eg]
  rcases out_LatestTimetable (F := F) (x0 := g) (x1 := r) (x2 := due) hF (by omega) (by omega) with ⟨c, c0, e1, e2⟩ | ⟨z, hg, b0, b1, hd, hdv, hfw, hz, hzl, hz0, e1, e2⟩
  · simp only [e1, e2, Option.bind_some, bne_self_eq_false, cond_false, nilT, Bool.not_true, neT c0, cond_true]
  · obtain ⟨g1, g2, g3, _⟩ := graphB_true hg
    have h10 : g.Events.toNat ≤ 10 := by omega
    have hev : g.Events = (g.Events.toNat : Int) := by omega
    obtain ⟨_, t1, t2, t3⟩ := late_tight hF hg b0 b1 hd hdv hfw hz
    have hzz : ∀ i, 0 ≤ z.getD i 0 ∧ z.getD i 0 ≤ 1000000 := fun i => by
      by_cases hi : i < z.length
      · have hm : z.getD i 0 ∈ z := List.mem_of_getElem? (getD_of hi)
        have h1 := hz0 _ hm
        have h2 := t2 i (by omega)
        have hm2 : due.getD i 0 ∈ due := List.mem_of_getElem? (getD_of (show i < due.length by omega))
        have h3 := hdv _ hm2
        omega
      · rw [List.getD_eq_getElem?_getD, List.getElem?_eq_none (by omega)]; decide
    have hkept : keptB g ⟨r, z⟩ = true := by
      unfold keptB slk
      rw [List.all_eq_true]
      intro s hs
      rw [List.mem_map] at hs
      obtain ⟨p, hp, rfl⟩ := hs
      rw [slk_is hg b0 b1 hzz hp]
      have := t1 p hp
      rw [dF (by omega)]; rfl
    have htab : tableB g ⟨r, z⟩ = true := by
      unfold tableB startsB
      simp only [Bool.and_eq_true, beq_iff_eq, List.all_eq_true]
      refine ⟨inB_true.2 ⟨b0, b1⟩, by omega, fun x hx => inB_true.2 ?_⟩
      obtain ⟨i, hi, rfl⟩ := List.getElem_of_mem hx
      have := hzz i
      rw [List.getD_eq_getElem?_getD, List.getElem?_eq_getElem hi] at this
      exact this
    have k1 : impl_IsKept F g ⟨r, z⟩ = some (true, 0) := by
      unfold impl_IsKept impl_checkTimetable
      simp only [implGraph_is hF (show g.Places.length ≤ 1048576 by omega), hg, Option.bind_some, Bool.not_true, cond_false, implTable_is (g := g) (t := ⟨r, z⟩) hF (by simp only; omega), htab, bne_self_eq_false, implKept_is (g := g) (t := ⟨r, z⟩) hF hg (by simp only; omega), hkept]
    have k2 := out_EarliestTimetable hF hg b0 b1 hfw
    have T1 := likeTT_self (F := F) (t := ⟨r, z⟩) hF (by simp only; omega)
    have B1 := below9_is (F := F) (xs := z) (ys := due) hF (by omega) (by omega) (fun i hi => t2 i (by omega))
    have hal : (applyv (tabM g.Events.toNat g.Events.toNat (fw (wT g r) g.Events.toNat)) (List.replicate g.Events.toNat 0)).length = g.Events.toNat := by unfold applyv; rw [List.length_map, tabM_len]
    have B2 := below9_is (F := F) (xs := applyv (tabM g.Events.toNat g.Events.toNat (fw (wT g r) g.Events.toNat)) (List.replicate g.Events.toNat 0)) (ys := z) hF (by omega) (by omega) (fun i hi => early_under hg b0 b1 hfw (fun i => (hzz i).1) t1 (by omega))
    have L4 : laws_FnLatestTables_L4 F (g, r, due) (⟨r, z⟩, 0) F 0 = some (.inr ()) := by
      refine same_loop (len := g.Events.toNat) (L := laws_FnLatestTables_L4 F (g, r, due) (⟨r, z⟩, 0)) ?_ ?_ (by omega)
      · intro n e he
        have q1 : z[e]? = some (z.getD e 0) := getD_of (by omega)
        have q2 : due[e]? = some (due.getD e 0) := getD_of (by omega)
        have hlt : decide ((e : Int) < g.Events) = true := dT (by omega)
        have hst := stuck_is (F := F) (due := due) hF hg b0 b1 hzl hzz he (z.getD e 0 == due.getD e 0) (by
          rcases t3 e he with h | h
          · exact .inl (by rw [beq_iff_eq]; exact h)
          · exact .inr h)
        simp only [laws_FnLatestTables_L4, hlt, cond_true, idx_nat, q1, q2, Option.bind_some, hst, Bool.not_true, cond_false, wrN (show e ≤ 67108864 by omega)]
      · intro n
        have hlt : decide ((g.Events.toNat : Int) < g.Events) = false := dF (by omega)
        simp only [laws_FnLatestTables_L4, hlt, cond_false]
    simp only [e1, e2, Option.bind_some, bne_self_eq_false, cond_false, T1, Bool.not_true, k1, k2, B1, B2, L4]

end Go.Proofs.Ytebmlphobgaboab
