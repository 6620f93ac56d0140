/- The law's model answers true. -/
import Derived.Test.YtebmlphobgaboabTasksSmall
namespace Go.Proofs.Ytebmlphobgaboab

theorem likeInts_self {F : Nat} {xs : List Int} (hF : 134217728 ≤ F) (hl : xs.length ≤ 1048576) : laws_likeInts F xs xs = some true := by
  unfold laws_likeInts
  rw [bne_self_eq_false, cond_false]
  have H := same_loop (len := xs.length) (L := laws_likeInts_L1 F xs xs) (n := F) ?_ ?_ (by omega)
  · rw [H]; rfl
  · intro n k hk
    have hx : xs[k]? = some xs[k] := List.getElem?_eq_getElem hk
    simp only [laws_likeInts_L1, bdT (show (k : Int) < (xs.length : Int) by omega), idx_nat, hx, Option.bind_some, bne_self_eq_false, cond_false, wrN (show k ≤ 67108864 by omega)]
  · intro n
    simp only [laws_likeInts_L1, bdF (show ¬ (xs.length : Int) < (xs.length : Int) by omega)]

def EE (T : Nat → Nat → Int) (lo : List Int) (n i : Nat) : Int := mx n fun q => ta (T i q) (lo.getD q 0)
def MM (T : Nat → Nat → Int) (hi : List Int) (n j : Nat) : Int := mx n fun q => ta (T q j) (- hi.getD q 0)
theorem solve2_is {F : Nat} {ws : List GWindow} {bs : List GBond} (hF : 134217728 ≤ F) (h : taskB ws bs = true) :
    (∃ es ls, es.length = ws.length ∧ ls.length = ws.length ∧ FwOk (bT' bs) ws.length ∧ (∀ k, k < ws.length → es.getD k 0 = EE (fw (bT' bs) ws.length) (ws.map GWindow.Low) ws.length k) ∧ (∀ k, k < ws.length → ls.getD k 0 = - MM (fw (bT' bs) ws.length) (ws.map GWindow.High) ws.length k) ∧ (∀ k, k < ws.length → EE (fw (bT' bs) ws.length) (ws.map GWindow.Low) ws.length k ≤ (ws.map GWindow.High).getD k 0) ∧ (∀ k, k < ws.length → (ws.map GWindow.Low).getD k 0 ≤ - MM (fw (bT' bs) ws.length) (ws.map GWindow.High) ws.length k) ∧ impl_solveTask F ws bs = some (es, ls, 0) ∧ spec_l23Solve F ws bs true = some es ∧ spec_l23Solve F ws bs false = some ls) ∨
    ((¬ FwOk (bT' bs) ws.length ∨ ∃ k, k < ws.length ∧ (ws.map GWindow.High).getD k 0 < EE (fw (bT' bs) ws.length) (ws.map GWindow.Low) ws.length k) ∧ impl_solveTask F ws bs = some ([], [], 4) ∧ spec_l23Solve F ws bs true = some [] ∧ spec_l23Solve F ws bs false = some []) := by
  obtain ⟨n1, n10, b30, hw, _⟩ := taskB_true h
  unfold impl_solveTask spec_l23Solve
  rw [implTask_is hF (by omega) (by omega)]
  simp only [h, Bool.not_true, cond_false, Option.bind_some, implBonds_is hF h, specBonds_is hF h]
  have hk := bT_ok h ws.length
  rcases stars_is (F := F) hF n1 n10 hk with ⟨hok, h2, h3⟩ | ⟨hno, h2, z, h3⟩
  · rw [h2, h3]
    simp only [Option.bind_some, Bool.not_true, cond_false, Bool.not_false, cond_true, lows_is (F := F) (ws := ws) hF (by omega), ilows_is (F := F) (ws := ws) hF (by omega)]
    generalize hT : fw (bT' bs) ws.length = T
    have okT : ∀ i j, i < ws.length → j < ws.length → Okw 10000000000 (T i j) := fun i j hi hj => by
      rw [← hT]; exact ok_up (fw_ok hk ws.length (Nat.le_refl _) hi hj) (by have := bdw_le (show ws.length ≤ 11 by omega); omega)
    have diag : ∀ i, i < ws.length → T i i = 0 := fun i hi => by
      rw [← hT]; have a1 := fw_diag hk ws.length i; have a2 := hok i hi; omega
    have hwk : ∀ k, k < ws.length → 0 ≤ (ws.map GWindow.Low).getD k 0 ∧ (ws.map GWindow.Low).getD k 0 ≤ (ws.map GWindow.High).getD k 0 ∧ (ws.map GWindow.High).getD k 0 ≤ 1000000 ∧ (ws.map fun w => IntKind.i64.wrap (0 - w.High)).getD k 0 = - (ws.map GWindow.High).getD k 0 := fun k hk => by
      have e : ws[k]? = some ws[k] := List.getElem?_eq_getElem hk
      have := hw ws[k] (List.getElem_mem hk)
      simp only [List.getD_eq_getElem?_getD, List.getElem?_map, e, Option.map_some, Option.getD_some]
      refine ⟨this.1, this.2.1, this.2.2, ?_⟩
      rw [wr (by omega) (by omega)]; omega
    generalize hlo : ws.map GWindow.Low = lo at hwk ⊢
    generalize hhi : ws.map GWindow.High = hi at hwk
    generalize hnh : (ws.map fun w => IntKind.i64.wrap (0 - w.High)) = nh at hwk ⊢
    have llo : lo.length = ws.length := by rw [← hlo]; simp
    have lhi : hi.length = ws.length := by rw [← hhi]; simp
    have lnh : nh.length = ws.length := by rw [← hnh]; simp
    have rowsT : ∀ (x : List Int), x.length = ws.length → ∀ (S : Nat → Nat → Int), ∀ row, row ∈ tabM ws.length ws.length S → row.length = x.length := fun x hx S row hrow => by rw [tabM_rows row hrow, hx]
    have A1 := specApply_is (F := F) (a := tabM ws.length ws.length T) (x := lo) hF (by rw [tabM_len]; omega) (by omega) (rowsT lo llo T)
    have A2 := implApply_is (F := F) (a := tabM ws.length ws.length T) (x := lo) hF (by rw [tabM_len]; omega) (by omega) (rowsT lo llo T)
    have A3 := implApply_is (F := F) (a := tabM ws.length ws.length fun i j => T j i) (x := nh) hF (by rw [tabM_len]; omega) (by omega) (rowsT nh lnh _)
    have V1 := applyv_tab (x := lo) (K := 1000000) okT (fun q hq => .inr (by have := hwk q hq; omega)) (by omega) (by omega)
    have V3 := applyv_tab (T := fun i j => T j i) (x := nh) (K := 1000000) (fun i j hi hj => okT j i hj hi) (fun q hq => .inr (by have := hwk q hq; omega)) (by omega) (by omega)
    have S1 := specSub_is (F := F) (b := hi) hF n1 n10 okT (by omega) (by omega) (fun i hi => by rw [diag i hi]; decide) lhi (fun q hq => by have := hwk q hq; omega)
    rw [V1] at A1 A2
    rw [V3] at A3
    rw [A1, A2, implTrans_is hF n1 n10]
    simp only [Option.bind_some, A3, S1]
    generalize hE : (fun i => mx ws.length fun q => ta (T i q) (lo.getD q 0)) = E
    have hL' : ((List.range ws.length).map fun i => mx ws.length fun q => ta (T q i) (nh.getD q 0)) = (List.range ws.length).map fun i => mx ws.length fun q => ta (T q i) (- hi.getD q 0) := by
      apply List.map_congr_left
      intro i _
      exact mx_congr fun q hq => by rw [(hwk q hq).2.2.2]
    rw [hL', solveCheck_is hF n10 llo lhi (by simp), solveCheck_is hF n10 llo lhi (by simp), isolve_is (n := ws.length) hF n10 rfl (by simp) (by simp), hhi]
    have gE : ∀ k, k < ws.length → ((List.range ws.length).map E).getD k 0 = mx ws.length fun q => ta (T k q) (lo.getD q 0) := fun k hk => by
      rw [List.getD_eq_getElem?_getD, tabM_at hk, ← hE]; rfl
    have gL : ∀ k, k < ws.length → ((List.range ws.length).map fun j => - mx ws.length fun q => ta (T q j) (- hi.getD q 0)).getD k 0 = - mx ws.length fun q => ta (T q k) (- hi.getD q 0) := fun k hk => by
      rw [List.getD_eq_getElem?_getD, tabM_at hk]; rfl
    -- what each check says
    have low1 : ∀ k, k < ws.length → lo.getD k 0 ≤ mx ws.length fun q => ta (T k q) (lo.getD q 0) := fun k hk => by
      have h1 := mx_ge (g := fun q => ta (T k q) (lo.getD q 0)) hk
      simp only [diag k hk] at h1
      rw [ta_fin (by decide) (by have := hwk k hk; omega)] at h1
      omega
    have hig1 : ∀ k, k < ws.length → - mx ws.length (fun q => ta (T q k) (- hi.getD q 0)) ≤ hi.getD k 0 := fun k hk => by
      have h1 := mx_ge (g := fun q => ta (T q k) (- hi.getD q 0)) hk
      simp only [diag k hk] at h1
      rw [ta_fin (by decide) (by have := hwk k hk; omega)] at h1
      omega
    have okL : ∀ k, k < ws.length → Okw 10001000000 (mx ws.length fun q => ta (T q k) (- hi.getD q 0)) := fun k hk => mx_ok fun q hq => ok_up (ta_ok (okT q k hq hk) (show Okw 1000000 (- hi.getD q 0) by have := hwk q hq; exact .inr (by omega))) (by omega)
    have iff : (∃ k, k < ws.length ∧ hi.getD k 0 < mx ws.length fun q => ta (T k q) (lo.getD q 0)) ↔ ∃ k, k < ws.length ∧ - mx ws.length (fun q => ta (T q k) (- hi.getD q 0)) < lo.getD k 0 := by
      constructor
      · rintro ⟨k, hk, h1⟩
        rcases mx_cases (fun q => ta (T k q) (lo.getD q 0)) ws.length with e | ⟨q, hq, e⟩
        · rw [e] at h1; have := hwk k hk; omega
        · rw [e] at h1
          have k1 := hwk k hk
          have k2 := hwk q hq
          have hne : T k q ≠ -1000000000000000 := fun e2 => by rw [e2, ta_botl] at h1; omega
          rw [ta_fin hne (by omega)] at h1
          refine ⟨q, hq, ?_⟩
          have h2 := mx_ge (g := fun i => ta (T i q) (- hi.getD i 0)) hk
          rw [ta_fin hne (by omega)] at h2
          omega
      · rintro ⟨k, hk, h1⟩
        have k1 := hwk k hk
        rcases mx_cases (fun q => ta (T q k) (- hi.getD q 0)) ws.length with e | ⟨q, hq, e⟩
        · have := hig1 k hk; rw [e] at this; omega
        · rw [e] at h1
          have k2 := hwk q hq
          have hne : T q k ≠ -1000000000000000 := fun e2 => by
            have := hig1 k hk; rw [e, e2, ta_botl] at this; omega
          rw [ta_fin hne (by omega)] at h1
          refine ⟨q, hq, ?_⟩
          have h2 := mx_ge (g := fun i => ta (T q i) (lo.getD i 0)) hk
          rw [ta_fin hne (by omega)] at h2
          omega
    by_cases c : ∃ k, k < ws.length ∧ hi.getD k 0 < mx ws.length fun q => ta (T k q) (lo.getD q 0)
    · right
      obtain ⟨k2, hk2, c2⟩ := iff.1 c
      obtain ⟨k1, hk1, c1⟩ := c
      rw [show ((List.range ws.length).all fun k => !decide (hi.getD k 0 < ((List.range ws.length).map E).getD k 0)) = false from by
          rw [List.all_eq_false]; exact ⟨k1, by simpa using hk1, by rw [gE k1 hk1, dT c1]; decide⟩,
        show ((List.range ws.length).all fun k => !(decide (((List.range ws.length).map E).getD k 0 < lo.getD k 0) || decide (hi.getD k 0 < ((List.range ws.length).map E).getD k 0))) = false from by
          rw [List.all_eq_false]; exact ⟨k1, by simpa using hk1, by rw [gE k1 hk1, dT c1, Bool.or_true]; decide⟩,
        show ((List.range ws.length).all fun k => !(decide (((List.range ws.length).map fun j => - mx ws.length fun q => ta (T q j) (- hi.getD q 0)).getD k 0 < lo.getD k 0) || decide (hi.getD k 0 < ((List.range ws.length).map fun j => - mx ws.length fun q => ta (T q j) (- hi.getD q 0)).getD k 0))) = false from by
          rw [List.all_eq_false]; exact ⟨k2, by simpa using hk2, by rw [gL k2 hk2, dT c2, Bool.true_or]; decide⟩]
      exact ⟨.inr ⟨k1, hk1, c1⟩, rfl, rfl, rfl⟩
    · left
      have c' : ¬ ∃ k, k < ws.length ∧ - mx ws.length (fun q => ta (T q k) (- hi.getD q 0)) < lo.getD k 0 := fun h => c (iff.2 h)
      rw [show ((List.range ws.length).all fun k => !decide (hi.getD k 0 < ((List.range ws.length).map E).getD k 0)) = true from
          List.all_eq_true.2 fun k hk => by
            have hk' : k < ws.length := by simpa using hk
            rw [gE k hk', dF (fun h => c ⟨k, hk', h⟩)]; rfl,
        show ((List.range ws.length).all fun k => !(decide (((List.range ws.length).map E).getD k 0 < lo.getD k 0) || decide (hi.getD k 0 < ((List.range ws.length).map E).getD k 0))) = true from
          List.all_eq_true.2 fun k hk => by
            have hk' : k < ws.length := by simpa using hk
            have := low1 k hk'
            rw [gE k hk', dF (fun h => c ⟨k, hk', h⟩), dF (by omega)]; rfl,
        show ((List.range ws.length).all fun k => !(decide (((List.range ws.length).map fun j => - mx ws.length fun q => ta (T q j) (- hi.getD q 0)).getD k 0 < lo.getD k 0) || decide (hi.getD k 0 < ((List.range ws.length).map fun j => - mx ws.length fun q => ta (T q j) (- hi.getD q 0)).getD k 0))) = true from
          List.all_eq_true.2 fun k hk => by
            have hk' : k < ws.length := by simpa using hk
            have := hig1 k hk'
            rw [gL k hk', dF (fun h => c' ⟨k, hk', h⟩), dF (by omega)]; rfl]
      refine ⟨(List.range ws.length).map E, (List.range ws.length).map fun j => - mx ws.length fun q => ta (T q j) (- hi.getD q 0), by simp, by simp, hok, fun k hk => gE k hk, fun k hk => gL k hk, fun k hk => Int.not_lt.1 fun h => c ⟨k, hk, h⟩, fun k hk => Int.not_lt.1 fun h => c' ⟨k, hk, h⟩, ?_, rfl, rfl⟩
      simp only [Option.bind_some, cond_true, List.map_map]
      refine congrArg (fun z => some ((List.range ws.length).map E, z, (0 : Int))) ?_
      apply List.map_congr_left
      intro k hk
      have := okL k (by simpa using hk)
      have h2 := hig1 k (by simpa using hk)
      have h3 := hwk k (by simpa using hk)
      unfold Okw at this
      show IntKind.i64.wrap (0 - mx ws.length fun q => ta (T q k) (- hi.getD q 0)) = - mx ws.length fun q => ta (T q k) (- hi.getD q 0)
      rw [wr (by omega) (by omega)]; omega
  · right
    rw [h2, h3]
    exact ⟨.inl hno, rfl, rfl, rfl⟩

/-- what solves a task -/
structure Sol (ws : List GWindow) (bs : List GBond) (z : List Int) : Prop where
  len : z.length = ws.length
  win : ∀ k, k < ws.length → (ws.map GWindow.Low).getD k 0 ≤ z.getD k 0 ∧ z.getD k 0 ≤ (ws.map GWindow.High).getD k 0
  bnd : ∀ b, b ∈ bs → z.getD (bnF b) 0 + b.Least ≤ z.getD (bnT b) 0
theorem un_cases (i j : Nat) : (i = j ∧ un i j = 0) ∨ un i j = -1000000000000000 := by
  unfold un
  by_cases h : i = j
  · rw [if_pos h]; exact .inl ⟨h, rfl⟩
  · rw [if_neg h]; exact .inr rfl
theorem ta_ne {a b : Int} (h : ta a b ≠ -1000000000000000) : a ≠ -1000000000000000 ∧ b ≠ -1000000000000000 ∧ ta a b = a + b := by
  by_cases ha : a = -1000000000000000
  · rw [ha, ta_botl] at h; exact absurd rfl h
  · by_cases hb : b = -1000000000000000
    · rw [hb, ta_botr] at h; exact absurd rfl h
    · exact ⟨ha, hb, ta_fin ha hb⟩
theorem sol_fw {ws : List GWindow} {bs : List GBond} {z : List Int} (_ : taskB ws bs = true) (hz : Sol ws bs z) : ∀ (k i j : Nat), k ≤ ws.length → i < ws.length → j < ws.length → fw (bT' bs) k i j ≠ -1000000000000000 → fw (bT' bs) k i j + z.getD j 0 ≤ z.getD i 0 := by
  intro k
  induction k with
  | zero =>
    intro i j _ hi hj hne
    have e : fw (bT' bs) 0 i j = max (bT' bs i j) (un i j) := rfl
    rw [e] at hne ⊢
    have hu := un_cases i j
    rcases arcT_cases (t := bnT) (f := bnF) (w := GBond.Least) bs i j with h | ⟨b, hb, h1, h2, h3⟩
    · have h : bT' bs i j = -1000000000000000 := h
      rcases hu with ⟨rfl, hu⟩ | hu
      · rw [h, hu]; omega
      · rw [h, hu] at hne; exact absurd (by decide) hne
    · have h3 : bT' bs i j = b.Least := h3
      have := hz.bnd b hb
      rw [h1, h2] at this
      rcases hu with ⟨rfl, hu⟩ | hu
      · rw [h3, hu]; omega
      · rw [h3, hu] at hne ⊢; omega
  | succ k ih =>
    intro i j hk hi hj hne
    have e : fw (bT' bs) (k + 1) i j = max (fw (bT' bs) k i j) (ta (fw (bT' bs) k i k) (fw (bT' bs) k k j)) := rfl
    rw [e] at hne ⊢
    by_cases hle : ta (fw (bT' bs) k i k) (fw (bT' bs) k k j) ≤ fw (bT' bs) k i j
    · rw [show max (fw (bT' bs) k i j) (ta (fw (bT' bs) k i k) (fw (bT' bs) k k j)) = fw (bT' bs) k i j by omega] at hne ⊢
      exact ih i j (by omega) hi hj hne
    · rw [show max (fw (bT' bs) k i j) (ta (fw (bT' bs) k i k) (fw (bT' bs) k k j)) = ta (fw (bT' bs) k i k) (fw (bT' bs) k k j) by omega] at hne ⊢
      obtain ⟨n1, n2, n3⟩ := ta_ne hne
      have h1 := ih i k (by omega) hi (by omega) n1
      have h2 := ih k j (by omega) (by omega) hj n2
      omega
theorem low_at {ws : List GWindow} {bs : List GBond} (h : taskB ws bs = true) {k : Nat} (hk : k < ws.length) : 0 ≤ (ws.map GWindow.Low).getD k 0 ∧ (ws.map GWindow.Low).getD k 0 ≤ (ws.map GWindow.High).getD k 0 ∧ (ws.map GWindow.High).getD k 0 ≤ 1000000 := by
  obtain ⟨_, _, _, hw, _⟩ := taskB_true h
  have e : ws[k]? = some ws[k] := List.getElem?_eq_getElem hk
  have := hw ws[k] (List.getElem_mem hk)
  simp only [List.getD_eq_getElem?_getD, List.getElem?_map, e, Option.map_some, Option.getD_some]
  exact ⟨this.1, this.2.1, this.2.2⟩
theorem sol_ok {ws : List GWindow} {bs : List GBond} {z : List Int} (h : taskB ws bs = true) (hz : Sol ws bs z) : FwOk (bT' bs) ws.length := by
  intro m hm
  by_cases hb : fw (bT' bs) ws.length m m = -1000000000000000
  · rw [hb]; decide
  · have := sol_fw h hz ws.length m m (Nat.le_refl _) hm hm hb; omega
theorem sol_ge {ws : List GWindow} {bs : List GBond} {z : List Int} (h : taskB ws bs = true) (hz : Sol ws bs z) {k : Nat} (hk : k < ws.length) : EE (fw (bT' bs) ws.length) (ws.map GWindow.Low) ws.length k ≤ z.getD k 0 := by
  have hw := hz.win k hk
  have hl := low_at h hk
  refine mx_le (by omega) fun q hq => ?_
  by_cases hb : fw (bT' bs) ws.length k q = -1000000000000000
  · rw [hb, ta_botl]; omega
  · have h1 := sol_fw h hz ws.length k q (Nat.le_refl _) hk hq hb
    have h2 := hz.win q hq
    have h3 := low_at h hq
    rw [ta_fin hb (by omega)]; omega
theorem sol_le {ws : List GWindow} {bs : List GBond} {z : List Int} (h : taskB ws bs = true) (hz : Sol ws bs z) {k : Nat} (hk : k < ws.length) : z.getD k 0 ≤ - MM (fw (bT' bs) ws.length) (ws.map GWindow.High) ws.length k := by
  have hw := hz.win k hk
  have hl := low_at h hk
  have : MM (fw (bT' bs) ws.length) (ws.map GWindow.High) ws.length k ≤ - z.getD k 0 := by
    refine mx_le (by omega) fun q hq => ?_
    by_cases hb : fw (bT' bs) ws.length q k = -1000000000000000
    · rw [hb, ta_botl]; omega
    · have h1 := sol_fw h hz ws.length q k (Nat.le_refl _) hq hk hb
      have h2 := hz.win q hq
      have h3 := low_at h hq
      rw [ta_fin hb (by omega)]; omega
  omega
theorem fw_okw {ws : List GWindow} {bs : List GBond} (h : taskB ws bs = true) {i j : Nat} (hi : i < ws.length) (hj : j < ws.length) : Okw 10000000000 (fw (bT' bs) ws.length i j) := by
  obtain ⟨n1, n10, _, _, _⟩ := taskB_true h
  exact ok_up (fw_ok (bT_ok h ws.length) ws.length (Nat.le_refl _) hi hj) (by have := bdw_le (show ws.length ≤ 11 by omega); omega)
theorem fw_dg {ws : List GWindow} {bs : List GBond} (h : taskB ws bs = true) (hok : FwOk (bT' bs) ws.length) {i : Nat} (hi : i < ws.length) : fw (bT' bs) ws.length i i = 0 := by
  have a1 := fw_diag (bT_ok h ws.length) ws.length i
  have a2 := hok i hi
  omega
theorem fw_tri {ws : List GWindow} {bs : List GBond} (h : taskB ws bs = true) (hok : FwOk (bT' bs) ws.length) {i m j : Nat} (hi : i < ws.length) (hm : m < ws.length) (hj : j < ws.length) (h1 : fw (bT' bs) ws.length i m ≠ -1000000000000000) (h2 : fw (bT' bs) ws.length m j ≠ -1000000000000000) : fw (bT' bs) ws.length i m + fw (bT' bs) ws.length m j ≤ fw (bT' bs) ws.length i j := by
  obtain ⟨n1, n10, _, _, _⟩ := taskB_true h
  exact fw_closed (bT_ok h ws.length) (by omega) ws.length (Nat.le_refl _) (fwok_step (bT_ok h ws.length) hok) m i j hm hi hj h1 h2
theorem bond_fw {ws : List GWindow} {bs : List GBond} (h : taskB ws bs = true) {b : GBond} (hb : b ∈ bs) : bnT b < ws.length ∧ bnF b < ws.length ∧ b.Least ≤ fw (bT' bs) ws.length (bnT b) (bnF b) ∧ -1000000 ≤ b.Least := by
  obtain ⟨_, _, a3, a4⟩ := bn_at h hb
  obtain ⟨_, _, _, _, h5⟩ := taskB_true h
  have h6 := h5 b hb
  have h7 : b.Least ≤ bT' bs (bnT b) (bnF b) := arcT_ge (t := bnT) (f := bnF) (w := GBond.Least) hb
  have h8 := fw_arc (bT_ok h ws.length) ws.length (bnT b) (bnF b)
  exact ⟨a3, a4, by omega, h6.2.2.2.2.1⟩
theorem es_low {ws : List GWindow} {bs : List GBond} (h : taskB ws bs = true) (hok : FwOk (bT' bs) ws.length) {k : Nat} (hk : k < ws.length) : (ws.map GWindow.Low).getD k 0 ≤ EE (fw (bT' bs) ws.length) (ws.map GWindow.Low) ws.length k := by
  have h1 := mx_ge (g := fun q => ta (fw (bT' bs) ws.length k q) ((ws.map GWindow.Low).getD q 0)) hk
  have hl := low_at h hk
  simp only [fw_dg h hok hk] at h1
  rw [ta_fin (by decide) (by omega)] at h1
  unfold EE; omega
theorem ls_high {ws : List GWindow} {bs : List GBond} (h : taskB ws bs = true) (hok : FwOk (bT' bs) ws.length) {k : Nat} (hk : k < ws.length) : - MM (fw (bT' bs) ws.length) (ws.map GWindow.High) ws.length k ≤ (ws.map GWindow.High).getD k 0 := by
  have h1 := mx_ge (g := fun q => ta (fw (bT' bs) ws.length q k) (- (ws.map GWindow.High).getD q 0)) hk
  have hl := low_at h hk
  simp only [fw_dg h hok hk] at h1
  rw [ta_fin (by decide) (by omega)] at h1
  unfold MM; omega
theorem es_sol {ws : List GWindow} {bs : List GBond} {es : List Int} (h : taskB ws bs = true) (hok : FwOk (bT' bs) ws.length) (hl : es.length = ws.length) (he : ∀ k, k < ws.length → es.getD k 0 = EE (fw (bT' bs) ws.length) (ws.map GWindow.Low) ws.length k) (hh : ∀ k, k < ws.length → EE (fw (bT' bs) ws.length) (ws.map GWindow.Low) ws.length k ≤ (ws.map GWindow.High).getD k 0) : Sol ws bs es := by
  refine ⟨hl, fun k hk => by rw [he k hk]; exact ⟨es_low h hok hk, hh k hk⟩, fun b hb => ?_⟩
  obtain ⟨hi, hj, h1, h2⟩ := bond_fw h hb
  rw [he _ hi, he _ hj]
  have h3 := es_low h hok hj
  have h4 := low_at h hj
  rcases mx_cases (fun q => ta (fw (bT' bs) ws.length (bnF b) q) ((ws.map GWindow.Low).getD q 0)) ws.length with e | ⟨q, hq, e⟩
  · have e : EE (fw (bT' bs) ws.length) (ws.map GWindow.Low) ws.length (bnF b) = -1000000000000000 := e
    omega
  · have e : EE (fw (bT' bs) ws.length) (ws.map GWindow.Low) ws.length (bnF b) = ta (fw (bT' bs) ws.length (bnF b) q) ((ws.map GWindow.Low).getD q 0) := e
    obtain ⟨n1, n2, n3⟩ := ta_ne (a := fw (bT' bs) ws.length (bnF b) q) (b := (ws.map GWindow.Low).getD q 0) (by omega)
    have t1 := fw_tri h hok hi hj hq (by omega) n1
    have t2 := fw_okw h hj hq
    have t3 := mx_ge (g := fun q => ta (fw (bT' bs) ws.length (bnT b) q) ((ws.map GWindow.Low).getD q 0)) hq
    have t3 : ta (fw (bT' bs) ws.length (bnT b) q) ((ws.map GWindow.Low).getD q 0) ≤ EE (fw (bT' bs) ws.length) (ws.map GWindow.Low) ws.length (bnT b) := t3
    unfold Okw at t2
    rw [ta_fin (by omega) n2] at t3
    omega
theorem ls_sol {ws : List GWindow} {bs : List GBond} {ls : List Int} (h : taskB ws bs = true) (hok : FwOk (bT' bs) ws.length) (hl : ls.length = ws.length) (he : ∀ k, k < ws.length → ls.getD k 0 = - MM (fw (bT' bs) ws.length) (ws.map GWindow.High) ws.length k) (hh : ∀ k, k < ws.length → (ws.map GWindow.Low).getD k 0 ≤ - MM (fw (bT' bs) ws.length) (ws.map GWindow.High) ws.length k) : Sol ws bs ls := by
  refine ⟨hl, fun k hk => by rw [he k hk]; exact ⟨hh k hk, ls_high h hok hk⟩, fun b hb => ?_⟩
  obtain ⟨hi, hj, h1, h2⟩ := bond_fw h hb
  rw [he _ hi, he _ hj]
  have h3 := ls_high h hok hi
  have h4 := low_at h hi
  rcases mx_cases (fun q => ta (fw (bT' bs) ws.length q (bnT b)) (- (ws.map GWindow.High).getD q 0)) ws.length with e | ⟨q, hq, e⟩
  · have e : MM (fw (bT' bs) ws.length) (ws.map GWindow.High) ws.length (bnT b) = -1000000000000000 := e
    omega
  · have e : MM (fw (bT' bs) ws.length) (ws.map GWindow.High) ws.length (bnT b) = ta (fw (bT' bs) ws.length q (bnT b)) (- (ws.map GWindow.High).getD q 0) := e
    obtain ⟨n1, n2, n3⟩ := ta_ne (a := fw (bT' bs) ws.length q (bnT b)) (b := - (ws.map GWindow.High).getD q 0) (by omega)
    have t1 := fw_tri h hok hq hi hj n1 (by omega)
    have t2 := fw_okw h hq hi
    have t3 := mx_ge (g := fun q => ta (fw (bT' bs) ws.length q (bnF b)) (- (ws.map GWindow.High).getD q 0)) hq
    have t3 : ta (fw (bT' bs) ws.length q (bnF b)) (- (ws.map GWindow.High).getD q 0) ≤ MM (fw (bT' bs) ws.length) (ws.map GWindow.High) ws.length (bnF b) := t3
    unfold Okw at t2
    rw [ta_fin (by omega) n2] at t3
    omega
/-! ### The functions -/
def twin (es ls : List Int) (n : Nat) : List GWindow := (List.range n).map fun k => ⟨es.getD k 0, ls.getD k 0⟩
/-- what a task gives -/
structure TaskOut (F : Nat) (ws : List GWindow) (bs : List GBond) (es ls : List Int) : Prop where
  le : es.length = ws.length
  ll : ls.length = ws.length
  e1 : spec_EarliestTimes F ws bs = some (es, 0)
  e2 : impl_EarliestTimes F ws bs = some (es, 0)
  l1 : spec_LatestIn F ws bs = some (ls, 0)
  l2 : impl_LatestIn F ws bs = some (ls, 0)
  se : Sol ws bs es
  sl : Sol ws bs ls
  be : ∀ z, Sol ws bs z → ∀ k, k < ws.length → es.getD k 0 ≤ z.getD k 0 ∧ z.getD k 0 ≤ ls.getD k 0
  t1 : spec_TightWindows F ws bs = some (twin es ls ws.length, 0)
  t2 : impl_TightWindows F ws bs = some (twin es ls ws.length, 0)
  tk : taskB ws bs = true
theorem task_out {F : Nat} {ws : List GWindow} {bs : List GBond} (hF : 134217728 ≤ F) (h0 : ws.length ≤ 1048576) (h1 : bs.length ≤ 1048576) :
    (∃ es ls, TaskOut F ws bs es ls) ∨ ((¬ ∃ z, taskB ws bs = true ∧ Sol ws bs z) ∧ ∃ c : Int, c ≠ 0 ∧ spec_EarliestTimes F ws bs = some ([], c) ∧ impl_EarliestTimes F ws bs = some ([], c) ∧ spec_LatestIn F ws bs = some ([], c) ∧ impl_LatestIn F ws bs = some ([], c) ∧ spec_TightWindows F ws bs = some ([], c) ∧ impl_TightWindows F ws bs = some ([], c)) := by
  cases ht : taskB ws bs with
  | false =>
    refine .inr ⟨(fun ⟨_, hz, _⟩ => by cases hz), 1, by decide, ?_⟩
    have : impl_solveTask F ws bs = some ([], [], 1) := by
      unfold impl_solveTask
      rw [implTask_is hF h0 h1, ht]; rfl
    unfold spec_EarliestTimes impl_EarliestTimes spec_LatestIn impl_LatestIn spec_TightWindows impl_TightWindows spec_l23Code
    rw [specTask_is hF h0 h1, this, ht]
    exact ⟨rfl, rfl, rfl, rfl, rfl, rfl⟩
  | true =>
    obtain ⟨n1, _⟩ := taskB_true ht
    rcases solve2_is (F := F) hF ht with ⟨es, ls, l1, l2, hok, ge, gl, hh, hl, e1, e2, e3⟩ | ⟨hno, e1, e2, e3⟩
    · refine .inl ⟨es, ls, ?_⟩
      have hs : spec_TightWindows_L1 F (es, 0) ls F [] 0 = some (twin es ls ws.length) := by
        refine tab_loop (len := ws.length) (f := fun k => ⟨es.getD k 0, ls.getD k 0⟩) (L := spec_TightWindows_L1 F (es, 0) ls) (n := F) ?_ ?_ (by omega)
        · intro n xs k hk hx
          simp only [spec_TightWindows_L1, bdT (show (k : Int) < (es.length : Int) by omega), idx_nat, getD_of (show k < es.length by omega), getD_of (show k < ls.length by omega), Option.bind_some, app_le (show xs.length + [(⟨es.getD k 0, ls.getD k 0⟩ : GWindow)].length ≤ 67108864 by simp only [List.length_singleton]; omega), wrN (show k ≤ 67108864 by omega)]
        · intro n xs _
          simp only [spec_TightWindows_L1, bdF (show ¬ (ws.length : Int) < (es.length : Int) by omega)]
      have hi : impl_TightWindows_L1 F (es, ls, 0) (List.replicate ws.length ⟨0, 0⟩) F (List.replicate ws.length ⟨0, 0⟩) 0 = some (twin es ls ws.length) := by
        have H := fill_loop (ps := List.range ws.length) (f := fun k => (⟨es.getD k 0, ls.getD k 0⟩ : GWindow)) (L := impl_TightWindows_L1 F (es, ls, 0) (List.replicate ws.length ⟨0, 0⟩)) (xs := List.replicate ws.length ⟨0, 0⟩) (n := F) ?_ ?_ (by simp) (by rw [List.length_range]; omega)
        · exact H
        · intro n xs k x hk hx hl
          rw [List.length_range] at hk hl
          have e : x = k := by rw [List.getElem?_range hk] at hx; cases hx; rfl
          subst e
          have hq : xs[x]? = some xs[x] := List.getElem?_eq_getElem (by omega)
          simp only [impl_TightWindows_L1, List.length_replicate, bdT (show (x : Int) < (ws.length : Int) by omega), idx_nat, getD_of (show x < es.length by omega), getD_of (show x < ls.length by omega), hq, Option.bind_some, upd_nat _ (show x < xs.length by omega), wrN (show x ≤ 67108864 by omega)]
        · intro n xs
          rw [List.length_range]
          simp only [impl_TightWindows_L1, List.length_replicate, bdF (show ¬ (ws.length : Int) < (ws.length : Int) by omega)]
      have c1 : spec_l23Code F ws bs true = some (es, 0) := by
        unfold spec_l23Code
        rw [specTask_is hF h0 h1, ht]
        simp only [Option.bind_some, Bool.not_true, cond_false, e2, beq_false_of_ne (show (es.length : Int) ≠ 0 by omega)]
      have c2 : spec_l23Code F ws bs false = some (ls, 0) := by
        unfold spec_l23Code
        rw [specTask_is hF h0 h1, ht]
        simp only [Option.bind_some, Bool.not_true, cond_false, e3, beq_false_of_ne (show (ls.length : Int) ≠ 0 by omega)]
      have se := es_sol ht hok l1 ge hh
      have sl := ls_sol ht hok l2 gl hl
      refine ⟨l1, l2, ?_, ?_, ?_, ?_, se, sl, fun z hz k hk => ⟨by rw [ge k hk]; exact sol_ge ht hz hk, by rw [gl k hk]; exact sol_le ht hz hk⟩, ?_, ?_, ht⟩
      · unfold spec_EarliestTimes; rw [c1]; rfl
      · unfold impl_EarliestTimes; rw [e1]; rfl
      · unfold spec_LatestIn; rw [c2]; rfl
      · unfold impl_LatestIn; rw [e1]; rfl
      · unfold spec_TightWindows
        simp only [c1, e3, Option.bind_some, bne_self_eq_false, cond_false, hs]
      · unfold impl_TightWindows
        simp only [e1, Option.bind_some, bne_self_eq_false, cond_false, mk_nat (⟨0, 0⟩ : GWindow) (show ws.length ≤ 67108864 by omega), hi]
    · refine .inr ⟨fun ⟨z, _, hz⟩ => ?_, 4, by decide, ?_⟩
      · rcases hno with hno | ⟨k, hk, hc⟩
        · exact hno (sol_ok ht hz)
        · have := sol_ge ht hz hk
          have := (hz.win k hk).2
          omega
      · have c1 : spec_l23Code F ws bs true = some ([], 4) := by
          unfold spec_l23Code
          rw [specTask_is hF h0 h1, ht]
          simp only [Option.bind_some, Bool.not_true, cond_false, e2]; rfl
        have c2 : spec_l23Code F ws bs false = some ([], 4) := by
          unfold spec_l23Code
          rw [specTask_is hF h0 h1, ht]
          simp only [Option.bind_some, Bool.not_true, cond_false, e3]; rfl
        unfold spec_EarliestTimes impl_EarliestTimes spec_LatestIn impl_LatestIn spec_TightWindows impl_TightWindows
        rw [c1, c2, e1]
        exact ⟨rfl, rfl, rfl, rfl, rfl, rfl⟩
theorem list_ext0 {xs ys : List Int} (hl : xs.length = ys.length) (h : ∀ k, k < xs.length → xs.getD k 0 = ys.getD k 0) : xs = ys := by
  apply List.ext_getElem? 
  intro k
  by_cases hk : k < xs.length
  · rw [getD_of hk, getD_of (show k < ys.length by omega), h k hk]
  · rw [List.getElem?_eq_none (by omega), List.getElem?_eq_none (by omega)]
theorem windowD {ws : List GWindow} {k : Nat} (h : k < ws.length) : ws[k]? = some (ws.getD k ⟨0, 0⟩) := by
  rw [List.getD_eq_getElem?_getD, List.getElem?_eq_getElem h]; rfl
theorem windowL {ws : List GWindow} {k : Nat} (h : k < ws.length) : (ws.map GWindow.Low).getD k 0 = (ws.getD k ⟨0, 0⟩).Low ∧ (ws.map GWindow.High).getD k 0 = (ws.getD k ⟨0, 0⟩).High := by
  simp only [List.getD_eq_getElem?_getD, List.getElem?_map, List.getElem?_eq_getElem h, Option.map_some, Option.getD_some, and_self]
theorem winSol_is {F : Nat} {ws : List GWindow} {bs : List GBond} {z : List Int} (hF : 134217728 ≤ F) (h0 : ws.length ≤ 1048576) (h1 : bs.length ≤ 1048576) :
    ∃ r : Bool, spec_IsWindowSolution F ws bs z = some r ∧ impl_IsWindowSolution F ws bs z = some r ∧ (r = true ↔ taskB ws bs = true ∧ Sol ws bs z) := by
  unfold spec_IsWindowSolution impl_IsWindowSolution
  rw [specTask_is hF h0 h1, implTask_is hF h0 h1]
  cases ht : taskB ws bs with
  | false => exact ⟨false, rfl, rfl, by simp⟩
  | true =>
    obtain ⟨n1, n10, b30, hw, hb⟩ := taskB_true ht
    by_cases hl : z.length = ws.length
    · have hb0 : ((z.length : Int) != (ws.length : Int)) = false := neF (by omega)
      simp only [Option.bind_some, Bool.not_true, cond_false, hb0]
      have A : spec_IsWindowSolution_L1 F ws z F 0 = some (bif (List.range ws.length).all (fun k => inB (z.getD k 0) (ws.getD k ⟨0, 0⟩).Low (ws.getD k ⟨0, 0⟩).High) then .inr () else .inl false) := by
        refine all_loop (ps := List.range ws.length) (L := spec_IsWindowSolution_L1 F ws z) ?_ ?_ (by rw [List.length_range]; omega)
        · intro n k x hk hx
          rw [List.length_range] at hk
          obtain rfl : k = x := by rw [List.getElem?_range hk] at hx; exact Option.some.inj hx
          simp only [spec_IsWindowSolution_L1, bdT (show (k : Int) < (z.length : Int) by omega), idx_nat, getD_of (show k < z.length by omega), windowD hk, Option.bind_some, specIn_is, wrN (show k ≤ 67108864 by omega), condn]
        · intro n
          rw [List.length_range]
          simp only [spec_IsWindowSolution_L1, bdF (show ¬ (ws.length : Int) < (z.length : Int) by omega)]
      have B : impl_IsWindowSolution_L1 F ws z F 0 = some (bif (List.range ws.length).all (fun k => inB (z.getD k 0) (ws.getD k ⟨0, 0⟩).Low (ws.getD k ⟨0, 0⟩).High) then .inr () else .inl false) := by
        refine all_loop (ps := List.range ws.length) (L := impl_IsWindowSolution_L1 F ws z) ?_ ?_ (by rw [List.length_range]; omega)
        · intro n k x hk hx
          rw [List.length_range] at hk
          obtain rfl : k = x := by rw [List.getElem?_range hk] at hx; exact Option.some.inj hx
          simp only [impl_IsWindowSolution_L1, bdT (show (k : Int) < (ws.length : Int) by omega), idx_nat, getD_of (show k < z.length by omega), windowD hk, Option.bind_some, within_is, wrN (show k ≤ 67108864 by omega), condn]
        · intro n
          rw [List.length_range]
          simp only [impl_IsWindowSolution_L1, bdF (show ¬ (ws.length : Int) < (ws.length : Int) by omega)]
      rw [A, B]
      cases hW : (List.range ws.length).all (fun k => inB (z.getD k 0) (ws.getD k ⟨0, 0⟩).Low (ws.getD k ⟨0, 0⟩).High) with
      | false =>
        refine ⟨false, rfl, rfl, ⟨(fun h => (by cases h)), fun h => ?_⟩⟩
        rw [List.all_eq_false] at hW
        obtain ⟨k, hk, hk2⟩ := hW
        have hk : k < ws.length := by simpa using hk
        have := h.2.win k hk
        rw [(windowL hk).1, (windowL hk).2] at this
        exact absurd (inB_true.2 this) hk2
      | true =>
        have hin : ∀ k, k < ws.length → (ws.getD k ⟨0, 0⟩).Low ≤ z.getD k 0 ∧ z.getD k 0 ≤ (ws.getD k ⟨0, 0⟩).High := fun k hk => inB_true.1 ((List.all_eq_true.1 hW) k (by simpa using hk))
        have hz : ∀ k, k < ws.length → 0 ≤ z.getD k 0 ∧ z.getD k 0 ≤ 1000000 := fun k hk => by
          have h1 := hin k hk
          have h2 := low_at ht hk
          rw [(windowL hk).1, (windowL hk).2] at h2
          omega
        have C : spec_IsWindowSolution_L2 F bs z F 0 = some (bif bs.all (fun b => !decide (z.getD (bnT b) 0 < z.getD (bnF b) 0 + b.Least)) then .inr () else .inl false) := by
          refine all_loop (ps := bs) (L := spec_IsWindowSolution_L2 F bs z) ?_ ?_ (by omega)
          · intro n k p hk hp
            obtain ⟨a1, a2, a3, a4⟩ := bn_at ht (List.mem_of_getElem? hp)
            have c1 := hz _ a3
            have c2 := hz _ a4
            have hd : decide (z.getD (bnT p) 0 - z.getD (bnF p) 0 < p.Least) = decide (z.getD (bnT p) 0 < z.getD (bnF p) 0 + p.Least) := decide_eq_decide.2 (by omega)
            simp only [spec_IsWindowSolution_L2, bdT (show (k : Int) < (bs.length : Int) by omega), idx_nat, hp, Option.bind_some]
            rw [a1, a2]
            simp only [idx_nat, getD_of (show bnT p < z.length by omega), getD_of (show bnF p < z.length by omega), Option.bind_some, wr (show -9223372036854775808 ≤ z.getD (bnT p) 0 - z.getD (bnF p) 0 by omega) (show z.getD (bnT p) 0 - z.getD (bnF p) 0 ≤ 9223372036854775807 by omega), hd, wrN (show k ≤ 67108864 by omega), condn]
          · intro n
            simp only [spec_IsWindowSolution_L2, bdF (show ¬ (bs.length : Int) < (bs.length : Int) by omega)]
        have D := slices_ContainsFunc_Bond_is (F := F) (ps := bs) (m := fun x0 => impl_IsWindowSolution_c1 F x0 z) (h := fun b => decide (z.getD (bnT b) 0 < z.getD (bnF b) 0 + b.Least)) hF (by omega) (fun p hp => by
          obtain ⟨a1, a2, a3, a4⟩ := bn_at ht hp
          obtain ⟨_, _, _, _, b5, b6⟩ := hb p hp
          have c1 := hz _ a3
          have c2 := hz _ a4
          simp only [impl_IsWindowSolution_c1]
          rw [a1, a2]
          simp only [idx_nat, getD_of (show bnT p < z.length by omega), getD_of (show bnF p < z.length by omega), Option.bind_some]
          rw [wr (show -9223372036854775808 ≤ z.getD (bnF p) 0 + p.Least by omega) (by omega)])
        rw [C, D]
        refine ⟨bs.all (fun b => !decide (z.getD (bnT b) 0 < z.getD (bnF b) 0 + b.Least)), ?_, ?_, ?_⟩
        · cases bs.all (fun b => !decide (z.getD (bnT b) 0 < z.getD (bnF b) 0 + b.Least)) <;> rfl
        · simp only [cond_true, Option.bind_some]
          rw [List.not_any_eq_all_not]
        · rw [List.all_eq_true]
          constructor
          · intro h
            refine ⟨by trivial, hl, fun k hk => by rw [(windowL hk).1, (windowL hk).2]; exact hin k hk, fun b hb => ?_⟩
            have := h b hb
            simp only [Bool.not_eq_true', decide_eq_false_iff_not] at this
            omega
          · rintro ⟨_, h⟩ b hb
            have := h.bnd b hb
            simp only [Bool.not_eq_true', decide_eq_false_iff_not]
            omega
    · have hb0 : ((z.length : Int) != (ws.length : Int)) = true := neT (by omega)
      simp only [Option.bind_some, Bool.not_true, cond_false, hb0, cond_true]
      exact ⟨false, rfl, rfl, ⟨(fun h => (by cases h)), fun h => absurd h.2.len hl⟩⟩
def bslk (z : List Int) (b : GBond) : Int := IntKind.i64.wrap (IntKind.i64.wrap (z.getD (bnT b) 0 - z.getD (bnF b) 0) - b.Least)
theorem slackB_is {F : Nat} {ws : List GWindow} {bs : List GBond} {z : List Int} (hF : 134217728 ≤ F) (h0 : ws.length ≤ 1048576) (h1 : bs.length ≤ 1048576) (h2 : z.length ≤ 1048576) :
    ∃ xs c, spec_SlackOfBonds F ws bs z = some (xs, c) ∧ impl_SlackOfBonds F ws bs z = some (xs, c) ∧ xs.length ≤ 1048576 ∧ (taskB ws bs = true → Sol ws bs z → c = 0 ∧ ∀ x, x ∈ xs → 0 ≤ x) := by
  unfold spec_SlackOfBonds impl_SlackOfBonds
  rw [specTask_is hF h0 h1, implTask_is hF h0 h1]
  cases ht : taskB ws bs with
  | false => exact ⟨[], 1, rfl, rfl, by simp, fun h => (by cases h)⟩
  | true =>
    obtain ⟨n1, n10, b30, hw, hb⟩ := taskB_true ht
    simp only [Option.bind_some, Bool.not_true, cond_false, specWithin_is hF h2, implAllWithin_is hF h2]
    by_cases hl : z.length = ws.length
    · have hb0 : ((z.length : Int) != (ws.length : Int)) = false := neF (by omega)
      rw [hb0, dT (show (z.length : Int) ≤ 10 by omega)]
      simp only [cond_false, Bool.and_true, Option.bind_some]
      cases hW : z.all (fun x => inB x 0 1000000) with
      | false =>
        refine ⟨[], 2, rfl, rfl, by simp, fun _ h => ?_⟩
        rw [List.all_eq_false] at hW
        obtain ⟨x, hx, hx2⟩ := hW
        obtain ⟨k, hk, rfl⟩ := List.getElem_of_mem hx
        have h3 := h.win k (by omega)
        have h4 := low_at ht (show k < ws.length by omega)
        have hzk : z.getD k 0 = z[k] := by rw [List.getD_eq_getElem?_getD, List.getElem?_eq_getElem hk]; rfl
        rw [hzk] at h3
        exact absurd (inB_true.2 ⟨by omega, by omega⟩) hx2
      | true =>
        simp only [Bool.not_true, cond_false]
        have A : spec_SlackOfBonds_L1 F bs z F [] 0 = some (bs.flatMap fun b => [bslk z b]) := by
          refine grow_loop (ps := bs) (g := fun b => [bslk z b]) (L := spec_SlackOfBonds_L1 F bs z) (fun x => by simp) ?_ ?_ (by omega)
          · intro n xs k p hk hp hx
            obtain ⟨a1, a2, a3, a4⟩ := bn_at ht (List.mem_of_getElem? hp)
            simp only [spec_SlackOfBonds_L1, bdT (show (k : Int) < (bs.length : Int) by omega), idx_nat, hp, Option.bind_some]
            rw [a1, a2]
            have happ : app xs [IntKind.i64.wrap (IntKind.i64.wrap (z.getD (bnT p) 0 - z.getD (bnF p) 0) - p.Least)] = some (xs ++ [bslk z p]) := app_le (by simp only [List.length_singleton]; omega)
            simp only [idx_nat, getD_of (show bnT p < z.length by omega), getD_of (show bnF p < z.length by omega), Option.bind_some, happ, wrN (show k ≤ 67108864 by omega)]
          · intro n xs
            simp only [spec_SlackOfBonds_L1, bdF (show ¬ (bs.length : Int) < (bs.length : Int) by omega)]
        have B : impl_SlackOfBonds_L1 F bs z F (List.replicate bs.length 0) 0 = some (bs.map (bslk z)) := by
          refine fill_loop (ps := bs) (f := bslk z) (L := impl_SlackOfBonds_L1 F bs z) ?_ ?_ (by simp) (by omega)
          · intro n xs k p hk hp hx
            obtain ⟨a1, a2, a3, a4⟩ := bn_at ht (List.mem_of_getElem? hp)
            simp only [impl_SlackOfBonds_L1, bdT (show (k : Int) < (bs.length : Int) by omega), idx_nat, hp, Option.bind_some]
            rw [a1, a2]
            simp only [idx_nat, getD_of (show bnT p < z.length by omega), getD_of (show bnF p < z.length by omega), getD_of (show k < xs.length by omega), Option.bind_some, upd_nat _ (show k < xs.length by omega), wrN (show k ≤ 67108864 by omega)]
            rfl
          · intro n xs
            simp only [impl_SlackOfBonds_L1, bdF (show ¬ (bs.length : Int) < (bs.length : Int) by omega)]
        rw [A, mk_nat _ (show bs.length ≤ 67108864 by omega), flatMap_one]
        simp only [Option.bind_some, B]
        refine ⟨_, _, rfl, rfl, by rw [List.length_map]; exact h1, fun _ h => ⟨rfl, fun x hx => ?_⟩⟩
        obtain ⟨b, hbm, rfl⟩ := List.mem_map.1 hx
        obtain ⟨a1, a2, a3, a4⟩ := bn_at ht hbm
        obtain ⟨_, _, _, _, b5, b6⟩ := hb b hbm
        have c1 := h.win _ a3
        have c2 := h.win _ a4
        have c3 := low_at ht a3
        have c4 := low_at ht a4
        have c5 := h.bnd b hbm
        unfold bslk
        rw [wr (show -9223372036854775808 ≤ z.getD (bnT b) 0 - z.getD (bnF b) 0 by omega) (by omega), wr (by omega) (by omega)]
        omega
    · have hb0 : ((z.length : Int) != (ws.length : Int)) = true := neT (by omega)
      rw [hb0]
      exact ⟨[], 2, rfl, rfl, by simp, fun _ h => absurd h.len hl⟩
theorem code_tot {F : Nat} {ws : List GWindow} {bs : List GBond} (b : Bool) (hF : 134217728 ≤ F) (h0 : ws.length ≤ 1000) (h1 : bs.length ≤ 1000) : Tot (fun r : List Int × Int => r.1.length ≤ 1000) (spec_l23Code F ws bs b) := by
  unfold spec_l23Code
  rw [specTask_is hF (by omega) (by omega)]
  cases ht : taskB ws bs with
  | false => exact ⟨([], 1), rfl, by simp⟩
  | true =>
    simp only [Option.bind_some, Bool.not_true, cond_false]
    have : ∃ xs, spec_l23Solve F ws bs b = some xs ∧ xs.length ≤ 1000 := by
      rcases solve_is (F := F) hF ht with ⟨es, ls, l1, l2, e1, e2, e3⟩ | ⟨e1, e2, e3⟩
      · cases b
        · exact ⟨_, e3, by omega⟩
        · exact ⟨_, e2, by omega⟩
      · cases b
        · exact ⟨_, e3, by simp⟩
        · exact ⟨_, e2, by simp⟩
    obtain ⟨xs, hx, hxl⟩ := this
    rw [hx]
    exact Tot.cond (fun _ => Tot.pure (by simp)) fun _ => Tot.pure hxl
/-! ### Draws -/
theorem l23L1_tot {F : Nat} {code : List Int} {r5 : Int × Int × Int} {n : Nat} (hc : COk code) (hn : IntKind.i64.wrap (1 + r5.1) = (n : Int)) (hn2 : n ≤ 1000) : ∀ (d k f : Nat) (p s : Int) (xs : List GWindow), k + d = n → d < f → xs.length = k → SOk code p s → Tot (fun r : Int × Int × List GWindow => SOk code r.1 r.2.1 ∧ r.2.2.length = n) (spec_l23Draw_L1 F code r5 f p s xs (k : Int)) := by
  intro d
  induction d with
  | zero =>
    intro k f p s xs hk hf hx hs
    obtain ⟨f, rfl⟩ : ∃ q, f = q + 1 := ⟨f - 1, by omega⟩
    simp only [spec_l23Draw_L1, hn, bdF (show ¬ (k : Int) < (n : Int) by omega)]
    exact Tot.pure ⟨hs, by simp only; omega⟩
  | succ d ih =>
    intro k f p s xs hk hf hx hs
    obtain ⟨f, rfl⟩ : ∃ q, f = q + 1 := ⟨f - 1, by omega⟩
    simp only [spec_l23Draw_L1, hn, bdT (show (k : Int) < (n : Int) by omega)]
    refine Tot.bind (next_tot hc hs) fun r1 h1 => Tot.bind (next_tot hc h1.1) fun r2 h2 => Tot.bind (next_tot hc h2.1) fun r3 h3 => Tot.bind (pick_tot hc h3.1 (by simp)) fun r4 h4 => Tot.bind (app_tot (by simp only [List.length_singleton]; omega)) fun ys hys => ?_
    rw [wrN (show k ≤ 67108864 by omega)]
    have hyl : ys.length = xs.length + 1 := by rw [hys]; simp
    exact ih (k + 1) f _ _ ys (by omega) (by omega) (by omega) h4.1
theorem l23L2_tot {F : Nat} {code : List Int} {r5 : Int × Int × Int} (hc : COk code) : ∀ (m f : Nat) (p s : Int) (xs : List GBond), m < f → xs.length + m ≤ 900 → SOk code p s → Tot (fun r : Int × Int × List GBond => SOk code r.1 r.2.1 ∧ r.2.2.length ≤ 900) (spec_l23Draw_L2 F code r5 f p s xs (m : Int)) := by
  intro m
  induction m with
  | zero =>
    intro f p s xs hf hx hs
    obtain ⟨f, rfl⟩ : ∃ q, f = q + 1 := ⟨f - 1, by omega⟩
    simp only [spec_l23Draw_L2, bdF (show ¬ (0 : Int) < ((0 : Nat) : Int) by omega)]
    exact Tot.pure ⟨hs, by simp only; omega⟩
  | succ m ih =>
    intro f p s xs hf hx hs
    obtain ⟨f, rfl⟩ : ∃ q, f = q + 1 := ⟨f - 1, by omega⟩
    simp only [spec_l23Draw_L2, bdT (show (0 : Int) < ((m + 1 : Nat) : Int) by omega)]
    refine Tot.bind (next_tot hc hs) fun r1 h1 => Tot.bind (next_tot hc h1.1) fun r2 h2 => Tot.bind (next_tot hc h2.1) fun r3 h3 => ?_
    refine Tot.bind (P := fun r : Int × Int × Int => SOk code r.1 r.2.1) (Tot.cond (fun _ => Tot.bind (next_tot hc h3.1) fun r4 h4 => Tot.pure h4.1) fun _ => Tot.pure h3.1) ?_
    rintro ⟨p4, s4, x4⟩ h4
    simp only at h4 ⊢
    refine Tot.bind (app_tot (by simp only [List.length_singleton]; omega)) fun ys hys => ?_
    have hyl : ys.length = xs.length + 1 := by rw [hys]; simp
    rw [show IntKind.i64.wrap (((m + 1 : Nat) : Int) - 1) = (m : Int) by rw [wr (by omega) (by omega)]; omega]
    exact ih f _ _ ys (by omega) (by omega) h4
theorem l23Draw_tot {F : Nat} {code : List Int} {p s : Int} (hF : 134217728 ≤ F) (hc : COk code) (hs : SOk code p s) : Tot (fun r : (List GWindow × List GBond) × Int × Int => SOk code r.2.1 r.2.2 ∧ r.1.1.length ≤ 1000 ∧ r.1.2.length ≤ 1000) (spec_l23Draw F code p s) := by
  unfold spec_l23Draw
  refine Tot.bind (next_tot hc hs) fun r5 h5 => ?_
  have h50 := h5.2.1
  have h51 : r5.1 < 5 := by have := h5.2.2; omega
  obtain ⟨n, hn⟩ : ∃ n : Nat, 1 + r5.1 = (n : Int) := ⟨(1 + r5.1).toNat, by omega⟩
  have hw : IntKind.i64.wrap (1 + r5.1) = (n : Int) := by rw [wr (by omega) (by omega)]; exact hn
  refine Tot.bind (l23L1_tot hc hw (by omega) n 0 F _ _ [] (by omega) (by omega) rfl h5.1) ?_
  rintro ⟨p1, s1, ws⟩ ⟨h6, h7⟩
  simp only at h6 h7 ⊢
  refine Tot.bind (next_tot hc h6) fun r102 h8 => ?_
  have h80 := h8.2.1
  have h81 : r102.1 < 8 := by have := h8.2.2; omega
  obtain ⟨m, hm⟩ : ∃ m : Nat, r102.1 = (m : Int) := ⟨r102.1.toNat, by omega⟩
  rw [hm]
  refine Tot.bind (l23L2_tot hc m F _ _ [] (by omega) (by simp; omega) h8.1) ?_
  rintro ⟨p2, s2, bs⟩ ⟨h9, h10⟩
  simp only at h9 h10 ⊢
  refine Tot.bind (next_tot hc h9) fun r231 h11 => Tot.cond (fun _ => ?_) fun _ => Tot.cond (fun _ => ?_) fun _ => Tot.cond (fun _ => ?_) fun _ => Tot.pure ⟨h11.1, by simp only; omega, by simp only; omega⟩
  · refine Tot.bind (pick_tot hc h11.1 (by simp)) fun r1 h12 => Tot.bind (pick_tot hc h12.1 (by simp)) fun r2 h13 => Tot.bind (idx_tot (by decide) (by omega)) fun _ _ => Tot.bind (upd_tot (by decide) (by omega)) fun ys hy => Tot.pure ⟨h13.1, by simp only; omega, by simp only; omega⟩
  · refine Tot.bind (pick_tot hc h11.1 (by simp)) fun r1 h12 => Tot.bind (pick_tot hc h12.1 (by simp)) fun r2 h13 => Tot.bind (app_tot (by simp only [List.length_singleton]; omega)) fun ys hy => Tot.pure ⟨h13.1, by simp only; omega, by simp only [hy, List.length_append, List.length_singleton]; omega⟩
  · refine Tot.bind (next_tot hc h11.1) fun r262 h12 => ?_
    have h120 := h12.2.1
    have h121 : r262.1 < 2 := by have := h12.2.2; omega
    rw [wr (show -9223372036854775808 ≤ 10 + r262.1 by omega) (by omega), mk_int _ (by omega) (by omega)]
    exact ⟨_, rfl, h12.1, by simp only [List.length_replicate]; omega, by simp only; omega⟩
theorem l23L_tot {F : Nat} {code : List Int} {r1 : (List GWindow × List GBond) × Int × Int} {n : Nat} (hc : COk code) (hn : r1.1.1.length = n) (hn2 : n ≤ 1000) : ∀ (d k f : Nat) (p s : Int) (xs : List Int), k + d = n → d < f → xs.length = k → SOk code p s → Tot (fun r : Int × Int × List Int => SOk code r.1 r.2.1 ∧ r.2.2.length = n) (spec_l23DrawTimes_L2 F code r1 f p s xs (k : Int)) := by
  intro d
  induction d with
  | zero =>
    intro k f p s xs hk hf hx hs
    obtain ⟨f, rfl⟩ : ∃ q, f = q + 1 := ⟨f - 1, by omega⟩
    simp only [spec_l23DrawTimes_L2, hn, bdF (show ¬ (k : Int) < (n : Int) by omega)]
    exact Tot.pure ⟨hs, by simp only; omega⟩
  | succ d ih =>
    intro k f p s xs hk hf hx hs
    obtain ⟨f, rfl⟩ : ∃ q, f = q + 1 := ⟨f - 1, by omega⟩
    simp only [spec_l23DrawTimes_L2, hn, bdT (show (k : Int) < (n : Int) by omega)]
    refine Tot.bind (next_tot hc hs) fun r1 h1 => Tot.bind (app_tot (by simp only [List.length_singleton]; omega)) fun ys hys => ?_
    rw [wrN (show k ≤ 67108864 by omega)]
    have hyl : ys.length = xs.length + 1 := by rw [hys]; simp
    exact ih (k + 1) f _ _ ys (by omega) (by omega) (by omega) h1.1
theorem l23Times_tot {F : Nat} {code : List Int} {p s : Int} (hF : 134217728 ≤ F) (hc : COk code) (hs : SOk code p s) : Tot (fun r : (List GWindow × List GBond × List Int) × Int × Int => r.1.1.length ≤ 1000 ∧ r.1.2.1.length ≤ 1000 ∧ r.1.2.2.length ≤ 2000) (spec_l23DrawTimes F code p s) := by
  unfold spec_l23DrawTimes
  refine Tot.bind (l23Draw_tot hF hc hs) fun r1 h1 => Tot.bind (next_tot hc h1.1) fun r11 h2 => Tot.bind (code_tot _ hF h1.2.1 h1.2.2) fun r13 h3 => ?_
  refine Tot.bind (P := fun r : Int × Int × List Int => SOk code r.1 r.2.1 ∧ r.2.2.length ≤ 1000) (Tot.cond (fun _ => ?_) fun _ => Tot.pure ⟨h2.1, h3⟩) ?_
  · refine Tot.bind (l23L_tot hc rfl h1.2.1 r1.1.1.length 0 F _ _ [] (by omega) (by have := h1.2.1; omega) rfl h2.1) ?_
    rintro ⟨p1, s1, xs⟩ ⟨h4, h5⟩
    exact Tot.pure ⟨h4, by have := h1.2.1; simp only at h5 ⊢; omega⟩
  rintro ⟨p1, s1, xs⟩ ⟨h4, h5⟩
  simp only at h4 h5 ⊢
  refine Tot.bind (P := fun r : Int × Int × List Int => r.2.2.length ≤ 2000) (Tot.cond (fun hl => ?_) fun _ => Tot.pure (by simp only; omega)) ?_
  · have hl : 0 < (xs.length : Int) := of_decide_eq_true hl
    refine Tot.bind (next_tot hc h4) fun r204 h6 => Tot.bind (P := fun _ => True) (Tot.cond (fun _ => Tot.pure trivial) fun _ => Tot.pure trivial) fun b _ => Tot.cond (fun _ => ?_) fun _ => Tot.cond (fun _ => ?_) fun _ => Tot.pure (by simp only; omega)
    · refine Tot.bind (next_tot hc h6.1) fun r212 h7 => ?_
      have i0 : 0 ≤ r212.1 := h7.2.1
      have i1 : r212.1 < (xs.length : Int) := by have := h7.2.2; omega
      exact Tot.bind (idx_tot i0 i1) fun _ _ => Tot.bind (next_tot hc h7.1) fun r224 h8 => Tot.bind (idx_tot i0 i1) fun _ _ => Tot.bind (upd_tot i0 i1) fun ys hy => Tot.pure (by simp only; omega)
    · exact Tot.bind (app_tot (by simp only [List.length_singleton]; omega)) fun ys hy => Tot.pure (by simp only [hy, List.length_append, List.length_singleton]; omega)
  rintro ⟨p2, s2, ys⟩ h6
  exact Tot.pure ⟨h1.2.1, h1.2.2, h6⟩
/-! ### The law -/
theorem below9_is {F : Nat} {xs ys : List Int} (hF : 134217728 ≤ F) (hl : xs.length ≤ 1048576) (he : xs.length = ys.length) (h : ∀ k, k < xs.length → xs.getD k 0 ≤ ys.getD k 0) : laws_below9 F xs ys = some true := by
  unfold laws_below9
  rw [neF (show (xs.length : Int) = (ys.length : Int) by omega), cond_false]
  have H := same_loop (len := xs.length) (L := laws_below9_L1 F xs ys) (n := F) ?_ ?_ (by omega)
  · rw [H]; rfl
  · intro n k hk
    have := h k hk
    simp only [laws_below9_L1, bdT (show (k : Int) < (xs.length : Int) by omega), idx_nat, getD_of hk, getD_of (show k < ys.length by omega), Option.bind_some, bdF (show ¬ ys.getD k 0 < xs.getD k 0 by omega), wrN (show k ≤ 67108864 by omega)]
  · intro n
    simp only [laws_below9_L1, bdF (show ¬ (xs.length : Int) < (xs.length : Int) by omega)]
theorem twin_at {es ls : List Int} {n k : Nat} (h : k < n) : (twin es ls n)[k]? = some ⟨es.getD k 0, ls.getD k 0⟩ := by
  unfold twin; rw [List.getElem?_map, List.getElem?_range h]; rfl
theorem twin_len (es ls : List Int) (n : Nat) : (twin es ls n).length = n := by unfold twin; simp
theorem law_Tasks {F : Nat} {x0 : List Int} (hF0 : 9223372036854775808 ≤ F) (_ : x0.length ≤ 9223372036854775807) (hb : ∀ y, y ∈ x0 → 0 ≤ y ∧ y ≤ 255) : laws_FnTasks F x0 = some true := by
  have hF : 134217728 ≤ F := by omega
  unfold laws_FnTasks laws_big
  by_cases hbig : (4096 : Int) < (x0.length : Int)
  · simp only [Option.bind_some, dT hbig, cond_true]
  simp only [Option.bind_some, dF hbig, cond_false]
  have hc : COk x0 := ⟨by omega, hb⟩
  obtain ⟨⟨w, b⟩, hd1, a0, a1⟩ : Tot (fun r : List GWindow × List GBond => r.1.length ≤ 1000 ∧ r.2.length ≤ 1000) (spec_DrawTightWindows F x0) := by
    unfold spec_DrawTightWindows
    exact Tot.bind (from_tot hF hc) fun r1 h1 => Tot.bind (l23Draw_tot hF hc h1) fun r4 h4 => Tot.pure h4.2
  obtain ⟨⟨v, c, z⟩, hd2, b0, b1, b2⟩ : Tot (fun r : List GWindow × List GBond × List Int => r.1.length ≤ 1000 ∧ r.2.1.length ≤ 1000 ∧ r.2.2.length ≤ 2000) (spec_DrawIsWindowSolution F x0) := by
    unfold spec_DrawIsWindowSolution
    exact Tot.bind (from_tot hF hc) fun r1 h1 => Tot.bind (l23Times_tot hF hc h1) fun r4 h4 => Tot.pure h4
  simp only at a0 a1 b0 b1 b2
  obtain ⟨r, s1, s2, s3⟩ := winSol_is (F := F) (ws := v) (bs := c) (z := z) hF (by omega) (by omega)
  obtain ⟨xs, k, q1, q2, q3, q4⟩ := slackB_is (F := F) (ws := v) (bs := c) (z := z) hF (by omega) (by omega) (by omega)
  simp only [hd1, hd2, Option.bind_some, s1, s2, q1, q2, bne_self_eq_false, cond_false, likeInts_self hF q3, Bool.not_true]
  have mid : ∀ (X : Option Bool), (Option.bind (bif r then ((impl_EarliestTimes F v c).bind fun r176 => ((impl_LatestIn F v c).bind fun r182 => (Option.bind ((bif (r176.2 != 0) then some true else (bif (r182.2 != 0) then some true else ((laws_below9 F r176.1 z).bind fun r201 => (bif (!r201) then some true else ((laws_below9 F z r182.1).bind fun r204 => (bif (!r204) then some true else some (k != 0))))))) : Option (Bool)) fun b196 => (bif b196 then some (Sum.inl false) else (Option.bind (laws_FnTasks_L2 F (xs, k) F 0) fun r222 => match r222 with | .inl x_ => some (Sum.inl x_) | .inr _ => some (Sum.inr ())))))) else some (Sum.inr ())) fun r173 : Sum Bool Unit => match r173 with | .inl x_ => some x_ | .inr _ => X) = X := by
    intro X
    cases hr : r with
    | false => rfl
    | true =>
      obtain ⟨ht, hs⟩ := s3.1 hr
      rcases task_out (F := F) (ws := v) (bs := c) hF (by omega) (by omega) with ⟨es, ls, o⟩ | ⟨hno, _⟩
      · obtain ⟨k0, hx0⟩ := q4 ht hs
        have l1 := o.le
        have l2 := o.ll
        have l3 := hs.len
        have B1 := below9_is (F := F) (xs := es) (ys := z) hF (by omega) (by omega) (fun k hk => (o.be z hs k (by omega)).1)
        have B2 := below9_is (F := F) (xs := z) (ys := ls) hF (by omega) (by omega) (fun k hk => (o.be z hs k (by omega)).2)
        have L := same_loop (len := xs.length) (L := laws_FnTasks_L2 F (xs, k)) (n := F) (by
          intro n i hi
          have := hx0 _ (List.getElem_mem hi)
          simp only [laws_FnTasks_L2, bdT (show (i : Int) < (xs.length : Int) by omega), idx_nat, List.getElem?_eq_getElem hi, Option.bind_some, bdF (show ¬ xs[i] < 0 by omega), wrN (show i ≤ 67108864 by omega)]) (by
          intro n
          simp only [laws_FnTasks_L2, bdF (show ¬ (xs.length : Int) < (xs.length : Int) by omega)]) (by omega)
        simp only [cond_true, o.e2, o.l2, Option.bind_some, bne_self_eq_false, cond_false, B1, B2, Bool.not_true, k0]
        rw [k0] at L
        rw [L]; rfl
      · exact absurd ⟨z, ht, hs⟩ hno
  rcases task_out (F := F) (ws := w) (bs := b) hF (by omega) (by omega) with ⟨es, ls, o⟩ | ⟨_, d, d0, e1, e2, e3, e4, e5, e6⟩
  · have l1 := o.le
    have l2 := o.ll
    have L := same_loop (len := w.length) (L := laws_FnTasks_L3 F (es, 0) (ls, 0) (twin es ls w.length, 0)) (n := F) (by
      intro n i hi
      simp only [laws_FnTasks_L3, twin_len, bdT (show (i : Int) < (w.length : Int) by omega), idx_nat, twin_at hi, getD_of (show i < es.length by omega), getD_of (show i < ls.length by omega), Option.bind_some, bne_self_eq_false, cond_false, wrN (show i ≤ 67108864 by omega)]) (by
      intro n
      simp only [laws_FnTasks_L3, twin_len, bdF (show ¬ (w.length : Int) < (w.length : Int) by omega)]) (by omega)
    obtain ⟨r1, u1, u2, u3⟩ := winSol_is (F := F) (ws := w) (bs := b) (z := es) hF (by omega) (by omega)
    obtain ⟨r2, v1, v2, v3⟩ := winSol_is (F := F) (ws := w) (bs := b) (z := ls) hF (by omega) (by omega)
    rw [u3.2 ⟨o.tk, o.se⟩] at u2
    rw [v3.2 ⟨o.tk, o.sl⟩] at v2
    simp only [o.e1, o.e2, o.l1, o.l2, o.t1, o.t2, Option.bind_some, bne_self_eq_false, cond_false, likeInts_self hF (show es.length ≤ 1048576 by omega), likeInts_self hF (show ls.length ≤ 1048576 by omega), Bool.not_true, twin_len]
    refine (mid _).trans ?_
    rw [L]
    simp only [Option.bind_some, l1, beq_self_eq_true, cond_true, u2, v2]
  · simp only [e1, e2, e3, e4, e5, e6, Option.bind_some, bne_self_eq_false, cond_false, likeInts_self hF (show ([] : List Int).length ≤ 1048576 by simp), Bool.not_true, neT d0, cond_true]
    exact mid _

end Go.Proofs.Ytebmlphobgaboab
