/- The law's model answers true. -/
import Derived.Test.YtebmlphobgaboabStarsSmall
namespace Go.Proofs.Ytebmlphobgaboab

theorem likeInts_self {F : Nat} {xs : List Int} (hF : 134217728 ≤ F) (hl : xs.length ≤ 1048576) : laws_likeInts F xs xs = some true := by
  unfold laws_likeInts
  rw [bne_self_eq_false, cond_false]
  have H := same_loop (len := xs.length) (L := laws_likeInts_L1 F xs xs) (n := F) ?_ ?_ (by omega)
  · rw [H]; rfl
  · intro n k hk
    have hx : xs[k]? = some xs[k] := List.getElem?_eq_getElem hk
    simp only [laws_likeInts_L1, bdT (show (k : Int) < (xs.length : Int) by omega), idx_nat, hx, Option.bind_some, bne_self_eq_false, cond_false, wrN (show k ≤ 67108864 by omega)]
  · intro n
    simp only [laws_likeInts_L1, bdF (show ¬ (xs.length : Int) < (xs.length : Int) by omega)]
theorem likeT_self {F : Nat} {a : List (List Int)} (hF : 134217728 ≤ F) (hl : a.length ≤ 1048576) (hr : ∀ r, r ∈ a → r.length ≤ 1048576) : laws_likeTables9 F a a = some true := by
  unfold laws_likeTables9
  rw [bne_self_eq_false, cond_false]
  have H := same_loop (len := a.length) (L := laws_likeTables9_L1 F a a) (n := F) ?_ ?_ (by omega)
  · rw [H]; rfl
  · intro n k hk
    have hx : a[k]? = some a[k] := List.getElem?_eq_getElem hk
    simp only [laws_likeTables9_L1, bdT (show (k : Int) < (a.length : Int) by omega), idx_nat, hx, Option.bind_some, likeInts_self hF (hr _ (List.getElem_mem hk)), Bool.not_true, cond_false, wrN (show k ≤ 67108864 by omega)]
  · intro n
    simp only [laws_likeTables9_L1, bdF (show ¬ (a.length : Int) < (a.length : Int) by omega)]
theorem mat_vals {a : List (List Int)} {n : Nat} (hl : a.length = n) (hr : ∀ r, r ∈ a → r.length = n) (h1 : 1 ≤ n) (h2 : n ≤ 10) : matB a = valsM a := by
  unfold matB valsM
  rw [inB_true.2 (show (1 : Int) ≤ (a.length : Int) ∧ (a.length : Int) ≤ 10 by omega), Bool.true_and]
  have hf : firstL a = (n : Int) := by
    unfold firstL
    rw [hr _ (List.mem_of_getElem? (rowG (t := a) (k := 0) (by omega)))]
  rw [hf]
  apply Bool.eq_iff_iff.2
  rw [List.all_eq_true, List.all_eq_true]
  constructor
  · intro H r hm
    have := H r hm
    rw [Bool.and_eq_true] at this
    unfold vecB at this
    rw [Bool.and_eq_true] at this
    exact this.1.2
  · intro H r hm
    have hrl := hr r hm
    rw [Bool.and_eq_true, beq_iff_eq]
    refine ⟨?_, by omega⟩
    unfold vecB
    rw [inB_true.2 (show (1 : Int) ≤ (r.length : Int) ∧ (r.length : Int) ≤ 10 by omega), Bool.true_and]
    exact H r hm
/-! ### What the three functions answer -/
def plusT (f : Nat → Nat → Int) (n i j : Nat) : Int := mx n fun q => ta (f i q) (fw f n q j)
theorem star_is_plus {f : Nat → Nat → Int} {n : Nat} (hf : TabOk f n) (hn : n ≤ 10) (hok : FwOk f n) {i j : Nat} (hi : i < n) (hj : j < n) : max (un i j) (plusT f n i j) = fw f n i j := by
  have hst : Stab f n := (stab_iff hf (by omega)).2 (fwok_none hf (by omega) hok)
  have e1 := hst i j hi hj
  rw [← star_eq hf (by omega) hok hi hj] at e1
  have e2 : WW f n (n + 1) i j = max (un i j) (mx n fun q => ta (f i q) (WW f n n q j)) := rfl
  have e3 : plusT f n i j = mx n fun q => ta (f i q) (WW f n n q j) := mx_congr fun q hq => by rw [star_eq hf (by omega) hok hq hj]
  rw [e3, ← e2, e1]
theorem star_bad {F : Nat} {a : List (List Int)} (hF : 134217728 ≤ F) (h1 : ∀ row, row ∈ a → row.length ≤ 1048576) (hs : squareB a = false) :
    spec_StarMatrix F a = some ([], 1) ∧ impl_StarMatrix F a = some ([], 1) ∧ spec_PlusMatrix F a = some ([], 1) ∧ impl_PlusMatrix F a = some ([], 1) ∧ spec_PositiveCycle F a = some ([], 1) ∧ impl_PositiveCycle F a = some ([], 1) := by
  unfold spec_StarMatrix impl_StarMatrix spec_PlusMatrix impl_PlusMatrix spec_PositiveCycle impl_PositiveCycle
  simp only [specSquare_is hF h1, implSquare_is hF h1, hs, Option.bind_some, Bool.not_false, cond_true, and_self]
theorem checkedS_is {F n : Nat} {g : Nat → Nat → Int} (hF : 134217728 ≤ F) (n1 : 1 ≤ n) (n10 : n ≤ 10) : spec_l03Result F (tabM n n g) = some (bif valsM (tabM n n g) then (tabM n n g, 0) else ([], 3)) := by
  unfold spec_l03Result
  rw [specMatrix_is hF (rows_tab n10), mat_vals (tabM_len _ _ _) tabM_rows n1 n10]
  cases valsM (tabM n n g) <;> rfl
theorem checkedI_is {F n : Nat} {g : Nat → Nat → Int} (hF : 134217728 ≤ F) (n10 : n ≤ 10) : impl_checkedMatrix F (tabM n n g) = some (bif valsM (tabM n n g) then (tabM n n g, 0) else ([], 3)) := implChecked_is hF (by rw [tabM_len]; omega) (rows_tab n10)
theorem star_no {F n : Nat} {f : Nat → Nat → Int} (hF : 134217728 ≤ F) (n1 : 1 ≤ n) (n10 : n ≤ 10) (hk : TabOk f n) (hno : ¬ FwOk f n) :
    ∃ r : List Int, r.length ≤ 1048576 ∧ spec_StarMatrix F (tabM n n f) = some ([], 5) ∧ impl_StarMatrix F (tabM n n f) = some ([], 5) ∧ spec_PlusMatrix F (tabM n n f) = some ([], 5) ∧ impl_PlusMatrix F (tabM n n f) = some ([], 5) ∧ spec_PositiveCycle F (tabM n n f) = some (r, 0) ∧ impl_PositiveCycle F (tabM n n f) = some (r, 0) := by
  have hs := squareB_tab n1 n10 hk
  rcases stars_is (F := F) hF n1 n10 hk with ⟨hok, _⟩ | ⟨_, h2, z, h3⟩
  · exact absurd hok hno
  have hS := specOverT_is (F := F) (over := 0) hF n10 hk
  have hI := implPos_is (F := F) hF n1 n10 hk
  have hp := firstCyc_pos (a := f) (n := n) (K := F) (by omega)
  have hpos : PosCyc f n := Classical.byContradiction fun h => hno ((fwok_iff hk (by omega)).2 h)
  obtain ⟨r, hr⟩ := Option.isSome_iff_exists.1 (hp.2 hpos)
  obtain ⟨r0, r1, _⟩ := firstCyc_ne hr
  have := List.length_pos_iff.2 r0
  refine ⟨nl r, by rw [nl_len]; omega, ?_⟩
  rw [hI, hr]
  unfold spec_StarMatrix impl_StarMatrix spec_PlusMatrix impl_PlusMatrix spec_PositiveCycle
  simp only [specSquare_is hF (rows_tab n10), implSquare_is hF (rows_tab n10), hs, h2, h3, hS, hr, Option.bind_some, Bool.not_true, Bool.not_false, cond_true, cond_false, Option.elim_some, nl_len, beq_false_of_ne (show (r.length : Int) ≠ 0 by omega), and_self]
theorem star_yes {F n : Nat} {f : Nat → Nat → Int} (hF : 134217728 ≤ F) (n1 : 1 ≤ n) (n10 : n ≤ 10) (hk : TabOk f n) (hok : FwOk f n) :
    spec_StarMatrix F (tabM n n f) = some (bif valsM (tabM n n (fw f n)) then (tabM n n (fw f n), 0) else ([], 3)) ∧ impl_StarMatrix F (tabM n n f) = some (bif valsM (tabM n n (fw f n)) then (tabM n n (fw f n), 0) else ([], 3)) ∧
    spec_PlusMatrix F (tabM n n f) = some (bif valsM (tabM n n (plusT f n)) then (tabM n n (plusT f n), 0) else ([], 3)) ∧ impl_PlusMatrix F (tabM n n f) = some (bif valsM (tabM n n (plusT f n)) then (tabM n n (plusT f n), 0) else ([], 3)) ∧ spec_PositiveCycle F (tabM n n f) = some ([], 4) ∧ impl_PositiveCycle F (tabM n n f) = some ([], 4) := by
  have hs := squareB_tab n1 n10 hk
  rcases stars_is (F := F) hF n1 n10 hk with ⟨_, h2, h3⟩ | ⟨hno, _⟩
  · have hS := specOverT_is (F := F) (over := 0) hF n10 hk
    have hI := implPos_is (F := F) hF n1 n10 hk
    have hp := firstCyc_pos (a := f) (n := n) (K := F) (by omega)
    have hc : firstCyc f n (fun w => decide (0 < w)) F = none := by
      cases h : firstCyc f n (fun w => decide (0 < w)) F with
      | none => rfl
      | some r => exact absurd (hp.1 (by rw [h]; rfl)) (fwok_none hk (by omega) hok)
    have okT : ∀ i j, i < n → j < n → Okw 10000000000 (fw f n i j) := fun i j hi hj => ok_up (fw_ok hk n (Nat.le_refl _) hi hj) (by have := bdw_le (show n ≤ 11 by omega); omega)
    have hm : mulM (tabM n n f) (tabM n n (fw f n)) n = tabM n n (plusT f n) := mulM_tab (M := 1000000) (K := 10000000000) hk okT (by omega) (by omega)
    have m1 := specMul_is (F := F) (n := n) (a := tabM n n f) (b := tabM n n (fw f n)) hF (by rw [tabM_len]; omega) (by rw [tabM_len]; omega) (by rw [tabM_len]; omega) (by omega) (fun r hr => by rw [tabM_rows r hr, tabM_len]) tabM_rows
    have m2 := implMul_is (F := F) (n := n) (a := tabM n n f) (b := tabM n n (fw f n)) hF (by rw [tabM_len]; omega) (by rw [tabM_len]; omega) (by rw [tabM_len]; omega) (by omega) (fun r hr => by rw [tabM_rows r hr, tabM_len]) tabM_rows
    rw [hm] at m1 m2
    rw [hI, hc]
    unfold spec_StarMatrix impl_StarMatrix spec_PlusMatrix impl_PlusMatrix spec_PositiveCycle
    simp only [specSquare_is hF (rows_tab n10), implSquare_is hF (rows_tab n10), hs, h2, h3, hS, hc, m1, m2, checkedS_is hF n1 n10, checkedI_is hF n10, Option.bind_some, Bool.not_true, cond_false]
    refine ⟨?_, ?_, ?_, ?_, ?_, ?_⟩ <;> first | rfl | trivial
  · exact absurd hok hno
/-! ### Draws -/
def Shp (m n : Nat) (ms : List (List Int)) : Prop := ms.length = m ∧ ∀ r, r ∈ ms → r.length = n
theorem idxM_tot {m n : Nat} {ms : List (List Int)} {i : Int} (h : Shp m n ms) (h0 : 0 ≤ i) (h1 : i < (m : Int)) : Tot (fun r => r.length = n) (idx ms i) := (idx_tot h0 (by rw [h.1]; exact h1)).mono fun r hr => h.2 r hr
theorem updM_tot {m n : Nat} {ms : List (List Int)} {i : Int} {r : List Int} (h : Shp m n ms) (h0 : 0 ≤ i) (h1 : i < (m : Int)) (hr : r.length = n) : Tot (Shp m n) (upd ms i r) := by
  refine ⟨_, upd_int r h0 (by rw [h.1]; exact h1), by rw [List.length_set]; exact h.1, fun q hq => ?_⟩
  rcases List.mem_or_eq_of_mem_set hq with h2 | h2
  · exact h.2 q h2
  · rw [h2]; exact hr
theorem tabM_shp (m n : Nat) (f : Nat → Nat → Int) : Shp m n (tabM m n f) := ⟨tabM_len _ _ _, tabM_rows⟩
theorem size5_tot {F : Nat} {code : List Int} {r10 : Int × Int × Int} {m n i : Nat} (hc : COk code) (hi : i < m) (hn : n ≤ 1000) : ∀ (d k f : Nat) (p s : Int) (ms : List (List Int)), k + d = n → d < f → Shp m n ms → SOk code p s → Tot (fun r : Int × Int × List (List Int) => SOk code r.1 r.2.1 ∧ Shp m n r.2.2) (spec_l02DrawSize_L5 F code (n : Int) r10 (i : Int) f p s ms (k : Int)) := by
  intro d
  induction d with
  | zero =>
    intro k f p s ms hk hf hm hs
    obtain ⟨f, rfl⟩ : ∃ q, f = q + 1 := ⟨f - 1, by omega⟩
    simp only [spec_l02DrawSize_L5, bdF (show ¬ (k : Int) < (n : Int) by omega)]
    exact Tot.pure ⟨hs, hm⟩
  | succ d ih =>
    intro k f p s ms hk hf hm hs
    obtain ⟨f, rfl⟩ : ∃ q, f = q + 1 := ⟨f - 1, by omega⟩
    simp only [spec_l02DrawSize_L5, bdT (show (k : Int) < (n : Int) by omega), wrN (show k ≤ 67108864 by omega)]
    refine Tot.bind (next_tot hc hs) fun r1 h1 => Tot.cond (fun _ => ?_) fun _ => ih (k + 1) f _ _ ms (by omega) (by omega) hm h1.1
    refine Tot.bind (idxM_tot hm (by omega) (by omega)) fun q hq => Tot.bind (next_tot hc h1.1) fun r2 h2 => Tot.bind (idx_tot (by omega) (by omega)) fun _ _ => Tot.bind (upd_tot (by omega) (by omega)) fun ys hy => Tot.bind (updM_tot hm (by omega) (by omega) (by omega)) fun ms' hm' => ?_
    exact ih (k + 1) f _ _ ms' (by omega) (by omega) hm' h2.1
theorem size4_tot {F : Nat} {code : List Int} {r10 : Int × Int × Int} {m n : Nat} (hF : 134217728 ≤ F) (hc : COk code) (hn : n ≤ 1000) (hm0 : m ≤ 1000) : ∀ (d k f : Nat) (p s : Int) (ms : List (List Int)), k + d = m → d < f → Shp m n ms → SOk code p s → Tot (fun r : Int × Int × List (List Int) => SOk code r.1 r.2.1 ∧ Shp m n r.2.2) (spec_l02DrawSize_L4 F code (m : Int) (n : Int) r10 f p s ms (k : Int)) := by
  intro d
  induction d with
  | zero =>
    intro k f p s ms hk hf hm hs
    obtain ⟨f, rfl⟩ : ∃ q, f = q + 1 := ⟨f - 1, by omega⟩
    simp only [spec_l02DrawSize_L4, bdF (show ¬ (k : Int) < (m : Int) by omega)]
    exact Tot.pure ⟨hs, hm⟩
  | succ d ih =>
    intro k f p s ms hk hf hm hs
    obtain ⟨f, rfl⟩ : ∃ q, f = q + 1 := ⟨f - 1, by omega⟩
    simp only [spec_l02DrawSize_L4, bdT (show (k : Int) < (m : Int) by omega), wrN (show k ≤ 67108864 by omega)]
    refine Tot.bind (size5_tot hc (show k < m by omega) hn n 0 F p s ms (by omega) (by omega) hm hs) ?_
    rintro ⟨p1, s1, ms1⟩ ⟨h1, h2⟩
    exact ih (k + 1) f _ _ ms1 (by omega) (by omega) h2 h1
theorem value_tot {F : Nat} {code : List Int} {p s : Int} (hc : COk code) (hs : SOk code p s) : Tot (fun r : Int × Int × Int => SOk code r.2.1 r.2.2) (spec_l01DrawValue F code p s) := by
  unfold spec_l01DrawValue
  refine Tot.bind (next_tot hc hs) fun r1 h1 => Tot.bind (P := fun _ => True) (Tot.cond (fun _ => Tot.pure trivial) fun _ => Tot.cond (fun _ => Tot.pure trivial) fun _ => Tot.pure trivial) fun b _ => Tot.cond (fun _ => Tot.pure h1.1) fun _ => Tot.cond (fun _ => ?_) fun _ => Tot.cond (fun _ => ?_) fun _ => ?_
  · exact Tot.bind (pick_tot hc h1.1 (by simp)) fun r h => Tot.pure h.1
  · exact Tot.bind (next_tot hc h1.1) fun r h => Tot.pure h.1
  · exact Tot.bind (next_tot hc h1.1) fun r h => Tot.pure h.1
theorem square_tot {F : Nat} {code : List Int} {p s : Int} (hF : 134217728 ≤ F) (hc : COk code) (hs : SOk code p s) : Tot (fun r : List (List Int) × Int × Int => SOk code r.2.1 r.2.2 ∧ r.1.length ≤ 1000 ∧ ∀ q, q ∈ r.1 → q.length ≤ 1000) (spec_l02DrawSquare F code p s) := by
  unfold spec_l02DrawSquare
  refine Tot.bind (next_tot hc hs) fun r1 h1 => ?_
  have h10 := h1.2.1
  have h11 : r1.1 < 5 := by have := h1.2.2; omega
  obtain ⟨n, hn⟩ : ∃ n : Nat, 1 + r1.1 = (n : Int) := ⟨(1 + r1.1).toNat, by omega⟩
  have hw : IntKind.i64.wrap (1 + r1.1) = (n : Int) := by rw [wr (by omega) (by omega)]; exact hn
  rw [hw]
  refine Tot.bind (P := fun r : List (List Int) × Int × Int => SOk code r.2.1 r.2.2 ∧ r.1.length ≤ 1000 ∧ ∀ q, q ∈ r.1 → q.length ≤ 1000) ?_ fun r3 h3 => Tot.pure h3
  unfold spec_l02DrawSize
  rw [bind_of (specBotM_is (F := F) hF (show n ≤ 1048576 by omega) (show n ≤ 1048576 by omega))]
  refine Tot.bind (pick_tot hc h1.1 (by simp)) fun r10 h4 => Tot.bind (size4_tot hF hc (show n ≤ 1000 by omega) (show n ≤ 1000 by omega) n 0 F _ _ _ (by omega) (by omega) (tabM_shp _ _ _) h4.1) ?_
  rintro ⟨p1, s1, ms⟩ ⟨h5, h6⟩
  simp only at h5 h6 ⊢
  have hsmall : ∀ ms' : List (List Int), Shp n n ms' → ms'.length ≤ 1000 ∧ ∀ q, q ∈ ms' → q.length ≤ 1000 := fun ms' h => ⟨by rw [h.1]; omega, fun q hq => by rw [h.2 q hq]; omega⟩
  refine Tot.bind (next_tot hc h5) fun r650 h7 => Tot.cond (fun _ => ?_) fun _ => Tot.cond (fun _ => ?_) fun _ => Tot.cond (fun _ => Tot.pure ⟨h7.1, by simp, by simp⟩) fun _ => Tot.pure ⟨h7.1, hsmall ms h6⟩
  · refine Tot.bind (idxM_tot h6 (by decide) (by omega)) fun q hq => Tot.bind (value_tot hc h7.1) fun r673 h8 => Tot.bind (idx_tot (by decide) (by omega)) fun _ _ => Tot.bind (upd_tot (by decide) (by omega)) fun ys hy => Tot.bind (updM_tot h6 (by decide) (by omega) (by omega)) fun ms' hm' => Tot.pure ⟨h8, hsmall ms' hm'⟩
  · refine Tot.bind (app_tot (by have := h6.1; simp only [List.length_singleton]; omega)) fun ms' hm' => Tot.pure ⟨h7.1, ?_, fun q hq => ?_⟩
    · have := h6.1; simp only [hm', List.length_append, List.length_singleton]; omega
    · simp only [hm', List.mem_append, List.mem_singleton] at hq
      rcases hq with hq | hq
      · exact (hsmall ms h6).2 q hq
      · rw [hq]; simp
theorem draw1_tot {F : Nat} {code : List Int} {r1 : List (List Int) × Int × Int} {n : Nat} (hc : COk code) (hn : r1.1.length = n) (hn2 : n ≤ 1000) : ∀ (d k f : Nat) (p s : Int) (xs : List Int), k + d = n → d < f → xs.length = k → SOk code p s → Tot (fun r : Int × Int × List Int => SOk code r.1 r.2.1 ∧ r.2.2.length = n) (spec_l03Draw_L1 F code r1 f p s xs (k : Int)) := by
  intro d
  induction d with
  | zero =>
    intro k f p s xs hk hf hx hs
    obtain ⟨f, rfl⟩ : ∃ q, f = q + 1 := ⟨f - 1, by omega⟩
    simp only [spec_l03Draw_L1, hn, bdF (show ¬ (k : Int) < (n : Int) by omega)]
    exact Tot.pure ⟨hs, by simp only; omega⟩
  | succ d ih =>
    intro k f p s xs hk hf hx hs
    obtain ⟨f, rfl⟩ : ∃ q, f = q + 1 := ⟨f - 1, by omega⟩
    simp only [spec_l03Draw_L1, hn, bdT (show (k : Int) < (n : Int) by omega)]
    refine Tot.bind (next_tot hc hs) fun r1 h1 => Tot.bind (app_tot (by simp only [List.length_singleton]; omega)) fun ys hys => ?_
    rw [wrN (show k ≤ 67108864 by omega)]
    have hyl : ys.length = xs.length + 1 := by rw [hys]; simp
    exact ih (k + 1) f _ _ ys (by omega) (by omega) (by omega) h1.1
theorem draw6_tot {F : Nat} {code xs : List Int} {n i : Nat} (hc : COk code) (hi : i < n) (hn : n ≤ 1000) (hx : xs.length = n) : ∀ (d k f : Nat) (p s : Int) (ms : List (List Int)), k + d = n → d < f → Shp n n ms → SOk code p s → Tot (fun r : Int × Int × List (List Int) => SOk code r.1 r.2.1 ∧ Shp n n r.2.2) (spec_l03Draw_L6 F code xs (i : Int) f p s ms (k : Int)) := by
  intro d
  induction d with
  | zero =>
    intro k f p s ms hk hf hm hs
    obtain ⟨f, rfl⟩ : ∃ q, f = q + 1 := ⟨f - 1, by omega⟩
    simp only [spec_l03Draw_L6, hm.1, bdF (show ¬ (k : Int) < (n : Int) by omega)]
    exact Tot.pure ⟨hs, hm⟩
  | succ d ih =>
    intro k f p s ms hk hf hm hs
    obtain ⟨f, rfl⟩ : ∃ q, f = q + 1 := ⟨f - 1, by omega⟩
    simp only [spec_l03Draw_L6, hm.1, bdT (show (k : Int) < (n : Int) by omega), wrN (show k ≤ 67108864 by omega)]
    have go : ∀ p s ms, Shp n n ms → SOk code p s → Tot (fun r : Int × Int × List (List Int) => SOk code r.1 r.2.1 ∧ Shp n n r.2.2) (spec_l03Draw_L6 F code xs (i : Int) f p s ms ((k + 1 : Nat) : Int)) := fun p s ms hm hs => ih (k + 1) f p s ms (by omega) (by omega) hm hs
    refine Tot.bind (P := fun _ => True) ?_ fun b _ => Tot.cond (fun _ => ?_) fun _ => go _ _ _ hm hs
    · refine Tot.bind (idxM_tot hm (by omega) (by omega)) fun q hq => Tot.bind (idx_tot (by omega) (by omega)) fun v _ => ?_
      simp only [spec_l01Finite, specIn_is, Option.bind_some]
      exact Tot.cond (fun _ => Tot.bind (idxM_tot hm (by omega) (by omega)) fun q hq => Tot.bind (idx_tot (by omega) (by omega)) fun v _ => Tot.pure trivial) fun _ => Tot.pure trivial
    · refine Tot.bind (idxM_tot hm (by omega) (by omega)) fun q hq => Tot.bind (idx_tot (by omega) (by omega)) fun v1 _ => Tot.bind (idx_tot (by omega) (by omega)) fun v2 _ => Tot.bind (next_tot hc hs) fun r1 h1 => Tot.bind (idx_tot (by omega) (by omega)) fun _ _ => Tot.bind (upd_tot (by omega) (by omega)) fun ys hy => Tot.bind (updM_tot hm (by omega) (by omega) (by omega)) fun ms1 hm1 => Tot.bind (next_tot hc h1.1) fun r2 h2 => Tot.cond (fun _ => ?_) fun _ => go _ _ _ hm1 h2.1
      refine Tot.bind (idxM_tot hm1 (by omega) (by omega)) fun q1 hq1 => Tot.bind (idxM_tot hm1 (by omega) (by omega)) fun q2 hq2 => Tot.bind (idx_tot (by omega) (by omega)) fun v3 _ => Tot.bind (idx_tot (by omega) (by omega)) fun _ _ => Tot.bind (upd_tot (by omega) (by omega)) fun zs hz => Tot.bind (updM_tot hm1 (by omega) (by omega) (by omega)) fun ms2 hm2 => go _ _ _ hm2 h2.1
theorem draw5_tot {F : Nat} {code xs : List Int} {n : Nat} (hF : 134217728 ≤ F) (hc : COk code) (hn : n ≤ 1000) (hx : xs.length = n) : ∀ (d k f : Nat) (p s : Int) (ms : List (List Int)), k + d = n → d < f → Shp n n ms → SOk code p s → Tot (fun r : Int × Int × List (List Int) => SOk code r.1 r.2.1 ∧ Shp n n r.2.2) (spec_l03Draw_L5 F code xs f p s ms (k : Int)) := by
  intro d
  induction d with
  | zero =>
    intro k f p s ms hk hf hm hs
    obtain ⟨f, rfl⟩ : ∃ q, f = q + 1 := ⟨f - 1, by omega⟩
    simp only [spec_l03Draw_L5, hm.1, bdF (show ¬ (k : Int) < (n : Int) by omega)]
    exact Tot.pure ⟨hs, hm⟩
  | succ d ih =>
    intro k f p s ms hk hf hm hs
    obtain ⟨f, rfl⟩ : ∃ q, f = q + 1 := ⟨f - 1, by omega⟩
    simp only [spec_l03Draw_L5, hm.1, bdT (show (k : Int) < (n : Int) by omega), wrN (show k ≤ 67108864 by omega)]
    refine Tot.bind (draw6_tot hc (show k < n by omega) hn hx n 0 F p s ms (by omega) (by omega) hm hs) ?_
    rintro ⟨p1, s1, ms1⟩ ⟨h1, h2⟩
    exact ih (k + 1) f _ _ ms1 (by omega) (by omega) h2 h1
theorem l03Draw_tot {F : Nat} {code : List Int} {p s : Int} (hF : 134217728 ≤ F) (hc : COk code) (hs : SOk code p s) : Tot (fun r : List (List Int) × Int × Int => SOk code r.2.1 r.2.2 ∧ r.1.length ≤ 1000 ∧ ∀ q, q ∈ r.1 → q.length ≤ 1000) (spec_l03Draw F code p s) := by
  unfold spec_l03Draw
  refine Tot.bind (square_tot hF hc hs) fun r1 h1 => ?_
  have hr : ∀ row, row ∈ r1.1 → row.length ≤ 1048576 := fun row h => by have := h1.2.2 row h; omega
  rw [specSquare_is hF hr]
  cases hq : squareB r1.1 with
  | false =>
    simp only [Option.bind_some, Bool.not_false, cond_true]
    exact Tot.pure ⟨h1.1, h1.2.1, h1.2.2⟩
  | true =>
    obtain ⟨n1, n10, e, hk⟩ := square_tab hq
    have hshp : Shp r1.1.length r1.1.length r1.1 := ⟨rfl, fun r hr => by rw [e] at hr; exact tabM_rows r hr⟩
    simp only [Option.bind_some, Bool.not_true, cond_false]
    refine Tot.bind (P := fun r : Int × Int × Bool => SOk code r.1 r.2.1) (Tot.bind (next_tot hc h1.1) fun r21 h2 => Tot.pure h2.1) ?_
    rintro ⟨p2, s2, b⟩ h2
    simp only at h2 ⊢
    refine Tot.cond (fun _ => Tot.pure ⟨h2, h1.2.1, h1.2.2⟩) fun _ => ?_
    refine Tot.bind (draw1_tot hc rfl h1.2.1 r1.1.length 0 F _ _ [] (by omega) (by omega) rfl h2) ?_
    rintro ⟨p3, s3, xs⟩ ⟨h3, h4⟩
    simp only at h3 h4 ⊢
    refine Tot.bind (draw5_tot hF hc h1.2.1 h4 r1.1.length 0 F _ _ _ (by omega) (by omega) hshp h3) ?_
    rintro ⟨p4, s4, ms⟩ ⟨h5, h6⟩
    exact Tot.pure ⟨h5, by simp only; rw [h6.1]; exact h1.2.1, fun q hq => by rw [h6.2 q hq]; exact h1.2.1⟩
theorem law_Stars {F : Nat} {x0 : List Int} (hF0 : 9223372036854775808 ≤ F) (_ : x0.length ≤ 9223372036854775807) (hb : ∀ y, y ∈ x0 → 0 ≤ y ∧ y ≤ 255) : laws_FnStars F x0 = some true := by
  have hF : 134217728 ≤ F := by omega
  unfold laws_FnStars laws_big
  by_cases hbig : (4096 : Int) < (x0.length : Int)
  · simp only [Option.bind_some, dT hbig, cond_true]
  simp only [Option.bind_some, dF hbig, cond_false]
  have hc : COk x0 := ⟨by omega, hb⟩
  obtain ⟨a, hd, a0, a1⟩ : Tot (fun r : List (List Int) => r.length ≤ 1000 ∧ ∀ q, q ∈ r → q.length ≤ 1000) (spec_DrawStarMatrix F x0) := by
    unfold spec_DrawStarMatrix
    exact Tot.bind (from_tot hF hc) fun r1 h1 => Tot.bind (l03Draw_tot hF hc h1) fun r4 h4 => Tot.pure h4.2
  have hr : ∀ row, row ∈ a → row.length ≤ 1048576 := fun row h => by have := a1 row h; omega
  have nilT : laws_likeTables9 F [] [] = some true := likeT_self hF (by simp) (by simp)
  have nilI : laws_likeInts F [] [] = some true := likeInts_self hF (by simp)
  simp only [hd, Option.bind_some]
  cases hs : squareB a with
  | false =>
    obtain ⟨e1, e2, e3, e4, e5, e6⟩ := star_bad hF hr hs
    simp only [e1, e2, e3, e4, e5, e6, Option.bind_some, bne_self_eq_false, cond_false, nilT, nilI, Bool.not_true, beq_self_eq_true, cond_true]
  | true =>
    obtain ⟨n1, n10, e, hk⟩ := square_tab hs
    generalize hn : a.length = n at n1 n10 e hk
    generalize hf : entryOf a = f at e hk
    subst e
    by_cases hok : FwOk f n
    · obtain ⟨e1, e2, e3, e4, e5, e6⟩ := star_yes hF n1 n10 hk hok
      simp only [e1, e2, e3, e4, e5, e6, Option.bind_some]
      have T1 := likeT_self (F := F) (a := tabM n n (fw f n)) hF (by rw [tabM_len]; omega) (rows_tab n10)
      have T2 := likeT_self (F := F) (a := tabM n n (plusT f n)) hF (by rw [tabM_len]; omega) (rows_tab n10)
      cases v1 : valsM (tabM n n (fw f n)) with
      | false =>
        cases v2 : valsM (tabM n n (plusT f n)) with
        | false => simp only [cond_false, Option.bind_some, bne_self_eq_false, nilT, nilI, Bool.not_true]; rfl
        | true => simp only [cond_false, cond_true, Option.bind_some, bne_self_eq_false, nilT, nilI, T2, Bool.not_true]; rfl
      | true =>
        cases v2 : valsM (tabM n n (plusT f n)) with
        | false => simp only [cond_false, cond_true, Option.bind_some, bne_self_eq_false, nilT, nilI, T1, Bool.not_true]; rfl
        | true =>
          have U1 : impl_UnitMatrix F (n : Int) = some (unitM n, 0) := by
            unfold impl_UnitMatrix
            rw [within_is, inB_true.2 (show (1 : Int) ≤ (n : Int) ∧ (n : Int) ≤ 10 by omega)]
            simp only [Option.bind_some, Bool.not_true, cond_false, implUnit_is (F := F) hF (show n ≤ 1048576 by omega)]
          have U2 : impl_AddMatrices F (unitM n) (tabM n n (plusT f n)) = some (tabM n n (fw f n), 0) := by
            have hku : TabOk un n := fun i j _ _ => un_ok (by decide) i j
            have hmu : matB (tabM n n un) = true := by
              have := squareB_tab n1 n10 hku
              unfold squareB at this
              rw [Bool.and_eq_true] at this
              exact this.1
            have hmp : matB (tabM n n (plusT f n)) = true := by rw [mat_vals (tabM_len _ _ _) tabM_rows n1 n10]; exact v2
            have hi : ∀ g, idx (tabM n n g) 0 = some ((List.range n).map fun j => g 0 j) := fun g => by
              rw [show (0 : Int) = ((0 : Nat) : Int) from rfl, idx_nat, tabM_row (by omega)]
            rw [unitM_tab]
            unfold impl_AddMatrices
            simp only [implMatrix_is hF (rows_tab n10), hmu, hmp, Option.bind_some, Bool.not_true, cond_false, tabM_len, bne_self_eq_false, hi, List.length_map, List.length_range]
            rw [implAdd_is (n := n) hF (by rw [tabM_len]; omega) (by rw [tabM_len]; omega) (by omega) (by rw [tabM_len, tabM_len]) tabM_rows tabM_rows, addm_tab]
            rw [tabM_congr (g := fw f n) fun i j hi hj => star_is_plus hk n10 hok hi hj]
            rfl
          simp only [cond_false, cond_true, Option.bind_some, bne_self_eq_false, nilI, T1, T2, Bool.not_true, U1, U2]
          rfl
    · obtain ⟨r, r0, e1, e2, e3, e4, e5, e6⟩ := star_no hF n1 n10 hk hok
      simp only [e1, e2, e3, e4, e5, e6, Option.bind_some, bne_self_eq_false, cond_false, nilT, likeInts_self hF r0, Bool.not_true]
      rfl

end Go.Proofs.Ytebmlphobgaboab
