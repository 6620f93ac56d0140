/- The law's model answers true. -/
import Derived.Test.YtebmlphobgaboabDelaysSmall
namespace Go.Proofs.Ytebmlphobgaboab

theorem specWorstRow {F : Nat} {r : List (List Int) × Int × Bool} {q xs : List Int} {x : Nat} (hF : 134217728 ≤ F) (hr : r.1[x]? = some q) (hx : xs.length ≤ 1048576) (hq : q.length = xs.length) : spec_WorstDelays_L5 F r (x : Int) F xs 0 = some (wmax xs q) := by
  refine for0 (L := spec_WorstDelays_L5 F r (x : Int)) (len := xs.length) (fun j r => r.length = xs.length ∧ (∀ i, i < j → r[i]? = some (max (xs.getD i 0) (q.getD i 0))) ∧ ∀ i, j ≤ i → r[i]? = xs[i]?) (R := fun o => o = some (wmax xs q)) ?_ ?_ ⟨rfl, fun i hi => by omega, fun _ _ => rfl⟩ (by omega)
  · rintro n j ys hj ⟨hl, h1, h2⟩
    have hjr : j < ys.length := by omega
    have hrj : ys[j]? = some (xs.getD j 0) := by rw [h2 j (Nat.le_refl _), getD_of (by omega)]
    refine .inl ⟨ys.set j (max (xs.getD j 0) (q.getD j 0)), ?_, by rw [List.length_set]; exact hl, ?_, ?_⟩
    · simp only [spec_WorstDelays_L5, bdT (show (j : Int) < (ys.length : Int) by omega), idx_nat, hr, getD_of (show j < q.length by omega), hrj, Option.bind_some, upd_nat _ hjr, wrN (show j ≤ 67108864 by omega)]
    · intro i hi
      by_cases e : i = j
      · subst e; exact set_here hjr
      · rw [set_keep e]; exact h1 i (by omega)
    · intro i hi
      rw [set_keep (by omega)]; exact h2 i (by omega)
  · rintro n ys ⟨hl, h1, _⟩
    simp only [spec_WorstDelays_L5, bdF (show ¬ (xs.length : Int) < (ys.length : Int) by omega)]
    rw [wmax_of hl (fun i hi => h1 i (by omega))]

theorem same_WorstDelays {F : Nat} {x0 : GEventGraph} {x1 : GTimetable} {x2 : List Int} (hF : 134217728 ≤ F) (h0 : x0.Places.length ≤ 1048576) (h1 : x1.Starts.length ≤ 1048576) (h2 : x2.length ≤ 1048576) :
    ∃ r : List Int × Int, spec_WorstDelays F x0 x1 x2 = some r ∧ impl_WorstDelays F x0 x1 x2 = some r ∧ r.1.length ≤ 1048576 := by
  unfold spec_WorstDelays impl_WorstDelays
  rw [bind_of (specDelayCode_is hF h0 h1 h2), bind_of (implDelayCode_is hF h0 h1 h2)]
  by_cases hd : delayCode x0 x1 x2 true = 0
  · rw [bF (neF hd), bF (neF hd)]
    obtain ⟨T, hl, hr, _, e1, e2⟩ := settled_is hF hd
    obtain ⟨g1, _⟩ := delayCode_zero hd
    have hG := GOk.of g1
    have h10 := hG.n10
    rw [bind_of e1, bind_of e2]
    by_cases h : (lsz T 50 : Int) ≤ 45
    · rw [dT h, dF (show ¬ (45 : Int) < (lsz T 50 : Int) by omega)]
      have hmk : mk x0.Events (0 : Int) = some (zeros x0) := by rw [hG.ev, mk_nat _ (by omega)]; rfl
      have hz : (zeros x0).length = x0.Events.toNat := by unfold zeros; simp
      have hw := wfold_len T (zeros x0)
      have H := for0 (L := spec_WorstDelays_L4 F (T, (lsz T 50 : Int), true)) (len := T.length) (fun k s => s = (T.take k).foldl wmax (zeros x0)) (R := fun r => r = some (T.foldl wmax (zeros x0))) (s := zeros x0) (n := F) ?_ ?_ rfl (by omega)
      · refine ⟨(T.foldl wmax (zeros x0), 0), ?_, ?_, by simp only; omega⟩
        · simp only [Bool.not_true, cond_false, hmk, Option.bind_some, H]
        · simp only [cond_false, bne_self_eq_false, implWorst_is hF hG (show T.length ≤ 50 by omega) hr, Option.bind_some]
      · rintro n k s hk rfl
        have hrow : T[k]? = some (T.getD k []) := by rw [List.getD_eq_getElem?_getD, List.getElem?_eq_getElem hk]; rfl
        have hlen := hr _ (List.mem_of_getElem? hrow)
        have hwl := wfold_len (T.take k) (zeros x0)
        refine .inl ⟨_, ?_, rfl⟩
        simp only [spec_WorstDelays_L4, bdT (show (k : Int) < (T.length : Int) by omega), Option.bind_some, specWorstRow (F := F) (r := (T, (lsz T 50 : Int), true)) (q := T.getD k []) (xs := (T.take k).foldl wmax (zeros x0)) hF hrow (by omega) (by omega), foldl_takeR hk, wrN (show k ≤ 67108864 by omega)]
      · rintro n s rfl
        simp only [spec_WorstDelays_L4, bdF (show ¬ (T.length : Int) < (T.length : Int) by omega), List.take_length]
    · rw [dF h, dT (show (45 : Int) < (lsz T 50 : Int) by omega)]
      exact ⟨_, rfl, rfl, by simp⟩
  · rw [bT (neT hd), bT (neT hd)]
    exact ⟨_, rfl, rfl, by simp⟩

theorem out_DelayTable {F : Nat} {x0 : GEventGraph} {x1 : GTimetable} {x2 : List Int} {x3 : Int} (hF : 134217728 ≤ F) (h0 : x0.Places.length ≤ 1048576) (h1 : x1.Starts.length ≤ 1048576) (h2 : x2.length ≤ 1048576) :
    (∃ c : Int, c ≠ 0 ∧ spec_DelayTable F x0 x1 x2 x3 = some ([], c) ∧ impl_DelayTable F x0 x1 x2 x3 = some ([], c)) ∨
    (delayCode x0 x1 x2 (inB x3 0 50) = 0 ∧ ∃ o, fire (eP x0.Places) x0.Events.toNat x0.Events.toNat [] = some o ∧ spec_DelayTable F x0 x1 x2 x3 = some (dtab x0 x1 o x2 x3.toNat, 0) ∧ impl_DelayTable F x0 x1 x2 x3 = some (dtab x0 x1 o x2 x3.toNat, 0)) := by
  unfold spec_DelayTable impl_DelayTable
  simp only [specIn_is, within_is, Option.bind_some, specDelayCode_is hF h0 h1 h2, implDelayCode_is hF h0 h1 h2]
  by_cases hd : delayCode x0 x1 x2 (inB x3 0 50) = 0
  · right
    obtain ⟨g1, g2, g3, g4, g5, g6⟩ := delayCode_zero hd
    obtain ⟨n0, n1⟩ := inB_true.1 g4
    obtain ⟨o, ho⟩ := liveB_some g5
    have hds := (startsB_len g3).1
    refine ⟨hd, o, ho, ?_, ?_⟩
    · rw [bF (neF hd)]
      have := specDTable_is (t := x1) hF g1 (tableB_len g2) ho hds (show x3.toNat ≤ 50 by omega)
      rw [show ((x3.toNat : Nat) : Int) = x3 by omega] at this
      rw [this]; rfl
    · rw [bF (neF hd)]
      have := implDTable_is (t := x1) hF g1 (tableB_len g2) ho hds (show x3.toNat ≤ 50 by omega)
      rw [show ((x3.toNat : Nat) : Int) = x3 by omega] at this
      rw [this]; rfl
  · left
    rw [bT (neT hd), bT (neT hd)]
    exact ⟨_, hd, rfl, rfl⟩

/-! ### Greater delays, greater tables -/
theorem foldl_rel {α β : Type} {R : β → β → Prop} {f f' : β → α → β} : ∀ (l : List α) (_ : ∀ a x y, a ∈ l → R x y → R (f x a) (f' y a)) (x y : β), R x y → R (l.foldl f x) (l.foldl f' y)
  | [], _, _, _, h => h
  | a :: l, hf, x, y, h => foldl_rel l (fun b u v hb => hf b u v (by simp [hb])) _ _ (hf a x y (by simp) h)
def DLe (xs ys : List Int) : Prop := allIn xs ∧ allIn ys ∧ xs.length = ys.length ∧ ∀ q, xs.getD q 0 ≤ ys.getD q 0
theorem allIn_nil : allIn [] := fun i => by simp
theorem dle_nil : DLe [] [] := ⟨allIn_nil, allIn_nil, rfl, fun _ => Int.le_refl _⟩
theorem getD_snoc {pre : List (List Int)} {xs : List Int} {j : Nat} : (pre ++ [xs]).getD j [] = if j < pre.length then pre.getD j [] else if j = pre.length then xs else [] := by
  rw [List.getD_eq_getElem?_getD, List.getElem?_append]
  by_cases h : j < pre.length
  · rw [if_pos h, if_pos h, List.getD_eq_getElem?_getD]
  · rw [if_neg h, if_neg h]
    by_cases h2 : j = pre.length
    · rw [if_pos h2, h2, Nat.sub_self]; rfl
    · rw [if_neg h2, List.getElem?_eq_none (by simp; omega)]; rfl
theorem dle_snoc {pre pre' : List (List Int)} {xs ys : List Int} (hl : pre.length = pre'.length) (hp : ∀ j, DLe (pre.getD j []) (pre'.getD j [])) (hx : DLe xs ys) (j : Nat) : DLe ((pre ++ [xs]).getD j []) ((pre' ++ [ys]).getD j []) := by
  rw [getD_snoc, getD_snoc, ← hl]
  by_cases h : j < pre.length
  · rw [if_pos h, if_pos h]; exact hp j
  · rw [if_neg h, if_neg h]
    by_cases h2 : j = pre.length
    · rw [if_pos h2, if_pos h2]; exact hx
    · rw [if_neg h2, if_neg h2]; exact dle_nil
theorem dstep_mono {g : GEventGraph} {t : GTimetable} {pre pre' : List (List Int)} {e i : Nat} {xs ys : List Int} (hs : 0 ≤ slk1 t (plD g i)) (hl : pre.length = pre'.length) (hp : ∀ j, DLe (pre.getD j []) (pre'.getD j [])) (hx : DLe xs ys) : DLe (dstep g t pre e xs i) (dstep g t pre' e ys i) := by
  unfold dstep
  rw [← hl]
  cases ((plD g i).To == (e : Int) && decide ((plD g i).Tokens ≤ (pre.length : Int))) with
  | false => exact hx
  | true =>
    simp only [cond_true]
    obtain ⟨r1, r2, r3, r4⟩ := dle_snoc hl hp hx (pre.length - (plD g i).Tokens.toNat)
    generalize (pre ++ [xs]).getD (pre.length - (plD g i).Tokens.toNat) [] = a at r1 r3 r4
    generalize (pre' ++ [ys]).getD (pre.length - (plD g i).Tokens.toNat) [] = b at r2 r3 r4
    have c1 := r1 (plD g i).From.toNat
    have c2 := r2 (plD g i).From.toNat
    have c3 := r4 (plD g i).From.toNat
    have hr := (wr_range (IntKind.i64.wrap (IntKind.i64.wrap (t.Starts.getD (plD g i).To.toNat 0 + IntKind.i64.wrap ((plD g i).Tokens * t.Period)) - t.Starts.getD (plD g i).From.toNat 0) - (plD g i).Delay)).2
    have hr' : slk1 t (plD g i) ≤ 9223372036854775807 := hr
    rw [wr (n := a.getD (plD g i).From.toNat 0 - slk1 t (plD g i)) (by omega) (by omega), wr (n := b.getD (plD g i).From.toNat 0 - slk1 t (plD g i)) (by omega) (by omega)]
    obtain ⟨x1, x2, x3, x4⟩ := hx
    refine ⟨fun q => ?_, fun q => ?_, by rw [List.length_set, List.length_set]; exact x3, fun q => ?_⟩
    · rw [set_getD]
      have h1 := x1 q
      have h2 := x1 e
      split <;> omega
    · rw [set_getD]
      have h1 := x2 q
      have h2 := x2 e
      split <;> omega
    · rw [set_getD, set_getD, ← x3]
      have h1 := x4 q
      have h2 := x4 e
      split <;> omega
theorem slk_nn' {g : GEventGraph} {t : GTimetable} (hk : keptB g t = true) {i : Nat} (hi : i < g.Places.length) : 0 ≤ slk1 t (plD g i) := by
  unfold keptB at hk
  rw [List.all_eq_true] at hk
  have := hk (slk1 t (plD g i)) (List.mem_of_getElem? (i := i) (by unfold slk; rw [List.getElem?_map, plD_of hi]; rfl))
  simpa using this
theorem dround_mono {g : GEventGraph} {t : GTimetable} {o : List Nat} {pre pre' : List (List Int)} {xs ys : List Int} (hk : keptB g t = true) (hl : pre.length = pre'.length) (hp : ∀ j, DLe (pre.getD j []) (pre'.getD j [])) (hx : DLe xs ys) : DLe (dround g t o pre xs) (dround g t o pre' ys) := by
  show DLe (o.foldl (devent g t pre) xs) (o.foldl (devent g t pre') ys)
  refine foldl_rel (R := DLe) o (fun e x y _ h => ?_) _ _ hx
  exact foldl_rel (R := DLe) (f := dstep g t pre e) (f' := dstep g t pre' e) (List.range g.Places.length) (fun i u v hi h => dstep_mono (slk_nn' hk (by simpa using hi)) hl hp h) _ _ h
theorem zeros_in' (g : GEventGraph) : allIn (zeros g) := by
  intro i
  unfold zeros
  rw [List.getD_eq_getElem?_getD, List.getElem?_replicate]
  split <;> simp
theorem dtab_mono {g : GEventGraph} {t : GTimetable} {o : List Nat} {ds es : List Int} (hk : keptB g t = true) (hd : DLe ds es) : ∀ k j, DLe ((dtab g t o ds k).getD j []) ((dtab g t o es k).getD j [])
  | 0, j => by unfold dtab; simp only [List.getD_nil]; exact dle_nil
  | k + 1, j => by
    have hl : (dtab g t o ds k).length = (dtab g t o es k).length := by rw [dtab_len, dtab_len]
    unfold dtab
    refine dle_snoc hl (dtab_mono hk hd k) (dround_mono hk hl (dtab_mono hk hd k) ?_) j
    by_cases h : k = 0
    · rw [if_pos h, if_pos h]; exact hd
    · rw [if_neg h, if_neg h]; exact ⟨zeros_in' g, zeros_in' g, rfl, fun _ => Int.le_refl _⟩

/-! ### Delays stay below the greatest one -/
def UpM (M : Int) (xs : List Int) : Prop := ∀ q, 0 ≤ xs.getD q 0 ∧ xs.getD q 0 ≤ M
theorem upM_nil {M : Int} (h : 0 ≤ M) : UpM M [] := fun i => by simp [h]
theorem dstep_upM {g : GEventGraph} {t : GTimetable} {pre : List (List Int)} {e i : Nat} {xs : List Int} {M : Int} (hM : 0 ≤ M) (hM1 : M ≤ 1000000) (hs : 0 ≤ slk1 t (plD g i)) (hp : ∀ j, UpM M (pre.getD j [])) (hx : UpM M xs) : UpM M (dstep g t pre e xs i) := by
  unfold dstep
  cases ((plD g i).To == (e : Int) && decide ((plD g i).Tokens ≤ (pre.length : Int))) with
  | false => exact hx
  | true =>
    simp only [cond_true]
    have hrow : UpM M ((pre ++ [xs]).getD (pre.length - (plD g i).Tokens.toNat) []) := by
      rw [getD_snoc]
      split
      · exact hp _
      · split
        · exact hx
        · exact upM_nil hM
    have hc := hrow (plD g i).From.toNat
    have hr := (wr_range (IntKind.i64.wrap (IntKind.i64.wrap (t.Starts.getD (plD g i).To.toNat 0 + IntKind.i64.wrap ((plD g i).Tokens * t.Period)) - t.Starts.getD (plD g i).From.toNat 0) - (plD g i).Delay)).2
    have hr' : slk1 t (plD g i) ≤ 9223372036854775807 := hr
    intro q
    rw [set_getD]
    split
    · rw [wr (by omega) (by omega)]
      have := hx e
      omega
    · exact hx q
theorem dtab_upM {g : GEventGraph} {t : GTimetable} {o : List Nat} {ds : List Int} {M : Int} (hM : 0 ≤ M) (hM1 : M ≤ 1000000) (hk : keptB g t = true) (hd : UpM M ds) : ∀ k j, UpM M ((dtab g t o ds k).getD j [])
  | 0, j => by unfold dtab; simp only [List.getD_nil]; exact upM_nil hM
  | k + 1, j => by
    unfold dtab
    have h0 : UpM M (dround g t o (dtab g t o ds k) (if k = 0 then ds else zeros g)) := by
      have hs : UpM M (if k = 0 then ds else zeros g) := by
        split
        · exact hd
        · intro i
          unfold zeros
          rw [List.getD_eq_getElem?_getD, List.getElem?_replicate]
          split <;> simp [hM]
      exact foldl_P (P := UpM M) o (fun ys e _ hy => foldl_P (P := UpM M) (List.range g.Places.length) (fun zs i hi hz => dstep_upM hM hM1 (slk_nn' hk (by simpa using hi)) (dtab_upM hM hM1 hk hd k) hz) ys hy) _ hs
    rw [getD_snoc]
    split
    · exact dtab_upM hM hM1 hk hd k j
    · split
      · exact h0
      · exact upM_nil hM

/-! ### The loops of the law -/
theorem more_loop {F : Nat} {code : List Int} {r4 : GEventGraph × GTimetable × List Int × Int} {i0 h0 : Int} (hF : 134217728 ≤ F) (hc : COk code) (hd : allIn r4.2.2.1) (hl : r4.2.2.1.length ≤ 1000) (i1 : 0 ≤ i0) (i2 : i0 ≤ (code.length : Int)) :
    Tot (fun r : Int × List Int => r.2.length = r4.2.2.1.length ∧ 0 ≤ r.1 ∧ r.1 ≤ 1000000 ∧ (∀ q, r4.2.2.1.getD q 0 ≤ r.1) ∧ ∀ q, q < r4.2.2.1.length → r4.2.2.1.getD q 0 ≤ r.2.getD q 0 ∧ r.2.getD q 0 ≤ 1000000) (laws_FnDelays_L1 F code r4 F 0 [] i0 h0 0) := by
  obtain ⟨g, t, ds, m⟩ := r4
  simp only at hd hl ⊢
  refine for0 (L := fun n (s : Int × List Int × Int × Int) j => laws_FnDelays_L1 F code (g, t, ds, m) n s.1 s.2.1 s.2.2.1 s.2.2.2 j) (len := ds.length)
    (fun k s => s.2.1.length = k ∧ 0 ≤ s.1 ∧ s.1 ≤ 1000000 ∧ (∀ q, q < k → ds.getD q 0 ≤ s.1 ∧ ds.getD q 0 ≤ s.2.1.getD q 0 ∧ s.2.1.getD q 0 ≤ 1000000) ∧ 0 ≤ s.2.2.1 ∧ s.2.2.1 ≤ (code.length : Int))
    (R := fun o => Tot (fun r : Int × List Int => r.2.length = ds.length ∧ 0 ≤ r.1 ∧ r.1 ≤ 1000000 ∧ (∀ q, ds.getD q 0 ≤ r.1) ∧ ∀ q, q < ds.length → ds.getD q 0 ≤ r.2.getD q 0 ∧ r.2.getD q 0 ≤ 1000000) o) (s := (0, [], i0, h0)) (n := F) ?_ ?_ ⟨rfl, by simp, by simp, fun q hq => by omega, i1, i2⟩ (by omega)
  · rintro n k ⟨mo, xs, i, h⟩ hk ⟨a1, a2, a3, a4, a5, a6⟩
    simp only at a1 a2 a3 a4 a5 a6
    have hx := getD_of hk
    obtain ⟨b0, b1⟩ := hd k
    obtain ⟨⟨y, j, h'⟩, hb, c0, c1, c2, c3⟩ := below_tot (F := F) (h := h) (n := 4) hc a5 a6 (by decide)
    simp only at c0 c1 c2 c3
    refine .inl ⟨(max mo (ds.getD k 0), xs ++ [min 1000000 (IntKind.i64.wrap (ds.getD k 0 + y))], j, h'), ?_, by simp [a1], by simp only; omega, by simp only; omega, fun q hq => ?_, c2, c3⟩
    · simp only [laws_FnDelays_L1, bdT (show (k : Int) < (ds.length : Int) by omega), idx_nat, hx, hb, Option.bind_some, app_le (show xs.length + [min 1000000 (IntKind.i64.wrap (ds.getD k 0 + y))].length ≤ 67108864 by simp; omega), wrN (show k ≤ 67108864 by omega)]
    · simp only
      rw [wr (n := ds.getD k 0 + y) (by omega) (by omega)]
      by_cases e : q = k
      · subst e
        have : (xs ++ [min 1000000 (ds.getD q 0 + y)]).getD q 0 = min 1000000 (ds.getD q 0 + y) := by
          rw [List.getD_eq_getElem?_getD, List.getElem?_append_right (by omega), a1, Nat.sub_self]; rfl
        rw [this]; omega
      · have : (xs ++ [min 1000000 (ds.getD k 0 + y)]).getD q 0 = xs.getD q 0 := by
          rw [List.getD_eq_getElem?_getD, List.getElem?_append_left (by omega), List.getD_eq_getElem?_getD]
        rw [this]
        have := a4 q (by omega)
        omega
  · rintro n ⟨mo, xs, i, h⟩ ⟨a1, a2, a3, a4, a5, a6⟩
    simp only at a1 a2 a3 a4 a5 a6
    simp only [laws_FnDelays_L1, bdF (show ¬ (ds.length : Int) < (ds.length : Int) by omega)]
    refine Tot.pure ⟨a1, a2, a3, fun q => ?_, fun q hq => (a4 q hq).2⟩
    by_cases hq : q < ds.length
    · exact (a4 q hq).1
    · rw [List.getD_eq_getElem?_getD, List.getElem?_eq_none (by omega)]; exact a2

theorem l21_tot {F : Nat} {code : List Int} {p s : Int} (hF : 134217728 ≤ F) (hc : COk code) (hs : SOk code p s) : Tot (fun r : (GEventGraph × GTimetable × List Int) × Int × Int => SOk code r.2.1 r.2.2 ∧ r.1.1.Places.length ≤ 1048576 ∧ r.1.2.1.Starts.length ≤ 1048576 ∧ r.1.2.2.length ≤ 1048576) (spec_l21Draw F code p s) :=
  l21Draw_tot hF hc hs (fun g hg => lpS_tot hF hg) (fun g n hg => etS_tot hF hg)

theorem law_Delays {F : Nat} {x0 : List Int} (hF0 : 9223372036854775808 ≤ F) (_ : x0.length ≤ 9223372036854775807) (hb : ∀ y, y ∈ x0 → 0 ≤ y ∧ y ≤ 255) : laws_FnDelays F x0 = some true := by
  have hF : 134217728 ≤ F := by omega
  unfold laws_FnDelays laws_big
  by_cases hbig : (4096 : Int) < (x0.length : Int)
  · simp only [Option.bind_some, dT hbig, cond_true]
  simp only [Option.bind_some, dF hbig, cond_false]
  have hc : COk x0 := ⟨by omega, hb⟩
  obtain ⟨⟨g, t, ds, m⟩, hd1, a0, a1, a2⟩ : Tot (fun r : GEventGraph × GTimetable × List Int × Int => r.1.Places.length ≤ 1048576 ∧ r.2.1.Starts.length ≤ 1048576 ∧ r.2.2.1.length ≤ 1048576) (spec_DrawDelayTable F x0) := by
    unfold spec_DrawDelayTable
    refine Tot.bind (from_tot hF hc) fun r3 h3 => Tot.bind (l21_tot hF hc h3) fun r6 h6 => Tot.bind (next_tot hc h6.1) fun r22 h22 => Tot.cond (fun _ => ?_) fun _ => ?_
    · exact Tot.bind (pick_tot hc h22.1 (by simp)) fun r h => Tot.pure ⟨h6.2.1, h6.2.2.1, h6.2.2.2⟩
    · exact Tot.bind (next_tot hc h22.1) fun r h => Tot.pure ⟨h6.2.1, h6.2.2.1, h6.2.2.2⟩
  obtain ⟨⟨h, u, es⟩, hd2, b0, b1, b2⟩ : Tot (fun r : GEventGraph × GTimetable × List Int => r.1.Places.length ≤ 1048576 ∧ r.2.1.Starts.length ≤ 1048576 ∧ r.2.2.length ≤ 1048576) (spec_DrawWorstDelays F x0) := by
    unfold spec_DrawWorstDelays
    exact Tot.bind (from_tot hF hc) fun r3 h3 => Tot.bind (l21_tot hF hc h3) fun r6 h6 => Tot.pure ⟨h6.2.1, h6.2.2.1, h6.2.2.2⟩
  simp only at a0 a1 a2 b0 b1 b2
  have eg : GEventGraph.mk g.Events g.Places = g := rfl
  have eh : GEventGraph.mk h.Events h.Places = h := rfl
  have et : GTimetable.mk t.Period t.Starts = t := rfl
  have eu : GTimetable.mk u.Period u.Starts = u := rfl
  obtain ⟨⟨w, cw⟩, w1, w2, w3⟩ := same_WorstDelays (F := F) (x0 := h) (x1 := u) (x2 := es) hF b0 b1 b2
  simp only at w3
  have hw := lkI (F := F) (xs := w) hF w3
  simp only [hd1, hd2, Option.bind_some, eg, eh, et, eu, w1, w2]
  rcases out_DelayTable (F := F) (x0 := g) (x1 := t) (x2 := ds) (x3 := m) hF a0 a1 a2 with ⟨c, c0, e1, e2⟩ | ⟨hd0, o, ho, e1, e2⟩
  · simp only [e1, e2, Option.bind_some, bne_self_eq_false, cond_false, lkT (F := F) (a := []) hF (by simp) (by simp), hw, Bool.not_true, neT c0, cond_true]
  · obtain ⟨g1, g2, g3, g4, g5, g6⟩ := delayCode_zero hd0
    obtain ⟨n0, n1⟩ := inB_true.1 g4
    obtain ⟨hds, hda⟩ := startsB_len g3
    have h10 := (GOk.of g1).n10
    have hev := (GOk.of g1).ev
    obtain ⟨⟨i0, h0⟩, hro, hi0⟩ := roll_tot (F := F) (code := x0) (seed := 2101) hF hc
    simp only at hi0
    subst hi0
    obtain ⟨⟨M, es2⟩, hmo, q1, q2, q3, q4, q5⟩ := more_loop (F := F) (code := x0) (r4 := (g, t, ds, m)) (i0 := 0) (h0 := h0) hF hc hda (by simp only; omega) (by decide) (by omega)
    simp only at q1 q2 q3 q4 q5
    have hes : allIn es2 := fun q => by
      by_cases hq : q < ds.length
      · have := q5 q hq
        have := hda q
        omega
      · rw [List.getD_eq_getElem?_getD, List.getElem?_eq_none (by omega)]; decide
    have hle : DLe ds es2 := ⟨hda, hes, q1.symm, fun q => by
      by_cases hq : q < ds.length
      · exact (q5 q hq).1
      · rw [List.getD_eq_getElem?_getD, List.getElem?_eq_none (by omega), List.getD_eq_getElem?_getD, List.getElem?_eq_none (by omega)]; exact Int.le_refl _⟩
    have hst : startsB g es2 = true := by
      unfold startsB
      simp only [Bool.and_eq_true, beq_iff_eq, List.all_eq_true]
      refine ⟨by omega, fun x hx => inB_true.2 (allIn_mem hes x hx)⟩
    have hdc : delayCode g t es2 (inB m 0 50) = 0 := by
      unfold delayCode
      rw [g1, g2, hst, g4, g5, g6]; rfl
    have e3 : impl_DelayTable F g t es2 m = some (dtab g t o es2 m.toNat, 0) := by
      rcases out_DelayTable (F := F) (x0 := g) (x1 := t) (x2 := es2) (x3 := m) hF a0 a1 (by omega) with ⟨c, c0, _, h2⟩ | ⟨_, o', ho', _, h2⟩
      · exfalso
        unfold impl_DelayTable at h2
        simp only [within_is, Option.bind_some, implDelayCode_is hF a0 a1 (show es2.length ≤ 1048576 by omega), hdc, bne_self_eq_false, cond_false] at h2
        cases hx : impl_delayTable F g t es2 m with
        | none => rw [hx] at h2; cases h2
        | some T =>
          rw [hx] at h2
          simp only [Option.bind_some, Option.some.injEq, Prod.mk.injEq] at h2
          exact c0 h2.2.symm
      · rw [ho] at ho'
        obtain rfl := Option.some.inj ho'
        exact h2
    have hT := dtab_len g t o ds m.toNat
    have hT2 := dtab_len g t o es2 m.toNat
    have hrows := dtab_rows (t := t) (o := o) hds m.toNat
    have hrows2 := dtab_rows (g := g) (t := t) (o := o) (ds := es2) (by omega) m.toNat
    have hmono := dtab_mono (o := o) g6 hle m.toNat
    have hup := dtab_upM (o := o) (M := M) q2 q3 g6 (fun q => ⟨(hda q).1, q4 q⟩) m.toNat
    have T1 := lkT (F := F) (a := dtab g t o ds m.toNat) hF (by omega) (fun r hr => by rw [hrows r hr]; omega)
    have hlow : ∀ q, 0 < m.toNat → ds.getD q 0 ≤ ((dtab g t o ds m.toNat).getD 0 []).getD q 0 := fun q hm => by
      rw [dtab_get g t o ds 0 m.toNat hm]
      exact dround_ge g t o _ ds q
    have L5 : laws_FnDelays_L5 F (g, t, ds, m) (dtab g t o ds m.toNat, 0) M (dtab g t o es2 m.toNat, 0) F 0 = some (.inr ()) := by
      refine same_loop (len := m.toNat) (L := laws_FnDelays_L5 F (g, t, ds, m) (dtab g t o ds m.toNat, 0) M (dtab g t o es2 m.toNat, 0)) ?_ ?_ (by omega)
      · intro n k hk
        have r1 : (dtab g t o ds m.toNat)[k]? = some ((dtab g t o ds m.toNat).getD k []) := rowsD (by omega)
        have r2 : (dtab g t o es2 m.toNat)[k]? = some ((dtab g t o es2 m.toNat).getD k []) := rowsD (by omega)
        have s1 := hrows _ (List.mem_of_getElem? r1)
        have s2 := hrows2 _ (List.mem_of_getElem? r2)
        have hm := hmono k
        have hu := hup k
        have hlw : k = 0 → ∀ q, ds.getD q 0 ≤ ((dtab g t o ds m.toNat).getD k []).getD q 0 := fun e q => by rw [e]; exact hlow q (by omega)
        have hlt : ((dtab g t o ds m.toNat).length : Int) = (m.toNat : Int) := by rw [hT]
        have B := bl9 (F := F) (xs := (dtab g t o ds m.toNat).getD k []) (ys := (dtab g t o es2 m.toNat).getD k []) hF (by omega) (by omega) (fun i _ => hm.2.2.2 i)
        have L6 : laws_FnDelays_L6 F (g, t, ds, m) (dtab g t o ds m.toNat, 0) M (k : Int) F 0 = some (.inr ()) := by
          refine same_loop (len := g.Events.toNat) (L := laws_FnDelays_L6 F (g, t, ds, m) (dtab g t o ds m.toNat, 0) M (k : Int)) ?_ ?_ (by omega)
          · intro n e he
            have v1 := getD_of (show e < ((dtab g t o ds m.toNat).getD k []).length by omega)
            have v2 := getD_of (show e < ds.length by omega)
            obtain ⟨u1, u2⟩ := hu e
            have hwe : IntKind.i64.wrap ((e : Int) + 1) = ((e + 1 : Nat) : Int) := wrN (by omega)
            simp only [laws_FnDelays_L6, idx_nat, r1, Option.bind_some, bdT (show (e : Int) < (((dtab g t o ds m.toNat).getD k []).length : Int) by omega), v1, v2, dF (show ¬ ((dtab g t o ds m.toNat).getD k []).getD e 0 < 0 by omega), dF (show ¬ M < ((dtab g t o ds m.toNat).getD k []).getD e 0 by omega), cond_false, hwe]
            by_cases h0 : k = 0
            · have := hlw h0 e
              rw [show ((k : Int) == 0) = true from by rw [h0]; rfl, cond_true, Option.bind_some, dF (by omega), cond_false]
            · rw [beq_false_of_ne (show (k : Int) ≠ 0 by omega), cond_false, Option.bind_some, cond_false]
          · intro n
            simp only [laws_FnDelays_L6, idx_nat, r1, Option.bind_some, bdF (show ¬ (g.Events.toNat : Int) < (((dtab g t o ds m.toNat).getD k []).length : Int) by omega)]
        simp only [laws_FnDelays_L5, hlt, bdT (show (k : Int) < (m.toNat : Int) by omega), idx_nat, r1, r2, Option.bind_some, B, Bool.not_true, cond_false, L6, wrN (show k ≤ 67108864 by omega)]
      · intro n
        have hlt : ((dtab g t o ds m.toNat).length : Int) = (m.toNat : Int) := by rw [hT]
        simp only [laws_FnDelays_L5, hlt, bdF (show ¬ (m.toNat : Int) < (m.toNat : Int) by omega)]
    simp only [e1, e2, Option.bind_some, bne_self_eq_false, cond_false, T1, hw, Bool.not_true, hro, hmo, e3, hT, hT2, L5]

end Go.Proofs.Ytebmlphobgaboab
