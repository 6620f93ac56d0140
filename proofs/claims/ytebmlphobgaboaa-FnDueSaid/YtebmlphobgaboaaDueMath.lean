/- The law's model answers true. -/
import Derived.Test.YtebmlphobgaboaaDueSmall
namespace Go.Proofs.Ytebmlphobgaboaa

theorem likeInts_self {F : Nat} {xs : List Int} (hF : 134217728 ≤ F) (hl : xs.length ≤ 1048576) : laws_likeInts F xs xs = some true := by
  unfold laws_likeInts
  rw [bne_self_eq_false, cond_false]
  have H := same_loop (len := xs.length) (L := laws_likeInts_L1 F xs xs) (n := F) ?_ ?_ (by omega)
  · rw [H]; rfl
  · intro n k hk
    have hx : xs[k]? = some xs[k] := List.getElem?_eq_getElem hk
    simp only [laws_likeInts_L1, bdT (show (k : Int) < (xs.length : Int) by omega), idx_nat, hx, Option.bind_some, bne_self_eq_false, cond_false, wrN (show k ≤ 67108864 by omega)]
  · intro n
    simp only [laws_likeInts_L1, bdF (show ¬ (xs.length : Int) < (xs.length : Int) by omega)]
theorem likeT_self {F : Nat} {a : List (List Int)} (hF : 134217728 ≤ F) (hl : a.length ≤ 1048576) (hr : ∀ r, r ∈ a → r.length ≤ 1048576) : laws_likeTables9 F a a = some true := by
  unfold laws_likeTables9
  rw [bne_self_eq_false, cond_false]
  have H := same_loop (len := a.length) (L := laws_likeTables9_L1 F a a) (n := F) ?_ ?_ (by omega)
  · rw [H]; rfl
  · intro n k hk
    have hx : a[k]? = some a[k] := List.getElem?_eq_getElem hk
    simp only [laws_likeTables9_L1, bdT (show (k : Int) < (a.length : Int) by omega), idx_nat, hx, Option.bind_some, likeInts_self hF (hr _ (List.getElem_mem hk)), Bool.not_true, cond_false, wrN (show k ≤ 67108864 by omega)]
  · intro n
    simp only [laws_likeTables9_L1, bdF (show ¬ (a.length : Int) < (a.length : Int) by omega)]
def okB (T : List (List Int)) : Bool := T.all fun r => r.all fun x => !decide (x < 0)

theorem val_CanMeet {F : Nat} {x0 : GEventGraph} {x1 : List (List Int)} (hF : 134217728 ≤ F) (h0 : x0.Places.length ≤ 1048576) (h1 : x1.length ≤ 1048576) (h2 : offR x1 x1.length ≤ 1048576) :
    (dueCode x0 x1 ≠ 0 ∧ spec_CanMeet F x0 x1 = some (false, dueCode x0 x1) ∧ impl_CanMeet F x0 x1 = some (false, dueCode x0 x1)) ∨ (dueCode x0 x1 = 0 ∧ ∀ o, fire (eP x0.Places) x0.Events.toNat x0.Events.toNat [] = some o → spec_CanMeet F x0 x1 = some (okB (ftab (ttab x0 o (zeros x0) x1.length) x0.Events.toNat x1.length (ltab x0 x1.length o x1)), 0) ∧ impl_CanMeet F x0 x1 = some (okB (ftab (ttab x0 o (zeros x0) x1.length) x0.Events.toNat x1.length (ltab x0 x1.length o x1)), 0)) := by
  have hrl := rows_le h2
  have hs := specDueCode_is hF h0 h1 hrl
  obtain ⟨b, hb⟩ := specDueTot (g := x0) hF h1 hrl
  rw [hb] at hs
  simp only [Option.bind_some] at hs
  unfold spec_CanMeet impl_CanMeet spec_FloatsOf
  rw [bind_of (implDueCode_is hF h0 h1 hrl), hb]
  simp only [Option.bind_some, hs]
  by_cases hd : dueCode x0 x1 = 0
  · right
    obtain ⟨g1, g2, _⟩ := dueCode_zero hd
    refine ⟨hd, fun o ho => ?_⟩
    rw [bF (neF hd), bF (neF hd)]
    obtain ⟨hn, hrow⟩ := dueB_true g1 g2
    have hG := GOk.of g1
    have h10 := hG.n10
    obtain ⟨hok, hol⟩ := fire_ok hG.edge _ [] o (OrderOk.nil _ _) ho
    have hol' : o.length ≤ 1000 := by simp at hol; omega
    have hO : LOk x0 x1.length x1 := ⟨rfl, fun r hr => (hrow r hr).1⟩
    have hT : LOk x0 x1.length (ftab (ttab x0 o (zeros x0) x1.length) x0.Events.toNat x1.length (ltab x0 x1.length o x1)) := hO.tab.ftab
    rw [specFloats_is hF g1 hO hn ho hok.lt hol', implFloats_is hF g1 hO hn ho hok.lt]
    simp only [Option.bind_some, bne_self_eq_false, cond_false]
    generalize ftab (ttab x0 o (zeros x0) x1.length) x0.Events.toNat x1.length (ltab x0 x1.length o x1) = T at hT
    have e1 : 1 ≤ x0.Events.toNat := by have := (graphB_true g1).1; omega
    have S : spec_CanMeet_L4 F (T, 0) F 0 = some (bif T.all (fun r => r.all fun x => !decide (x < 0)) then .inr () else .inl (false, 0)) := by
      refine all_loop (ps := T) (g := fun r => r.all fun x => !decide (x < 0)) (r := ((false, 0) : Bool × Int)) (n := F) ?_ ?_ (by have := hT.len; omega)
      · intro n k row hk hx
        have hl := hT.rws row (List.mem_of_getElem? hx)
        have hin : spec_CanMeet_L5 F (T, 0) (k : Int) F 0 = some (bif row.all (fun x => !decide (x < 0)) then .inr () else .inl (false, 0)) := by
          refine all_loop (ps := row) (g := fun x => !decide (x < 0)) (r := ((false, 0) : Bool × Int)) (n := F) ?_ ?_ (by omega)
          · intro n j x hj hxx
            simp only [spec_CanMeet_L5, idx_nat, hx, Option.bind_some, bdT (show (j : Int) < (row.length : Int) by omega), hxx, wrN (show j ≤ 67108864 by omega)]
            cases decide (x < 0) <;> rfl
          · intro n
            simp only [spec_CanMeet_L5, idx_nat, hx, Option.bind_some, bdF (show ¬ (row.length : Int) < (row.length : Int) by omega)]
        have hkl := hT.len
        simp only [spec_CanMeet_L4, bdT (show (k : Int) < (T.length : Int) by omega), hin, Option.bind_some, wrN (show k ≤ 67108864 by omega)]
        cases row.all (fun x => !decide (x < 0)) <;> rfl
      · intro n
        simp only [spec_CanMeet_L4, bdF (show ¬ (T.length : Int) < (T.length : Int) by omega)]
    have I : impl_CanMeet_L1 F T F 0 = some (bif T.all (fun r => r.all fun x => !decide (x < 0)) then .inr () else .inl (false, 0)) := by
      refine all_loop (ps := T) (g := fun r => r.all fun x => !decide (x < 0)) (r := ((false, 0) : Bool × Int)) (n := F) ?_ ?_ (by have := hT.len; omega)
      · intro n k row hk hx
        have hl := hT.rws row (List.mem_of_getElem? hx)
        have hkl := hT.len
        obtain ⟨m, m1, m2⟩ := min_is (F := F) (xs := row) (by omega) (by omega) (by omega)
        simp only [impl_CanMeet_L1, bdT (show (k : Int) < (T.length : Int) by omega), idx_nat, hx, Option.bind_some, m1, wrN (show k ≤ 67108864 by omega)]
        cases ha : row.all fun x => !decide (x < 0) with
        | true =>
          have : ¬ m < 0 := fun hm => by
            obtain ⟨i, x, h1, h2, h3⟩ := m2.1 hm
            have := List.all_eq_true.1 ha x (List.mem_of_getElem? h2)
            rw [dT h3] at this; cases this
          rw [bdF this]; rfl
        | false =>
          rw [List.all_eq_false] at ha
          obtain ⟨x, hx, hn⟩ := ha
          obtain ⟨i, hi, he⟩ := List.getElem_of_mem hx
          have hx0 : x < 0 := by
            by_cases h : x < 0
            · exact h
            · rw [dF h] at hn; exact absurd rfl hn
          rw [bdT (m2.2 ⟨i, x, hi, by rw [List.getElem?_eq_getElem hi, he], hx0⟩)]; rfl
      · intro n
        simp only [impl_CanMeet_L1, bdF (show ¬ (T.length : Int) < (T.length : Int) by omega)]
    rw [S, I]
    show _ = some (okB T, 0) ∧ _ = some (okB T, 0)
    unfold okB
    cases hB : T.all (fun r => r.all fun x => !decide (x < 0)) with
    | true => exact ⟨rfl, rfl⟩
    | false => exact ⟨rfl, rfl⟩
  · left
    refine ⟨hd, ?_⟩
    rw [bT (neT hd), bT (neT hd)]
    simp only [Option.bind_some]
    rw [bT (neT hd)]
    refine ⟨?_, ?_⟩ <;> first | rfl | trivial

theorem val_LateFirings {F : Nat} {x0 : GEventGraph} {x1 : List (List Int)} (hF : 134217728 ≤ F) (h0 : x0.Places.length ≤ 1048576) (h1 : x1.length ≤ 1048576) (h2 : offR x1 x1.length ≤ 1048576) :
    (dueCode x0 x1 ≠ 0 ∧ spec_LateFirings F x0 x1 = some ([], dueCode x0 x1) ∧ impl_LateFirings F x0 x1 = some ([], dueCode x0 x1)) ∨ (dueCode x0 x1 = 0 ∧ ∀ o, fire (eP x0.Places) x0.Events.toNat x0.Events.toNat [] = some o → spec_LateFirings F x0 x1 = some (pickAll (lateP (ttab x0 o (zeros x0) x1.length) x1) x0.Events.toNat x1.length, 0) ∧ impl_LateFirings F x0 x1 = some (pickAll (lateP (ttab x0 o (zeros x0) x1.length) x1) x0.Events.toNat x1.length, 0)) := by
  have hrl := rows_le h2
  have hs := specDueCode_is hF h0 h1 hrl
  unfold spec_LateFirings impl_LateFirings
  rw [bind_of (implDueCode_is hF h0 h1 hrl)]
  obtain ⟨b, hb⟩ := specDueTot (g := x0) hF h1 hrl
  rw [hb] at hs ⊢
  simp only [Option.bind_some] at hs ⊢
  rw [hs]
  simp only [Option.bind_some]
  by_cases hd : dueCode x0 x1 = 0
  · right
    obtain ⟨g1, g2, _⟩ := dueCode_zero hd
    refine ⟨hd, fun o ho => ?_⟩
    rw [bF (neF hd), bF (neF hd)]
    obtain ⟨hn, hrow⟩ := dueB_true g1 g2
    have hG := GOk.of g1
    have h10 := hG.n10
    have hmk : mk x0.Events (0 : Int) = some (zeros x0) := by rw [hG.ev, mk_nat _ (by omega)]; rfl
    have hz : (zeros x0).length = x0.Events.toNat := by unfold zeros; simp
    have hT := ttab_len x0 o (zeros x0) x1.length
    have hTr := ttab_rows (g := x0) (o := o) hz x1.length
    simp only [hmk, Option.bind_some, specTimes13_is hF g1 ho hz hn, implTimes13_is hF g1 ho hz hn]
    generalize ttab x0 o (zeros x0) x1.length = T at hT hTr
    have S := all_rounds (p := lateP T x1) (n := x0.Events.toNat) (len := x1.length) (L := spec_LateFirings_L4 F x1 T) h10 hn ?_ ?_ hF
    have I := all_rounds (p := lateP T x1) (n := x0.Events.toNat) (len := x1.length) (L := impl_firingsWith_L4 F T (fun y0 y1 => impl_LateFirings_c1 F y0 y1 T x1)) h10 hn ?_ ?_ hF
    · refine ⟨?_, ?_⟩
      · rw [S]; rfl
      · unfold impl_firingsWith; rw [I]; rfl
    · intro m k ms hk hms
      have r1 := rowD (T := T) (k := k) (by omega)
      have l1 := hTr _ (List.mem_of_getElem? r1)
      have inner := row_loop (p := lateP T x1) (k := k) (n := x0.Events.toNat) (acc := ms) (L := impl_firingsWith_L5 F (fun y0 y1 => impl_LateFirings_c1 F y0 y1 T x1) (k : Int) (T.getD k [])) hms h10 ?_ ?_ hF
      · simp only [impl_firingsWith_L4, bdT (show (k : Int) < (T.length : Int) by omega), idx_nat, r1, Option.bind_some, inner, wrN (show k ≤ 67108864 by omega)]
      · intro m ms e he hml
        have r2 := rowD (T := x1) (k := k) hk
        have l2 := (hrow _ (List.mem_of_getElem? r2)).1
        simp only [impl_firingsWith_L5, impl_LateFirings_c1, bdT (show (e : Int) < ((T.getD k []).length : Int) by omega), idx_nat, r1, r2, getD_of (show e < (T.getD k []).length by omega), getD_of (show e < (x1.getD k []).length by omega), Option.bind_some, wrN (show k ≤ 67108864 by omega), wrN (show e ≤ 67108864 by omega)]
        rw [show decide ((x1.getD k []).getD e 0 < (T.getD k []).getD e 0) = lateP T x1 k e from rfl]
        cases lateP T x1 k e with
        | false => simp
        | true => rw [cond_true, app_le (by simp only [List.length_singleton]; omega)]; rfl
      · intro m ms
        simp only [impl_firingsWith_L5, bdF (show ¬ (x0.Events.toNat : Int) < ((T.getD k []).length : Int) by omega)]
    · intro m ms
      simp only [impl_firingsWith_L4, bdF (show ¬ (x1.length : Int) < (T.length : Int) by omega)]
    · intro m k ms hk hms
      have r1 := rowD (T := T) (k := k) (by omega)
      have l1 := hTr _ (List.mem_of_getElem? r1)
      have inner := row_loop (p := lateP T x1) (k := k) (n := x0.Events.toNat) (acc := ms) (L := spec_LateFirings_L5 F x1 T (k : Int)) hms h10 ?_ ?_ hF
      · simp only [spec_LateFirings_L4, bdT (show (k : Int) < (T.length : Int) by omega), Option.bind_some, inner, wrN (show k ≤ 67108864 by omega)]
      · intro m ms e he hml
        have r2 := rowD (T := x1) (k := k) hk
        have l2 := (hrow _ (List.mem_of_getElem? r2)).1
        simp only [spec_LateFirings_L5, idx_nat, r1, Option.bind_some, bdT (show (e : Int) < ((T.getD k []).length : Int) by omega), r2, getD_of (show e < (T.getD k []).length by omega), getD_of (show e < (x1.getD k []).length by omega), wrN (show k ≤ 67108864 by omega), wrN (show e ≤ 67108864 by omega)]
        rw [show decide ((x1.getD k []).getD e 0 < (T.getD k []).getD e 0) = lateP T x1 k e from rfl]
        cases lateP T x1 k e with
        | false => simp
        | true => rw [cond_true, app_le (by simp only [List.length_singleton]; omega)]; rfl
      · intro m ms
        simp only [spec_LateFirings_L5, idx_nat, r1, Option.bind_some, bdF (show ¬ (x0.Events.toNat : Int) < ((T.getD k []).length : Int) by omega)]
    · intro m ms
      simp only [spec_LateFirings_L4, bdF (show ¬ (x1.length : Int) < (T.length : Int) by omega)]
  · left
    refine ⟨hd, ?_⟩
    rw [bT (neT hd), bT (neT hd)]
    exact ⟨rfl, rfl⟩

def critP (T : List (List Int)) (k e : Nat) : Bool := (T.getD k []).getD e 0 == 0
theorem val_CriticalFirings {F : Nat} {x0 : GEventGraph} {x1 : List (List Int)} (hF : 134217728 ≤ F) (h0 : x0.Places.length ≤ 1048576) (h1 : x1.length ≤ 1048576) (h2 : offR x1 x1.length ≤ 1048576) :
    (dueCode x0 x1 ≠ 0 ∧ spec_CriticalFirings F x0 x1 = some ([], dueCode x0 x1) ∧ impl_CriticalFirings F x0 x1 = some ([], dueCode x0 x1)) ∨ (dueCode x0 x1 = 0 ∧ ∀ o, fire (eP x0.Places) x0.Events.toNat x0.Events.toNat [] = some o → spec_CriticalFirings F x0 x1 = some (pickAll (critP (ftab (ttab x0 o (zeros x0) x1.length) x0.Events.toNat x1.length (ltab x0 x1.length o x1))) x0.Events.toNat x1.length, 0) ∧ impl_CriticalFirings F x0 x1 = some (pickAll (critP (ftab (ttab x0 o (zeros x0) x1.length) x0.Events.toNat x1.length (ltab x0 x1.length o x1))) x0.Events.toNat x1.length, 0)) := by
  have hrl := rows_le h2
  have hs := specDueCode_is hF h0 h1 hrl
  obtain ⟨b, hb⟩ := specDueTot (g := x0) hF h1 hrl
  rw [hb] at hs
  simp only [Option.bind_some] at hs
  unfold spec_CriticalFirings impl_CriticalFirings spec_FloatsOf
  rw [bind_of (implDueCode_is hF h0 h1 hrl), hb]
  simp only [Option.bind_some, hs]
  by_cases hd : dueCode x0 x1 = 0
  · right
    obtain ⟨g1, g2, _⟩ := dueCode_zero hd
    refine ⟨hd, fun o ho => ?_⟩
    rw [bF (neF hd), bF (neF hd)]
    obtain ⟨hn, hrow⟩ := dueB_true g1 g2
    have hG := GOk.of g1
    have h10 := hG.n10
    obtain ⟨hok, hol⟩ := fire_ok hG.edge _ [] o (OrderOk.nil _ _) ho
    have hol' : o.length ≤ 1000 := by simp at hol; omega
    have hO : LOk x0 x1.length x1 := ⟨rfl, fun r hr => (hrow r hr).1⟩
    have hT : LOk x0 x1.length (ftab (ttab x0 o (zeros x0) x1.length) x0.Events.toNat x1.length (ltab x0 x1.length o x1)) := hO.tab.ftab
    rw [specFloats_is hF g1 hO hn ho hok.lt hol', implFloats_is hF g1 hO hn ho hok.lt]
    simp only [Option.bind_some, bne_self_eq_false, cond_false]
    generalize ftab (ttab x0 o (zeros x0) x1.length) x0.Events.toNat x1.length (ltab x0 x1.length o x1) = T at hT
    have hTl := hT.len
    have S := all_rounds (p := critP T) (n := x0.Events.toNat) (len := x1.length) (L := spec_CriticalFirings_L4 F (T, 0)) h10 hn ?_ ?_ hF
    have I := all_rounds (p := critP T) (n := x0.Events.toNat) (len := x1.length) (L := impl_firingsWith_L4 F T (fun y0 y1 => impl_CriticalFirings_c1 F y0 y1 T)) h10 hn ?_ ?_ hF
    · refine ⟨?_, ?_⟩
      · rw [S]; rfl
      · unfold impl_firingsWith; rw [I]; rfl
    · intro m k ms hk hms
      obtain ⟨r1, l1⟩ := hT.at' hk
      have inner := row_loop (p := critP T) (k := k) (n := x0.Events.toNat) (acc := ms) (L := impl_firingsWith_L5 F (fun y0 y1 => impl_CriticalFirings_c1 F y0 y1 T) (k : Int) (T.getD k [])) hms h10 ?_ ?_ hF
      · simp only [impl_firingsWith_L4, bdT (show (k : Int) < (T.length : Int) by omega), idx_nat, r1, Option.bind_some, inner, wrN (show k ≤ 67108864 by omega)]
      · intro m ms e he hml
        simp only [impl_firingsWith_L5, impl_CriticalFirings_c1, bdT (show (e : Int) < ((T.getD k []).length : Int) by omega), idx_nat, r1, getD_of (show e < (T.getD k []).length by omega), Option.bind_some, wrN (show k ≤ 67108864 by omega), wrN (show e ≤ 67108864 by omega)]
        rw [show ((T.getD k []).getD e 0 == 0) = critP T k e from rfl]
        cases critP T k e with
        | false => simp
        | true => rw [cond_true, app_le (by simp only [List.length_singleton]; omega)]; rfl
      · intro m ms
        simp only [impl_firingsWith_L5, bdF (show ¬ (x0.Events.toNat : Int) < ((T.getD k []).length : Int) by omega)]
    · intro m ms
      simp only [impl_firingsWith_L4, bdF (show ¬ (x1.length : Int) < (T.length : Int) by omega)]
    · intro m k ms hk hms
      obtain ⟨r1, l1⟩ := hT.at' hk
      have inner := row_loop (p := critP T) (k := k) (n := x0.Events.toNat) (acc := ms) (L := spec_CriticalFirings_L5 F (T, 0) (k : Int)) hms h10 ?_ ?_ hF
      · simp only [spec_CriticalFirings_L4, bdT (show (k : Int) < (T.length : Int) by omega), Option.bind_some, inner, wrN (show k ≤ 67108864 by omega)]
      · intro m ms e he hml
        simp only [spec_CriticalFirings_L5, idx_nat, r1, Option.bind_some, bdT (show (e : Int) < ((T.getD k []).length : Int) by omega), getD_of (show e < (T.getD k []).length by omega), wrN (show k ≤ 67108864 by omega), wrN (show e ≤ 67108864 by omega)]
        rw [show ((T.getD k []).getD e 0 == 0) = critP T k e from rfl]
        cases critP T k e with
        | false => simp
        | true => rw [cond_true, app_le (by simp only [List.length_singleton]; omega)]; rfl
      · intro m ms
        simp only [spec_CriticalFirings_L5, idx_nat, r1, Option.bind_some, bdF (show ¬ (x0.Events.toNat : Int) < ((T.getD k []).length : Int) by omega)]
    · intro m ms
      simp only [spec_CriticalFirings_L4, bdF (show ¬ (x1.length : Int) < (T.length : Int) by omega)]
  · left
    refine ⟨hd, ?_⟩
    rw [bT (neT hd), bT (neT hd)]
    simp only [Option.bind_some]
    rw [bT (neT hd)]
    refine ⟨?_, ?_⟩ <;> first | rfl | trivial
theorem gE_at {g : GEventGraph} {n k e : Nat} {ms : List (List Int)} (h : LOk g n ms) (hk : k < n) (he : e < g.Events.toNat) : ms[k]? = some (ms.getD k []) ∧ (ms.getD k [])[e]? = some (gE ms k e) := by
  obtain ⟨a, b⟩ := h.at' hk
  exact ⟨a, getD_of (by omega)⟩

/-! ### Bounds -/
def Up (B : Int) (xs : List Int) : Prop := ∀ q, 0 ≤ xs.getD q 0 ∧ xs.getD q 0 ≤ B
theorem Up.mono {B C : Int} {xs : List Int} (h : Up B xs) (hb : B ≤ C) : Up C xs := fun q => by have := h q; omega
theorem up_nil {B : Int} (h : 0 ≤ B) : Up B [] := fun q => by simp [h]
theorem rowP_of {pre : List (List Int)} {xs : List Int} {P : List Int → Prop} (hp : ∀ r, r ∈ pre → P r) (hx : P xs) (hn : P []) (j : Nat) : P ((pre ++ [xs]).getD j []) := by
  by_cases hl : j < (pre ++ [xs]).length
  · have hm : (pre ++ [xs]).getD j [] ∈ pre ++ [xs] := by
      rw [List.getD_eq_getElem?_getD, List.getElem?_eq_getElem hl]; exact List.getElem_mem hl
    rcases List.mem_append.1 hm with h1 | h1
    · exact hp _ h1
    · simp only [List.mem_singleton] at h1; rw [h1]; exact hx
  · rw [List.getD_eq_getElem?_getD, List.getElem?_eq_none (by omega)]; exact hn
theorem del_at {g : GEventGraph} (hg : graphB g = true) {i : Nat} (hi : i < g.Places.length) : 0 ≤ (plD g i).Delay ∧ (plD g i).Delay ≤ 1000 := (graphB_tok hg _ (List.mem_of_getElem? (plD_of hi))).2.2
theorem tstep_up {g : GEventGraph} {pre : List (List Int)} {e i : Nat} {xs : List Int} {B : Int} (hg : graphB g = true) (hi : i < g.Places.length) (hp : ∀ r, r ∈ pre → Up B r) (hx : Up B xs) (hB : B ≤ 1000000000) : Up (B + 1000) (tstep g pre e xs i) := by
  have hB0 : 0 ≤ B := by have := hx 0; omega
  unfold tstep
  cases ((plD g i).To == (e : Int) && decide ((plD g i).Tokens ≤ (pre.length : Int))) with
  | false => exact hx.mono (by omega)
  | true =>
    simp only [cond_true]
    have hr := rowP_of hp hx (up_nil hB0) (pre.length - (plD g i).Tokens.toNat) (plD g i).From.toNat
    have hd := del_at hg hi
    intro q
    rw [set_getD]
    have h1 := hx e
    have h2 := hx q
    split
    · rw [wr (by omega) (by omega)]; omega
    · omega
theorem tfold_up {g : GEventGraph} {pre : List (List Int)} {e : Nat} (hg : graphB g = true) : ∀ (l : List Nat) (B : Int) (xs : List Int), (∀ i, i ∈ l → i < g.Places.length) → (∀ r, r ∈ pre → Up B r) → Up B xs → B + 1000 * (l.length : Int) ≤ 1000000000 → Up (B + 1000 * (l.length : Int)) (l.foldl (tstep g pre e) xs)
  | [], B, xs, _, _, hx, _ => hx.mono (by simp)
  | i :: l, B, xs, hl, hp, hx, hB => by
    simp only [List.length_cons] at hB ⊢
    have h1 := tstep_up (e := e) hg (hl i (by simp)) hp hx (by omega)
    exact (tfold_up hg l (B + 1000) _ (fun j hj => hl j (by simp [hj])) (fun r hr => (hp r hr).mono (by omega)) h1 (by omega)).mono (by omega)
theorem tevent_up {g : GEventGraph} {pre : List (List Int)} {e : Nat} {xs : List Int} {B : Int} (hg : graphB g = true) (hp : ∀ r, r ∈ pre → Up B r) (hx : Up B xs) (hB : B + 30000 ≤ 1000000000) : Up (B + 30000) (tevent g pre xs e) := by
  have hP := (GOk.of hg).len
  exact (tfold_up hg (List.range g.Places.length) B xs (fun i hi => by simpa using hi) hp hx (by rw [List.length_range]; omega)).mono (by rw [List.length_range]; omega)
theorem tround_up {g : GEventGraph} {pre : List (List Int)} (hg : graphB g = true) : ∀ (o : List Nat) (B : Int) (xs : List Int), (∀ r, r ∈ pre → Up B r) → Up B xs → B + 30000 * (o.length : Int) ≤ 1000000000 → Up (B + 30000 * (o.length : Int)) (tround g o pre xs)
  | [], B, xs, _, hx, _ => hx.mono (by simp)
  | e :: o, B, xs, hp, hx, hB => by
    simp only [List.length_cons] at hB ⊢
    have h1 := tevent_up (e := e) hg hp hx (by omega)
    exact (tround_up hg o (B + 30000) _ (fun r hr => (hp r hr).mono (by omega)) h1 (by omega)).mono (by omega)
theorem zeros_up (g : GEventGraph) : Up 0 (zeros g) := fun q => by
  have : (zeros g).getD q 0 = 0 := by
    unfold zeros; rw [List.getD_eq_getElem?_getD, List.getElem?_replicate]; split <;> rfl
  rw [this]; exact ⟨by decide, by decide⟩
theorem ttab_up {g : GEventGraph} {o : List Nat} (hg : graphB g = true) (hol : o.length ≤ 10) : ∀ k, k ≤ 50 → ∀ r, r ∈ ttab g o (zeros g) k → Up (300000 * (k : Int)) r := by
  intro k
  induction k with
  | zero => intro _ r h; cases h
  | succ k ih =>
    intro hk r h
    have e : ttab g o (zeros g) (k + 1) = ttab g o (zeros g) k ++ [tround g o (ttab g o (zeros g) k) (zeros g)] := rfl
    rw [e] at h
    rcases List.mem_append.1 h with h | h
    · exact (ih (by omega) r h).mono (by omega)
    · simp only [List.mem_singleton] at h
      rw [h]
      exact (tround_up hg o (300000 * (k : Int)) _ (ih (by omega)) ((zeros_up g).mono (by omega)) (by omega)).mono (by omega)
/-! ### The firing times keep every place -/
theorem tstep_ne {g : GEventGraph} {pre : List (List Int)} {e i q : Nat} {xs : List Int} (h : q ≠ e) : (tstep g pre e xs i).getD q 0 = xs.getD q 0 := by
  unfold tstep
  cases ((plD g i).To == (e : Int) && decide ((plD g i).Tokens ≤ (pre.length : Int))) with
  | false => rfl
  | true => simp only [cond_true]; rw [set_getD, if_neg (fun hh => h hh.1)]
theorem tstep_ge (g : GEventGraph) (pre : List (List Int)) (e : Nat) (xs : List Int) (i q : Nat) : xs.getD q 0 ≤ (tstep g pre e xs i).getD q 0 := by
  unfold tstep
  cases ((plD g i).To == (e : Int) && decide ((plD g i).Tokens ≤ (pre.length : Int))) with
  | false => exact Int.le_refl _
  | true =>
    simp only [cond_true]
    rw [set_getD]
    split
    · rename_i h; rw [h.1]; omega
    · exact Int.le_refl _
theorem fold_ge {α : Type} {f : List Int → α → List Int} (hf : ∀ xs a q, xs.getD q 0 ≤ (f xs a).getD q 0) : ∀ (l : List α) (xs : List Int) (q : Nat), xs.getD q 0 ≤ (l.foldl f xs).getD q 0
  | [], _, _ => Int.le_refl _
  | a :: l, xs, q => by
    have h1 := hf xs a q
    have h2 := fold_ge hf l (f xs a) q
    rw [List.foldl_cons]; omega
theorem fold_ne {α : Type} {f : List Int → α → List Int} {q : Nat} : ∀ (l : List α) (_ : ∀ xs a, a ∈ l → (f xs a).getD q 0 = xs.getD q 0) (xs : List Int), (l.foldl f xs).getD q 0 = xs.getD q 0
  | [], _, _ => rfl
  | a :: l, hf, xs => by rw [List.foldl_cons, fold_ne l (fun ys b hb => hf ys b (by simp [hb])), hf xs a (by simp)]
theorem tevent_ne {g : GEventGraph} {pre : List (List Int)} {e q : Nat} {xs : List Int} (h : q ≠ e) : (tevent g pre xs e).getD q 0 = xs.getD q 0 := fold_ne _ (fun _ _ _ => tstep_ne h) _
theorem tevent_ge (g : GEventGraph) (pre : List (List Int)) (xs : List Int) (e q : Nat) : xs.getD q 0 ≤ (tevent g pre xs e).getD q 0 := fold_ge (fun ys i q => tstep_ge g pre e ys i q) _ _ _
theorem tround_closed {g : GEventGraph} {o : List Nat} {pre : List (List Int)} {i u v w : Nat} (hg : graphB g = true) (ho : fire (eP g.Places) g.Events.toNat g.Events.toNat [] = some o) (hp : ∀ r, r ∈ pre → Up 100000000 r) (hi : i < g.Places.length) (hu : (plD g i).From = (u : Int)) (hv : (plD g i).To = (v : Int)) (hw : (plD g i).Tokens = (w : Int)) (hwp : w ≤ pre.length) :
    ((pre ++ [tround g o pre (zeros g)]).getD (pre.length - w) []).getD u 0 + (plD g i).Delay ≤ (tround g o pre (zeros g)).getD v 0 := by
  obtain ⟨hok, hol⟩ := fire_ok (GOk.of hg).edge _ [] o (OrderOk.nil _ _) ho
  have hol : o.length = g.Events.toNat := by simpa using hol
  have h10 := (GOk.of hg).n10
  have hP := (GOk.of hg).len
  obtain ⟨_, ⟨v', hv', hvn⟩, _⟩ := PlOk.of hg hi
  obtain rfl : v' = v := by omega
  have hvo := full_mem hok.nodup hok.lt hol hvn
  obtain ⟨A, B, hAB⟩ := List.append_of_mem hvo
  have hnd := hok.nodup
  rw [hAB] at hnd
  have hnB : v' ∉ B := (List.nodup_cons.1 (List.nodup_append.1 hnd).2.1).1
  have hAl : A.length + B.length + 1 ≤ 10 := by
    have := congrArg List.length hAB
    simp only [List.length_append, List.length_cons] at this; omega
  have hxA : Up 100300000 (A.foldl (tevent g pre) (zeros g)) := (tround_up hg A 100000000 (zeros g) hp ((zeros_up g).mono (by decide)) (by omega)).mono (by omega)
  have hR : tround g o pre (zeros g) = B.foldl (tevent g pre) (tevent g pre (A.foldl (tevent g pre) (zeros g)) v') := by
    unfold tround; rw [hAB, List.foldl_append, List.foldl_cons]
  have hge : (tevent g pre (A.foldl (tevent g pre) (zeros g)) v').getD v' 0 ≤ (tround g o pre (zeros g)).getD v' 0 := by
    rw [hR]; exact fold_ge (fun ys e q => tevent_ge g pre ys e q) _ _ _
  -- the row that the place reads
  have hread : ∀ ys : List Int, (∀ q, q ≠ v' → ys.getD q 0 = (A.foldl (tevent g pre) (zeros g)).getD q 0) → ((pre ++ [tround g o pre (zeros g)]).getD (pre.length - w) []).getD u 0 = ((pre ++ [ys]).getD (pre.length - w) []).getD u 0 := by
    intro ys hys
    by_cases h0 : w = 0
    · subst h0
      have hE := eP_of (u := u) hi hu hv' (by rw [hw]; rfl)
      have huA : u ∈ A := by
        have := hok.topo A.length v' u (by rw [hAB, List.getElem?_append_right (Nat.le_refl _), Nat.sub_self]; rfl) hE
        rw [hAB, List.take_append_of_le_length (Nat.le_refl _), List.take_length] at this
        exact this
      have huv : u ≠ v' := fun hh => (List.nodup_append.1 hnd).2.2 u huA v' (by simp) hh
      have huB : u ∉ B := fun hh => (List.nodup_append.1 hnd).2.2 u huA u (by simp [hh]) rfl
      have hl : ∀ zs : List Int, (pre ++ [zs]).getD (pre.length - 0) [] = zs := fun zs => by
        rw [Nat.sub_zero, List.getD_eq_getElem?_getD, List.getElem?_append_right (Nat.le_refl _), Nat.sub_self]; rfl
      rw [hl, hl, hys u huv, hR, fold_ne B (fun _ e he => tevent_ne (fun hh => huB (by rw [hh]; exact he))), tevent_ne huv]
    · have hl : ∀ zs : List Int, (pre ++ [zs]).getD (pre.length - w) [] = pre.getD (pre.length - w) [] := fun zs => by
        rw [List.getD_eq_getElem?_getD, List.getElem?_append_left (by omega), ← List.getD_eq_getElem?_getD]
      rw [hl, hl]
  -- the step of the place itself
  have hstep : ((pre ++ [tround g o pre (zeros g)]).getD (pre.length - w) []).getD u 0 + (plD g i).Delay ≤ (tevent g pre (A.foldl (tevent g pre) (zeros g)) v').getD v' 0 := by
    obtain ⟨S, R, hSR⟩ := List.append_of_mem (show i ∈ List.range g.Places.length by simpa using hi)
    have hxl : (A.foldl (tevent g pre) (zeros g)).length = g.Events.toNat := by
      rw [foldl_len (tevent_len g pre)]; unfold zeros; simp
    have hSl : S.length ≤ 30 := by
      have := congrArg List.length hSR
      simp only [List.length_append, List.length_cons, List.length_range] at this; omega
    have hys : Up 100600000 (S.foldl (tstep g pre v') (A.foldl (tevent g pre) (zeros g))) := (tfold_up hg S 100300000 _ (fun j hj => by
      have : j ∈ List.range g.Places.length := by rw [hSR]; simp [hj]
      simpa using this) (fun r hr => (hp r hr).mono (by decide)) hxA (by omega)).mono (by omega)
    have hyl : (S.foldl (tstep g pre v') (A.foldl (tevent g pre) (zeros g))).length = g.Events.toNat := by rw [foldl_len (tstep_len g pre v')]; exact hxl
    have hne : ∀ q, q ≠ v' → (S.foldl (tstep g pre v') (A.foldl (tevent g pre) (zeros g))).getD q 0 = (A.foldl (tevent g pre) (zeros g)).getD q 0 := fun q hq => fold_ne S (fun _ _ _ => tstep_ne hq) _
    have e : tevent g pre (A.foldl (tevent g pre) (zeros g)) v' = R.foldl (tstep g pre v') (tstep g pre v' (S.foldl (tstep g pre v') (A.foldl (tevent g pre) (zeros g))) i) := by
      unfold tevent
      rw [hSR, List.foldl_append, List.foldl_cons]
    rw [hread _ hne, e]
    generalize S.foldl (tstep g pre v') (A.foldl (tevent g pre) (zeros g)) = ys at hys hyl
    have h1 := fold_ge (fun xs j q => tstep_ge g pre v' xs j q) R (tstep g pre v' ys i) v'
    have h2 : ((pre ++ [ys]).getD (pre.length - w) []).getD u 0 + (plD g i).Delay ≤ (tstep g pre v' ys i).getD v' 0 := by
      have hr := rowP_of (P := Up 100600000) (fun r hr => (hp r hr).mono (by decide)) hys (up_nil (by decide)) (pre.length - w) u
      have hd := del_at hg hi
      unfold tstep
      rw [hv', beq_self_eq_true, hw, dT (show (w : Int) ≤ (pre.length : Int) by omega), hu]
      simp only [Bool.and_self, cond_true, Int.toNat_natCast]
      rw [set_getD, if_pos ⟨rfl, by omega⟩, wr (by omega) (by omega)]
      omega
    omega
  omega
theorem ttab_get (g : GEventGraph) (o : List Nat) (xs : List Int) (w : Nat) : ∀ m, w < m → (ttab g o xs m).getD w [] = tround g o (ttab g o xs w) xs := by
  intro m
  induction m with
  | zero => intro h; omega
  | succ m ih =>
    intro h
    have hl := ttab_len g o xs m
    have e : ttab g o xs (m + 1) = ttab g o xs m ++ [tround g o (ttab g o xs m) xs] := rfl
    rw [e, List.getD_eq_getElem?_getD]
    by_cases hw : w < m
    · rw [List.getElem?_append_left (by omega), ← List.getD_eq_getElem?_getD]; exact ih hw
    · obtain rfl : w = m := by omega
      rw [List.getElem?_append_right (by omega), hl, Nat.sub_self]; rfl
theorem x_closed {g : GEventGraph} {o : List Nat} {n k i u v w : Nat} (hg : graphB g = true) (ho : fire (eP g.Places) g.Events.toNat g.Events.toNat [] = some o) (hn : n ≤ 50) (hi : i < g.Places.length) (hu : (plD g i).From = (u : Int)) (hv : (plD g i).To = (v : Int)) (hw : (plD g i).Tokens = (w : Int)) (hk : k + w < n) :
    gE (ttab g o (zeros g) n) k u + (plD g i).Delay ≤ gE (ttab g o (zeros g) n) (k + w) v := by
  obtain ⟨_, hol⟩ := fire_ok (GOk.of hg).edge _ [] o (OrderOk.nil _ _) ho
  have h10 := (GOk.of hg).n10
  have hol : o.length ≤ 10 := by simp at hol; omega
  have hl := ttab_len g o (zeros g) (k + w)
  have h := tround_closed (pre := ttab g o (zeros g) (k + w)) hg ho (fun r hr => (ttab_up hg hol (k + w) (by omega) r hr).mono (by omega)) hi hu hv hw (by omega)
  unfold gE
  rw [ttab_get g o (zeros g) (k + w) n hk]
  have e : (ttab g o (zeros g) (k + w) ++ [tround g o (ttab g o (zeros g) (k + w)) (zeros g)]).getD ((ttab g o (zeros g) (k + w)).length - w) [] = (ttab g o (zeros g) n).getD k [] := by
    have e1 : ttab g o (zeros g) (k + w) ++ [tround g o (ttab g o (zeros g) (k + w)) (zeros g)] = ttab g o (zeros g) (k + w + 1) := rfl
    rw [e1, hl, show k + w - w = k by omega, ttab_get g o (zeros g) k (k + w + 1) (by omega), ttab_get g o (zeros g) k n (by omega)]
  rw [e] at h
  exact h
theorem x_up {g : GEventGraph} {o : List Nat} {n : Nat} (hg : graphB g = true) (ho : fire (eP g.Places) g.Events.toNat g.Events.toNat [] = some o) (hn : n ≤ 50) (k e : Nat) : 0 ≤ gE (ttab g o (zeros g) n) k e ∧ gE (ttab g o (zeros g) n) k e ≤ 15000000 := by
  obtain ⟨_, hol⟩ := fire_ok (GOk.of hg).edge _ [] o (OrderOk.nil _ _) ho
  have h10 := (GOk.of hg).n10
  have hol : o.length ≤ 10 := by simp at hol; omega
  unfold gE
  by_cases hk : k < (ttab g o (zeros g) n).length
  · have := ttab_up hg hol n hn _ (List.mem_of_getElem? (rowOf hk)) e
    omega
  · rw [List.getD_eq_getElem?_getD (l := ttab g o (zeros g) n), List.getElem?_eq_none (by omega)]; simp
/-! ### The latest times and the firing times -/
theorem ltab_inv {g : GEventGraph} {n : Nat} {o : List Nat} {P : List (List Int) → Prop} (h : ∀ ms k e i, k < n → e ∈ o → i < g.Places.length → P ms → P (lstep g n k e ms i)) {due : List (List Int)} (hd : P due) : P (ltab g n o due) := by
  have f1 : ∀ {α : Type} {f : List (List Int) → α → List (List Int)} (l : List α) (_ : ∀ ms a, a ∈ l → P ms → P (f ms a)) (ms : List (List Int)), P ms → P (l.foldl f ms) := by
    intro α f l
    induction l with
    | nil => intro _ ms h; exact h
    | cons a l ih => intro hf ms h; exact ih (fun ms b hb => hf ms b (by simp [hb])) _ (hf ms a (by simp) h)
  unfold ltab
  refine f1 _ (fun ms k hk hm => ?_) _ hd
  unfold lround
  refine f1 _ (fun ms e he hm => ?_) _ hm
  unfold levent
  exact f1 _ (fun ms i hi hm => h ms k e i (by simpa using hk) (by simpa using he) (by simpa using hi) hm) _ hm
def Dn (B : Int) (ms : List (List Int)) : Prop := ∀ k e, -B ≤ gE ms k e ∧ gE ms k e ≤ 1000000
theorem lstep_dn {g : GEventGraph} {n k e i : Nat} {ms : List (List Int)} {B : Int} (hg : graphB g = true) (hi : i < g.Places.length) (hm : Dn B ms) (hB : B ≤ 1000000000) : Dn (B + 1000) (lstep g n k e ms i) := by
  unfold lstep
  cases ((plD g i).From == (e : Int) && decide ((k : Int) + (plD g i).Tokens < (n : Int))) with
  | false => intro k' e'; have := hm k' e'; simp only [cond_false]; omega
  | true =>
    simp only [cond_true]
    intro k' e'
    by_cases hc : k' = k ∧ e' = e
    · obtain ⟨rfl, rfl⟩ := hc
      have hd := del_at hg hi
      have h1 : -B ≤ (ms.getD (k' + (plD g i).Tokens.toNat) []).getD (plD g i).To.toNat 0 ∧ (ms.getD (k' + (plD g i).Tokens.toNat) []).getD (plD g i).To.toNat 0 ≤ 1000000 := hm _ _
      have h2 : -B ≤ (ms.getD k' []).getD e' 0 ∧ (ms.getD k' []).getD e' 0 ≤ 1000000 := hm _ _
      have hB0 := hm 0 0
      by_cases hk : k' < ms.length ∧ e' < (ms.getD k' []).length
      · rw [gE_eq hk.1 hk.2, wr (by omega) (by omega)]; omega
      · have e1 : gE (ms.set k' ((ms.getD k' []).set e' (min ((ms.getD k' []).getD e' 0) (IntKind.i64.wrap ((ms.getD (k' + (plD g i).Tokens.toNat) []).getD (plD g i).To.toNat 0 - (plD g i).Delay))))) k' e' = gE ms k' e' := by
          unfold gE
          rw [getD_set]
          split
          · rename_i h3
            rw [set_getD, if_neg (fun hh => hk ⟨h3.2, hh.2⟩)]
          · rfl
        rw [e1]
        have := hm k' e'
        omega
    · rw [gE_ne hc]; have := hm k' e'; omega
theorem dn_fold {α : Type} {f : List (List Int) → α → List (List Int)} {c : Int} (hc : 0 ≤ c) : ∀ (l : List α) (_ : ∀ ms a B, a ∈ l → Dn B ms → B + c ≤ 1000000000 → Dn (B + c) (f ms a)) (B : Int) (ms : List (List Int)), Dn B ms → B + c * (l.length : Int) ≤ 1000000000 → Dn (B + c * (l.length : Int)) (l.foldl f ms)
  | [], _, B, ms, h, _ => fun k e => by have := h k e; simp only [List.length_nil, List.foldl_nil]; omega
  | a :: l, hf, B, ms, h, hB => by
    have e : c * ((a :: l).length : Int) = c + c * (l.length : Int) := by
      rw [List.length_cons, show ((l.length + 1 : Nat) : Int) = (l.length : Int) + 1 by omega, Int.mul_add, Int.mul_one, Int.add_comm]
    have hnn : 0 ≤ c * (l.length : Int) := Int.mul_nonneg hc (by omega)
    rw [e] at hB ⊢
    have h1 := hf ms a B (by simp) h (by omega)
    have h2 := dn_fold hc l (fun ms b B hb => hf ms b B (by simp [hb])) (B + c) _ h1 (by omega)
    intro k q
    have := h2 k q
    rw [List.foldl_cons]; omega
theorem l_dn {g : GEventGraph} {o : List Nat} {due : List (List Int)} {n : Nat} (hg : graphB g = true) (hol : o.length ≤ 10) (hn : n ≤ 50) (hd : Dn 0 due) : Dn 15000000 (ltab g n o due) := by
  have hP := (GOk.of hg).len
  have ev : ∀ (k e : Nat) (ms : List (List Int)) (B : Int), Dn B ms → B + 30000 ≤ 1000000000 → Dn (B + 30000) (levent g n k ms e) := fun k e ms B h hB => by
    have := dn_fold (f := lstep g n k e) (c := 1000) (by decide) (List.range g.Places.length) (fun ms i B hi hm hB => lstep_dn hg (by simpa using hi) hm (by omega)) B ms h (by rw [List.length_range]; omega)
    rw [List.length_range] at this
    intro a b
    have := this a b
    unfold levent; omega
  have rd : ∀ (k : Nat) (ms : List (List Int)) (B : Int), Dn B ms → B + 300000 ≤ 1000000000 → Dn (B + 300000) (lround g n o ms k) := fun k ms B h hB => by
    have := dn_fold (f := levent g n k) (c := 30000) (by decide) o.reverse (fun ms e B _ hm hB => ev k e ms B hm hB) B ms h (by rw [List.length_reverse]; omega)
    rw [List.length_reverse] at this
    intro a b
    have := this a b
    unfold lround; omega
  have := dn_fold (f := lround g n o) (c := 300000) (by decide) (List.range n).reverse (fun ms k B _ hm hB => rd k ms B hm hB) 0 due hd (by rw [List.length_reverse, List.length_range]; omega)
  rw [List.length_reverse, List.length_range] at this
  intro a b
  have := this a b
  unfold ltab; omega
theorem l_le {g : GEventGraph} {o : List Nat} {due : List (List Int)} {n : Nat} (hO : LOk g n due) : ∀ k e, gE (ltab g n o due) k e ≤ gE due k e := by
  refine (ltab_inv (P := fun ms => LOk g n ms ∧ ∀ k e, gE ms k e ≤ gE due k e) (fun ms k e i hk _ _ hm => ⟨hm.1.step hk i, fun k' e' => ?_⟩) ⟨hO, fun k e => Int.le_refl _⟩).2
  have h1 := hm.2 k' e'
  unfold lstep
  cases ((plD g i).From == (e : Int) && decide ((k : Int) + (plD g i).Tokens < (n : Int))) with
  | false => exact h1
  | true =>
    simp only [cond_true]
    by_cases hc : k' = k ∧ e' = e
    · obtain ⟨rfl, rfl⟩ := hc
      have h2 : (ms.getD k' []).getD e' 0 ≤ gE due k' e' := h1
      unfold gE at h1 ⊢
      rw [getD_set]
      split
      · rw [set_getD]
        split
        · omega
        · exact h2
      · exact h2
    · rw [gE_ne hc]; exact h1
theorem l_ge {g : GEventGraph} {o : List Nat} {due : List (List Int)} {n : Nat} (hg : graphB g = true) (ho : fire (eP g.Places) g.Events.toNat g.Events.toNat [] = some o) (hn : n ≤ 50) (hO : LOk g n due) (hd : ∀ k e, gE due k e ≤ 1000000) (hx : ∀ k e, k < n → e < g.Events.toNat → gE (ttab g o (zeros g) n) k e ≤ gE due k e) :
    ∀ k e, k < n → e < g.Events.toNat → gE (ttab g o (zeros g) n) k e ≤ gE (ltab g n o due) k e := by
  refine (ltab_inv (P := fun ms => LOk g n ms ∧ (∀ k e, gE ms k e ≤ 1000000) ∧ ∀ k e, k < n → e < g.Events.toNat → gE (ttab g o (zeros g) n) k e ≤ gE ms k e) (fun ms k e i hk _ hi hm => ?_) ⟨hO, hd, hx⟩).2.2
  obtain ⟨hM, hu, hl⟩ := hm
  refine ⟨hM.step hk i, ?_⟩
  unfold lstep
  cases hc0 : ((plD g i).From == (e : Int) && decide ((k : Int) + (plD g i).Tokens < (n : Int))) with
  | false => exact ⟨hu, hl⟩
  | true =>
    rw [Bool.and_eq_true, beq_iff_eq, decide_eq_true_eq] at hc0
    simp only [cond_true]
    obtain ⟨⟨u, hu1, hun⟩, ⟨v, hv1, hvn⟩, ⟨w, hw1, hw5⟩⟩ := PlOk.of hg hi
    obtain rfl : u = e := by omega
    have hcl := x_closed hg ho hn hi hu1 hv1 hw1 (show k + w < n by omega)
    have h1 := hl (k + w) v (by omega) hvn
    have h2 := hu (k + w) v
    have h3 := x_up hg ho hn k u
    have hdl := del_at hg hi
    rw [hw1, hv1]
    simp only [Int.toNat_natCast]
    have h4 : (ms.getD (k + w) []).getD v 0 = gE ms (k + w) v := rfl
    rw [h4, wr (by omega) (by omega)]
    have h5 : (ms.getD k []).getD u 0 = gE ms k u := rfl
    rw [h5]
    have hkl : k < ms.length := by rw [hM.len]; exact hk
    have hul : u < (ms.getD k []).length := by have := (hM.at' hk).2; omega
    refine ⟨fun k' e' => ?_, fun k' e' hk' he' => ?_⟩
    · by_cases hc : k' = k ∧ e' = u
      · obtain ⟨rfl, rfl⟩ := hc
        rw [gE_eq hkl hul]; have := hu k' e'; omega
      · rw [gE_ne hc]; exact hu k' e'
    · by_cases hc : k' = k ∧ e' = u
      · obtain ⟨rfl, rfl⟩ := hc
        rw [gE_eq hkl hul]; have := hl k' e' hk' he'; omega
      · rw [gE_ne hc]; exact hl k' e' hk' he'

theorem pickAll_nil {p : Nat → Nat → Bool} {n m : Nat} : (pickAll p n m = [] ↔ ∀ k e, k < m → e < n → p k e = false) := by
  unfold pickAll pickRow
  rw [List.flatMap_eq_nil_iff]
  constructor
  · intro h k e hk he
    have h1 := h k (by simpa using hk)
    rw [List.flatMap_eq_nil_iff] at h1
    have h2 := h1 e (by simpa using he)
    cases hp : p k e with
    | false => rfl
    | true => rw [hp] at h2; cases h2
  · intro h k hk
    rw [List.flatMap_eq_nil_iff]
    intro e he
    rw [h k e (by simpa using hk) (by simpa using he)]
    rfl
theorem pickAll_mem {p : Nat → Nat → Bool} {n m : Nat} {q : List Int} (h : q ∈ pickAll p n m) : ∃ k e, k < m ∧ e < n ∧ p k e = true ∧ q = [((k + 1 : Nat) : Int), (e : Int)] := by
  unfold pickAll pickRow at h
  rw [List.mem_flatMap] at h
  obtain ⟨k, hk, h⟩ := h
  rw [List.mem_flatMap] at h
  obtain ⟨e, he, h⟩ := h
  cases hp : p k e with
  | false => rw [hp] at h; cases h
  | true =>
    rw [hp] at h
    simp only [cond_true, List.mem_singleton] at h
    exact ⟨k, e, by simpa using hk, by simpa using he, hp, h⟩
theorem okB_iff {g : GEventGraph} {n : Nat} {T : List (List Int)} (h : LOk g n T) : okB T = true ↔ ∀ k e, k < n → e < g.Events.toNat → 0 ≤ gE T k e := by
  unfold okB
  rw [List.all_eq_true]
  constructor
  · intro H k e hk he
    obtain ⟨a, b⟩ := gE_at h hk he
    have h1 := H _ (List.mem_of_getElem? a)
    rw [List.all_eq_true] at h1
    have h2 := h1 _ (List.mem_of_getElem? b)
    simp only [Bool.not_eq_true', decide_eq_false_iff_not] at h2
    omega
  · intro H r hr
    rw [List.all_eq_true]
    intro x hx
    obtain ⟨k, hk, rfl⟩ := List.getElem_of_mem hr
    obtain ⟨e, he, rfl⟩ := List.getElem_of_mem hx
    have hk2 : k < n := by rw [← h.len]; exact hk
    have he2 : e < g.Events.toNat := by rw [← h.rws _ hr]; exact he
    obtain ⟨a, b⟩ := gE_at h hk2 he2
    have h1 := H k e hk2 he2
    rw [List.getElem?_eq_getElem hk] at a
    have a := Option.some.inj a
    rw [← a, List.getElem?_eq_getElem he] at b
    rw [Option.some.inj b]
    simp only [Bool.not_eq_true', decide_eq_false_iff_not]
    omega
theorem due_dn {g : GEventGraph} {due : List (List Int)} (hg : graphB g = true) (h : dueB g due = true) : Dn 0 due := by
  obtain ⟨_, hr⟩ := dueB_true hg h
  intro k e
  unfold gE
  by_cases hk : k < due.length
  · have hm := List.mem_of_getElem? (rowOf hk)
    by_cases he : e < (due.getD k []).length
    · have := (hr _ hm).2 _ (List.mem_of_getElem? (getD_of he)); omega
    · rw [List.getD_eq_getElem?_getD, List.getElem?_eq_none (by omega)]; simp
  · rw [List.getD_eq_getElem?_getD (l := due), List.getElem?_eq_none (by omega)]; simp
/-- floats are nowhere under zero when no firing is late -/
theorem ok_late {g : GEventGraph} {o : List Nat} {due : List (List Int)} (hg : graphB g = true) (hd : dueB g due = true) (ho : fire (eP g.Places) g.Events.toNat g.Events.toNat [] = some o) :
    okB (ftab (ttab g o (zeros g) due.length) g.Events.toNat due.length (ltab g due.length o due)) = decide (pickAll (lateP (ttab g o (zeros g) due.length) due) g.Events.toNat due.length = []) := by
  obtain ⟨hn, hr⟩ := dueB_true hg hd
  have hO : LOk g due.length due := ⟨rfl, fun r h => (hr r h).1⟩
  have hX : LOk g due.length (ltab g due.length o due) := hO.tab
  have hFl : LOk g due.length (ftab (ttab g o (zeros g) due.length) g.Events.toNat due.length (ltab g due.length o due)) := hX.ftab
  obtain ⟨_, hol⟩ := fire_ok (GOk.of hg).edge _ [] o (OrderOk.nil _ _) ho
  have h10 := (GOk.of hg).n10
  have hol : o.length ≤ 10 := by simp at hol; omega
  have hdn := l_dn (n := due.length) hg hol hn (due_dn hg hd)
  have hxu := fun k e => x_up hg ho hn k e
  have hval : ∀ k e, k < due.length → e < g.Events.toNat → gE (ftab (ttab g o (zeros g) due.length) g.Events.toNat due.length (ltab g due.length o due)) k e = gE (ltab g due.length o due) k e - gE (ttab g o (zeros g) due.length) k e := fun k e hk he => by
    have h1 := ftab_val (T := ttab g o (zeros g) due.length) hX due.length (Nat.le_refl _) k e
    rw [if_pos ⟨hk, he⟩] at h1
    have h2 := hdn k e
    have h3 := hxu k e
    rw [wr (by omega) (by omega)] at h1
    exact h1
  rw [Bool.eq_iff_iff, decide_eq_true_eq, okB_iff hFl, pickAll_nil]
  constructor
  · intro H k e hk he
    have h1 := H k e hk he
    rw [hval k e hk he] at h1
    have h2 := l_le (o := o) hO k e
    unfold lateP
    have h3 : ¬ gE due k e < gE (ttab g o (zeros g) due.length) k e := by omega
    exact decide_eq_false h3
  · intro H k e hk he
    rw [hval k e hk he]
    have h4 := l_ge hg ho hn hO (fun k e => (due_dn hg hd k e).2) (fun k e hk he => by
      have := H k e hk he
      unfold lateP at this
      have h5 : ¬ gE due k e < gE (ttab g o (zeros g) due.length) k e := of_decide_eq_false this
      omega) k e hk he
    omega
theorem crit_loop {F : Nat} {g : GEventGraph} {n : Nat} {T : List (List Int)} (hF : 134217728 ≤ F) (hn : n ≤ 50) (h10 : g.Events.toNat ≤ 10) (h : LOk g n T) : laws_FnDue_L1 F (pickAll (critP T) g.Events.toNat n, 0) (T, 0) F 0 = some (.inr ()) := by
  have hl := pickAll_len (critP T) g.Events.toNat n
  have hl2 := Nat.mul_le_mul hn h10
  refine same_loop (len := (pickAll (critP T) g.Events.toNat n).length) (L := laws_FnDue_L1 F (pickAll (critP T) g.Events.toNat n, 0) (T, 0)) ?_ ?_ (by omega)
  · intro m i hi
    have hx : (pickAll (critP T) g.Events.toNat n)[i]? = some (pickAll (critP T) g.Events.toNat n)[i] := List.getElem?_eq_getElem hi
    obtain ⟨k, e, hk, he, hp, hq⟩ := pickAll_mem (List.getElem_mem hi)
    obtain ⟨a, b⟩ := gE_at h hk he
    have h0 : gE T k e = 0 := by
      unfold critP at hp
      exact beq_iff_eq.1 hp
    rw [hq] at hx
    have w1 : IntKind.i64.wrap (((k + 1 : Nat) : Int) - 1) = (k : Int) := by rw [wr (by omega) (by omega)]; omega
    have i0 : idx [((k + 1 : Nat) : Int), (e : Int)] 0 = some ((k + 1 : Nat) : Int) := rfl
    have i1 : idx [((k + 1 : Nat) : Int), (e : Int)] 1 = some (e : Int) := rfl
    simp only [laws_FnDue_L1, bdT (show (i : Int) < ((pickAll (critP T) g.Events.toNat n).length : Int) by omega), idx_nat, hx, i0, i1, w1, a, b, h0, Option.bind_some, bne_self_eq_false, cond_false, wrN (show i ≤ 67108864 by omega)]
  · intro m
    simp only [laws_FnDue_L1, bdF (show ¬ ((pickAll (critP T) g.Events.toNat n).length : Int) < ((pickAll (critP T) g.Events.toNat n).length : Int) by omega)]
theorem law_Due {F : Nat} {x0 : List Int} (hF0 : 9223372036854775808 ≤ F) (_ : x0.length ≤ 9223372036854775807) (hb : ∀ y, y ∈ x0 → 0 ≤ y ∧ y ≤ 255) : laws_FnDue F x0 = some true := by
  have hF : 134217728 ≤ F := by omega
  unfold laws_FnDue laws_big
  by_cases hbig : (4096 : Int) < (x0.length : Int)
  · simp only [Option.bind_some, dT hbig, cond_true]
  simp only [Option.bind_some, dF hbig, cond_false]
  have hc : COk x0 := ⟨by omega, hb⟩
  obtain ⟨⟨g, due⟩, hd1, a0, a1, a2⟩ : Tot (fun r : GEventGraph × List (List Int) => r.1.Places.length ≤ 100 ∧ r.2.length ≤ 1000 ∧ ∀ q, q ∈ r.2 → q.length ≤ 1000) (spec_DrawCanMeet F x0) := by
    unfold spec_DrawCanMeet
    exact Tot.bind (from_tot hF hc) fun r2 h2 => Tot.bind (l22Draw_tot hF hc h2) fun r5 h5 => Tot.pure h5.2
  simp only at a0 a1 a2
  have eg : GEventGraph.mk g.Events g.Places = g := rfl
  have nilT : laws_likeTables9 F [] [] = some true := likeT_self hF (by simp) (by simp)
  have hoff : offR due due.length ≤ 1048576 := by
    have : ∀ k, k ≤ due.length → offR due k ≤ k * 1000 := by
      intro k
      induction k with
      | zero => intro _; simp [offR_zero]
      | succ k ih =>
        intro hk
        have hr : due[k]? = some due[k] := List.getElem?_eq_getElem (by omega)
        have h1 := a2 _ (List.getElem_mem (show k < due.length by omega))
        have h2 := ih (by omega)
        rw [offR_succ hr]; omega
    have h1 := this due.length (Nat.le_refl _)
    have h2 : due.length * 1000 ≤ 1000 * 1000 := Nat.mul_le_mul_right _ a1
    omega
  have hrl : ∀ r, r ∈ due → r.length ≤ 1048576 := fun r hr => by have := a2 r hr; omega
  simp only [hd1, Option.bind_some, eg]
  by_cases hd : dueCode g due = 0
  · obtain ⟨g1, g2, o, ho⟩ := dueCode_zero hd
    obtain ⟨hn, hr⟩ := dueB_true g1 g2
    have hO : LOk g due.length due := ⟨rfl, fun r h => (hr r h).1⟩
    have hX : LOk g due.length (ltab g due.length o due) := hO.tab
    have hFl : LOk g due.length (ftab (ttab g o (zeros g) due.length) g.Events.toNat due.length (ltab g due.length o due)) := hX.ftab
    have h10 := (GOk.of g1).n10
    obtain ⟨hok, hol⟩ := fire_ok (GOk.of g1).edge _ [] o (OrderOk.nil _ _) ho
    rcases val_CanMeet (F := F) (x0 := g) (x1 := due) hF (by omega) (by omega) hoff with ⟨h, _⟩ | ⟨_, V1⟩
    · exact absurd hd h
    rcases val_LateFirings (F := F) (x0 := g) (x1 := due) hF (by omega) (by omega) hoff with ⟨h, _⟩ | ⟨_, V2⟩
    · exact absurd hd h
    rcases val_CriticalFirings (F := F) (x0 := g) (x1 := due) hF (by omega) (by omega) hoff with ⟨h, _⟩ | ⟨_, V3⟩
    · exact absurd hd h
    obtain ⟨c1, c2⟩ := V1 o ho
    obtain ⟨l1, l2⟩ := V2 o ho
    obtain ⟨k1, k2⟩ := V3 o ho
    have f1 : impl_FloatsOf F g due = some (ftab (ttab g o (zeros g) due.length) g.Events.toNat due.length (ltab g due.length o due), 0) := by
      unfold impl_FloatsOf
      rw [bind_of (implDueCode_is hF (by omega) (by omega) hrl), bF (neF hd), implFloats_is hF g1 hO hn ho hok.lt]
      rfl
    have hkl := ok_late g1 g2 ho
    have hcl := crit_loop (F := F) hF hn h10 hFl
    have hll : ∀ p : Nat → Nat → Bool, (pickAll p g.Events.toNat due.length).length ≤ 1048576 := fun p => by
      have h1 := pickAll_len p g.Events.toNat due.length
      have h2 := Nat.mul_le_mul hn h10
      omega
    have hlr : ∀ p : Nat → Nat → Bool, ∀ r, r ∈ pickAll p g.Events.toNat due.length → r.length ≤ 1048576 := fun p r h => by rw [pickAll_rows p _ _ r h]; omega
    have T1 := likeT_self (F := F) hF (hll (lateP (ttab g o (zeros g) due.length) due)) (hlr _)
    have T2 := likeT_self (F := F) hF (hll (critP (ftab (ttab g o (zeros g) due.length) g.Events.toNat due.length (ltab g due.length o due)))) (hlr _)
    have hlen : ((((pickAll (lateP (ttab g o (zeros g) due.length) due) g.Events.toNat due.length).length : Nat) : Int) == 0) = decide (pickAll (lateP (ttab g o (zeros g) due.length) due) g.Events.toNat due.length = []) := by
      cases pickAll (lateP (ttab g o (zeros g) due.length) due) g.Events.toNat due.length with
      | nil => rfl
      | cons r l =>
        rw [beq_false_of_ne (show (((r :: l).length : Nat) : Int) ≠ 0 by simp only [List.length_cons]; omega)]
        exact (decide_eq_false (by simp)).symm
    simp only [c1, c2, l1, l2, k1, k2, f1, Option.bind_some, bne_self_eq_false, cond_false, T1, T2, Bool.not_true, hcl, beq_self_eq_true, cond_true, hlen, hkl]
  · rcases val_CanMeet (F := F) (x0 := g) (x1 := due) hF (by omega) (by omega) hoff with ⟨_, c1, c2⟩ | ⟨h, _⟩
    · rcases val_LateFirings (F := F) (x0 := g) (x1 := due) hF (by omega) (by omega) hoff with ⟨_, l1, l2⟩ | ⟨h, _⟩
      · rcases val_CriticalFirings (F := F) (x0 := g) (x1 := due) hF (by omega) (by omega) hoff with ⟨_, k1, k2⟩ | ⟨h, _⟩
        · simp only [c1, c2, l1, l2, k1, k2, Option.bind_some, bne_self_eq_false, cond_false, nilT, Bool.not_true, neT hd, cond_true]
        · exact absurd h hd
      · exact absurd h hd
    · exact absurd h hd

end Go.Proofs.Ytebmlphobgaboaa
