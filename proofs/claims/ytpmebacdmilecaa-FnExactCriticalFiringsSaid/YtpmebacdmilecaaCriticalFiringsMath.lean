/- The reference and the program answer alike. -/
import Derived.Test.YtpmebacdmilecaaCriticalFiringsSmall
namespace Go.Proofs.Ytpmebacdmilecaa

def critP (T : List (List Int)) (k e : Nat) : Bool := (T.getD k []).getD e 0 == 0
theorem same_CriticalFirings {F : Nat} {x0 : GEventGraph} {x1 : List (List Int)} (hF : 134217728 ≤ F) (h0 : x0.Places.length ≤ 1048576) (h1 : x1.length ≤ 1048576) (h2 : offR x1 x1.length ≤ 1048576) :
    ∃ r : List (List Int) × Int, spec_CriticalFirings F x0 x1 = some r ∧ impl_CriticalFirings F x0 x1 = some r ∧ (r.1.length ≤ 1048576 ∧ offR r.1 r.1.length ≤ 1048576) := by
  have hrl := rows_le h2
  have hs := specDueCode_is hF h0 h1 hrl
  obtain ⟨b, hb⟩ := specDueTot (g := x0) hF h1 hrl
  rw [hb] at hs
  simp only [Option.bind_some] at hs
  unfold spec_CriticalFirings impl_CriticalFirings spec_FloatsOf
  rw [bind_of (implDueCode_is hF h0 h1 hrl), hb]
  simp only [Option.bind_some, hs]
  by_cases hd : dueCode x0 x1 = 0
  · rw [bF (neF hd), bF (neF hd)]
    obtain ⟨g1, g2, o, ho⟩ := dueCode_zero hd
    obtain ⟨hn, hrow⟩ := dueB_true g1 g2
    have hG := GOk.of g1
    have h10 := hG.n10
    obtain ⟨hok, hol⟩ := fire_ok hG.edge _ [] o (OrderOk.nil _ _) ho
    have hol' : o.length ≤ 1000 := by simp at hol; omega
    have hO : LOk x0 x1.length x1 := ⟨rfl, fun r hr => (hrow r hr).1⟩
    have hT : LOk x0 x1.length (ftab (ttab x0 o (zeros x0) x1.length) x0.Events.toNat x1.length (ltab x0 x1.length o x1)) := hO.tab.ftab
    rw [specFloats_is hF g1 hO hn ho hok.lt hol', implFloats_is hF g1 hO hn ho hok.lt]
    simp only [Option.bind_some, bne_self_eq_false, cond_false]
    generalize ftab (ttab x0 o (zeros x0) x1.length) x0.Events.toNat x1.length (ltab x0 x1.length o x1) = T at hT
    have hTl := hT.len
    have S := all_rounds (p := critP T) (n := x0.Events.toNat) (len := x1.length) (L := spec_CriticalFirings_L4 F (T, 0)) h10 hn ?_ ?_ hF
    have I := all_rounds (p := critP T) (n := x0.Events.toNat) (len := x1.length) (L := impl_firingsWith_L4 F T (fun y0 y1 => impl_CriticalFirings_c1 F y0 y1 T)) h10 hn ?_ ?_ hF
    · refine ⟨(pickAll (critP T) x0.Events.toNat x1.length, 0), ?_, ?_, ?_, ?_⟩
      · rw [S]; rfl
      · unfold impl_firingsWith; rw [I]; rfl
      · have := pickAll_len (critP T) x0.Events.toNat x1.length
        have h3 := Nat.mul_le_mul hn h10
        simp only; omega
      · have := pickAll_len (critP T) x0.Events.toNat x1.length
        have h3 := Nat.mul_le_mul hn h10
        have h4 := off_rows (pickAll_rows (critP T) x0.Events.toNat x1.length) _ (Nat.le_refl _)
        simp only [h4]; omega
    · intro m k ms hk hms
      obtain ⟨r1, l1⟩ := hT.at' hk
      have inner := row_loop (p := critP T) (k := k) (n := x0.Events.toNat) (acc := ms) (L := impl_firingsWith_L5 F (fun y0 y1 => impl_CriticalFirings_c1 F y0 y1 T) (k : Int) (T.getD k [])) hms h10 ?_ ?_ hF
      · simp only [impl_firingsWith_L4, bdT (show (k : Int) < (T.length : Int) by omega), idx_nat, r1, Option.bind_some, inner, wrN (show k ≤ 67108864 by omega)]
      · intro m ms e he hml
        simp only [impl_firingsWith_L5, impl_CriticalFirings_c1, bdT (show (e : Int) < ((T.getD k []).length : Int) by omega), idx_nat, r1, getD_of (show e < (T.getD k []).length by omega), Option.bind_some, wrN (show k ≤ 67108864 by omega), wrN (show e ≤ 67108864 by omega)]
        rw [show ((T.getD k []).getD e 0 == 0) = critP T k e from rfl]
        cases critP T k e with
        | false => simp
        | true => rw [cond_true, app_le (by simp only [List.length_singleton]; omega)]; rfl
      · intro m ms
        simp only [impl_firingsWith_L5, bdF (show ¬ (x0.Events.toNat : Int) < ((T.getD k []).length : Int) by omega)]
    · intro m ms
      simp only [impl_firingsWith_L4, bdF (show ¬ (x1.length : Int) < (T.length : Int) by omega)]
    · intro m k ms hk hms
      obtain ⟨r1, l1⟩ := hT.at' hk
      have inner := row_loop (p := critP T) (k := k) (n := x0.Events.toNat) (acc := ms) (L := spec_CriticalFirings_L5 F (T, 0) (k : Int)) hms h10 ?_ ?_ hF
      · simp only [spec_CriticalFirings_L4, bdT (show (k : Int) < (T.length : Int) by omega), Option.bind_some, inner, wrN (show k ≤ 67108864 by omega)]
      · intro m ms e he hml
        simp only [spec_CriticalFirings_L5, idx_nat, r1, Option.bind_some, bdT (show (e : Int) < ((T.getD k []).length : Int) by omega), getD_of (show e < (T.getD k []).length by omega), wrN (show k ≤ 67108864 by omega), wrN (show e ≤ 67108864 by omega)]
        rw [show ((T.getD k []).getD e 0 == 0) = critP T k e from rfl]
        cases critP T k e with
        | false => simp
        | true => rw [cond_true, app_le (by simp only [List.length_singleton]; omega)]; rfl
      · intro m ms
        simp only [spec_CriticalFirings_L5, idx_nat, r1, Option.bind_some, bdF (show ¬ (x0.Events.toNat : Int) < ((T.getD k []).length : Int) by omega)]
    · intro m ms
      simp only [spec_CriticalFirings_L4, bdF (show ¬ (x1.length : Int) < (T.length : Int) by omega)]
  · rw [bT (neT hd), bT (neT hd)]
    simp only [Option.bind_some]
    rw [bT (neT hd)]
    exact ⟨([], _), rfl, rfl, by simp, by simp [offR_zero]⟩

end Go.Proofs.Ytpmebacdmilecaa
