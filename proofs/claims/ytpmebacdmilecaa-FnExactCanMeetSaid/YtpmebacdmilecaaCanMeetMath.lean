/- The reference and the program answer alike. -/
import Derived.Test.YtpmebacdmilecaaCanMeetSmall
namespace Go.Proofs.Ytpmebacdmilecaa

theorem same_CanMeet {F : Nat} {x0 : GEventGraph} {x1 : List (List Int)} (hF : 134217728 ≤ F) (h0 : x0.Places.length ≤ 1048576) (h1 : x1.length ≤ 1048576) (h2 : offR x1 x1.length ≤ 1048576) :
    ∃ r : Bool × Int, spec_CanMeet F x0 x1 = some r ∧ impl_CanMeet F x0 x1 = some r := by
  have hrl := rows_le h2
  have hs := specDueCode_is hF h0 h1 hrl
  obtain ⟨b, hb⟩ := specDueTot (g := x0) hF h1 hrl
  rw [hb] at hs
  simp only [Option.bind_some] at hs
  unfold spec_CanMeet impl_CanMeet spec_FloatsOf
  rw [bind_of (implDueCode_is hF h0 h1 hrl), hb]
  simp only [Option.bind_some, hs]
  by_cases hd : dueCode x0 x1 = 0
  · rw [bF (neF hd), bF (neF hd)]
    obtain ⟨g1, g2, o, ho⟩ := dueCode_zero hd
    obtain ⟨hn, hrow⟩ := dueB_true g1 g2
    have hG := GOk.of g1
    have h10 := hG.n10
    obtain ⟨hok, hol⟩ := fire_ok hG.edge _ [] o (OrderOk.nil _ _) ho
    have hol' : o.length ≤ 1000 := by simp at hol; omega
    have hO : LOk x0 x1.length x1 := ⟨rfl, fun r hr => (hrow r hr).1⟩
    have hT : LOk x0 x1.length (ftab (ttab x0 o (zeros x0) x1.length) x0.Events.toNat x1.length (ltab x0 x1.length o x1)) := hO.tab.ftab
    rw [specFloats_is hF g1 hO hn ho hok.lt hol', implFloats_is hF g1 hO hn ho hok.lt]
    simp only [Option.bind_some, bne_self_eq_false, cond_false]
    generalize ftab (ttab x0 o (zeros x0) x1.length) x0.Events.toNat x1.length (ltab x0 x1.length o x1) = T at hT
    have e1 : 1 ≤ x0.Events.toNat := by have := (graphB_true g1).1; omega
    have S : spec_CanMeet_L4 F (T, 0) F 0 = some (bif T.all (fun r => r.all fun x => !decide (x < 0)) then .inr () else .inl (false, 0)) := by
      refine all_loop (ps := T) (g := fun r => r.all fun x => !decide (x < 0)) (r := ((false, 0) : Bool × Int)) (n := F) ?_ ?_ (by have := hT.len; omega)
      · intro n k row hk hx
        have hl := hT.rws row (List.mem_of_getElem? hx)
        have hin : spec_CanMeet_L5 F (T, 0) (k : Int) F 0 = some (bif row.all (fun x => !decide (x < 0)) then .inr () else .inl (false, 0)) := by
          refine all_loop (ps := row) (g := fun x => !decide (x < 0)) (r := ((false, 0) : Bool × Int)) (n := F) ?_ ?_ (by omega)
          · intro n j x hj hxx
            simp only [spec_CanMeet_L5, idx_nat, hx, Option.bind_some, bdT (show (j : Int) < (row.length : Int) by omega), hxx, wrN (show j ≤ 67108864 by omega)]
            cases decide (x < 0) <;> rfl
          · intro n
            simp only [spec_CanMeet_L5, idx_nat, hx, Option.bind_some, bdF (show ¬ (row.length : Int) < (row.length : Int) by omega)]
        have hkl := hT.len
        simp only [spec_CanMeet_L4, bdT (show (k : Int) < (T.length : Int) by omega), hin, Option.bind_some, wrN (show k ≤ 67108864 by omega)]
        cases row.all (fun x => !decide (x < 0)) <;> rfl
      · intro n
        simp only [spec_CanMeet_L4, bdF (show ¬ (T.length : Int) < (T.length : Int) by omega)]
    have I : impl_CanMeet_L1 F T F 0 = some (bif T.all (fun r => r.all fun x => !decide (x < 0)) then .inr () else .inl (false, 0)) := by
      refine all_loop (ps := T) (g := fun r => r.all fun x => !decide (x < 0)) (r := ((false, 0) : Bool × Int)) (n := F) ?_ ?_ (by have := hT.len; omega)
      · intro n k row hk hx
        have hl := hT.rws row (List.mem_of_getElem? hx)
        have hkl := hT.len
        obtain ⟨m, m1, m2⟩ := min_is (F := F) (xs := row) (by omega) (by omega) (by omega)
        simp only [impl_CanMeet_L1, bdT (show (k : Int) < (T.length : Int) by omega), idx_nat, hx, Option.bind_some, m1, wrN (show k ≤ 67108864 by omega)]
        cases ha : row.all fun x => !decide (x < 0) with
        | true =>
          have : ¬ m < 0 := fun hm => by
            obtain ⟨i, x, h1, h2, h3⟩ := m2.1 hm
            have := List.all_eq_true.1 ha x (List.mem_of_getElem? h2)
            rw [dT h3] at this; cases this
          rw [bdF this]; rfl
        | false =>
          rw [List.all_eq_false] at ha
          obtain ⟨x, hx, hn⟩ := ha
          obtain ⟨i, hi, he⟩ := List.getElem_of_mem hx
          have hx0 : x < 0 := by
            by_cases h : x < 0
            · exact h
            · rw [dF h] at hn; exact absurd rfl hn
          rw [bdT (m2.2 ⟨i, x, hi, by rw [List.getElem?_eq_getElem hi, he], hx0⟩)]; rfl
      · intro n
        simp only [impl_CanMeet_L1, bdF (show ¬ (T.length : Int) < (T.length : Int) by omega)]
    rw [S, I]
    cases T.all (fun r => r.all fun x => !decide (x < 0)) with
    | true => exact ⟨(true, 0), rfl, rfl⟩
    | false => exact ⟨(false, 0), rfl, rfl⟩
  · rw [bT (neT hd), bT (neT hd)]
    simp only [Option.bind_some]
    rw [bT (neT hd)]
    exact ⟨(false, _), rfl, rfl⟩

end Go.Proofs.Ytpmebacdmilecaa
