/- The reference and the program answer alike. -/
import Derived.Test.YtcpfhonmmpbadaaMeetsDueSmall
namespace Go.Proofs.Ytcpfhonmmpbadaa

theorem same_MeetsDue {F : Nat} {x0 : GSystem} {x1 x2 x3 : List Int} (hF : 134217728 ≤ F) (hr : ∀ row, row ∈ x0.A → row.length ≤ 1048576) (hB : x0.B.length ≤ 1048576) (hC : x0.C.length ≤ 1048576) (h1 : x1.length ≤ 1048576) (h2 : x2.length ≤ 1048576) (h3 : x3.length ≤ 1048576) :
    ∃ r : Bool × Int, spec_MeetsDue F x0 x1 x2 x3 = some r ∧ impl_MeetsDue F x0 x1 x2 x3 = some r := by
  unfold spec_MeetsDue impl_MeetsDue
  rw [bind_of (specRunCode_is hF hr hB hC h1 h2), bind_of (implRunCode_is hF hr hB hC h1 h2)]
  cases hok : runOk x0 x1 x2 with
  | false => exact ⟨(false, 1), rfl, rfl⟩
  | true =>
    simp only [cond_true, bne_self_eq_false, cond_false, spec_l24Inputs, specAllFin_is hF h3, implAllWithin_is hF h3, Option.bind_some, cond_and]
    by_cases hl : x3.length ≤ 50
    · rw [dT (show (x3.length : Int) ≤ 50 by omega), dF (show ¬ (50 : Int) < (x3.length : Int) by omega)]
      simp only [Bool.true_and, cond_false, Option.bind_some]
      cases (x3.all fun x => inB x (-1000000) 1000000) with
      | false => exact ⟨(false, 1), rfl, rfl⟩
      | true =>
        simp only [Bool.not_true, cond_false]
        by_cases hn : (x3.length : Int) = (x2.length : Int)
        · rw [bF (neF hn), bF (neF hn.symm)]
          obtain ⟨o, e1, e2, e3⟩ := run_same hF hok
          simp only [e1, e2, Option.bind_some]
          cases o with
          | none => exact ⟨(false, 3), rfl, rfl⟩
          | some p =>
            obtain ⟨_, hp, _⟩ := e3 p rfl
            simp only [Bool.not_true, cond_false, bne_self_eq_false]
            have A := all_loop (ps := List.range p.2.length) (g := fun k => !decide (x3.getD k 0 < p.2.getD k 0)) (r := (false, (0 : Int))) (L := spec_MeetsDue_L1 F x3 (p.2, p.1, true)) (n := F) ?_ ?_ (by rw [List.length_range]; omega)
            have B := all_loop (ps := List.range p.2.length) (g := fun k => !decide (x3.getD k 0 < p.2.getD k 0)) (r := (false, (0 : Int))) (L := impl_MeetsDue_L1 F x3 (p.2, p.1, 0)) (n := F) ?_ ?_ (by rw [List.length_range]; omega)
            · rw [A, B]
              cases (List.range p.2.length).all (fun k => !decide (x3.getD k 0 < p.2.getD k 0)) with
              | false => exact ⟨(false, 0), rfl, rfl⟩
              | true => exact ⟨(true, 0), rfl, rfl⟩
            · intro n k x hk hx
              rw [List.length_range] at hk
              have e : x = k := by rw [List.getElem?_range hk] at hx; cases hx; rfl
              subst e
              simp only [impl_MeetsDue_L1, bdT (show (x : Int) < (p.2.length : Int) by omega), idx_nat, getD_of hk, getD_of (show x < x3.length by omega), Option.bind_some, condn, wrN (show x ≤ 67108864 by omega)]
            · intro n
              rw [List.length_range]
              simp only [impl_MeetsDue_L1, bdF (show ¬ (p.2.length : Int) < (p.2.length : Int) by omega)]
            · intro n k x hk hx
              rw [List.length_range] at hk
              have e : x = k := by rw [List.getElem?_range hk] at hx; cases hx; rfl
              subst e
              simp only [spec_MeetsDue_L1, bdT (show (x : Int) < (p.2.length : Int) by omega), idx_nat, getD_of hk, getD_of (show x < x3.length by omega), Option.bind_some, condn, wrN (show x ≤ 67108864 by omega)]
            · intro n
              rw [List.length_range]
              simp only [spec_MeetsDue_L1, bdF (show ¬ (p.2.length : Int) < (p.2.length : Int) by omega)]
        · rw [bT (neT hn), bT (neT (Ne.symm hn))]
          exact ⟨(false, 2), rfl, rfl⟩
    · rw [dF (show ¬ (x3.length : Int) ≤ 50 by omega), dT (show (50 : Int) < (x3.length : Int) by omega)]
      exact ⟨(false, 1), rfl, rfl⟩

end Go.Proofs.Ytcpfhonmmpbadaa
