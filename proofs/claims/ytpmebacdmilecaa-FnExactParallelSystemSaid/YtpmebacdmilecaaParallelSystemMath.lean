/- The reference and the program answer alike. -/
import Derived.Test.YtpmebacdmilecaaParallelSystemSmall
namespace Go.Proofs.Ytpmebacdmilecaa

theorem same_ParallelSystem {F : Nat} {x0 x1 : GSystem} (hF : 134217728 ≤ F) (r0 : ∀ row, row ∈ x0.A → row.length ≤ 1048576) (b0 : x0.B.length ≤ 1048576) (c0 : x0.C.length ≤ 1048576) (r1 : ∀ row, row ∈ x1.A → row.length ≤ 1048576) (b1 : x1.B.length ≤ 1048576) (c1 : x1.C.length ≤ 1048576) :
    ∃ r : GSystem × Int, spec_ParallelSystem F x0 x1 = some r ∧ impl_ParallelSystem F x0 x1 = some r ∧ (r.1.A.length ≤ 1048576 ∧ offR r.1.A r.1.A.length ≤ 1048576 ∧ r.1.B.length ≤ 1048576 ∧ r.1.C.length ≤ 1048576) := by
  unfold spec_ParallelSystem impl_ParallelSystem
  rw [specSystem_is hF r0 b0 c0, implSystem_is hF r0 b0 c0, specSystem_is hF r1 b1 c1, implSystem_is hF r1 b1 c1]
  simp only [Option.bind_some]
  cases h0 : systemB x0 with
  | false => exact ⟨(⟨[], [], []⟩, 1), rfl, rfl, by simp [offR_zero]⟩
  | true =>
    cases h1 : systemB x1 with
    | false => exact ⟨(⟨[], [], []⟩, 1), rfl, rfl, by simp [offR_zero]⟩
    | true =>
      obtain ⟨l0, a0, lb0, lc0⟩ := systemB_true h0
      obtain ⟨l1, a1, lb1, lc1⟩ := systemB_true h1
      simp only [Bool.not_true, cond_false, Option.bind_some]
      rw [wr (show -9223372036854775808 ≤ (x0.A.length : Int) + (x1.A.length : Int) by omega) (by omega)]
      by_cases hc : 10 < (x0.A.length : Int) + (x1.A.length : Int)
      · rw [bdT hc, bdT hc]
        exact ⟨(⟨[], [], []⟩, 3), rfl, rfl, by simp [offR_zero]⟩
      · rw [bdF hc, bdF hc]
        have hC : ∀ r, r ∈ tabM x1.A.length x0.A.length (fun _ _ => (-1000000000000000 : Int)) → r.length = x0.A.length := tabM_rows
        have hen : ∀ i j, i < x1.A.length → j < x0.A.length → impl_ParallelSystem_c1 F (i : Int) (j : Int) = some (ent (tabM x1.A.length x0.A.length fun _ _ => (-1000000000000000 : Int)) i j) := by
          intro i j hi hj
          unfold ent impl_ParallelSystem_c1
          rw [List.getD_eq_getElem?_getD, List.getD_eq_getElem?_getD, tabM_row hi, Option.getD_some, mapR_at hj, Option.getD_some]
        have hI := implBlocks_is (F := F) (A := x0.A) (B := x1.A) (C := tabM x1.A.length x0.A.length fun _ _ => -1000000000000000) (en := fun a b => impl_ParallelSystem_c1 F a b) hF (by omega) a0 a1 hen
        rw [specBotM_is hF (by omega) (by omega), Option.bind_some, specStack_is hF (by omega) a0 a1 (tabM_len _ _ _) hC, hI]
        simp only [Option.bind_some, specOwn_is b0, specOwn_is c0, app_le (show x0.B.length + x1.B.length ≤ 67108864 by omega), app_le (show x0.C.length + x1.C.length ≤ 67108864 by omega),
          concatS_is (F := F) (a := [x0.B, x1.B]) hF (by simp) (by intro r hr; simp at hr; rcases hr with rfl | rfl <;> omega), concatS_is (F := F) (a := [x0.C, x1.C]) hF (by simp) (by intro r hr; simp at hr; rcases hr with rfl | rfl <;> omega)]
        refine ⟨(⟨tabM (x0.A.length + x1.A.length) (x0.A.length + x1.A.length) (blk x0.A x1.A (tabM x1.A.length x0.A.length fun _ _ => -1000000000000000)), x0.B ++ x1.B, x0.C ++ x1.C⟩, 0), rfl, by simp, ?_, ?_, ?_, ?_⟩
        · simp only [tabM_len]; omega
        · simp only
          rw [off_rows tabM_rows _ (Nat.le_refl _), tabM_len]
          have h4 := Nat.mul_le_mul (show x0.A.length + x1.A.length ≤ 10 by omega) (show x0.A.length + x1.A.length ≤ 10 by omega)
          omega
        · simp only [List.length_append]; omega
        · simp only [List.length_append]; omega

end Go.Proofs.Ytpmebacdmilecaa
