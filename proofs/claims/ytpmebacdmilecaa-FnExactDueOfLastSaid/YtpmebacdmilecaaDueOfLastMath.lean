/- The reference and the program answer alike. -/
import Derived.Test.YtpmebacdmilecaaDueOfLastSmall
namespace Go.Proofs.Ytpmebacdmilecaa

theorem cpy_full {xs ys : List Int} (h : xs.length = ys.length) : cpy xs ys = ys := by
  unfold cpy; rw [h, List.take_length, List.drop_of_length_le (by omega), List.append_nil]
theorem same_DueOfLast {F : Nat} {x0 : GEventGraph} {x1 : Int} {x2 : List Int} (hF : 134217728 ≤ F) (h0 : x0.Places.length ≤ 1048576) (h2 : x2.length ≤ 1048576) :
    ∃ r : List (List Int) × Int, spec_DueOfLast F x0 x1 x2 = some r ∧ impl_DueOfLast F x0 x1 x2 = some r ∧ (r.1.length ≤ 1048576 ∧ offR r.1 r.1.length ≤ 1048576) := by
  have hz : (([] : List (List Int)).length ≤ 1048576 ∧ offR ([] : List (List Int)) ([] : List (List Int)).length ≤ 1048576) := by simp [offR_zero]
  unfold spec_DueOfLast impl_DueOfLast
  rw [specGraph_is hF h0, implGraph_is hF h0]
  simp only [Option.bind_some, specIn_is, within_is, implAllWithin_is hF h2]
  cases hg : graphB x0 with
  | false => exact ⟨([], 1), rfl, rfl, hz⟩
  | true =>
    obtain ⟨e1, e2, e3, -⟩ := graphB_true hg
    have hb : dueB x0 [x2] = rowB x0 x2 := by simp [dueB]
    rw [specDue_is (due := [x2]) hF hg (by simp) (by simpa using h2), hb]
    cases hi : inB x1 1 50 with
    | false => exact ⟨([], 2), rfl, rfl, hz⟩
    | true =>
      cases hr : rowB x0 x2 with
      | false =>
        refine ⟨([], 2), rfl, ?_, hz⟩
        unfold rowB at hr
        cases hl : ((x2.length : Int) == x0.Events) with
        | false => simp only [bne, hl]; rfl
        | true => rw [hl, Bool.true_and] at hr; simp only [bne, hl, hr]; rfl
      | true =>
        unfold rowB at hr
        rw [Bool.and_eq_true] at hr
        obtain ⟨hl, ha⟩ := hr
        have hl' : (x2.length : Int) = x0.Events := by simpa using hl
        obtain ⟨hx1, hx2⟩ := inB_true.1 hi
        obtain ⟨n, rfl⟩ : ∃ n : Nat, x1 = ((n + 1 : Nat) : Int) := ⟨x1.toNat - 1, by omega⟩
        have S5 : spec_DueOfLast_L5 F x0 F [] 0 = some ((List.range x2.length).map fun _ => (1000000 : Int)) := by
          refine tab_loop (n := F) ?_ ?_ (by omega)
          · intro n xs k hk hx
            simp only [spec_DueOfLast_L5, ← hl', bdT (show (k : Int) < (x2.length : Int) by omega), app_le (show xs.length + [(1000000 : Int)].length ≤ 67108864 by simp; omega), Option.bind_some, wrN (show k ≤ 67108864 by omega)]
          · intro n xs hx
            simp only [spec_DueOfLast_L5, ← hl', bdF (show ¬ (x2.length : Int) < (x2.length : Int) by omega)]
        generalize hrow : ((List.range x2.length).map fun _ => (1000000 : Int)) = row at S5
        have hrl : row.length = x2.length := by rw [← hrow]; simp
        have S4 : spec_DueOfLast_L4 F x0 ((n + 1 : Nat) : Int) F [] ((1 : Nat) : Int) = some ((List.range n).map fun _ => row) := by
          refine for_ind (spec_DueOfLast_L4 F x0 ((n + 1 : Nat) : Int)) (n + 1) (fun k s => 1 ≤ k ∧ s = (List.range (k - 1)).map (fun _ => row)) (fun o => o = some ((List.range n).map fun _ => row)) ?_ ?_ n 1 [] F (by omega) ⟨by omega, rfl⟩ (by omega)
          · rintro m k s hk ⟨h1, rfl⟩
            refine .inl ⟨(List.range k).map (fun _ => row), ?_, by omega, rfl⟩
            have hk1 : k = (k - 1) + 1 := by omega
            simp only [spec_DueOfLast_L4, bdT (show (k : Int) < ((n + 1 : Nat) : Int) by omega), S5, Option.bind_some, app_le (show ((List.range (k - 1)).map (fun _ => row)).length + [row].length ≤ 67108864 by simp; omega), wrN (show k ≤ 67108864 by omega)]
            conv => rhs; rw [hk1, List.range_succ, List.map_append]
            rw [← hk1]; rfl
          · rintro m s ⟨h1, rfl⟩
            simp only [spec_DueOfLast_L4, bdF (show ¬ ((n + 1 : Nat) : Int) < ((n + 1 : Nat) : Int) by omega)]; rfl
        have I := matrixBy_is (F := F) (m := n + 1) (n := x2.length) (en := fun a b => impl_DueOfLast_c1 F a b) (f := fun _ _ => 1000000) hF (by omega) h2 (fun i j _ _ => rfl)
        have hq : (tabM (n + 1) x2.length (fun _ _ => 1000000))[n]? = some row := by rw [tabM_row (by omega), hrow]
        have htl : (tabM (n + 1) x2.length (fun _ _ => (1000000 : Int))).length = n + 1 := tabM_len _ _ _
        have hset : (tabM (n + 1) x2.length (fun _ _ => (1000000 : Int))).set n x2 = ((List.range n).map fun _ => row) ++ [x2] := by
          unfold tabM
          rw [List.range_succ, List.map_append]
          simp only [hrow]
          rw [List.set_append_right _ _ (by simp)]
          simp
        refine ⟨(((List.range n).map fun _ => row) ++ [x2], 0), ?_, ?_, ?_, ?_⟩
        · have h4 : spec_DueOfLast_L4 F x0 ((n + 1 : Nat) : Int) F [] 1 = some ((List.range n).map fun _ => row) := S4
          simp only [h4, specOwn_is h2, Bool.not_true, cond_false, cond_true, Option.bind_some, app_le (show ((List.range n).map (fun _ => row)).length + [x2].length ≤ 67108864 by simp; omega)]
        · simp only [bne, hl, ha, Bool.not_true, cond_false, cond_true, Option.bind_some, I]
          rw [wr (show -9223372036854775808 ≤ ((n + 1 : Nat) : Int) - 1 by omega) (by omega), show ((n + 1 : Nat) : Int) - 1 = (n : Int) by omega]
          simp only [idx_nat, hq, Option.bind_some, cpy_full hrl, upd_nat _ (show n < (tabM (n + 1) x2.length (fun _ _ => (1000000 : Int))).length by omega), hset]
        · simp; omega
        · have hrw : ∀ r, r ∈ ((List.range n).map fun _ => row) ++ [x2] → r.length = x2.length := by
            intro r hr
            rw [List.mem_append, List.mem_map, List.mem_singleton] at hr
            rcases hr with ⟨_, _, rfl⟩ | rfl
            · exact hrl
            · rfl
          rw [off_rows hrw _ (Nat.le_refl _)]
          have h3 : (((List.range n).map fun _ => row) ++ [x2]).length = n + 1 := by simp
          have h5 : x2.length ≤ 10 := by omega
          have h4 := Nat.mul_le_mul (show n + 1 ≤ 50 by omega) h5
          rw [h3]; omega

end Go.Proofs.Ytpmebacdmilecaa
