/- The reference and the program answer alike. -/
import Derived.Test.YtmijmamolmoheaaTightWindowsSmall
namespace Go.Proofs.Ytmijmamolmoheaa

def twin (es ls : List Int) (n : Nat) : List GWindow := (List.range n).map fun k => ⟨es.getD k 0, ls.getD k 0⟩
theorem same_TightWindows {F : Nat} {x0 : List GWindow} {x1 : List GBond} (hF : 134217728 ≤ F) (h0 : x0.length ≤ 1048576) (h1 : x1.length ≤ 1048576) :
    ∃ r : List GWindow × Int, spec_TightWindows F x0 x1 = some r ∧ impl_TightWindows F x0 x1 = some r ∧ r.1.length ≤ 1048576 := by
  unfold spec_TightWindows impl_TightWindows spec_l23Code
  rw [specTask_is hF h0 h1]
  cases ht : taskB x0 x1 with
  | false =>
    have : impl_solveTask F x0 x1 = some ([], [], 1) := by
      unfold impl_solveTask
      rw [implTask_is hF h0 h1, ht]; rfl
    rw [this]
    exact ⟨([], 1), rfl, rfl, by simp⟩
  | true =>
    obtain ⟨n1, _⟩ := taskB_true ht
    rcases solve_is (F := F) hF ht with ⟨es, ls, l1, l2, e1, e2, e3⟩ | ⟨e1, e2, e3⟩
    · have hs : spec_TightWindows_L1 F (es, 0) ls F [] 0 = some (twin es ls x0.length) := by
        refine tab_loop (len := x0.length) (f := fun k => ⟨es.getD k 0, ls.getD k 0⟩) (L := spec_TightWindows_L1 F (es, 0) ls) (n := F) ?_ ?_ (by omega)
        · intro n xs k hk hx
          simp only [spec_TightWindows_L1, bdT (show (k : Int) < (es.length : Int) by omega), idx_nat, getD_of (show k < es.length by omega), getD_of (show k < ls.length by omega), Option.bind_some, app_le (show xs.length + [(⟨es.getD k 0, ls.getD k 0⟩ : GWindow)].length ≤ 67108864 by simp only [List.length_singleton]; omega), wrN (show k ≤ 67108864 by omega)]
        · intro n xs _
          simp only [spec_TightWindows_L1, bdF (show ¬ (x0.length : Int) < (es.length : Int) by omega)]
      have hi : impl_TightWindows_L1 F (es, ls, 0) (List.replicate x0.length ⟨0, 0⟩) F (List.replicate x0.length ⟨0, 0⟩) 0 = some (twin es ls x0.length) := by
        have H := fill_loop (ps := List.range x0.length) (f := fun k => (⟨es.getD k 0, ls.getD k 0⟩ : GWindow)) (L := impl_TightWindows_L1 F (es, ls, 0) (List.replicate x0.length ⟨0, 0⟩)) (xs := List.replicate x0.length ⟨0, 0⟩) (n := F) ?_ ?_ (by simp) (by rw [List.length_range]; omega)
        · exact H
        · intro n xs k x hk hx hl
          rw [List.length_range] at hk hl
          have e : x = k := by rw [List.getElem?_range hk] at hx; cases hx; rfl
          subst e
          have hq : xs[x]? = some xs[x] := List.getElem?_eq_getElem (by omega)
          simp only [impl_TightWindows_L1, List.length_replicate, bdT (show (x : Int) < (x0.length : Int) by omega), idx_nat, getD_of (show x < es.length by omega), getD_of (show x < ls.length by omega), hq, Option.bind_some, upd_nat _ (show x < xs.length by omega), wrN (show x ≤ 67108864 by omega)]
        · intro n xs
          rw [List.length_range]
          simp only [impl_TightWindows_L1, List.length_replicate, bdF (show ¬ (x0.length : Int) < (x0.length : Int) by omega)]
      rw [e1]
      simp only [Option.bind_some, Bool.not_true, cond_false, e2, e3, beq_false_of_ne (show (es.length : Int) ≠ 0 by omega), bne_self_eq_false, mk_nat (⟨0, 0⟩ : GWindow) (show x0.length ≤ 67108864 by omega), hs, hi]
      exact ⟨(twin es ls x0.length, 0), rfl, rfl, by unfold twin; simp; omega⟩
    · rw [e1]
      simp only [Option.bind_some, Bool.not_true, cond_false, e2]
      exact ⟨([], 4), rfl, rfl, by simp⟩

end Go.Proofs.Ytmijmamolmoheaa
