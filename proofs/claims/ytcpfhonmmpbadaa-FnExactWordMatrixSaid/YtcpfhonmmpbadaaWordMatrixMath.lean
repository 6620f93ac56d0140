/- The reference and the program answer alike. -/
import Derived.Test.YtcpfhonmmpbadaaWordMatrixSmall
namespace Go.Proofs.Ytcpfhonmmpbadaa

theorem mat_vals {a : List (List Int)} {n : Nat} (hl : a.length = n) (hr : ∀ r, r ∈ a → r.length = n) (h1 : 1 ≤ n) (h2 : n ≤ 10) : matB a = valsM a := by
  unfold matB valsM
  rw [inB_true.2 (show (1 : Int) ≤ (a.length : Int) ∧ (a.length : Int) ≤ 10 by omega), Bool.true_and]
  have hf : firstL a = (n : Int) := by
    unfold firstL
    rw [hr _ (List.mem_of_getElem? (rowG (t := a) (k := 0) (by omega)))]
  rw [hf]
  apply Bool.eq_iff_iff.2
  rw [List.all_eq_true, List.all_eq_true]
  constructor
  · intro H r hm
    have := H r hm
    rw [Bool.and_eq_true] at this
    unfold vecB at this
    rw [Bool.and_eq_true] at this
    exact this.1.2
  · intro H r hm
    have hrl := hr r hm
    rw [Bool.and_eq_true, beq_iff_eq]
    refine ⟨?_, by omega⟩
    unfold vecB
    rw [inB_true.2 (show (1 : Int) ≤ (r.length : Int) ∧ (r.length : Int) ≤ 10 by omega), Bool.true_and]
    exact H r hm
def swM : Option (List (List Int)) → Sum (List (List Int) × Int) (List (List Int))
  | none => .inl ([], 3)
  | some l => .inr l
theorem word_loop {F n : Nat} {ms : List (List (List Int))} {w : List Int} (hF : 134217728 ≤ F) (h1 : 1 ≤ n) (h2 : n ≤ 10) (hms : ∀ m, m ∈ ms → m.length = n ∧ ∀ row, row ∈ m → row.length = n) (hl : w.length ≤ 6) (hw : ∀ k (hk : k < w.length), ∃ j : Nat, w[k] = (j : Int) ∧ j < ms.length) :
    ∀ (d k f1 f2 : Nat) (x : List (List Int)), k + d = w.length → d < f1 → d < f2 → x.length = n → (∀ r, r ∈ x → r.length = n) →
      ∃ o, spec_WordMatrix_L1 F ms w f1 x (k : Int) = some (swM o) ∧ impl_WordMatrix_L1 F ms w f2 x (k : Int) = some (swM o) ∧ ∀ l, o = some l → l.length = n ∧ ∀ r, r ∈ l → r.length = n := by
  intro d
  induction d with
  | zero =>
    intro k f1 f2 x hk e1 e2 hx hr
    obtain ⟨f1, rfl⟩ : ∃ m, f1 = m + 1 := ⟨f1 - 1, by omega⟩
    obtain ⟨f2, rfl⟩ : ∃ m, f2 = m + 1 := ⟨f2 - 1, by omega⟩
    refine ⟨some x, ?_, ?_, fun l hl => by cases hl; exact ⟨hx, hr⟩⟩
    · simp only [spec_WordMatrix_L1, bdF (show ¬ (k : Int) < (w.length : Int) by omega)]; rfl
    · simp only [impl_WordMatrix_L1, bdF (show ¬ (k : Int) < (w.length : Int) by omega)]; rfl
  | succ d ih =>
    intro k f1 f2 x hk e1 e2 hx hr
    obtain ⟨f1, rfl⟩ : ∃ m, f1 = m + 1 := ⟨f1 - 1, by omega⟩
    obtain ⟨f2, rfl⟩ : ∃ m, f2 = m + 1 := ⟨f2 - 1, by omega⟩
    have hk' : k < w.length := by omega
    obtain ⟨j, hj, hjl⟩ := hw k hk'
    have hwk : w[k]? = some (j : Int) := by rw [List.getElem?_eq_getElem hk', hj]
    have hm : ms[j]? = some ms[j] := List.getElem?_eq_getElem hjl
    obtain ⟨m1, m2⟩ := hms _ (List.getElem_mem hjl)
    have hmu1 := specMul_is (F := F) (n := n) (a := ms[j]) (b := x) hF (by omega) (by omega) (by omega) (by omega) (fun r hrm => by rw [m2 r hrm, hx]) hr
    have hmu2 := implMul_is (F := F) (n := n) (a := ms[j]) (b := x) hF (by omega) (by omega) (by omega) (by omega) (fun r hrm => by rw [m2 r hrm, hx]) hr
    have hml : (mulM ms[j] x n).length = n := by rw [mulM_len, m1]
    have hmr : ∀ r, r ∈ mulM ms[j] x n → r.length = n := mulM_rows
    have S : spec_WordMatrix_L1 F ms w (f1 + 1) x (k : Int) = bif !valsM (mulM ms[j] x n) then some (.inl ([], 3)) else spec_WordMatrix_L1 F ms w f1 (mulM ms[j] x n) ((k + 1 : Nat) : Int) := by
      simp only [spec_WordMatrix_L1, bdT (show (k : Int) < (w.length : Int) by omega), idx_nat, hwk, hm, Option.bind_some, hmu1, specMatrix_is (F := F) (a := mulM ms[j] x n) hF (fun r hrm => by rw [hmr r hrm]; omega), mat_vals hml hmr h1 h2, wrN (show k ≤ 67108864 by omega)]
    have I : impl_WordMatrix_L1 F ms w (f2 + 1) x (k : Int) = bif !valsM (mulM ms[j] x n) then some (.inl ([], 3)) else impl_WordMatrix_L1 F ms w f2 (mulM ms[j] x n) ((k + 1 : Nat) : Int) := by
      simp only [impl_WordMatrix_L1, bdT (show (k : Int) < (w.length : Int) by omega), idx_nat, hwk, hm, Option.bind_some, hmu2, implChecked_is (F := F) (a := mulM ms[j] x n) hF (by omega) (fun r hrm => by rw [hmr r hrm]; omega), wrN (show k ≤ 67108864 by omega)]
      cases valsM (mulM ms[j] x n) <;> rfl
    rw [S, I]
    cases (!valsM (mulM ms[j] x n)) with
    | true => exact ⟨none, rfl, rfl, fun l hl => by cases hl⟩
    | false => exact ih (k + 1) f1 f2 _ (by omega) (by omega) (by omega) hml hmr
theorem off_rows {rows : List (List Int)} {n : Nat} (h : ∀ r, r ∈ rows → r.length = n) : ∀ k, k ≤ rows.length → offR rows k = k * n := by
  intro k
  induction k with
  | zero => intro _; rw [offR_zero]; omega
  | succ k ih =>
    intro hk
    have hr : rows[k]? = some rows[k] := List.getElem?_eq_getElem (by omega)
    rw [offR_succ hr, ih (by omega), h _ (List.mem_of_getElem? hr), Nat.succ_mul]

theorem same_WordMatrix {F : Nat} {x0 : List (List (List Int))} {x1 : List Int} (hF : 134217728 ≤ F) (h0 : x0.length ≤ 1048576) (hr : ∀ m, m ∈ x0 → ∀ row, row ∈ m → row.length ≤ 1048576) (h1 : x1.length ≤ 1048576) :
    ∃ r : List (List Int) × Int, spec_WordMatrix F x0 x1 = some r ∧ impl_WordMatrix F x0 x1 = some r ∧ (r.1.length ≤ 1048576 ∧ offR r.1 r.1.length ≤ 1048576) := by
  unfold spec_WordMatrix impl_WordMatrix
  simp only [specModes_is hF h0 hr, implModes_is hF h0 hr, specWord_is hF h1, implWord_is hF h1, Option.bind_some]
  cases hm : modesB x0 with
  | false => exact ⟨([], 1), rfl, rfl, by simp, by simp [offR_zero]⟩
  | true =>
    cases hw : wordB x0 x1 with
    | false => exact ⟨([], 2), rfl, rfl, by simp, by simp [offR_zero]⟩
    | true =>
      obtain ⟨n, a0, a1, a2, a3, a4, a5⟩ := modesB_true hm
      obtain ⟨b1, b2⟩ := wordB_at hw a3 a4
      simp only [Bool.not_true, cond_false, firstM_is (show 0 < x0.length by omega), Option.bind_some, a0, specUnit_is hF (show n ≤ 1048576 by omega), implUnit_is hF (show n ≤ 1048576 by omega)]
      obtain ⟨o, c1, c2, c3⟩ := word_loop (F := F) (w := x1) hF a1 a2 a5 b1 b2 x1.length 0 F F (unitM n) (by omega) (by omega) (by omega) (tabM_len _ _ _) tabM_rows
      rw [show ((0 : Nat) : Int) = 0 from rfl] at c1 c2
      rw [c1, c2]
      cases o with
      | none => exact ⟨([], 3), rfl, rfl, by simp, by simp [offR_zero]⟩
      | some l =>
        obtain ⟨d1, d2⟩ := c3 l rfl
        have d3 := off_rows d2 _ (Nat.le_refl _)
        have d4 := Nat.mul_le_mul (show l.length ≤ 10 by omega) a2
        exact ⟨(l, 0), rfl, rfl, by simp only; omega, by simp only; omega⟩

end Go.Proofs.Ytcpfhonmmpbadaa
