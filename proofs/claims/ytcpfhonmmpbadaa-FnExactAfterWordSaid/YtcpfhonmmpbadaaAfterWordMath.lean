/- The reference and the program answer alike. -/
import Derived.Test.YtcpfhonmmpbadaaAfterWordSmall
namespace Go.Proofs.Ytcpfhonmmpbadaa

theorem vec_all {x : List Int} {n : Nat} (hn : x.length = n) (h1 : 1 ≤ n) (h2 : n ≤ 10) : vecB x = x.all valB := by
  unfold vecB
  rw [inB_true.2 (show (1 : Int) ≤ (x.length : Int) ∧ (x.length : Int) ≤ 10 by omega), Bool.true_and]
def sw : Option (List Int) → Sum (List Int × Int) (List Int)
  | none => .inl ([], 3)
  | some l => .inr l
theorem word_loop {F n : Nat} {ms : List (List (List Int))} {w : List Int} (hF : 134217728 ≤ F) (h1 : 1 ≤ n) (h2 : n ≤ 10) (hms : ∀ m, m ∈ ms → m.length = n ∧ ∀ row, row ∈ m → row.length = n) (hl : w.length ≤ 6) (hw : ∀ k (hk : k < w.length), ∃ j : Nat, w[k] = (j : Int) ∧ j < ms.length) :
    ∀ (d k f1 f2 : Nat) (x : List Int), k + d = w.length → d < f1 → d < f2 → x.length = n →
      ∃ o, spec_AfterWord_L1 F ms w f1 x (k : Int) = some (sw o) ∧ impl_AfterWord_L1 F ms w f2 x (k : Int) = some (sw o) ∧ ∀ l, o = some l → l.length = n := by
  intro d
  induction d with
  | zero =>
    intro k f1 f2 x hk e1 e2 hx
    obtain ⟨f1, rfl⟩ : ∃ m, f1 = m + 1 := ⟨f1 - 1, by omega⟩
    obtain ⟨f2, rfl⟩ : ∃ m, f2 = m + 1 := ⟨f2 - 1, by omega⟩
    refine ⟨some x, ?_, ?_, fun l hl => by cases hl; exact hx⟩
    · simp only [spec_AfterWord_L1, bdF (show ¬ (k : Int) < (w.length : Int) by omega)]; rfl
    · simp only [impl_AfterWord_L1, bdF (show ¬ (k : Int) < (w.length : Int) by omega)]; rfl
  | succ d ih =>
    intro k f1 f2 x hk e1 e2 hx
    obtain ⟨f1, rfl⟩ : ∃ m, f1 = m + 1 := ⟨f1 - 1, by omega⟩
    obtain ⟨f2, rfl⟩ : ∃ m, f2 = m + 1 := ⟨f2 - 1, by omega⟩
    have hk' : k < w.length := by omega
    obtain ⟨j, hj, hjl⟩ := hw k hk'
    have hwk : w[k]? = some (j : Int) := by rw [List.getElem?_eq_getElem hk', hj]
    have hm : ms[j]? = some ms[j] := List.getElem?_eq_getElem hjl
    obtain ⟨m1, m2⟩ := hms _ (List.getElem_mem hjl)
    have hap1 := specApply_is (F := F) (a := ms[j]) (x := x) hF (by omega) (by omega) (fun row hm => by rw [m2 row hm, hx])
    have hap2 := implApply_is (F := F) (a := ms[j]) (x := x) hF (by omega) (by omega) (fun row hm => by rw [m2 row hm, hx])
    have hal : (applyv ms[j] x).length = n := by unfold applyv; rw [List.length_map, m1]
    have S : spec_AfterWord_L1 F ms w (f1 + 1) x (k : Int) = bif !(applyv ms[j] x).all valB then some (.inl ([], 3)) else spec_AfterWord_L1 F ms w f1 (applyv ms[j] x) ((k + 1 : Nat) : Int) := by
      simp only [spec_AfterWord_L1, bdT (show (k : Int) < (w.length : Int) by omega), idx_nat, hwk, hm, Option.bind_some, hap1, specVector_is (F := F) (x := applyv ms[j] x) hF (by omega), vec_all hal h1 h2, wrN (show k ≤ 67108864 by omega)]
    have I : impl_AfterWord_L1 F ms w (f2 + 1) x (k : Int) = bif !(applyv ms[j] x).all valB then some (.inl ([], 3)) else impl_AfterWord_L1 F ms w f2 (applyv ms[j] x) ((k + 1 : Nat) : Int) := by
      simp only [impl_AfterWord_L1, bdT (show (k : Int) < (w.length : Int) by omega), idx_nat, hwk, hm, Option.bind_some, hap2, implAll_is (F := F) (xs := applyv ms[j] x) hF (by omega), wrN (show k ≤ 67108864 by omega)]
    rw [S, I]
    cases (!(applyv ms[j] x).all valB) with
    | true => exact ⟨none, rfl, rfl, fun l hl => by cases hl⟩
    | false => exact ih (k + 1) f1 f2 _ (by omega) (by omega) (by omega) hal

theorem same_AfterWord {F : Nat} {x0 : List (List (List Int))} {x1 x2 : List Int} (hF : 134217728 ≤ F) (h0 : x0.length ≤ 1048576) (hr : ∀ m, m ∈ x0 → ∀ row, row ∈ m → row.length ≤ 1048576) (h1 : x1.length ≤ 1048576) (h2 : x2.length ≤ 1048576) :
    ∃ r : List Int × Int, spec_AfterWord F x0 x1 x2 = some r ∧ impl_AfterWord F x0 x1 x2 = some r ∧ r.1.length ≤ 1048576 := by
  unfold spec_AfterWord impl_AfterWord
  rw [bind_of (specWord_is hF h2)]
  simp only [spec_l25Code, impl_checkModes, specModes_is hF h0 hr, implModes_is hF h0 hr, specVector_is hF h1, implVector_is hF h1, Option.bind_some]
  cases hm : modesB x0 with
  | false => exact ⟨([], 1), rfl, rfl, by simp⟩
  | true =>
    cases hv : vecB x1 with
    | false => exact ⟨([], 1), rfl, rfl, by simp⟩
    | true =>
      obtain ⟨n, a0, a1, a2, a3, a4, a5⟩ := modesB_true hm
      simp only [Bool.not_true, cond_false, Option.bind_some, firstM_is (show 0 < x0.length by omega), implWord_is hF h2]
      by_cases hx : (x1.length : Int) = ((x0.getD 0 []).length : Int)
      · rw [bF (neF hx), bF (neF hx)]
        cases hw : wordB x0 x2 with
        | false => exact ⟨([], 2), rfl, rfl, by simp⟩
        | true =>
          obtain ⟨b1, b2⟩ := wordB_at hw a3 a4
          have hown : spec_l01Own F x1 = some x1 := by
            unfold spec_l01Own
            rw [app_le (by simp only [List.length_nil]; omega)]; rfl
          have hcl : slices_Clone_int64 F x1 = some x1 := by
            unfold slices_Clone_int64
            rw [app_le (by simp only [List.length_nil]; omega)]; rfl
          obtain ⟨o, c1, c2, c3⟩ := word_loop (F := F) (w := x2) hF a1 a2 a5 b1 b2 x2.length 0 F F x1 (by omega) (by omega) (by omega) (by omega)
          rw [show ((0 : Nat) : Int) = 0 from rfl] at c1 c2
          simp only [Bool.not_true, cond_false, bne_self_eq_false, Option.bind_some, hown, hcl, c1, c2]
          cases o with
          | none => exact ⟨([], 3), rfl, rfl, by simp⟩
          | some l => exact ⟨(l, 0), rfl, rfl, by have := c3 l rfl; simp only; omega⟩
      · rw [bT (neT hx), bT (neT hx)]
        exact ⟨([], 5), rfl, rfl, by simp⟩

end Go.Proofs.Ytcpfhonmmpbadaa
