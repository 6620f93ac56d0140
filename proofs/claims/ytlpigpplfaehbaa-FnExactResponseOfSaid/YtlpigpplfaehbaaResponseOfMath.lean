/- The reference and the program answer alike. -/
import Derived.Test.YtlpigpplfaehbaaResponseOfSmall
namespace Go.Proofs.Ytlpigpplfaehbaa

def systemB (s : GSystem) : Bool := squareB s.A && (vecB s.B && (vecB s.C && (((s.B.length : Int) == (s.A.length : Int)) && ((s.C.length : Int) == (s.A.length : Int)))))
theorem specSystem_is {F : Nat} {s : GSystem} (hF : 134217728 ≤ F) (hr : ∀ row, row ∈ s.A → row.length ≤ 1048576) (hB : s.B.length ≤ 1048576) (hC : s.C.length ≤ 1048576) : spec_IsSystem F s = some (systemB s) := by
  simp only [spec_IsSystem, specSquare_is hF hr, specVector_is hF hB, specVector_is hF hC, Option.bind_some, cond_and]; rfl
theorem implSystem_is {F : Nat} {s : GSystem} (hF : 134217728 ≤ F) (hr : ∀ row, row ∈ s.A → row.length ≤ 1048576) (hB : s.B.length ≤ 1048576) (hC : s.C.length ≤ 1048576) : impl_IsSystem F s = some (systemB s) := by
  simp only [impl_IsSystem, implSquare_is hF hr, implVector_is hF hB, implVector_is hF hC, Option.bind_some, cond_and]; rfl
theorem systemB_true {s : GSystem} (h : systemB s = true) : s.A.length ≤ 10 ∧ (∀ row, row ∈ s.A → row.length = s.A.length) ∧ s.B.length = s.A.length ∧ s.C.length = s.A.length := by
  unfold systemB squareB matB at h
  simp only [Bool.and_eq_true, inB_true, beq_iff_eq, List.all_eq_true] at h
  obtain ⟨⟨⟨⟨_, h2⟩, h3⟩, h4⟩, _, _, h5, h6⟩ := h
  refine ⟨by omega, fun row hm => ?_, by omega, by omega⟩
  have := (h3 row hm).2
  omega

def so : Option (List Int) → Sum (List Int × Bool) (List Int)
  | none => .inl ([], false)
  | some l => .inr l
def io : Option (List Int) → Sum (List Int × Int) (List Int)
  | none => .inl ([], 3)
  | some l => .inr l
theorem resp_loop {F : Nat} {s : GSystem} {n : Int} (hF : 134217728 ≤ F) (hn : n ≤ 50) (hA : s.A.length ≤ 10) (hrow : ∀ row, row ∈ s.A → row.length = s.A.length) (hC : s.C.length = s.A.length) :
    ∀ (d k f1 f2 : Nat) (acc b b' : List Int), (k : Int) + d = n → d < f1 → d < f2 → acc.length = k → b.length = s.A.length → b'.length = s.A.length → ((k = 0 ∧ b' = b) ∨ (0 < k ∧ b = applyv s.A b')) →
      ∃ o, spec_l24Response_L1 F s n f1 acc b (k : Int) = some (so o) ∧ impl_responseOf_L1 F s n f2 b' acc (k : Int) = some (io o) ∧ ∀ l, o = some l → l.length ≤ 50 := by
  intro d
  induction d with
  | zero =>
    intro k f1 f2 acc b b' hk h1 h2 ha _ _ _
    obtain ⟨f1, rfl⟩ : ∃ m, f1 = m + 1 := ⟨f1 - 1, by omega⟩
    obtain ⟨f2, rfl⟩ : ∃ m, f2 = m + 1 := ⟨f2 - 1, by omega⟩
    refine ⟨some acc, ?_, ?_, fun l hl => by cases hl; omega⟩
    · simp only [spec_l24Response_L1, bdF (show ¬ (k : Int) < n by omega)]; rfl
    · simp only [impl_responseOf_L1, bdF (show ¬ (k : Int) < n by omega)]; rfl
  | succ d ih =>
    intro k f1 f2 acc b b' hk h1 h2 ha hb hb' hrel
    obtain ⟨f1, rfl⟩ : ∃ m, f1 = m + 1 := ⟨f1 - 1, by omega⟩
    obtain ⟨f2, rfl⟩ : ∃ m, f2 = m + 1 := ⟨f2 - 1, by omega⟩
    have hk' : (k : Int) < n := by omega
    have hin : (bif decide (0 < (k : Int)) then (impl_timesVector F s.A b').bind fun r => some r else some b') = some b := by
      rcases hrel with ⟨rfl, rfl⟩ | ⟨h0, rfl⟩
      · rw [bdF (by omega)]
      · rw [bdT (by omega), bind_of (implApply_is hF (by omega) (by omega) (fun row hm => by rw [hrow row hm, hb']))]
    have happ : app acc [dotv s.C b s.C.length] = some (acc ++ [dotv s.C b s.C.length]) := app_le (by simp only [List.length_singleton]; omega)
    have hap := specApply_is (F := F) (a := s.A) (x := b) hF (by omega) (by omega) (fun row hm => by rw [hrow row hm, hb])
    have hlen : (applyv s.A b).length = s.A.length := by unfold applyv; rw [List.length_map]
    have S : spec_l24Response_L1 F s n (f1 + 1) acc b (k : Int) = bif !b.all valB || !valB (dotv s.C b s.C.length) then some (.inl ([], false)) else spec_l24Response_L1 F s n f1 (acc ++ [dotv s.C b s.C.length]) (applyv s.A b) ((k + 1 : Nat) : Int) := by
      simp only [spec_l24Response_L1, bdT hk', specDot_is (F := F) (c := s.C) (x := b) hF (by omega) (by omega), specAll_is (F := F) (xs := b) hF (by omega), specValue_is, Option.bind_some, cond_or, happ, hap, wrN (show k ≤ 67108864 by omega)]
    have I : impl_responseOf_L1 F s n (f2 + 1) b' acc (k : Int) = bif !b.all valB || !valB (dotv s.C b s.C.length) then some (.inl ([], 3)) else impl_responseOf_L1 F s n f2 b (acc ++ [dotv s.C b s.C.length]) ((k + 1 : Nat) : Int) := by
      simp only [impl_responseOf_L1, bdT hk', hin, implDot_is (F := F) (c := s.C) (x := b) hF (by omega) (by omega), implAll_is (F := F) (xs := b) hF (by omega), implValue_is, Option.bind_some, cond_or, happ, wrN (show k ≤ 67108864 by omega)]
    rw [S, I]
    cases (!b.all valB || !valB (dotv s.C b s.C.length)) with
    | true => exact ⟨none, rfl, rfl, fun l hl => by cases hl⟩
    | false =>
      simp only [cond_false]
      exact ih (k + 1) f1 f2 _ _ _ (by omega) (by omega) (by omega) (by rw [List.length_append, ha]; rfl) hlen hb (.inr ⟨by omega, rfl⟩)

theorem resp_same {F : Nat} {s : GSystem} {n : Int} (hF : 134217728 ≤ F) (hr : ∀ row, row ∈ s.A → row.length ≤ 1048576) (hB : s.B.length ≤ 1048576) (hC : s.C.length ≤ 1048576) :
    ∃ r : List Int × Int, spec_ResponseOf F s n = some r ∧ impl_ResponseOf F s n = some r ∧ r.1.length ≤ 1048576 := by
  unfold spec_ResponseOf impl_ResponseOf
  rw [bind_of (specSystem_is hF hr hB hC), bind_of (implSystem_is hF hr hB hC)]
  cases hs : systemB s with
  | false => exact ⟨([], 1), rfl, rfl, by simp⟩
  | true =>
    simp only [Bool.not_true, cond_false, specIn_is, within_is, Option.bind_some]
    cases hi : inB n 0 50 with
    | false => exact ⟨([], 2), rfl, rfl, by simp⟩
    | true =>
      obtain ⟨a1, a2, a3, a4⟩ := systemB_true hs
      obtain ⟨n0, n1⟩ := inB_true.1 hi
      have hcl : slices_Clone_int64 F s.B = some s.B := by
        unfold slices_Clone_int64
        rw [app_le (by simp only [List.length_nil]; omega)]; rfl
      obtain ⟨o, h1, h2, h3⟩ := resp_loop (F := F) (s := s) (n := n) hF n1 a1 a2 a4 n.toNat 0 F F [] s.B s.B (by omega) (by omega) (by omega) rfl a3 a3 (.inl ⟨rfl, rfl⟩)
      simp only [Bool.not_true, cond_false, spec_l24Response, impl_responseOf, hcl, Option.bind_some]
      rw [show ((0 : Nat) : Int) = 0 from rfl] at h1 h2
      rw [h1, h2]
      cases o with
      | none => exact ⟨([], 3), rfl, rfl, by simp⟩
      | some l => exact ⟨(l, 0), rfl, rfl, by have := h3 l rfl; simp only; omega⟩

end Go.Proofs.Ytlpigpplfaehbaa
