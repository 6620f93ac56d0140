/- The reference and the program answer alike. -/
import Derived.Test.YthbcakdjdbfepaaDelayTableSmall
namespace Go.Proofs.Ythbcakdjdbfepaa

theorem off_rows {rows : List (List Int)} {n : Nat} (h : ∀ r, r ∈ rows → r.length = n) : ∀ k, k ≤ rows.length → offR rows k = k * n := by
  intro k
  induction k with
  | zero => intro _; rw [offR_zero]; omega
  | succ k ih =>
    intro hk
    have hr : rows[k]? = some rows[k] := List.getElem?_eq_getElem (by omega)
    rw [offR_succ hr, ih (by omega), h _ (List.mem_of_getElem? hr), Nat.succ_mul]

theorem same_DelayTable {F : Nat} {x0 : GEventGraph} {x1 : GTimetable} {x2 : List Int} {x3 : Int} (hF : 134217728 ≤ F) (h0 : x0.Places.length ≤ 1048576) (h1 : x1.Starts.length ≤ 1048576) (h2 : x2.length ≤ 1048576) :
    ∃ r : List (List Int) × Int, spec_DelayTable F x0 x1 x2 x3 = some r ∧ impl_DelayTable F x0 x1 x2 x3 = some r ∧ (r.1.length ≤ 1048576 ∧ offR r.1 r.1.length ≤ 1048576) := by
  unfold spec_DelayTable impl_DelayTable
  simp only [specIn_is, within_is, Option.bind_some, specDelayCode_is hF h0 h1 h2, implDelayCode_is hF h0 h1 h2]
  by_cases hd : delayCode x0 x1 x2 (inB x3 0 50) = 0
  · obtain ⟨g1, g2, g3, g4, g5, g6⟩ := delayCode_zero hd
    obtain ⟨n0, n1⟩ := inB_true.1 g4
    obtain ⟨o, ho⟩ := liveB_some g5
    have hds := (startsB_len g3).1
    have h10 := (GOk.of g1).n10
    rw [bF (neF hd), bF (neF hd), show x3 = (x3.toNat : Int) by omega, specDTable_is hF g1 (tableB_len g2) ho hds (show x3.toNat ≤ 50 by omega), implDTable_is hF g1 (tableB_len g2) ho hds (show x3.toNat ≤ 50 by omega)]
    have hl := dtab_len x0 x1 o x2 x3.toNat
    have hoff := off_rows (dtab_rows (t := x1) (o := o) hds x3.toNat) _ (Nat.le_refl _)
    refine ⟨(dtab x0 x1 o x2 x3.toNat, 0), rfl, rfl, ?_, ?_⟩
    · simp only [hl]; omega
    · have := Nat.mul_le_mul (show x3.toNat ≤ 50 by omega) h10
      rw [hl] at hoff
      simp only [hl, hoff]
      omega
  · rw [bT (neT hd), bT (neT hd)]
    exact ⟨_, rfl, rfl, by simp, by simp [offR_zero]⟩

end Go.Proofs.Ythbcakdjdbfepaa
