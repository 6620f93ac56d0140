/- The reference and the program answer alike. -/
import Derived.Test.YtpmebacdmilecaaFloatsOfSmall
namespace Go.Proofs.Ytpmebacdmilecaa

theorem lok_size {g : GEventGraph} {n : Nat} {ms : List (List Int)} (hg : graphB g = true) (hn : n ≤ 50) (h : LOk g n ms) : ms.length ≤ 1048576 ∧ offR ms ms.length ≤ 1048576 := by
  have h10 := (GOk.of hg).n10
  have h1 := off_rows h.rws _ (Nat.le_refl _)
  have h2 := Nat.mul_le_mul hn h10
  have h3 := h.len
  rw [h1, h3]
  exact ⟨by omega, by omega⟩
theorem same_FloatsOf {F : Nat} {x0 : GEventGraph} {x1 : List (List Int)} (hF : 134217728 ≤ F) (h0 : x0.Places.length ≤ 1048576) (h1 : x1.length ≤ 1048576) (h2 : offR x1 x1.length ≤ 1048576) :
    ∃ r : List (List Int) × Int, spec_FloatsOf F x0 x1 = some r ∧ impl_FloatsOf F x0 x1 = some r ∧ (r.1.length ≤ 1048576 ∧ offR r.1 r.1.length ≤ 1048576) := by
  have hrl := rows_le h2
  have hs := specDueCode_is hF h0 h1 hrl
  obtain ⟨b, hb⟩ := specDueTot (g := x0) hF h1 hrl
  rw [hb] at hs
  simp only [Option.bind_some] at hs
  unfold spec_FloatsOf impl_FloatsOf
  rw [bind_of (implDueCode_is hF h0 h1 hrl), hb]
  simp only [Option.bind_some, hs]
  by_cases hd : dueCode x0 x1 = 0
  · rw [bF (neF hd), bF (neF hd)]
    obtain ⟨g1, g2, o, ho⟩ := dueCode_zero hd
    obtain ⟨hn, hrow⟩ := dueB_true g1 g2
    have hG := GOk.of g1
    have h10 := hG.n10
    obtain ⟨hok, hol⟩ := fire_ok hG.edge _ [] o (OrderOk.nil _ _) ho
    have hol' : o.length ≤ 1000 := by simp at hol; omega
    have hO : LOk x0 x1.length x1 := ⟨rfl, fun r hr => (hrow r hr).1⟩
    rw [specFloats_is hF g1 hO hn ho hok.lt hol', implFloats_is hF g1 hO hn ho hok.lt]
    exact ⟨(ftab (ttab x0 o (zeros x0) x1.length) x0.Events.toNat x1.length (ltab x0 x1.length o x1), 0), rfl, rfl, lok_size g1 hn hO.tab.ftab⟩
  · rw [bT (neT hd), bT (neT hd)]
    exact ⟨([], _), rfl, rfl, by simp, by simp [offR_zero]⟩

end Go.Proofs.Ytpmebacdmilecaa
