/- The reference and the program answer alike. -/
import Derived.Test.YthbcakdjdbfepaaWorstDelaysSmall
namespace Go.Proofs.Ythbcakdjdbfepaa

theorem specWorstRow {F : Nat} {r : List (List Int) × Int × Bool} {q xs : List Int} {x : Nat} (hF : 134217728 ≤ F) (hr : r.1[x]? = some q) (hx : xs.length ≤ 1048576) (hq : q.length = xs.length) : spec_WorstDelays_L5 F r (x : Int) F xs 0 = some (wmax xs q) := by
  refine for0 (L := spec_WorstDelays_L5 F r (x : Int)) (len := xs.length) (fun j r => r.length = xs.length ∧ (∀ i, i < j → r[i]? = some (max (xs.getD i 0) (q.getD i 0))) ∧ ∀ i, j ≤ i → r[i]? = xs[i]?) (R := fun o => o = some (wmax xs q)) ?_ ?_ ⟨rfl, fun i hi => by omega, fun _ _ => rfl⟩ (by omega)
  · rintro n j ys hj ⟨hl, h1, h2⟩
    have hjr : j < ys.length := by omega
    have hrj : ys[j]? = some (xs.getD j 0) := by rw [h2 j (Nat.le_refl _), getD_of (by omega)]
    refine .inl ⟨ys.set j (max (xs.getD j 0) (q.getD j 0)), ?_, by rw [List.length_set]; exact hl, ?_, ?_⟩
    · simp only [spec_WorstDelays_L5, bdT (show (j : Int) < (ys.length : Int) by omega), idx_nat, hr, getD_of (show j < q.length by omega), hrj, Option.bind_some, upd_nat _ hjr, wrN (show j ≤ 67108864 by omega)]
    · intro i hi
      by_cases e : i = j
      · subst e; exact set_here hjr
      · rw [set_keep e]; exact h1 i (by omega)
    · intro i hi
      rw [set_keep (by omega)]; exact h2 i (by omega)
  · rintro n ys ⟨hl, h1, _⟩
    simp only [spec_WorstDelays_L5, bdF (show ¬ (xs.length : Int) < (ys.length : Int) by omega)]
    rw [wmax_of hl (fun i hi => h1 i (by omega))]

theorem same_WorstDelays {F : Nat} {x0 : GEventGraph} {x1 : GTimetable} {x2 : List Int} (hF : 134217728 ≤ F) (h0 : x0.Places.length ≤ 1048576) (h1 : x1.Starts.length ≤ 1048576) (h2 : x2.length ≤ 1048576) :
    ∃ r : List Int × Int, spec_WorstDelays F x0 x1 x2 = some r ∧ impl_WorstDelays F x0 x1 x2 = some r ∧ r.1.length ≤ 1048576 := by
  unfold spec_WorstDelays impl_WorstDelays
  rw [bind_of (specDelayCode_is hF h0 h1 h2), bind_of (implDelayCode_is hF h0 h1 h2)]
  by_cases hd : delayCode x0 x1 x2 true = 0
  · rw [bF (neF hd), bF (neF hd)]
    obtain ⟨T, hl, hr, _, e1, e2⟩ := settled_is hF hd
    obtain ⟨g1, _⟩ := delayCode_zero hd
    have hG := GOk.of g1
    have h10 := hG.n10
    rw [bind_of e1, bind_of e2]
    by_cases h : (lsz T 50 : Int) ≤ 45
    · rw [dT h, dF (show ¬ (45 : Int) < (lsz T 50 : Int) by omega)]
      have hmk : mk x0.Events (0 : Int) = some (zeros x0) := by rw [hG.ev, mk_nat _ (by omega)]; rfl
      have hz : (zeros x0).length = x0.Events.toNat := by unfold zeros; simp
      have hw := wfold_len T (zeros x0)
      have H := for0 (L := spec_WorstDelays_L4 F (T, (lsz T 50 : Int), true)) (len := T.length) (fun k s => s = (T.take k).foldl wmax (zeros x0)) (R := fun r => r = some (T.foldl wmax (zeros x0))) (s := zeros x0) (n := F) ?_ ?_ rfl (by omega)
      · refine ⟨(T.foldl wmax (zeros x0), 0), ?_, ?_, by simp only; omega⟩
        · simp only [Bool.not_true, cond_false, hmk, Option.bind_some, H]
        · simp only [cond_false, bne_self_eq_false, implWorst_is hF hG (show T.length ≤ 50 by omega) hr, Option.bind_some]
      · rintro n k s hk rfl
        have hrow : T[k]? = some (T.getD k []) := by rw [List.getD_eq_getElem?_getD, List.getElem?_eq_getElem hk]; rfl
        have hlen := hr _ (List.mem_of_getElem? hrow)
        have hwl := wfold_len (T.take k) (zeros x0)
        refine .inl ⟨_, ?_, rfl⟩
        simp only [spec_WorstDelays_L4, bdT (show (k : Int) < (T.length : Int) by omega), Option.bind_some, specWorstRow (F := F) (r := (T, (lsz T 50 : Int), true)) (q := T.getD k []) (xs := (T.take k).foldl wmax (zeros x0)) hF hrow (by omega) (by omega), foldl_takeR hk, wrN (show k ≤ 67108864 by omega)]
      · rintro n s rfl
        simp only [spec_WorstDelays_L4, bdF (show ¬ (T.length : Int) < (T.length : Int) by omega), List.take_length]
    · rw [dF h, dT (show (45 : Int) < (lsz T 50 : Int) by omega)]
      exact ⟨_, rfl, rfl, by simp⟩
  · rw [bT (neT hd), bT (neT hd)]
    exact ⟨_, rfl, rfl, by simp⟩

end Go.Proofs.Ythbcakdjdbfepaa
