/- The law's model answers true. -/
import Derived.Test.YtebmlphobgaboaaFindSqueezeMath
namespace Go.Proofs.Ytebmlphobgaboaa

theorem law_FindSqueeze {F : Nat} {x0 : List LWindow} {x1 : List LBond} (hF0 : 9223372036854775808 ≤ F) (h0 : x0.length ≤ 9223372036854775807) (h1 : x1.length ≤ 9223372036854775807) : laws_FnExactFindSqueeze F x0 x1 = some true := by
  have hF : 134217728 ≤ F := by omega
  unfold laws_FnExactFindSqueeze
  obtain ⟨r0, hz0, hs0⟩ := szWindowS_is (F := F) (ps := x0) (left := 1048576) (by omega) (by omega) h0
  rw [bind_of hz0]
  by_cases hc0 : r0 < 0
  · rw [bdT hc0]
  rw [bdF hc0]
  obtain ⟨r1, hz1, hs1⟩ := szBondS_is (F := F) (ps := x1) (left := r0) (by omega) (by omega) h1
  rw [bind_of hz1]
  by_cases hc1 : r1 < 0
  · rw [bdT hc1]
  rw [bdF hc1]
  have b0 : x0.length ≤ 1048576 := by omega
  have bP0 : (x0.map toP_Window).length ≤ 1048576 := by rw [List.length_map]; exact b0
  have b1 : x1.length ≤ 1048576 := by omega
  have bP1 : (x1.map toP_Bond).length ≤ 1048576 := by rw [List.length_map]; exact b1
  have to0 := toWindowS_is (F := F) (ps := x0) hF b0
  have to1 := toBondS_is (F := F) (ps := x1) hF b1
  obtain ⟨⟨q, z⟩, hs, hi, hq⟩ := same_FindSqueeze (F := F) (x0 := (x0.map toP_Window)) (x1 := (x1.map toP_Bond)) hF bP0 bP1
  simp only at hq
  have eq0 := eqWindowS_same (F := F) (xs := x0.map toP_Window) hF (by omega)
  have eq1 := eqBondS_same (F := F) (xs := x1.map toP_Bond) hF (by omega)
  obtain ⟨ms0, hm0, -, -⟩ := markWindowS_is (F := F) (k := 1) (ps := x0.map toP_Window) hF (by omega) (by omega) (by omega)
  obtain ⟨ms1, hm1, -, -⟩ := markBondS_is (F := F) (k := 1 + 2 * ((x0.map toP_Window).length : Int)) (ps := x1.map toP_Bond) hF (by omega) (by omega) (by omega)
  have hqe := eqInt64S_same (F := F) (xs := q) hF (by omega)
  obtain ⟨ms, hm, hml, hmi⟩ := markInt64S_is (F := F) (k := 1) (ps := q) hF (by omega) (by decide) (by decide)
  have hh := heldInt64S_is (F := F) (k := 1) (ms := ms) hF (by omega) (by decide) (by decide) (fun i hi => hmi i (by omega))
  rw [hml] at hh
  have hkk : ¬ 1 + 2 * ((x0.map toP_Window).length : Int) + 3 * ((x1.map toP_Bond).length : Int) < 0 := by omega
  simp only [hs, hi, to0, eq0, hm0, to1, eq1, hm1, hqe, hm, hh, Option.bind_some, Bool.not_true, cond_false, bne_self_eq_false, dF hkk, dF (show ¬ 1 + 1 * (q.length : Int) < 0 by omega)]

end Go.Proofs.Ytebmlphobgaboaa
