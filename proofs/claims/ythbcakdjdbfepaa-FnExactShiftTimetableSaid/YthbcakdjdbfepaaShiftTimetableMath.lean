/- The reference and the program answer alike. -/
import Derived.Test.YthbcakdjdbfepaaShiftTimetableSmall
namespace Go.Proofs.Ythbcakdjdbfepaa

theorem tmsS_is {F : Nat} {a b : Int} (ha : a ≠ -1000000000000000) (hb : b ≠ -1000000000000000) : spec_l01Times F a b = some (IntKind.i64.wrap (a + b)) := by
  unfold spec_l01Times
  rw [beq_false_of_ne ha, beq_false_of_ne hb]; rfl
def shf (xs : List Int) (b : Int) : List Int := xs.map fun a => IntKind.i64.wrap (a + b)
theorem specShf_is {F : Nat} {xs : List Int} {b : Int} (hF : 134217728 ≤ F) (hl : xs.length ≤ 1048576) (hx : ∀ a, a ∈ xs → a ≠ -1000000000000000) (hb : b ≠ -1000000000000000) : spec_l07Shift F xs b = some (shf xs b) := by
  unfold spec_l07Shift
  have H := for0 (L := spec_l07Shift_L1 F xs b) (len := xs.length) (fun k ys => ys = (xs.take k).map fun a => IntKind.i64.wrap (a + b)) (R := fun r => r = some (shf xs b)) (s := []) (n := F) ?_ ?_ (by simp) (by omega)
  · rw [H]; rfl
  · rintro n k ys hk rfl
    have hv : xs[k]? = some xs[k] := List.getElem?_eq_getElem hk
    refine .inl ⟨_, ?_, rfl⟩
    simp only [spec_l07Shift_L1, bdT (show (k : Int) < (xs.length : Int) by omega), idx_nat, hv, Option.bind_some, tmsS_is (hx _ (List.getElem_mem hk)) hb, wrN (show k ≤ 67108864 by omega)]
    rw [app_le (by simp only [List.length_map, List.length_take, List.length_singleton]; omega), List.take_add_one, hv, List.map_append]
    rfl
  · rintro n ys rfl
    simp only [spec_l07Shift_L1, bdF (show ¬ (xs.length : Int) < (xs.length : Int) by omega), List.take_length]; rfl

theorem same_ShiftTimetable {F : Nat} {x0 : GEventGraph} {x1 : GTimetable} {x2 : Int} (hF : 134217728 ≤ F) (h0 : x0.Places.length ≤ 1048576) (h1 : x1.Starts.length ≤ 1048576) :
    ∃ r : GTimetable × Int, spec_ShiftTimetable F x0 x1 x2 = some r ∧ impl_ShiftTimetable F x0 x1 x2 = some r ∧ r.1.Starts.length ≤ 1048576 := by
  unfold spec_ShiftTimetable impl_ShiftTimetable
  have s1 : spec_l01Finite F x2 = some (inB x2 (-1000000) 1000000) := by simp only [spec_l01Finite, specIn_is, Option.bind_some]
  have s2 : impl_isFinite F x2 = some (inB x2 (-1000000) 1000000) := by simp only [impl_isFinite, within_is, Option.bind_some]
  rw [bind_of (specTableCode_is hF h0 h1), bind_of (implGraph_is hF h0)]
  cases hg : graphB x0 with
  | false => exact ⟨(⟨0, []⟩, 1), rfl, rfl, by simp⟩
  | true =>
    simp only [implTable_is hF h1, s1, s2, Bool.not_true, cond_false, Option.bind_some]
    cases ht : tableB x0 x1 with
    | false => exact ⟨(⟨0, []⟩, 2), rfl, rfl, by simp⟩
    | true =>
      cases hb : inB x2 (-1000000) 1000000 with
      | false => exact ⟨(⟨0, []⟩, 2), rfl, rfl, by simp⟩
      | true =>
        have hx : ∀ a, a ∈ x1.Starts → a ≠ -1000000000000000 := by
          unfold tableB startsB at ht
          simp only [Bool.and_eq_true, List.all_eq_true, inB_true] at ht
          intro a ha
          have := ht.2.2 a ha
          omega
        have hb2 := inB_true.1 hb
        have hcl : slices_Clone_int64 F x1.Starts = some x1.Starts := by
          unfold slices_Clone_int64
          rw [app_le (by simp only [List.length_nil]; omega)]; rfl
        have hfill : impl_ShiftTimetable_L1 F x2 x1.Starts F x1.Starts 0 = some (shf x1.Starts x2) := by
          have H := for0 (L := impl_ShiftTimetable_L1 F x2 x1.Starts) (len := x1.Starts.length) (fun k ys => ys.length = x1.Starts.length ∧ (∀ q, q < k → ys[q]? = (x1.Starts[q]?).map fun a => IntKind.i64.wrap (a + x2)) ∧ ∀ q, k ≤ q → ys[q]? = x1.Starts[q]?) (R := fun r => r = some (shf x1.Starts x2)) (s := x1.Starts) (n := F) ?_ ?_ ⟨rfl, fun q hq => by omega, fun _ _ => rfl⟩ (by omega)
          · exact H
          · rintro n k ys hk ⟨hl, hA, hB⟩
            have hv : x1.Starts[k]? = some x1.Starts[k] := List.getElem?_eq_getElem hk
            have hy : ys[k]? = some x1.Starts[k] := by rw [hB k (Nat.le_refl _), hv]
            have hk' : k < ys.length := by omega
            refine .inl ⟨ys.set k (IntKind.i64.wrap (x1.Starts[k] + x2)), ?_, by rw [List.length_set]; exact hl, ?_, ?_⟩
            · simp only [impl_ShiftTimetable_L1, bdT (show (k : Int) < (x1.Starts.length : Int) by omega), idx_nat, hy, Option.bind_some, upd_nat _ hk', wrN (show k ≤ 67108864 by omega)]
            · intro q hq
              by_cases e : q = k
              · subst e; rw [set_here hk', hv]; rfl
              · rw [set_keep e]; exact hA q (by omega)
            · intro q hq
              rw [set_keep (by omega)]; exact hB q (by omega)
          · rintro n ys ⟨hl, hA, _⟩
            simp only [impl_ShiftTimetable_L1, bdF (show ¬ (x1.Starts.length : Int) < (x1.Starts.length : Int) by omega)]
            refine congrArg some ?_
            unfold shf
            exact fill_map hl hA
        have hsl : (shf x1.Starts x2).length ≤ 1048576 := by unfold shf; rw [List.length_map]; exact h1
        simp only [hcl, hfill, specShf_is hF h1 hx (show x2 ≠ -1000000000000000 by omega), Bool.not_true, cond_false, Option.bind_some, beq_self_eq_true, cond_true, bne_self_eq_false, specTable_is (t := ⟨x1.Period, shf x1.Starts x2⟩) hF h0 hsl hg, implTable_is (t := ⟨x1.Period, shf x1.Starts x2⟩) hF hsl]
        cases tableB x0 ⟨x1.Period, shf x1.Starts x2⟩ with
        | false => exact ⟨(⟨0, []⟩, 3), rfl, rfl, by simp⟩
        | true => exact ⟨(⟨x1.Period, shf x1.Starts x2⟩, 0), rfl, rfl, hsl⟩

end Go.Proofs.Ythbcakdjdbfepaa
