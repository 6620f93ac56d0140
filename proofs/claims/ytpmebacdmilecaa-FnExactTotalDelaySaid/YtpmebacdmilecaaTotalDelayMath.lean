/- The reference and the program answer alike. -/
import Derived.Test.YtpmebacdmilecaaTotalDelaySmall
namespace Go.Proofs.Ytpmebacdmilecaa

theorem total_loop {F : Nat} {xs : List Int} : ∀ (n : Nat) (s i : Int), impl_total_L1 F xs n s i = spec_l16Sum_L1 F xs n s i
  | 0, _, _ => rfl
  | n + 1, s, i => by
    simp only [impl_total_L1, spec_l16Sum_L1]
    cases decide (i < (xs.length : Int)) with
    | false => rfl
    | true =>
      simp only [cond_true]
      cases idx xs i with
      | none => rfl
      | some q => simp only [Option.bind_some]; exact total_loop n _ _
theorem total_same {F : Nat} {xs : List Int} : impl_total F xs = spec_l16Sum F xs := by
  unfold impl_total spec_l16Sum
  rw [total_loop]
theorem growNil_is {F : Nat} {n : Nat} (h : n ≤ 1048576) : slices_Grow_int64 F (n : Int) = some [] := by
  have e : IntKind.i64.wrap ((n : Int) - IntKind.i64.wrap (0 - (([] : List Int).length : Int))) = (n : Int) := by
    rw [show IntKind.i64.wrap (0 - (([] : List Int).length : Int)) = 0 from rfl, wr (by omega) (by omega)]; omega
  unfold slices_Grow_int64
  rw [bdF (by omega), e]
  by_cases h0 : 0 < (n : Int)
  · have h1 : mkz (n : Int) = some (List.replicate n 0) := by
      unfold mkz; rw [if_pos ⟨h0, by rw [big_is]; omega⟩]; rfl
    have h2 : cutTo (List.replicate n (0 : Int)) (([] : List Int).length : Int) = some [] := by
      unfold cutTo; rw [if_pos ⟨by simp, by simp⟩]; simp
    rw [bdT h0, h1, Option.bind_some, h2]; rfl
  · rw [bdF h0]; rfl
theorem flat_loop {F : Nat} {a : List (List Int)} : ∀ (n : Nat) (xs : List Int) (i : Int), slices_Concat_int64_L2 F a n xs i = spec_l07Flat_L1 F a n xs i
  | 0, _, _ => rfl
  | n + 1, s, i => by
    simp only [slices_Concat_int64_L2, spec_l07Flat_L1]
    cases decide (i < (a.length : Int)) with
    | false => rfl
    | true =>
      simp only [cond_true]
      cases idx a i with
      | none => rfl
      | some q =>
        simp only [Option.bind_some]
        cases app s q with
        | none => rfl
        | some r => simp only [Option.bind_some]; exact flat_loop n _ _
theorem flat_sz {a : List (List Int)} (hr : ∀ r, r ∈ a → r.length ≤ 1000) : ∀ k, k ≤ a.length → (a.take k).flatten.length ≤ k * 1000
  | 0, _ => by simp
  | k + 1, h => by
    have hx : a[k]? = some a[k] := List.getElem?_eq_getElem (by omega)
    have := flat_sz hr k (by omega)
    have h2 := hr _ (List.getElem_mem (show k < a.length by omega))
    rw [List.take_add_one, hx, List.flatten_append, List.length_append]
    simp only [Option.toList_some, List.flatten_cons, List.flatten_nil, List.append_nil]
    omega
theorem specFlat_is {F : Nat} {a : List (List Int)} (hF : 134217728 ≤ F) (hl : a.length ≤ 1000) (hr : ∀ r, r ∈ a → r.length ≤ 1000) : spec_l07Flat F a = some a.flatten := by
  unfold spec_l07Flat
  have H := for0 (L := spec_l07Flat_L1 F a) (len := a.length) (fun k s => s = (a.take k).flatten) (R := fun o => o = some a.flatten) (s := []) (n := F) ?_ ?_ rfl (by omega)
  · rw [H]; rfl
  · rintro n k s hk rfl
    have hx : a[k]? = some a[k] := List.getElem?_eq_getElem hk
    have h1 := flat_sz hr k (by omega)
    have h2 := hr _ (List.getElem_mem hk)
    have h3 : k * 1000 ≤ 1000 * 1000 := Nat.mul_le_mul_right _ (by omega)
    refine .inl ⟨_, ?_, rfl⟩
    simp only [spec_l07Flat_L1, bdT (show (k : Int) < (a.length : Int) by omega), idx_nat, hx, Option.bind_some, app_le (show (a.take k).flatten.length + a[k].length ≤ 67108864 by omega), wrN (show k ≤ 67108864 by omega), List.take_add_one, Option.toList_some, List.flatten_append, List.flatten_cons, List.flatten_nil, List.append_nil]
  · rintro n s rfl
    simp only [spec_l07Flat_L1, bdF (show ¬ (a.length : Int) < (a.length : Int) by omega), List.take_length]
theorem concat_is {F : Nat} {a : List (List Int)} (hF : 134217728 ≤ F) (hl : a.length ≤ 1000) (hr : ∀ r, r ∈ a → r.length ≤ 1000) : slices_Concat_int64 F a = some a.flatten := by
  unfold slices_Concat_int64
  have H := for0 (L := slices_Concat_int64_L1 F a) (len := a.length) (fun k s => s = ((a.take k).flatten.length : Int)) (R := fun o => o = some (a.flatten.length : Int)) (s := 0) (n := F) ?_ ?_ rfl (by omega)
  · have h1 := flat_sz hr a.length (Nat.le_refl _)
    rw [List.take_length] at h1
    have h3 : a.length * 1000 ≤ 1000 * 1000 := Nat.mul_le_mul_right _ (by omega)
    have hf := specFlat_is hF hl hr
    unfold spec_l07Flat at hf
    rw [H, Option.bind_some, growNil_is (by omega), Option.bind_some, flat_loop]
    exact hf
  · rintro n k s hk rfl
    have hx : a[k]? = some a[k] := List.getElem?_eq_getElem hk
    have h1 := flat_sz hr k (by omega)
    have h2 := hr _ (List.getElem_mem hk)
    have h3 : k * 1000 ≤ 1000 * 1000 := Nat.mul_le_mul_right _ (by omega)
    have hw : IntKind.i64.wrap (((a.take k).flatten.length : Int) + (a[k].length : Int)) = ((a.take (k + 1)).flatten.length : Int) := by
      rw [wr (by omega) (by omega), List.take_add_one, hx, List.flatten_append, List.length_append]
      simp only [Option.toList_some, List.flatten_cons, List.flatten_nil, List.append_nil]
      omega
    refine .inl ⟨_, ?_, rfl⟩
    simp only [slices_Concat_int64_L1, bdT (show (k : Int) < (a.length : Int) by omega), idx_nat, hx, Option.bind_some, hw, bdF (show ¬ ((a.take (k + 1)).flatten.length : Int) < 0 by omega), wrN (show k ≤ 67108864 by omega)]
  · rintro n s rfl
    simp only [slices_Concat_int64_L1, bdF (show ¬ (a.length : Int) < (a.length : Int) by omega), List.take_length]
theorem sum_some {F : Nat} {xs : List Int} (hF : 134217728 ≤ F) (hl : xs.length ≤ 1048576) : ∃ q, spec_l16Sum F xs = some q := by
  unfold spec_l16Sum
  have H := for0 (L := spec_l16Sum_L1 F xs) (len := xs.length) (fun _ _ => True) (R := fun r => ∃ q, r = some q) (s := 0) (n := F) ?_ ?_ trivial (by omega)
  · obtain ⟨q, hq⟩ := H
    exact ⟨q, by rw [hq]; rfl⟩
  · intro n k s hk _
    have hx : xs[k]? = some xs[k] := List.getElem?_eq_getElem hk
    refine .inl ⟨IntKind.i64.wrap (s + xs[k]), ?_, trivial⟩
    simp only [spec_l16Sum_L1, bdT (show (k : Int) < (xs.length : Int) by omega), idx_nat, hx, Option.bind_some, wrN (show k ≤ 67108864 by omega)]
  · intro n s _
    simp only [spec_l16Sum_L1, bdF (show ¬ (xs.length : Int) < (xs.length : Int) by omega)]
    exact ⟨_, rfl⟩
theorem same_TotalDelay {F : Nat} {x0 : GEventGraph} {x1 : GTimetable} {x2 : List Int} (hF : 134217728 ≤ F) (h0 : x0.Places.length ≤ 1048576) (h1 : x1.Starts.length ≤ 1048576) (h2 : x2.length ≤ 1048576) :
    ∃ r : Int × Int, spec_TotalDelay F x0 x1 x2 = some r ∧ impl_TotalDelay F x0 x1 x2 = some r := by
  unfold spec_TotalDelay impl_TotalDelay
  rw [bind_of (specDelayCode_is hF h0 h1 h2), bind_of (implDelayCode_is hF h0 h1 h2)]
  by_cases hd : delayCode x0 x1 x2 true = 0
  · rw [bF (neF hd), bF (neF hd)]
    obtain ⟨T, t1, t2, t3, e1, e2⟩ := settled_is hF hd
    rw [bind_of e1, bind_of e2]
    by_cases h : (lsz T 50 : Int) ≤ 45
    · have h10 := (GOk.of (delayCode_zero hd).1).n10
      have hr : ∀ r, r ∈ T → r.length ≤ 1000 := fun r hr => by have := t2 r hr; omega
      have hfl := flat_sz (a := T) hr T.length (Nat.le_refl _)
      rw [List.take_length] at hfl
      have c1 := specFlat_is (F := F) (a := T) hF (by omega) hr
      have c2 := concat_is (F := F) (a := T) hF (by omega) hr
      rw [dT h, dF (show ¬ (45 : Int) < (lsz T 50 : Int) by omega)]
      simp only [Bool.not_true, cond_false, bne_self_eq_false, c1, c2, Option.bind_some, total_same]
      obtain ⟨q, hq⟩ : ∃ q, spec_l16Sum F T.flatten = some q := sum_some hF (by omega)
      rw [hq]
      exact ⟨_, rfl, rfl⟩
    · rw [dF h, dT (show (45 : Int) < (lsz T 50 : Int) by omega)]
      exact ⟨_, rfl, rfl⟩
  · rw [bT (neT hd), bT (neT hd)]
    exact ⟨_, rfl, rfl⟩

end Go.Proofs.Ytpmebacdmilecaa
