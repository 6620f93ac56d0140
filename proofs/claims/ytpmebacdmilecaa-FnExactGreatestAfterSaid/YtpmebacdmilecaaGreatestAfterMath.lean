/- The reference and the program answer alike. -/
import Derived.Test.YtpmebacdmilecaaGreatestAfterSmall
namespace Go.Proofs.Ytpmebacdmilecaa

theorem vec_all {x : List Int} {n : Nat} (hn : x.length = n) (h1 : 1 ≤ n) (h2 : n ≤ 10) : vecB x = x.all valB := by
  unfold vecB
  rw [inB_true.2 (show (1 : Int) ≤ (x.length : Int) ∧ (x.length : Int) ≤ 10 by omega), Bool.true_and]
def Sq (n : Nat) (m : List (List Int)) : Prop := m.length = n ∧ ∀ r, r ∈ m → r.length = n
theorem Sq.add {n : Nat} {a b : List (List Int)} (ha : Sq n a) : Sq n (addm a b) := ⟨by rw [addm_len]; exact ha.1, addm_rows ha.2⟩
theorem fold_sq {n : Nat} : ∀ (l : List (List (List Int))) (a : List (List Int)), Sq n a → Sq n (l.foldl addm a)
  | [], _, h => h
  | b :: l, a, h => fold_sq l (addm a b) h.add
theorem fold_take {l : List (List (List Int))} {a : List (List Int)} {k : Nat} (hk : k < l.length) : (l.take (k + 1)).foldl addm a = addm ((l.take k).foldl addm a) l[k] := by
  rw [List.take_add_one, List.getElem?_eq_getElem hk, List.foldl_append]; rfl
theorem sums_same {F n : Nat} {ms : List (List (List Int))} (hF : 134217728 ≤ F) (h1 : 1 ≤ n) (h2 : n ≤ 10) (h3 : 1 ≤ ms.length) (h4 : ms.length ≤ 4) (hms : ∀ m, m ∈ ms → Sq n m) :
    ∃ S, Sq n S ∧ spec_l25Sum F ms = some S ∧ impl_sumOfModes F ms = some S := by
  obtain ⟨m0, l, rfl⟩ : ∃ m0 l, ms = m0 :: l := by cases ms with | nil => simp at h3 | cons a l => exact ⟨a, l, rfl⟩
  have s0 := hms m0 (by simp)
  have hl : l.length ≤ 3 := by simp at h4; omega
  have sl : ∀ (k : Nat) (hk : k < l.length), Sq n l[k] := fun k hk => hms _ (by simp [List.getElem_mem hk])
  have i0 : idx (m0 :: l) 0 = some m0 := rfl
  have hrow : ∀ m, Sq n m → ∀ row, row ∈ m → row.length ≤ 1048576 := fun m hm row hr => by rw [hm.2 row hr]; omega
  refine ⟨l.foldl addm m0, fold_sq l m0 s0, ?_, ?_⟩
  · unfold spec_l25Sum
    rw [bind_of i0, bind_of (specOwnM_is hF (by have := s0.1; omega) (hrow _ s0))]
    have H := for_ind (L := fun q (s : List (List Int)) i => spec_l25Sum_L1 F (m0 :: l) q s (i + 1)) l.length (fun k s => s = (l.take k).foldl addm m0) (fun o => o = some (l.foldl addm m0)) ?_ ?_ l.length 0 m0 F (by omega) rfl (by omega)
    · rw [show (((0 : Nat) : Int) + 1) = 1 from rfl] at H; rw [H]; rfl
    · rintro q k s hk rfl
      have hS := fold_sq (l.take k) m0 s0
      have hx : idx (m0 :: l) ((k : Int) + 1) = some l[k] := by
        rw [show (k : Int) + 1 = ((k + 1 : Nat) : Int) by omega, idx_nat, List.getElem?_cons_succ, List.getElem?_eq_getElem hk]
      have hadd := specAdd_is (F := F) (a := (l.take k).foldl addm m0) (b := l[k]) hF (by have := hS.1; omega) (hrow _ hS) (by rw [(sl k hk).1, hS.1]) (fun i hi => by
        have e1 : ((l.take k).foldl addm m0)[i]? = some (((l.take k).foldl addm m0).getD i []) := by rw [List.getD_eq_getElem?_getD, List.getElem?_eq_getElem hi]; rfl
        have e2 : (l[k])[i]? = some ((l[k]).getD i []) := by rw [List.getD_eq_getElem?_getD, List.getElem?_eq_getElem (by rw [(sl k hk).1, ← hS.1]; exact hi)]; rfl
        rw [hS.2 _ (List.mem_of_getElem? e1), (sl k hk).2 _ (List.mem_of_getElem? e2)]; exact Nat.le_refl _)
      refine .inl ⟨_, ?_, rfl⟩
      simp only [spec_l25Sum_L1, bdT (show (k : Int) + 1 < ((m0 :: l).length : Int) by simp only [List.length_cons]; omega), hx, Option.bind_some, hadd, fold_take hk, wr (show -9223372036854775808 ≤ (k : Int) + 1 + 1 by omega) (by omega)]
      rfl
    · rintro q s rfl
      simp only [spec_l25Sum_L1, bdF (show ¬ (l.length : Int) + 1 < ((m0 :: l).length : Int) by simp only [List.length_cons]; omega), List.take_length]
  · unfold impl_sumOfModes
    have hcut : cutFrom (m0 :: l) 1 = some l := by unfold cutFrom; rw [if_pos ⟨by omega, by simp only [List.length_cons]; omega⟩]; rfl
    rw [bind_of i0, bind_of (implCloneM_is hF (by have := s0.1; omega) (hrow _ s0)), bind_of hcut]
    have H := for0 (L := impl_sumOfModes_L1 F l) (len := l.length) (fun k s => s = (l.take k).foldl addm m0) (R := fun o => o = some (l.foldl addm m0)) (s := m0) (n := F) ?_ ?_ rfl (by omega)
    · rw [H]; rfl
    · rintro q k s hk rfl
      have hS := fold_sq (l.take k) m0 s0
      have hadd := implAdd_is (F := F) (n := n) (a := (l.take k).foldl addm m0) (b := l[k]) hF (by have := hS.1; omega) (by have := hS.1; omega) (by omega) (by rw [(sl k hk).1, hS.1]) hS.2 (sl k hk).2
      refine .inl ⟨_, ?_, rfl⟩
      simp only [impl_sumOfModes_L1, bdT (show (k : Int) < (l.length : Int) by omega), idx_nat, List.getElem?_eq_getElem hk, Option.bind_some, hadd, fold_take hk, wrN (show k ≤ 67108864 by omega)]
    · rintro q s rfl
      simp only [impl_sumOfModes_L1, bdF (show ¬ (l.length : Int) < (l.length : Int) by omega), List.take_length]
def sw : Option (List Int) → Sum (List Int × Int) (List Int)
  | none => .inl ([], 3)
  | some l => .inr l
theorem apply_loop {F n : Nat} {S : List (List Int)} {N : Int} (hF : 134217728 ≤ F) (h1 : 1 ≤ n) (h2 : n ≤ 10) (hS : Sq n S) (hN : N ≤ 6) :
    ∀ (d f1 f2 : Nat) (x : List Int), (d : Int) ≤ N → d < f1 → d < f2 → x.length = n →
      ∃ o, spec_GreatestAfter_L1 F S f1 (d : Int) x = some (sw o) ∧ impl_GreatestAfter_L1 F N S f2 x (N - d) = some (sw o) ∧ ∀ l, o = some l → l.length = n := by
  intro d
  induction d with
  | zero =>
    intro f1 f2 x _ e1 e2 hx
    obtain ⟨f1, rfl⟩ : ∃ m, f1 = m + 1 := ⟨f1 - 1, by omega⟩
    obtain ⟨f2, rfl⟩ : ∃ m, f2 = m + 1 := ⟨f2 - 1, by omega⟩
    refine ⟨some x, ?_, ?_, fun l hl => by cases hl; exact hx⟩
    · simp only [spec_GreatestAfter_L1, bdF (show ¬ (0 : Int) < ((0 : Nat) : Int) by omega)]; rfl
    · simp only [impl_GreatestAfter_L1, bdF (show ¬ N - ((0 : Nat) : Int) < N by omega)]; rfl
  | succ d ih =>
    intro f1 f2 x hd e1 e2 hx
    obtain ⟨f1, rfl⟩ : ∃ m, f1 = m + 1 := ⟨f1 - 1, by omega⟩
    obtain ⟨f2, rfl⟩ : ∃ m, f2 = m + 1 := ⟨f2 - 1, by omega⟩
    have hs1 := hS.1
    have hap1 := specApply_is (F := F) (a := S) (x := x) hF (by omega) (by omega) (fun row hm => by rw [hS.2 row hm, hx])
    have hap2 := implApply_is (F := F) (a := S) (x := x) hF (by omega) (by omega) (fun row hm => by rw [hS.2 row hm, hx])
    have hal : (applyv S x).length = n := by unfold applyv; rw [List.length_map, hs1]
    have A : spec_GreatestAfter_L1 F S (f1 + 1) ((d + 1 : Nat) : Int) x = bif !(applyv S x).all valB then some (.inl ([], 3)) else spec_GreatestAfter_L1 F S f1 (d : Int) (applyv S x) := by
      simp only [spec_GreatestAfter_L1, bdT (show (0 : Int) < ((d + 1 : Nat) : Int) by omega), hap1, Option.bind_some, specVector_is (F := F) (x := applyv S x) hF (by omega), vec_all hal h1 h2, wr (show -9223372036854775808 ≤ ((d + 1 : Nat) : Int) - 1 by omega) (by omega)]
      rw [show ((d + 1 : Nat) : Int) - 1 = (d : Int) by omega]
    have B : impl_GreatestAfter_L1 F N S (f2 + 1) x (N - ((d + 1 : Nat) : Int)) = bif !(applyv S x).all valB then some (.inl ([], 3)) else impl_GreatestAfter_L1 F N S f2 (applyv S x) (N - (d : Int)) := by
      simp only [impl_GreatestAfter_L1, bdT (show N - ((d + 1 : Nat) : Int) < N by omega), hap2, Option.bind_some, implAll_is (F := F) (xs := applyv S x) hF (by omega), wr (show -9223372036854775808 ≤ N - ((d + 1 : Nat) : Int) + 1 by omega) (by omega)]
      rw [show N - ((d + 1 : Nat) : Int) + 1 = N - (d : Int) by omega]
    rw [A, B]
    cases (!(applyv S x).all valB) with
    | true => exact ⟨none, rfl, rfl, fun l hl => by cases hl⟩
    | false => exact ih f1 f2 _ (by omega) (by omega) (by omega) hal

theorem same_GreatestAfter {F : Nat} {x0 : List (List (List Int))} {x1 : List Int} {x2 : Int} (hF : 134217728 ≤ F) (h0 : x0.length ≤ 1048576) (hr : ∀ m, m ∈ x0 → ∀ row, row ∈ m → row.length ≤ 1048576) (h1 : x1.length ≤ 1048576) :
    ∃ r : List Int × Int, spec_GreatestAfter F x0 x1 x2 = some r ∧ impl_GreatestAfter F x0 x1 x2 = some r ∧ r.1.length ≤ 1048576 := by
  unfold spec_GreatestAfter impl_GreatestAfter
  simp only [specIn_is, within_is, spec_l25Code, impl_checkModes, specModes_is hF h0 hr, implModes_is hF h0 hr, specVector_is hF h1, implVector_is hF h1, Option.bind_some]
  cases hm : modesB x0 with
  | false => exact ⟨([], 1), rfl, rfl, by simp⟩
  | true =>
    cases hv : vecB x1 with
    | false => exact ⟨([], 1), rfl, rfl, by simp⟩
    | true =>
      obtain ⟨n, a0, a1, a2, a3, a4, a5⟩ := modesB_true hm
      simp only [Bool.not_true, cond_false, Option.bind_some, firstM_is (show 0 < x0.length by omega)]
      by_cases hx : (x1.length : Int) = ((x0.getD 0 []).length : Int)
      · rw [bF (neF hx), bF (neF hx)]
        cases hw : inB x2 0 6 with
        | false => exact ⟨([], 2), rfl, rfl, by simp⟩
        | true =>
          obtain ⟨n0, n6⟩ := inB_true.1 hw
          have hown : spec_l01Own F x1 = some x1 := by
            unfold spec_l01Own
            rw [app_le (by simp only [List.length_nil]; omega)]; rfl
          have hcl : slices_Clone_int64 F x1 = some x1 := by
            unfold slices_Clone_int64
            rw [app_le (by simp only [List.length_nil]; omega)]; rfl
          obtain ⟨S, hS, s1, s2⟩ := sums_same (F := F) hF a1 a2 a3 a4 a5
          obtain ⟨o, c1, c2, c3⟩ := apply_loop (F := F) (N := x2) hF a1 a2 hS n6 x2.toNat F F x1 (by omega) (by omega) (by omega) (by omega)
          rw [show ((x2.toNat : Nat) : Int) = x2 by omega] at c1
          rw [show x2 - ((x2.toNat : Nat) : Int) = 0 by omega] at c2
          simp only [Bool.not_true, cond_false, bne_self_eq_false, Option.bind_some, hown, hcl, s1, s2, c1, c2]
          cases o with
          | none => exact ⟨([], 3), rfl, rfl, by simp⟩
          | some l => exact ⟨(l, 0), rfl, rfl, by have := c3 l rfl; simp only; omega⟩
      · rw [bT (neT hx), bT (neT hx)]
        exact ⟨([], 5), rfl, rfl, by simp⟩

end Go.Proofs.Ytpmebacdmilecaa
