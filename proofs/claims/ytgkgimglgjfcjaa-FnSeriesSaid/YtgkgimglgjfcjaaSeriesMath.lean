/- The law's model answers true. -/
import Derived.Test.YtgkgimglgjfcjaaSeriesSmall
namespace Go.Proofs.Ytgkgimglgjfcjaa

theorem out_Parallel {F : Nat} {x0 x1 : GSystem} (hF : 134217728 ≤ F) (r0 : ∀ row, row ∈ x0.A → row.length ≤ 1048576) (b0 : x0.B.length ≤ 1048576) (c0 : x0.C.length ≤ 1048576) (r1 : ∀ row, row ∈ x1.A → row.length ≤ 1048576) (b1 : x1.B.length ≤ 1048576) (c1 : x1.C.length ≤ 1048576) :
    (∃ c : Int, c ≠ 0 ∧ spec_ParallelSystem F x0 x1 = some (⟨[], [], []⟩, c) ∧ impl_ParallelSystem F x0 x1 = some (⟨[], [], []⟩, c)) ∨
    (systemB x0 = true ∧ systemB x1 = true ∧ x0.A.length + x1.A.length ≤ 10 ∧ spec_ParallelSystem F x0 x1 = some (parS x0 x1, 0) ∧ impl_ParallelSystem F x0 x1 = some (parS x0 x1, 0)) := by
  unfold spec_ParallelSystem impl_ParallelSystem
  rw [specSystem_is hF r0 b0 c0, implSystem_is hF r0 b0 c0, specSystem_is hF r1 b1 c1, implSystem_is hF r1 b1 c1]
  simp only [Option.bind_some]
  cases h0 : systemB x0 with
  | false => exact .inl ⟨1, by decide, rfl, rfl⟩
  | true =>
    cases h1 : systemB x1 with
    | false => exact .inl ⟨1, by decide, rfl, rfl⟩
    | true =>
      obtain ⟨l0, a0, lb0, lc0⟩ := systemB_true h0
      obtain ⟨l1, a1, lb1, lc1⟩ := systemB_true h1
      simp only [Bool.not_true, cond_false, Option.bind_some]
      rw [wr (show -9223372036854775808 ≤ (x0.A.length : Int) + (x1.A.length : Int) by omega) (by omega)]
      by_cases hc : 10 < (x0.A.length : Int) + (x1.A.length : Int)
      · rw [bdT hc, bdT hc]
        exact .inl ⟨3, by decide, rfl, rfl⟩
      · rw [bdF hc, bdF hc]
        have hC : ∀ r, r ∈ tabM x1.A.length x0.A.length (fun _ _ => (-1000000000000000 : Int)) → r.length = x0.A.length := tabM_rows
        have hen : ∀ i j, i < x1.A.length → j < x0.A.length → impl_ParallelSystem_c1 F (i : Int) (j : Int) = some (ent (tabM x1.A.length x0.A.length fun _ _ => (-1000000000000000 : Int)) i j) := by
          intro i j hi hj
          unfold ent impl_ParallelSystem_c1
          rw [List.getD_eq_getElem?_getD, List.getD_eq_getElem?_getD, tabM_row hi, Option.getD_some, mapR_at hj, Option.getD_some]
        have hI := implBlocks_is (F := F) (A := x0.A) (B := x1.A) (C := tabM x1.A.length x0.A.length fun _ _ => -1000000000000000) (en := fun a b => impl_ParallelSystem_c1 F a b) hF (by omega) a0 a1 hen
        rw [specBotM_is hF (by omega) (by omega), Option.bind_some, specStack_is hF (by omega) a0 a1 (tabM_len _ _ _) hC, hI]
        simp only [Option.bind_some, specOwn_is b0, specOwn_is c0, app_le (show x0.B.length + x1.B.length ≤ 67108864 by omega), app_le (show x0.C.length + x1.C.length ≤ 67108864 by omega),
          concatS_is (F := F) (a := [x0.B, x1.B]) hF (by simp) (by intro r hr; simp at hr; rcases hr with rfl | rfl <;> omega), concatS_is (F := F) (a := [x0.C, x1.C]) hF (by simp) (by intro r hr; simp at hr; rcases hr with rfl | rfl <;> omega)]
        exact .inr ⟨by first | rfl | trivial, by first | rfl | trivial, by omega, rfl, by simp [parS]⟩

theorem lkS {F : Nat} {s : GSystem} (hF : 134217728 ≤ F) (ha : s.A.length ≤ 1048576) (hr : ∀ row, row ∈ s.A → row.length ≤ 1048576) (hb : s.B.length ≤ 1048576) (hc : s.C.length ≤ 1048576) : laws_likeSystems9 F s s = some true := by
  simp only [laws_likeSystems9, lkT hF ha hr, lkI hF hb, lkI hF hc, Option.bind_some, cond_true]
theorem lkB {F : Nat} {s : GSystem} (hF : 134217728 ≤ F) (hs : systemB s = true) : laws_likeSystems9 F s s = some true := by
  obtain ⟨l0, a0, lb0, lc0⟩ := systemB_true hs
  exact lkS hF (by omega) (fun row h => by rw [a0 row h]; omega) (by omega) (by omega)
theorem conv_loopS {F : Nat} {h g : List Int} {k : Nat} (hF : 134217728 ≤ F) (hk : k < 5) (hh : h.all valB = true) (hg : g.all valB = true) (hhl : h.length = 5) (hgl : g.length = 5) :
    laws_FnSeries_L5 F (h, 0) (g, 0) (k : Int) F (-1000000000000000) 0 = some (mx (k + 1) fun m => ta (h.getD m 0) (g.getD (k - m) 0)) := by
  refine for0 (L := fun n (a : Int) i => laws_FnSeries_L5 F (h, 0) (g, 0) (k : Int) n a i) (len := k + 1) (fun m a => a = mx m fun m => ta (h.getD m 0) (g.getD (k - m) 0)) (R := fun o => o = some (mx (k + 1) fun m => ta (h.getD m 0) (g.getD (k - m) 0))) (s := -1000000000000000) (n := F) ?_ ?_ rfl (by omega)
  · rintro n m a hm rfl
    have e1 := getD_of (show m < h.length by omega)
    have e2 := getD_of (show k - m < g.length by omega)
    have o1 := all_okw hh (show m < h.length by omega)
    have o2 := all_okw hg (show k - m < g.length by omega)
    have hw : IntKind.i64.wrap ((k : Int) - (m : Int)) = ((k - m : Nat) : Int) := by rw [wr (by omega) (by omega)]; omega
    have hb := mx_bot (fun m => ta (h.getD m 0) (g.getD (k - m) 0)) m
    refine .inl ⟨_, ?_, rfl⟩
    rw [mx_succ]
    simp only [laws_FnSeries_L5, bdT (show (m : Int) ≤ (k : Int) by omega), idx_nat, e1, hw, e2, Option.bind_some, wrN (show m ≤ 67108864 by omega)]
    by_cases h1 : h.getD m 0 = -1000000000000000
    · rw [bF (neF h1), Option.bind_some, cond_false, h1, ta_botl, show max (mx m fun m => ta (h.getD m 0) (g.getD (k - m) 0)) (-1000000000000000) = mx m fun m => ta (h.getD m 0) (g.getD (k - m) 0) by omega]
    · rw [bT (neT h1), Option.bind_some]
      by_cases h2 : g.getD (k - m) 0 = -1000000000000000
      · rw [bF (neF h2), h2, ta_botr, show max (mx m fun m => ta (h.getD m 0) (g.getD (k - m) 0)) (-1000000000000000) = mx m fun m => ta (h.getD m 0) (g.getD (k - m) 0) by omega]
      · rw [bT (neT h2), ta_fin h1 h2]
        unfold Okw at o1 o2
        rw [wr (n := h.getD m 0 + g.getD (k - m) 0) (by omega) (by omega)]
  · rintro n a rfl
    simp only [laws_FnSeries_L5, bdF (show ¬ ((k + 1 : Nat) : Int) ≤ (k : Int) by omega)]

theorem law_Series {F : Nat} {x0 : List Int} (hF0 : 9223372036854775808 ≤ F) (_ : x0.length ≤ 9223372036854775807) (hb : ∀ y, y ∈ x0 → 0 ≤ y ∧ y ≤ 255) : laws_FnSeries F x0 = some true := by
  have hF : 134217728 ≤ F := by omega
  unfold laws_FnSeries laws_big
  by_cases hbig : (4096 : Int) < (x0.length : Int)
  · simp only [Option.bind_some, dT hbig, cond_true]
  simp only [Option.bind_some, dF hbig, cond_false]
  have hc : COk x0 := ⟨by omega, hb⟩
  obtain ⟨⟨s, t⟩, hd1, a0, a1, a2, b0, b1, b2⟩ : Tot (fun r : GSystem × GSystem => (∀ row, row ∈ r.1.A → row.length ≤ 1048576) ∧ r.1.B.length ≤ 2000 ∧ r.1.C.length ≤ 2000 ∧ (∀ row, row ∈ r.2.A → row.length ≤ 1048576) ∧ r.2.B.length ≤ 2000 ∧ r.2.C.length ≤ 2000) (spec_DrawSeriesSystem F x0) := by
    unfold spec_DrawSeriesSystem
    refine Tot.bind (from_tot hF hc) fun r2 h2 => Tot.bind (drawSystem_tot hF hc h2) fun r5 h5 => Tot.bind (drawSystem_tot hF hc h5.1) fun r6 h6 => ?_
    exact Tot.pure ⟨fun row hrow => by have := h5.2.2.1 row hrow; omega, h5.2.2.2.1, h5.2.2.2.2, fun row hrow => by have := h6.2.2.1 row hrow; omega, h6.2.2.2.1, h6.2.2.2.2⟩
  simp only at a0 a1 a2 b0 b1 b2
  have es : GSystem.mk s.A s.B s.C = s := rfl
  have et : GSystem.mk t.A t.B t.C = t := rfl
  have hnil : laws_likeSystems9 F ⟨[], [], []⟩ ⟨[], [], []⟩ = some true := lkS hF (by simp) (by simp) (by simp) (by simp)
  obtain ⟨S, c1, p1, p2, p3, p4⟩ : ∃ S c1, spec_SeriesSystem F s t = some (S, c1) ∧ impl_SeriesSystem F s t = some (S, c1) ∧ laws_likeSystems9 F S S = some true ∧ (c1 = 0 → S = serS s t ∧ systemB s = true ∧ systemB t = true ∧ s.A.length + t.A.length ≤ 10 ∧ systemB (serS s t) = true) := by
    rcases out_Series (F := F) (s := s) (t := t) hF a0 (by omega) (by omega) b0 (by omega) (by omega) with ⟨c, h0, h1, h2⟩ | ⟨g1, g2, hl, _, _, hs, h1, h2⟩
    · exact ⟨_, _, h1, h2, hnil, fun h => absurd h h0⟩
    · exact ⟨_, _, h1, h2, lkB hF hs, fun _ => ⟨rfl, g1, g2, hl, hs⟩⟩
  obtain ⟨P, c2, q1, q2, q3, q4⟩ : ∃ P c2, spec_ParallelSystem F s t = some (P, c2) ∧ impl_ParallelSystem F s t = some (P, c2) ∧ laws_likeSystems9 F P P = some true ∧ (c2 = 0 → P = parS s t) := by
    rcases out_Parallel (F := F) (x0 := s) (x1 := t) hF a0 (by omega) (by omega) b0 (by omega) (by omega) with ⟨c, h0, h1, h2⟩ | ⟨g1, g2, hl, h1, h2⟩
    · exact ⟨_, _, h1, h2, hnil, fun h => absurd h h0⟩
    · exact ⟨_, _, h1, h2, lkB hF (par_system g1 g2 hl), fun _ => rfl⟩
  have eS : GSystem.mk S.A S.B S.C = S := rfl
  have eP : GSystem.mk P.A P.B P.C = P := rfl
  simp only [hd1, Option.bind_some, es, et, eS, eP, p1, p2, q1, q2, bne_self_eq_false, cond_false, p3, q3, Bool.not_true]
  by_cases hc1 : c1 = 0
  · by_cases hc2 : c2 = 0
    · rw [bF (neF hc1), Option.bind_some, neF hc2, cond_false]
      obtain ⟨rfl, hs, ht, hl, hS⟩ := p4 hc1
      obtain rfl := q4 hc2
      have hP := par_system hs ht hl
      obtain ⟨l0, A0, lb0, lc0⟩ := systemB_true hS
      obtain ⟨m0, B0, mb0, mc0⟩ := systemB_true hP
      have w1 : impl_ResponseOf F s 5 = some ([], 3) ∨ (impl_ResponseOf F s 5 = some (respV s 5, 0) ∧ ∀ j, j < 5 → (bmV s j).all valB = true ∧ valB (outV s (bmV s j)) = true) := implResp_is (n := 5) hF hs (by omega) (by omega) (by omega) a0
      have w2 : impl_ResponseOf F t 5 = some ([], 3) ∨ (impl_ResponseOf F t 5 = some (respV t 5, 0) ∧ ∀ j, j < 5 → (bmV t j).all valB = true ∧ valB (outV t (bmV t j)) = true) := implResp_is (n := 5) hF ht (by omega) (by omega) (by omega) b0
      have w3 : impl_ResponseOf F (serS s t) 5 = some ([], 3) ∨ (impl_ResponseOf F (serS s t) 5 = some (respV (serS s t) 5, 0) ∧ ∀ j, j < 5 → (bmV (serS s t) j).all valB = true ∧ valB (outV (serS s t) (bmV (serS s t) j)) = true) := implResp_is (n := 5) hF hS (by omega) (by omega) (by omega) (fun row h => by rw [A0 row h]; omega)
      have w4 : impl_ResponseOf F (parS s t) 5 = some ([], 3) ∨ (impl_ResponseOf F (parS s t) 5 = some (respV (parS s t) 5, 0) ∧ ∀ j, j < 5 → (bmV (parS s t) j).all valB = true ∧ valB (outV (parS s t) (bmV (parS s t) j)) = true) := implResp_is (n := 5) hF hP (by omega) (by omega) (by omega) (fun row h => by rw [B0 row h]; omega)
      rcases w1 with w1 | ⟨w1, f1⟩ <;> rcases w2 with w2 | ⟨w2, f2⟩ <;> rcases w3 with w3 | ⟨w3, f3⟩ <;> rcases w4 with w4 | ⟨w4, f4⟩ <;> rw [w1, w2, w3, w4]
      all_goals first | rfl | skip
      have ok1 : (respV s 5).all valB = true := all_of fun i hi => by
        rw [respV_len] at hi
        rw [respV_at hi]; exact okw_val (f1 i hi).2
      have ok2 : (respV t 5).all valB = true := all_of fun i hi => by
        rw [respV_len] at hi
        rw [respV_at hi]; exact okw_val (f2 i hi).2
      have L4 : laws_FnSeries_L4 F (respV s 5, 0) (respV t 5, 0) (respV (serS s t) 5, 0) (respV (parS s t) 5, 0) F 0 = some (.inr ()) := by
        refine same_loop (len := 5) (L := laws_FnSeries_L4 F (respV s 5, 0) (respV t 5, 0) (respV (serS s t) 5, 0) (respV (parS s t) 5, 0)) ?_ ?_ (by omega)
        · intro n k hk
          have hcl := conv_loopS (F := F) (h := respV s 5) (g := respV t 5) hF hk ok1 ok2 (respV_len _ _) (respV_len _ _)
          have e1 := getD_of (show k < (respV s 5).length by rw [respV_len]; exact hk)
          have e2 := getD_of (show k < (respV t 5).length by rw [respV_len]; exact hk)
          have e3 := getD_of (show k < (respV (serS s t) 5).length by rw [respV_len]; exact hk)
          have e4 := getD_of (show k < (respV (parS s t) 5).length by rw [respV_len]; exact hk)
          rw [respV_at hk] at e1 e2 e3 e4
          rw [ser_out hs ht hS f1 (fun m hm => (f2 m hm).1) (fun m hm => (f3 m hm).1) hk] at e3
          rw [par_out hs ht hl (fun m hm => (f1 m hm).1) (fun m hm => (f2 m hm).1) hk] at e4
          have e5 : (mx (k + 1) fun m => ta ((respV s 5).getD m 0) ((respV t 5).getD (k - m) 0)) = mx (k + 1) fun m => ta (outV s (bmV s m)) (outV t (bmV t (k - m))) := mx_congr fun m hm => by rw [respV_at (by omega), respV_at (by omega)]
          rw [e5] at hcl
          simp only [laws_FnSeries_L4, bdT (show (k : Int) < 5 by omega), hcl, Option.bind_some, idx_nat, e1, e2, e3, e4, bne_self_eq_false, cond_false, wrN (show k ≤ 67108864 by omega)]
        · intro n
          simp only [laws_FnSeries_L4, bdF (show ¬ (((5 : Nat) : Int)) < 5 by omega)]
      simp only [Option.bind_some, bne_self_eq_false, cond_false, L4]
    · rw [bF (neF hc1), Option.bind_some, neT hc2, cond_true]
  · rw [bT (neT hc1), Option.bind_some, cond_true]

end Go.Proofs.Ytgkgimglgjfcjaa
