/- The law's model answers true. -/
import Derived.Test.YtgkgimglgjfcjaaOutputsSmall
namespace Go.Proofs.Ytgkgimglgjfcjaa

theorem same_OutputsOf {F : Nat} {x0 : GSystem} {x1 x2 : List Int} (hF : 134217728 ≤ F) (hr : ∀ row, row ∈ x0.A → row.length ≤ 1048576) (hB : x0.B.length ≤ 1048576) (hC : x0.C.length ≤ 1048576) (h1 : x1.length ≤ 1048576) (h2 : x2.length ≤ 1048576) :
    ∃ r : List Int × Int, spec_OutputsOf F x0 x1 x2 = some r ∧ impl_OutputsOf F x0 x1 x2 = some r ∧ r.1.length ≤ 1048576 := by
  unfold spec_OutputsOf impl_OutputsOf
  rw [bind_of (specRunCode_is hF hr hB hC h1 h2), bind_of (implRunCode_is hF hr hB hC h1 h2)]
  cases hok : runOk x0 x1 x2 with
  | false => exact ⟨([], 1), rfl, rfl, by simp⟩
  | true =>
    obtain ⟨o, e1, e2, e3⟩ := run_same hF hok
    simp only [cond_true, bne_self_eq_false, cond_false, e1, e2, Option.bind_some]
    cases o with
    | none => exact ⟨([], 3), rfl, rfl, by simp⟩
    | some p => exact ⟨(p.2, 0), rfl, rfl, by have := e3 p rfl; simp only; omega⟩

theorem same_StateAfter {F : Nat} {x0 : GSystem} {x1 x2 : List Int} (hF : 134217728 ≤ F) (hr : ∀ row, row ∈ x0.A → row.length ≤ 1048576) (hB : x0.B.length ≤ 1048576) (hC : x0.C.length ≤ 1048576) (h1 : x1.length ≤ 1048576) (h2 : x2.length ≤ 1048576) :
    ∃ r : List Int × Int, spec_StateAfter F x0 x1 x2 = some r ∧ impl_StateAfter F x0 x1 x2 = some r ∧ r.1.length ≤ 1048576 := by
  unfold spec_StateAfter impl_StateAfter
  rw [bind_of (specRunCode_is hF hr hB hC h1 h2), bind_of (implRunCode_is hF hr hB hC h1 h2)]
  cases hok : runOk x0 x1 x2 with
  | false => exact ⟨([], 1), rfl, rfl, by simp⟩
  | true =>
    obtain ⟨o, e1, e2, e3⟩ := run_same hF hok
    simp only [cond_true, bne_self_eq_false, cond_false, e1, e2, Option.bind_some]
    cases o with
    | none => exact ⟨([], 3), rfl, rfl, by simp⟩
    | some p =>
      have hp := (e3 p rfl).1
      refine ⟨(p.1, 0), ?_, rfl, by simp only; omega⟩
      simp only [Bool.not_true, cond_false, specOwn_is (show p.1.length ≤ 1048576 by omega), Option.bind_some]

theorem resp_same {F : Nat} {s : GSystem} {n : Int} (hF : 134217728 ≤ F) (hr : ∀ row, row ∈ s.A → row.length ≤ 1048576) (hB : s.B.length ≤ 1048576) (hC : s.C.length ≤ 1048576) :
    ∃ r : List Int × Int, spec_ResponseOf F s n = some r ∧ impl_ResponseOf F s n = some r ∧ r.1.length ≤ 1048576 := by
  unfold spec_ResponseOf impl_ResponseOf
  rw [bind_of (specSystem_is hF hr hB hC), bind_of (implSystem_is hF hr hB hC)]
  cases hs : systemB s with
  | false => exact ⟨([], 1), rfl, rfl, by simp⟩
  | true =>
    simp only [Bool.not_true, cond_false, specIn_is, within_is, Option.bind_some]
    cases hi : inB n 0 50 with
    | false => exact ⟨([], 2), rfl, rfl, by simp⟩
    | true =>
      obtain ⟨a1, a2, a3, a4⟩ := systemB_true hs
      obtain ⟨n0, n1⟩ := inB_true.1 hi
      have hcl : slices_Clone_int64 F s.B = some s.B := by
        unfold slices_Clone_int64
        rw [app_le (by simp only [List.length_nil]; omega)]; rfl
      obtain ⟨o, h1, h2, h3⟩ := resp_loop (F := F) (s := s) (n := n) hF n1 a1 a2 a4 n.toNat 0 F F [] s.B s.B (by omega) (by omega) (by omega) rfl a3 a3 (.inl ⟨rfl, rfl⟩)
      simp only [Bool.not_true, cond_false, spec_l24Response, impl_responseOf, hcl, Option.bind_some]
      rw [show ((0 : Nat) : Int) = 0 from rfl] at h1 h2
      rw [h1, h2]
      cases o with
      | none => exact ⟨([], 3), rfl, rfl, by simp⟩
      | some l => exact ⟨(l, 0), rfl, rfl, by have := (h3 l rfl).1; simp only; omega⟩

theorem outputs_is {F : Nat} {s : GSystem} {x us : List Int} (hF : 134217728 ≤ F) (hr : ∀ row, row ∈ s.A → row.length ≤ 1048576) (hB : s.B.length ≤ 1048576) (hC : s.C.length ≤ 1048576) (h1 : x.length ≤ 1048576) (h2 : us.length ≤ 1048576) (hok : runOk s x us = true) :
    impl_OutputsOf F s x us = some ((runF s x us).elim ([], 3) fun p => (p.2, 0)) := by
  unfold impl_OutputsOf
  rw [bind_of (implRunCode_is hF hr hB hC h1 h2), hok, implRun_is hF hok]
  cases runF s x us <;> rfl
theorem state_is {F : Nat} {s : GSystem} {x us : List Int} (hF : 134217728 ≤ F) (hr : ∀ row, row ∈ s.A → row.length ≤ 1048576) (hB : s.B.length ≤ 1048576) (hC : s.C.length ≤ 1048576) (h1 : x.length ≤ 1048576) (h2 : us.length ≤ 1048576) (hok : runOk s x us = true) :
    impl_StateAfter F s x us = some ((runF s x us).elim ([], 3) fun p => (p.1, 0)) := by
  unfold impl_StateAfter
  rw [bind_of (implRunCode_is hF hr hB hC h1 h2), hok, implRun_is hF hok]
  cases runF s x us <;> rfl
theorem outputs_no {F : Nat} {s : GSystem} {x us : List Int} (hF : 134217728 ≤ F) (hr : ∀ row, row ∈ s.A → row.length ≤ 1048576) (hB : s.B.length ≤ 1048576) (hC : s.C.length ≤ 1048576) (h1 : x.length ≤ 1048576) (h2 : us.length ≤ 1048576) (hok : runOk s x us = false) : impl_OutputsOf F s x us = some ([], 1) := by
  unfold impl_OutputsOf
  rw [bind_of (implRunCode_is hF hr hB hC h1 h2), hok]; rfl
theorem runOk_of {s : GSystem} {x us : List Int} (hs : systemB s = true) (hv : x.all valB = true) (hl : x.length = s.A.length) (hu : us.length ≤ 50) (hua : us.all valB = true) : runOk s x us = true := by
  obtain ⟨n1, n10, _⟩ := system_ent hs
  unfold runOk vecB
  simp only [Bool.and_eq_true, beq_iff_eq, decide_eq_true_eq]
  exact ⟨⟨⟨⟨hs, inB_true.2 ⟨by omega, by omega⟩, hv⟩, by omega⟩, hu⟩, hua⟩

/-! ### The law's loops -/
theorem nothing_loop {F : Nat} {r4 : GSystem × List Int × List Int} (hF : 134217728 ≤ F) (hl : r4.2.1.length ≤ 1000) : laws_FnOutputs_L1 F r4 F [] 0 = some (List.replicate r4.2.1.length (-1000000000000000)) := by
  have H := tab_loop (len := r4.2.1.length) (f := fun _ => (-1000000000000000 : Int)) (L := laws_FnOutputs_L1 F r4) (n := F) ?_ ?_ (by omega)
  · rw [H]
    refine congrArg some ?_
    apply List.ext_getElem?; intro i
    rw [List.getElem?_map, List.getElem?_replicate]
    by_cases hi : i < r4.2.1.length
    · rw [List.getElem?_range hi, if_pos hi]; rfl
    · rw [List.getElem?_eq_none (by simpa using hi), if_neg hi]; rfl
  · intro n xs k hk hx
    simp only [laws_FnOutputs_L1, bdT (show (k : Int) < (r4.2.1.length : Int) by omega), app_le (show xs.length + [(-1000000000000000 : Int)].length ≤ 67108864 by simp; omega), Option.bind_some, wrN (show k ≤ 67108864 by omega)]
  · intro n xs _
    simp only [laws_FnOutputs_L1, bdF (show ¬ (r4.2.1.length : Int) < (r4.2.1.length : Int) by omega)]
theorem conv_loop {F : Nat} {s : GSystem} {x us h : List Int} {k : Nat} (hF : 134217728 ≤ F) (hk : k < us.length) (hu : us.length ≤ 50) (hul : us.all valB = true) (hh : h.all valB = true) (hhl : h.length = us.length) :
    laws_FnOutputs_L6 F (s, x, us) (h, 0) (k : Int) F (-1000000000000000) 0 = some (mx (k + 1) fun m => ta (h.getD m 0) (us.getD (k - m) 0)) := by
  refine for0 (L := fun n (a : Int) i => laws_FnOutputs_L6 F (s, x, us) (h, 0) (k : Int) n a i) (len := k + 1) (fun m a => a = mx m fun m => ta (h.getD m 0) (us.getD (k - m) 0)) (R := fun o => o = some (mx (k + 1) fun m => ta (h.getD m 0) (us.getD (k - m) 0))) (s := -1000000000000000) (n := F) ?_ ?_ rfl (by omega)
  · rintro n m a hm rfl
    have e1 := getD_of (show m < h.length by omega)
    have e2 := getD_of (show k - m < us.length by omega)
    have o1 := all_okw hh (show m < h.length by omega)
    have o2 := all_okw hul (show k - m < us.length by omega)
    have hw : IntKind.i64.wrap ((k : Int) - (m : Int)) = ((k - m : Nat) : Int) := by rw [wr (by omega) (by omega)]; omega
    have hb := mx_bot (fun m => ta (h.getD m 0) (us.getD (k - m) 0)) m
    refine .inl ⟨_, ?_, rfl⟩
    rw [mx_succ]
    simp only [laws_FnOutputs_L6, bdT (show (m : Int) ≤ (k : Int) by omega), idx_nat, e1, hw, e2, Option.bind_some, wrN (show m ≤ 67108864 by omega)]
    by_cases h1 : h.getD m 0 = -1000000000000000
    · rw [bF (neF h1), Option.bind_some, cond_false, h1, ta_botl, show max (mx m fun m => ta (h.getD m 0) (us.getD (k - m) 0)) (-1000000000000000) = mx m fun m => ta (h.getD m 0) (us.getD (k - m) 0) by omega]
    · rw [bT (neT h1), Option.bind_some]
      by_cases h2 : us.getD (k - m) 0 = -1000000000000000
      · rw [bF (neF h2), h2, ta_botr, show max (mx m fun m => ta (h.getD m 0) (us.getD (k - m) 0)) (-1000000000000000) = mx m fun m => ta (h.getD m 0) (us.getD (k - m) 0) by omega]
      · rw [bT (neT h2), ta_fin h1 h2]
        unfold Okw at o1 o2
        rw [wr (n := h.getD m 0 + us.getD (k - m) 0) (by omega) (by omega)]
  · rintro n a rfl
    simp only [laws_FnOutputs_L6, bdF (show ¬ ((k + 1 : Nat) : Int) ≤ (k : Int) by omega)]

theorem law_Outputs {F : Nat} {x0 : List Int} (hF0 : 9223372036854775808 ≤ F) (_ : x0.length ≤ 9223372036854775807) (hb : ∀ y, y ∈ x0 → 0 ≤ y ∧ y ≤ 255) : laws_FnOutputs F x0 = some true := by
  have hF : 134217728 ≤ F := by omega
  unfold laws_FnOutputs laws_big
  by_cases hbig : (4096 : Int) < (x0.length : Int)
  · simp only [Option.bind_some, dT hbig, cond_true]
  simp only [Option.bind_some, dF hbig, cond_false]
  have hc : COk x0 := ⟨by omega, hb⟩
  obtain ⟨⟨s, x, us⟩, hd1, a0, a1, a2, a3, a4⟩ : Tot (fun r : GSystem × List Int × List Int => (∀ row, row ∈ r.1.A → row.length ≤ 1048576) ∧ r.1.B.length ≤ 2000 ∧ r.1.C.length ≤ 2000 ∧ r.2.1.length ≤ 2000 ∧ r.2.2.length ≤ 2000) (spec_DrawOutputsOf F x0) := by
    unfold spec_DrawOutputsOf
    refine Tot.bind (from_tot hF hc) fun r2 h2 => Tot.bind (drawSystem_tot hF hc h2) fun r5 h5 => Tot.bind (next_tot hc h5.1) fun r21 h21 => ?_
    have hA := h5.2.1
    refine Tot.bind (P := fun n : Int => 0 ≤ n ∧ n ≤ 1500) (Tot.cond (fun _ => Tot.pure (by rw [wr (by omega) (by omega)]; omega)) fun _ => Tot.pure (by omega)) fun n hn => ?_
    exact Tot.bind (drawVec_tot hF hc h21.1 hn.1 hn.2) fun r40 h40 => Tot.bind (drawInputs_tot hF hc h40.1) fun r46 h46 => Tot.pure ⟨fun row hrow => by have := h5.2.2.1 row hrow; omega, h5.2.2.2.1, h5.2.2.2.2, h40.2, h46.2⟩
  obtain ⟨⟨t, n⟩, hd2, b0, b1, b2⟩ : Tot (fun r : GSystem × Int => (∀ row, row ∈ r.1.A → row.length ≤ 1048576) ∧ r.1.B.length ≤ 2000 ∧ r.1.C.length ≤ 2000) (spec_DrawResponseOf F x0) := by
    unfold spec_DrawResponseOf
    refine Tot.bind (from_tot hF hc) fun r2 h2 => Tot.bind (drawSystem_tot hF hc h2) fun r5 h5 => Tot.bind (next_tot hc h5.1) fun r21 h21 => Tot.cond (fun _ => ?_) fun _ => ?_
    · exact Tot.bind (pick_tot hc h21.1 (by simp)) fun r h => Tot.pure ⟨fun row hrow => by have := h5.2.2.1 row hrow; omega, h5.2.2.2.1, h5.2.2.2.2⟩
    · exact Tot.bind (next_tot hc h21.1) fun r h => Tot.pure ⟨fun row hrow => by have := h5.2.2.1 row hrow; omega, h5.2.2.2.1, h5.2.2.2.2⟩
  simp only at a0 a1 a2 a3 a4 b0 b1 b2
  have es : GSystem.mk s.A s.B s.C = s := rfl
  have et : GSystem.mk t.A t.B t.C = t := rfl
  obtain ⟨⟨y, c1⟩, p1, p2, p3⟩ := same_OutputsOf (F := F) (x0 := s) (x1 := x) (x2 := us) hF a0 (by omega) (by omega) (by omega) (by omega)
  obtain ⟨⟨z, c2⟩, q1, q2, q3⟩ := same_StateAfter (F := F) (x0 := s) (x1 := x) (x2 := us) hF a0 (by omega) (by omega) (by omega) (by omega)
  obtain ⟨⟨h, c3⟩, r1, r2, r3⟩ := resp_same (F := F) (s := t) (n := n) hF b0 (by omega) (by omega)
  simp only at p3 q3 r3
  simp only [hd1, hd2, Option.bind_some, es, et, p1, p2, q1, q2, r1, r2, bne_self_eq_false, cond_false, lkI hF p3, lkI hF q3, lkI hF r3, Bool.not_true, specSystem_is hF a0 (show s.B.length ≤ 1048576 by omega) (show s.C.length ≤ 1048576 by omega), implSystem_is hF a0 (show s.B.length ≤ 1048576 by omega) (show s.C.length ≤ 1048576 by omega)]
  by_cases hc1 : c1 = 0
  · by_cases hc2 : c2 = 0
    · rw [bF (neF hc1), Option.bind_some, neF hc2, cond_false]
      subst hc1 hc2
      cases hok : runOk s x us with
      | false =>
        have := outputs_no (F := F) hF a0 (by omega) (by omega) (by omega) (by omega) hok
        rw [p2] at this
        simp at this
      | true =>
        obtain ⟨hs, hxv, hxl, hul, hua⟩ := runOk_true hok
        have hxa : x.all valB = true := by unfold vecB at hxv; rw [Bool.and_eq_true] at hxv; exact hxv.2
        obtain ⟨n1, n10, _, _, _, _⟩ := system_ent hs
        obtain ⟨_, _, hBl, _⟩ := systemB_true hs
        have hs1 := outputs_is (F := F) hF a0 (by omega) (by omega) (by omega) (by omega) hok
        have hs2 := state_is (F := F) hF a0 (by omega) (by omega) (by omega) (by omega) hok
        rw [p2] at hs1
        rw [q2] at hs2
        cases hrun : runF s x us with
        | none => rw [hrun] at hs1; simp at hs1
        | some pr =>
          rw [hrun] at hs1 hs2
          simp only [Option.elim_some, Option.some.injEq, Prod.mk.injEq, and_true] at hs1 hs2
          obtain ⟨⟨i0, h0⟩, hro, hi0⟩ := roll_tot (F := F) (code := x0) (seed := 2401) hF hc
          simp only at hi0
          subst hi0
          have hwl : IntKind.i64.wrap ((us.length : Int) + 1) = (us.length : Int) + 1 := wr (by omega) (by omega)
          obtain ⟨⟨pt, j, h'⟩, hbe, v0, v1, v2, v3⟩ := below_tot (F := F) (h := h0) (i := 0) (n := (us.length : Int) + 1) hc (by decide) (by omega) (by omega)
          simp only at v0 v1
          obtain ⟨d, rfl⟩ : ∃ d : Nat, pt = (d : Int) := ⟨pt.toNat, by omega⟩
          have hct : cutTo us (d : Int) = some (us.take d) := by
            unfold cutTo; rw [if_pos ⟨by omega, by omega⟩]; rfl
          have hcf : cutFrom us (d : Int) = some (us.drop d) := by
            unfold cutFrom; rw [if_pos ⟨by omega, by omega⟩]; rfl
          have hsplit := runF_app s (us.take d) (us.drop d) x
          rw [List.take_append_drop, hrun] at hsplit
          have hta : (us.take d).all valB = true := by rw [List.all_eq_true] at hua ⊢; exact fun y hy => hua y (List.mem_of_mem_take hy)
          have hda : (us.drop d).all valB = true := by rw [List.all_eq_true] at hua ⊢; exact fun y hy => hua y (List.mem_of_mem_drop hy)
          have hok1 : runOk s x (us.take d) = true := runOk_of hs hxa hxl (by rw [List.length_take]; omega) hta
          have m1 := state_is (F := F) (s := s) (x := x) (us := us.take d) hF a0 (by omega) (by omega) (by omega) (by rw [List.length_take]; omega) hok1
          cases hrun1 : runF s x (us.take d) with
          | none => rw [hrun1] at hsplit; cases hsplit
          | some pa =>
            rw [hrun1] at hsplit m1
            simp only [Option.bind_some] at hsplit
            obtain ⟨_, w2, w3, _⟩ := runF_some hBl _ _ _ hrun1 hxa hxl
            have hok2 : runOk s pa.1 (us.drop d) = true := runOk_of hs w2 w3 (by rw [List.length_drop]; omega) hda
            have m2 := state_is (F := F) (s := s) (x := pa.1) (us := us.drop d) hF a0 (by omega) (by omega) (by omega) (by rw [List.length_drop]; omega) hok2
            cases hrun2 : runF s pa.1 (us.drop d) with
            | none => rw [hrun2] at hsplit; cases hsplit
            | some pb =>
              rw [hrun2] at hsplit m2
              simp only [Option.map_some, Option.some.injEq] at hsplit
              have hz : pb.1 = z := by rw [hs2, hsplit]
              simp only [Option.elim_some] at m1 m2
              simp only [hro, Option.bind_some, hwl, hbe, hct, m1, hcf, m2, hz, bne_self_eq_false, cond_false, lkI hF q3, Bool.not_true, nothing_loop (F := F) (r4 := (s, x, us)) hF (by simp only; omega)]
              rw [hxl]
              have hbot : (List.replicate s.A.length (-1000000000000000 : Int)).all valB = true := by
                rw [List.all_eq_true]; intro y hy; rw [(List.mem_replicate.1 hy).2]; rfl
              have hok3 : runOk s (List.replicate s.A.length (-1000000000000000)) us = true := runOk_of hs hbot (by simp) hul hua
              have m3 := outputs_is (F := F) (s := s) (x := List.replicate s.A.length (-1000000000000000)) (us := us) hF a0 (by omega) (by omega) (by simp; omega) (by omega) hok3
              rw [m3]
              have m4 := implResp_is (F := F) (s := s) (n := us.length) hF hs hul (by omega) (by omega) a0
              cases hrun3 : runF s (List.replicate s.A.length (-1000000000000000)) us with
              | none =>
                rcases m4 with m4 | ⟨m4, _⟩
                · rw [m4]; rfl
                · rw [m4]; rfl
              | some pc =>
                rcases m4 with m4 | ⟨m4, m5⟩
                · rw [m4]; rfl
                · rw [m4]
                  simp only [Option.elim_some, Option.bind_some, bne_self_eq_false, cond_false]
                  obtain ⟨_, _, _, t4, t5⟩ := runF_some hBl _ _ _ hrun3 hbot (by simp)
                  have hcvs : ∀ k, k < us.length → ((us.take k).foldl (nextV s) (List.replicate s.A.length (-1000000000000000))).all valB = true := fun k hk => by
                    cases k with
                    | zero => exact hbot
                    | succ k => exact (t5 k (by omega)).2.1
                  have hha : ((List.range us.length).map fun j => outV s (bmV s j)).all valB = true := by
                    rw [List.all_eq_true]; intro y hy
                    rw [List.mem_map] at hy
                    obtain ⟨j, hj, rfl⟩ := hy
                    exact (m5 j (by simpa using hj)).2
                  have L5 : laws_FnOutputs_L5 F (s, x, us) (pc.2, 0) ((List.range us.length).map fun j => outV s (bmV s j), 0) F 0 = some (.inr ()) := by
                    refine same_loop (len := us.length) (L := laws_FnOutputs_L5 F (s, x, us) (pc.2, 0) ((List.range us.length).map fun j => outV s (bmV s j), 0)) ?_ ?_ (by omega)
                    · intro n k hk
                      have hcl := conv_loop (F := F) (s := s) (x := x) (us := us) (h := (List.range us.length).map fun j => outV s (bmV s j)) hF hk hul hua hha (by simp)
                      have hco := conv_out hs hua (fun m hm => (m5 m hm).1) hcvs hk (t5 k hk).2.1
                      have e1 := getD_of (show k < pc.2.length by omega)
                      have e2 : (mx (k + 1) fun m => ta (((List.range us.length).map fun j => outV s (bmV s j)).getD m 0) (us.getD (k - m) 0)) = pc.2.getD k 0 := by
                        rw [(t5 k hk).1, hco]
                        exact mx_congr fun m hm => by rw [List.getD_eq_getElem?_getD, tabM_at (show m < us.length by omega)]; rfl
                      simp only [laws_FnOutputs_L5, t4, bdT (show (k : Int) < (us.length : Int) by omega), hcl, Option.bind_some, idx_nat, e1, e2, bne_self_eq_false, cond_false, wrN (show k ≤ 67108864 by omega)]
                    · intro n
                      simp only [laws_FnOutputs_L5, t4, bdF (show ¬ (us.length : Int) < (us.length : Int) by omega)]
                  rw [L5]; rfl
    · rw [bF (neF hc1), Option.bind_some, neT hc2, cond_true]
  · rw [bT (neT hc1), Option.bind_some, cond_true]

end Go.Proofs.Ytgkgimglgjfcjaa
