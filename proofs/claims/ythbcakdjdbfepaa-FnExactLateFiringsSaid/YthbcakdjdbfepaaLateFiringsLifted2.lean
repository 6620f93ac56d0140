/- The functions do what their models say. -/
import Derived.Test.YthbcakdjdbfepaaLateFiringsLifted1
import Derived.Test.YthbcakdjdbfepaaRows
namespace Go.Proofs.Ythbcakdjdbfepaa
open Go.RowKit

set_option maxRecDepth 100000 in
theorem spec_l13Times_ok (F : Nat) (p0 : GEventGraph) (A_p0_1 : Option Addr) (n_p0_1 c_p0_1 : Nat) (hn_p0_1 : n_p0_1 = p0.Places.length) (p1 : Int) (p2 : List Int) (A_p2_1 : Option Addr) (n_p2_1 c_p2_1 : Nat) (hn_p2_1 : n_p2_1 = p2.length) (r : List (List Int)) (W : World) (hm : spec_l13Times F p0 p1 p2 = some r) (h_p0_1 : Rd W A_p0_1 ((recs GPlace.cells) p0.Places)) (h_p2_1 : Rd W A_p2_1 (ints p2)) :
    Calls Try.prog 70 [.agg #[.int .i64 p0.Events, .slice A_p0_1 n_p0_1 c_p0_1], .int .i64 p1, .slice A_p2_1 n_p2_1 c_p2_1].toArray W fun e w' => ∃ v, e = .returned v ∧ ∃ A3647, ∃ n3648, ∃ c3649, ∃ vs3651, v = .slice A3647 n3648 c3649 ∧ n3648 = r.length ∧ St [] W w' [.mat A3647 n3648 c3649 25 2 vs3651 r] := by
  subst hn_p0_1
  subst hn_p2_1
  unfold spec_l13Times at hm
  refine Calls.enter (N := 86) Try.func70 rfl rfl rfl (fun a hf => ?_)
  have hs := St.start W
  obtain ⟨w, hw_⟩ : ∃ w, w = W := ⟨W, rfl⟩
  clear hw_ w
  refine wpL_seq ?_
  refine wpL_region ?_
  refine sBox hf hs rfl rfl rfl rfl rfl (cs := [.int .i64 p0.Events, .slice A_p0_1 p0.Places.length c_p0_1]) rfl ?_; clear hf hs; intro a w b1 hs hf
  have hs : St [] W w [.blk b1 34 [.int .i64 p0.Events, .slice A_p0_1 p0.Places.length c_p0_1]] := hs
  refine sY hf hs rfl rfl rfl (Y_assign rfl rfl) ?_; clear hf; intro a hf
  refine wpO_nil ?_
  refine wpL_seq ?_
  refine wpL_region ?_
  refine sY hf hs rfl rfl rfl (Y_load_blkS rfl rfl (i := 0) rfl ag34 ti34 rfl) ?_; clear hf; intro a hf
  obtain ⟨r2, hc3, hm⟩ := bind_some hm
  refine sCall hf rfl rfl rfl rfl (cap := []) rfl rfl en108 (spec_l12Order_ok F p0 A_p0_1 p0.Places.length c_p0_1 rfl _ _ hc3 (h_p0_1.at hs)) ?_; clear hf
  rintro _ w ⟨A4, n5, c6, rfl, hn7, hs1⟩ a hf
  have hs : St [] W w [.blk b1 34 [.int .i64 p0.Events, .slice A_p0_1 p0.Places.length c_p0_1], .row A4 n5 c6 2 1 (ints r2)] := hs.join hs1
  clear hs1
  refine sY hf hs rfl rfl rfl (Y_assign rfl rfl) ?_; clear hf; intro a hf
  refine wpO_nil ?_
  refine wpL_seq ?_
  refine wpL_region ?_
  refine sEmptyM 2 hf hs rfl rfl rfl rfl el41 ti25 rfl ?_; clear hf hs; intro a w A8 hs hf
  have hs : St [] W w [.blk b1 34 [.int .i64 p0.Events, .slice A_p0_1 p0.Places.length c_p0_1], .row A4 n5 c6 2 1 (ints r2), .mat A8 0 0 25 2 [] []] := hs
  refine sY hf hs rfl rfl rfl (Y_assign rfl rfl) ?_; clear hf; intro a hf
  refine wpO_nil ?_
  refine wpL_seq ?_
  refine wpL_seq ?_
  refine wpL_region ?_
  refine sY hf hs rfl rfl rfl (Y_assign rfl rfl) ?_; clear hf; intro a hf
  refine wpO_nil ?_
  obtain ⟨r2740, hl2741, hm⟩ := bind_some hm
  refine wpL_block (fun a w => ∃ ms2734 : List (List Int), ∃ A2735, ∃ n2736, ∃ c2737, ∃ vs2739, ms2734 = r2740 ∧ n2736 = ms2734.length ∧ Fr a 86 [(8, .slice A2735 n2736 c2737)] ∧ St [] W w [.mat A2735 n2736 c2737 25 2 vs2739 ms2734]) ?_ ?_
  · refine wpL_loop (fun n a w => ∃ ms1824 : List (List Int), ∃ x1830 : Int, ∃ A1825, ∃ n1826, ∃ c1827, ∃ vs1829, spec_l13Times_L16 F p0 p1 p2 r2 n ms1824 x1830 = some r2740 ∧ n1826 = ms1824.length ∧ Fr a 86 [(1, .int .i64 p1), (2, .slice A_p2_1 p2.length c_p2_1), (3, .pointer (some ⟨b1, 0, none⟩)), (7, .slice A4 n5 c6), (8, .slice A1825 n1826 c1827), (9, .int .i64 x1830)] ∧ St [] W w [.blk b1 34 [.int .i64 p0.Events, .slice A_p0_1 p0.Places.length c_p0_1], .row A4 n5 c6 2 1 (ints r2), .mat A1825 n1826 c1827 25 2 vs1829 ms1824]) F ?_ ?_ ?_
    · exact ⟨[], 1, A8, 0, 0, [], hl2741, rfl, (Fr.pick (Fr.pick (Fr.pick (Fr.pick (Fr.pick (Fr.pick hf.none hf rfl) hf rfl) hf rfl) hf rfl) hf rfl) hf rfl), hs⟩
    · rintro a w ⟨ms1824, x1830, A1825, n1826, c1827, vs1829, h0_, -, -, -⟩; simp [spec_l13Times_L16] at h0_
    · rintro n2743 a w ⟨ms1824, x1830, A1825, n1826, c1827, vs1829, hm2742, hn1828, hf, hs⟩
      rw [spec_l13Times_L16] at hm2742
      refine wpL_seq ?_
      refine wpL_seq ?_
      refine wpL_region ?_
      refine sY hf hs rfl rfl rfl (Y_move rfl rfl) ?_; clear hf; intro a hf
      refine sY hf hs rfl rfl rfl (Y_move rfl rfl) ?_; clear hf; intro a hf
      refine sY hf hs rfl rfl rfl (Y_leq rfl rfl rfl) ?_; clear hf; intro a hf
      refine wpO_nil ?_
      refine wpL_cond hf rfl (fun hb2744 => ?_) (fun hb2744 => ?_)
      · have hm2742 := bif_t hm2742 hb2744
        refine wpL_skip ?_
        refine wpL_seq ?_
        refine wpL_block0 ?_
        refine wpL_seq ?_
        refine wpL_region ?_
        refine sY hf hs rfl rfl rfl (Y_move rfl rfl) ?_; clear hf; intro a hf
        obtain ⟨r2745, hc2746, hm2742⟩ := bind_some hm2742
        refine sCall hf rfl rfl rfl rfl (cap := []) rfl rfl en109 (spec_l01Own_ok F p2 A_p2_1 p2.length c_p2_1 rfl _ _ hc2746 (h_p2_1.at hs)) ?_; clear hf
        rintro _ w ⟨A2747, n2748, c2749, rfl, hn2750, hs1⟩ a hf
        have hs : St [] W w [.blk b1 34 [.int .i64 p0.Events, .slice A_p0_1 p0.Places.length c_p0_1], .row A4 n5 c6 2 1 (ints r2), .mat A1825 n1826 c1827 25 2 vs1829 ms1824, .row A2747 n2748 c2749 2 1 (ints r2745)] := hs.join hs1
        clear hs1
        refine sY hf hs rfl rfl rfl (Y_assign rfl rfl) ?_; clear hf; intro a hf
        refine wpO_nil ?_
        refine wpL_seq ?_
        refine wpL_region ?_
        refine sY hf hs rfl rfl rfl (Y_move rfl rfl) ?_; clear hf; intro a hf
        refine sY hf hs rfl rfl rfl (Y_move rfl rfl) ?_; clear hf; intro a hf
        refine sOneM (j := 3) hf hs rfl rfl rfl rfl rfl rfl hn2750 el41 ti25 ?_; clear hf hs; intro a w A2751 hs hf
        have hs : St [] W w [.blk b1 34 [.int .i64 p0.Events, .slice A_p0_1 p0.Places.length c_p0_1], .row A4 n5 c6 2 1 (ints r2), .mat A1825 n1826 c1827 25 2 vs1829 ms1824, .mat A2751 1 1 25 2 ([.slice A2747 r2745.length c2749]) ([r2745])] := hs
        obtain ⟨ms2755, ha2756, hm2742⟩ := bind_some hm2742
        refine sAppendM (i := 2) (j := 3) hf hs rfl rfl rfl rfl rfl rfl hn1828 rfl (by decide) rfl rfl (by decide) ha2756 el41 ti25 rfl ?_; clear hf hs; intro a w A2753 c2754 hs hf
        have hs : St [] W w [.blk b1 34 [.int .i64 p0.Events, .slice A_p0_1 p0.Places.length c_p0_1], .row A4 n5 c6 2 1 (ints r2), .mat A2753 ms2755.length c2754 25 2 (vs1829 ++ ([.slice A2747 r2745.length c2749])) ms2755] := hs
        obtain ⟨hq2757, hv2758⟩ := hs.appended (i := 2) rfl ha2756
        refine sY hf hs rfl rfl rfl (Y_assign rfl rfl) ?_; clear hf; intro a hf
        refine wpO_nil ?_
        refine wpL_seq ?_
        refine wpL_region ?_
        refine sY hf hs rfl rfl rfl (Y_assign rfl rfl) ?_; clear hf; intro a hf
        refine wpO_nil ?_
        obtain ⟨r3426, hl3427, hm2742⟩ := bind_some hm2742
        refine wpL_block (fun a w => ∃ ms3424 : List (List Int), ms3424 = r3426 ∧ ms2755.length = ms3424.length ∧ Fr a 86 [(1, .int .i64 p1), (2, .slice A_p2_1 p2.length c_p2_1), (3, .pointer (some ⟨b1, 0, none⟩)), (7, .slice A4 n5 c6), (8, .slice A2753 ms2755.length c2754), (9, .int .i64 x1830)] ∧ St [] W w [.blk b1 34 [.int .i64 p0.Events, .slice A_p0_1 p0.Places.length c_p0_1], .row A4 n5 c6 2 1 (ints r2), .mat A2753 ms2755.length c2754 25 2 (vs1829 ++ ([.slice A2747 r2745.length c2749])) ms3424]) ?_ ?_
        · refine wpL_loop (fun n a w => ∃ ms3200 : List (List Int), ∃ x3202 : Int, ∃ xs3203 : List Int, spec_l13Times_L20 F p0 r2 ms1824 x1830 n ms3200 x3202 xs3203 = some r3426 ∧ ms2755.length = ms3200.length ∧ n2748 = xs3203.length ∧ ms3200[(ms1824.length : Int).toNat]? = some xs3203 ∧ (vs1829 ++ ([.slice A2747 r2745.length c2749]))[(ms1824.length : Int).toNat]? = some (Value.slice A2747 xs3203.length c2749) ∧ Fr a 86 [(1, .int .i64 p1), (2, .slice A_p2_1 p2.length c_p2_1), (3, .pointer (some ⟨b1, 0, none⟩)), (7, .slice A4 n5 c6), (8, .slice A2753 ms2755.length c2754), (9, .int .i64 x1830), (10, .slice A2747 n2748 c2749), (11, .int .i64 x3202)] ∧ St [] W w [.blk b1 34 [.int .i64 p0.Events, .slice A_p0_1 p0.Places.length c_p0_1], .row A4 n5 c6 2 1 (ints r2), .mat A2753 ms2755.length c2754 25 2 (vs1829 ++ ([.slice A2747 r2745.length c2749])) ms3200]) F ?_ ?_ ?_
          · exact ⟨ms2755, 0, r2745, hl3427, rfl, hn2750, hq2757, hv2758, (Fr.pick (Fr.pick (Fr.pick (Fr.pick (Fr.pick (Fr.pick (Fr.pick (Fr.pick hf.none hf rfl) hf rfl) hf rfl) hf rfl) hf rfl) hf rfl) hf rfl) hf rfl), hs⟩
          · rintro a w ⟨ms3200, x3202, xs3203, h0_, -, -, -, -, -, -⟩; simp [spec_l13Times_L20] at h0_
          · rintro n3429 a w ⟨ms3200, x3202, xs3203, hm3428, hn3201, hn3204, hq3205, hv3206, hf, hs⟩
            rw [spec_l13Times_L20] at hm3428
            refine wpL_seq ?_
            refine wpL_seq ?_
            refine wpL_region ?_
            refine sY hf hs rfl rfl rfl (Y_move rfl rfl) ?_; clear hf; intro a hf
            refine sY hf hs rfl rfl rfl (Y_move rfl rfl) ?_; clear hf; intro a hf
            refine sY hf hs rfl rfl rfl (Y_lenH rfl rfl el25 hn7) ?_; clear hf; intro a hf
            refine sY hf hs rfl rfl rfl (Y_lss rfl rfl rfl) ?_; clear hf; intro a hf
            refine wpO_nil ?_
            refine wpL_cond hf rfl (fun hb3430 => ?_) (fun hb3430 => ?_)
            · have hm3428 := bif_t hm3428 hb3430
              refine wpL_skip ?_
              refine wpL_seq ?_
              refine wpL_block0 ?_
              refine wpL_seq ?_
              refine wpL_region ?_
              refine sY hf hs rfl rfl rfl (Y_assign rfl rfl) ?_; clear hf; intro a hf
              refine wpO_nil ?_
              obtain ⟨r3595, hl3596, hm3428⟩ := bind_some hm3428
              refine wpL_block (fun a w => ∃ ms3589 : List (List Int), ∃ xs3591 : List Int, (ms3589, xs3591) = r3595 ∧ ms2755.length = ms3589.length ∧ n2748 = xs3591.length ∧ ms3589[(ms1824.length : Int).toNat]? = some xs3591 ∧ (vs1829 ++ ([.slice A2747 r2745.length c2749]))[(ms1824.length : Int).toNat]? = some (Value.slice A2747 xs3591.length c2749) ∧ Fr a 86 [(1, .int .i64 p1), (2, .slice A_p2_1 p2.length c_p2_1), (3, .pointer (some ⟨b1, 0, none⟩)), (7, .slice A4 n5 c6), (8, .slice A2753 ms2755.length c2754), (9, .int .i64 x1830), (10, .slice A2747 n2748 c2749), (11, .int .i64 x3202)] ∧ St [] W w [.blk b1 34 [.int .i64 p0.Events, .slice A_p0_1 p0.Places.length c_p0_1], .row A4 n5 c6 2 1 (ints r2), .mat A2753 ms2755.length c2754 25 2 (vs1829 ++ ([.slice A2747 r2745.length c2749])) ms3589]) ?_ ?_
              · refine wpL_loop (fun n a w => ∃ ms3534 : List (List Int), ∃ x3536 : Int, ∃ xs3537 : List Int, spec_l13Times_L21 F p0 r2 ms1824 x1830 x3202 n ms3534 x3536 xs3537 = some r3595 ∧ ms2755.length = ms3534.length ∧ n2748 = xs3537.length ∧ ms3534[(ms1824.length : Int).toNat]? = some xs3537 ∧ (vs1829 ++ ([.slice A2747 r2745.length c2749]))[(ms1824.length : Int).toNat]? = some (Value.slice A2747 xs3537.length c2749) ∧ Fr a 86 [(1, .int .i64 p1), (2, .slice A_p2_1 p2.length c_p2_1), (3, .pointer (some ⟨b1, 0, none⟩)), (7, .slice A4 n5 c6), (8, .slice A2753 ms2755.length c2754), (9, .int .i64 x1830), (10, .slice A2747 n2748 c2749), (11, .int .i64 x3202), (12, .int .i64 x3536)] ∧ St [] W w [.blk b1 34 [.int .i64 p0.Events, .slice A_p0_1 p0.Places.length c_p0_1], .row A4 n5 c6 2 1 (ints r2), .mat A2753 ms2755.length c2754 25 2 (vs1829 ++ ([.slice A2747 r2745.length c2749])) ms3534]) F ?_ ?_ ?_
                · exact ⟨ms3200, 0, xs3203, hl3596, hn3201, hn3204, hq3205, hv3206, (Fr.pick (Fr.pick (Fr.pick (Fr.pick (Fr.pick (Fr.pick (Fr.pick (Fr.pick (Fr.pick hf.none hf rfl) hf rfl) hf rfl) hf rfl) hf rfl) hf rfl) hf rfl) hf rfl) hf rfl), hs⟩
                · rintro a w ⟨ms3534, x3536, xs3537, h0_, -, -, -, -, -, -⟩; simp [spec_l13Times_L21] at h0_
                · rintro n3598 a w ⟨ms3534, x3536, xs3537, hm3597, hn3535, hn3538, hq3539, hv3540, hf, hs⟩
                  rw [spec_l13Times_L21] at hm3597
                  refine wpL_seq ?_
                  refine wpL_seq ?_
                  refine wpL_region ?_
                  refine sY hf hs rfl rfl rfl (Y_move rfl rfl) ?_; clear hf; intro a hf
                  refine sY hf hs rfl rfl rfl (Y_fieldAddr rfl rfl fo34_1) ?_; clear hf; intro a hf
                  refine sY hf hs rfl rfl rfl (Y_load_blk rfl rfl (i := 0) rfl rfl ag32) ?_; clear hf; intro a hf
                  refine sY hf hs rfl rfl rfl (Y_lenH rfl rfl el32 rfl) ?_; clear hf; intro a hf
                  refine sY hf hs rfl rfl rfl (Y_lss rfl rfl rfl) ?_; clear hf; intro a hf
                  refine wpO_nil ?_
                  refine wpL_cond hf rfl (fun hb3599 => ?_) (fun hb3599 => ?_)
                  · have hm3597 := bif_t hm3597 hb3599
                    refine wpL_skip ?_
                    refine wpL_seq ?_
                    refine wpL_block0 ?_
                    refine wpL_seq ?_
                    refine wpL_region ?_
                    refine sY hf hs rfl rfl rfl (Y_fieldAddr rfl rfl fo34_1) ?_; clear hf; intro a hf
                    refine sY hf hs rfl rfl rfl (Y_load_blk rfl rfl (i := 0) rfl rfl ag32) ?_; clear hf; intro a hf
                    refine sY hf hs rfl rfl rfl (Y_move rfl rfl) ?_; clear hf; intro a hf
                    obtain ⟨q3600, hi3601, hm3597⟩ := bind_some hm3597
                    obtain ⟨hi3601a, hi3601b, hi3601q⟩ := idx_some hi3601
                    refine sY hf hs rfl rfl rfl (Y_index rfl rfl rfl el32 ti71 (Rd.isAt (h_p0_1.at hs) (recs_at (s := 4) GPlace.len hi3601q (j := 0) rfl)) hi3601a hi3601b) ?_; clear hf; intro a hf
                    refine sY hf hs rfl rfl rfl (Y_load_rdS rfl rfl (us := [.int .i64 q3600.From, .int .i64 q3600.To, .int .i64 q3600.Delay, .int .i64 q3600.Tokens]) (fun w hs => h_p0_1.at hs) (fun j u hj => recs_at (s := 4) GPlace.len hi3601q hj) (Nat.succ_pos _) ag71 ti71 rfl) ?_; clear hf; intro a hf
                    refine sAlloc hf hs rfl rfl rfl rfl ti71 ?_; clear hf hs; intro a w b3602 hs hf
                    have hs : St [] W w [.blk b1 34 [.int .i64 p0.Events, .slice A_p0_1 p0.Places.length c_p0_1], .row A4 n5 c6 2 1 (ints r2), .mat A2753 ms2755.length c2754 25 2 (vs1829 ++ ([.slice A2747 r2745.length c2749])) ms3534, .blk b3602 71 [.int .i64 0, .int .i64 0, .int .i64 0, .int .i64 0]] := hs
                    refine sStore (i := 3) (us := [.int .i64 q3600.From, .int .i64 q3600.To, .int .i64 q3600.Delay, .int .i64 q3600.Tokens]) hf hs rfl rfl rfl rfl rfl rfl ti71 rfl rfl rfl (Nat.le_of_ble_eq_true rfl) rfl ?_; clear hs; intro w hs
                    have hs : St [] W w [.blk b1 34 [.int .i64 p0.Events, .slice A_p0_1 p0.Places.length c_p0_1], .row A4 n5 c6 2 1 (ints r2), .mat A2753 ms2755.length c2754 25 2 (vs1829 ++ ([.slice A2747 r2745.length c2749])) ms3534, .blk b3602 71 [.int .i64 q3600.From, .int .i64 q3600.To, .int .i64 q3600.Delay, .int .i64 q3600.Tokens]] := hs
                    refine wpO_nil ?_
                    refine wpL_seq ?_
                    obtain ⟨r3607, hj3608, hm3597⟩ := bind_some hm3597
                    refine wpL_cut (fun a w => ∃ b3606 : Bool, b3606 = r3607 ∧ Fr a 86 [(1, .int .i64 p1), (2, .slice A_p2_1 p2.length c_p2_1), (3, .pointer (some ⟨b1, 0, none⟩)), (7, .slice A4 n5 c6), (8, .slice A2753 ms2755.length c2754), (9, .int .i64 x1830), (10, .slice A2747 n2748 c2749), (11, .int .i64 x3202), (12, .int .i64 x3536), (13, .pointer (some ⟨b3602, 0, none⟩)), (59, .bool b3606)] ∧ St [] W w [.blk b1 34 [.int .i64 p0.Events, .slice A_p0_1 p0.Places.length c_p0_1], .row A4 n5 c6 2 1 (ints r2), .mat A2753 ms2755.length c2754 25 2 (vs1829 ++ ([.slice A2747 r2745.length c2749])) ms3534, .blk b3602 71 [.int .i64 q3600.From, .int .i64 q3600.To, .int .i64 q3600.Delay, .int .i64 q3600.Tokens]]) ?_ ?_
                    · refine wpL_draw (by kernel_rfl) (by kernel_rfl) hs ?_
                      refine qY hf rfl rfl rfl (Y_fieldAddr rfl rfl fo71_1) ?_; clear hf; intro a hf
                      refine qY hf rfl rfl rfl (Y_load_blk rfl rfl (i := 3) rfl rfl ag2) ?_; clear hf; intro a hf
                      refine qY hf rfl rfl rfl (Y_move rfl rfl) ?_; clear hf; intro a hf
                      refine qY hf rfl rfl rfl (Y_move rfl rfl) ?_; clear hf; intro a hf
                      obtain ⟨q3609, hi3610, hj3608⟩ := bind_some hj3608
                      obtain ⟨hi3610a, hi3610b, hi3610q⟩ := idx_some hi3610
                      refine qY hf rfl rfl rfl (Y_index rfl rfl rfl el25 ti2 (Rd.isAt (hs.rd (i := 1) rfl) (at1 (ints_at hi3610q))) hi3610a (ltn hn7 hi3610b)) ?_; clear hf; intro a hf
                      refine qY hf rfl rfl rfl (Y_load_rd rfl rfl (fun w hs => hs.rd (i := 1) rfl) (at1 (ints_at hi3610q)) ag2) ?_; clear hf; intro a hf
                      refine qY hf rfl rfl rfl (Y_eql rfl rfl rfl) ?_; clear hf; intro a hf
                      refine qY hf rfl rfl rfl (Y_move rfl rfl) ?_; clear hf; intro a hf
                      refine bsplit (q3600.To == q3609) (fun hb3611 => ?_) (fun hb3611 => ?_)
                      · have hj3608 := bif_t hj3608 hb3611
                        refine qYg hf rfl rfl rfl (congrArg (fun b => some (Value.bool b)) hb3611) rfl rfl rfl (Y_move rfl rfl) ?_; clear hf; intro a hf
                        refine qYg hf rfl rfl rfl (congrArg (fun b => some (Value.bool b)) hb3611) rfl rfl rfl (Y_fieldAddr rfl rfl fo71_3) ?_; clear hf; intro a hf
                        refine qYg hf rfl rfl rfl (congrArg (fun b => some (Value.bool b)) hb3611) rfl rfl rfl (Y_load_blk rfl rfl (i := 3) rfl rfl ag2) ?_; clear hf; intro a hf
                        refine qYg hf rfl rfl rfl (congrArg (fun b => some (Value.bool b)) hb3611) rfl rfl rfl (Y_sub rfl rfl rfl) ?_; clear hf; intro a hf
                        refine qYg hf rfl rfl rfl (congrArg (fun b => some (Value.bool b)) hb3611) rfl rfl rfl (Y_geq rfl rfl rfl) ?_; clear hf; intro a hf
                        refine qY hf rfl rfl rfl (Y_pickT rfl (congrArg (fun b => some (Value.bool b)) hb3611) rfl) ?_; clear hf; intro a hf
                        refine qNil ?_; clear hs; intro w hs
                        refine wpL_nil (then_normal ?_)
                        exact ⟨(decide (1 ≤ (IntKind.i64.wrap (x1830 - q3600.Tokens)))), Option.some.inj hj3608, (Fr.pick (Fr.pick (Fr.pick (Fr.pick (Fr.pick (Fr.pick (Fr.pick (Fr.pick (Fr.pick (Fr.pick (Fr.pick hf.none hf rfl) hf rfl) hf rfl) hf rfl) hf rfl) hf rfl) hf rfl) hf rfl) hf rfl) hf rfl) hf rfl), hs⟩
                      · have hj3608 := bif_f hj3608 hb3611
                        refine qNo hf rfl rfl rfl (congrArg (fun b => some (Value.bool b)) hb3611) rfl rfl rfl ?_; clear hf; intro a hf
                        refine qNo hf rfl rfl rfl (congrArg (fun b => some (Value.bool b)) hb3611) rfl rfl rfl ?_; clear hf; intro a hf
                        refine qNo hf rfl rfl rfl (congrArg (fun b => some (Value.bool b)) hb3611) rfl rfl rfl ?_; clear hf; intro a hf
                        refine qNo hf rfl rfl rfl (congrArg (fun b => some (Value.bool b)) hb3611) rfl rfl rfl ?_; clear hf; intro a hf
                        refine qNo hf rfl rfl rfl (congrArg (fun b => some (Value.bool b)) hb3611) rfl rfl rfl ?_; clear hf; intro a hf
                        refine qY hf rfl rfl rfl (Y_pickF rfl (congrArg (fun b => some (Value.bool b)) hb3611) rfl) ?_; clear hf; intro a hf
                        refine qNil ?_; clear hs; intro w hs
                        refine wpL_nil (then_normal ?_)
                        exact ⟨false, Option.some.inj hj3608, (Fr.pick (Fr.pick (Fr.pick (Fr.pick (Fr.pick (Fr.pick (Fr.pick (Fr.pick (Fr.pick (Fr.pick (Fr.pick hf.none hf rfl) hf rfl) hf rfl) hf rfl) hf rfl) hf rfl) hf rfl) hf rfl) hf rfl) hf rfl) hf rfl), hs⟩
                    · rintro a w ⟨b3606, hr_, hf, hs⟩
                      subst hr_
                      try dsimp only at hm3597
                      refine wpL_cond hf rfl (fun hb3612 => ?_) (fun hb3612 => ?_)
                      · have hm3597 := bif_t hm3597 hb3612
                        refine wpL_drawG [.blk b1 34 [.int .i64 p0.Events, .slice A_p0_1 p0.Places.length c_p0_1], .row A4 n5 c6 2 1 (ints r2), .mat A2753 ms2755.length c2754 25 2 (vs1829 ++ ([.slice A2747 r2745.length c2749])) ms3534, .blk b3602 71 [.int .i64 q3600.From, .int .i64 q3600.To, .int .i64 q3600.Delay, .int .i64 q3600.Tokens]] 25 (by kernel_rfl) hs ?_; clear hs; intro w hs
                        have hs0 : St [] W w [.blk b1 34 [.int .i64 p0.Events, .slice A_p0_1 p0.Places.length c_p0_1], .row A4 n5 c6 2 1 (ints r2), .mat A2753 ms2755.length c2754 25 2 (vs1829 ++ ([.slice A2747 r2745.length c2749])) ms3534, .blk b3602 71 [.int .i64 q3600.From, .int .i64 q3600.To, .int .i64 q3600.Delay, .int .i64 q3600.Tokens]] := hs
                        refine gY (i := 0) [] rfl (by kernel_rfl) (by kernel_rfl) hf hs0 rfl rfl rfl (Y_move rfl rfl) ?_; clear hf; intro a hf
                        refine gY (i := 1) [] rfl (by kernel_rfl) (by kernel_rfl) hf hs0 rfl rfl rfl (Y_fieldAddr rfl rfl fo71_1) ?_; clear hf; intro a hf
                        refine gY (i := 2) [] rfl (by kernel_rfl) (by kernel_rfl) hf hs0 rfl rfl rfl (Y_load_blk rfl rfl (i := 3) rfl rfl ag2) ?_; clear hf; intro a hf
                        refine gY (i := 3) [] rfl (by kernel_rfl) (by kernel_rfl) hf hs0 rfl rfl rfl (Y_move rfl rfl) ?_; clear hf; intro a hf
                        refine gY (i := 4) [] rfl (by kernel_rfl) (by kernel_rfl) hf hs0 rfl rfl rfl (Y_fieldAddr rfl rfl fo71_1) ?_; clear hf; intro a hf
                        refine gY (i := 5) [] rfl (by kernel_rfl) (by kernel_rfl) hf hs0 rfl rfl rfl (Y_load_blk rfl rfl (i := 3) rfl rfl ag2) ?_; clear hf; intro a hf
                        obtain ⟨q3630, hi3631, hm3597⟩ := bind_some hm3597
                        obtain ⟨hi3631a, hi3631b, hi3631q⟩ := idx_some hi3631
                        refine gY (i := 6) [] rfl (by kernel_rfl) (by kernel_rfl) hf hs0 rfl rfl rfl (Y_index rfl rfl rfl el25 ti2 (Rd.isAt (hs0.rdRow (i := 2) rfl ⟨hq3539, hv3540⟩) (at1 (ints_at hi3631q))) hi3631a (ltn hn3538 hi3631b)) ?_; clear hf; intro a hf
                        refine gY (i := 7) [] rfl (by kernel_rfl) (by kernel_rfl) hf hs0 rfl rfl rfl (Y_load_rd rfl rfl (fun w hs => hs.rdRow (i := 2) rfl ⟨hq3539, hv3540⟩) (at1 (ints_at hi3631q)) ag2) ?_; clear hf; intro a hf
                        refine gY (i := 8) [] rfl (by kernel_rfl) (by kernel_rfl) hf hs0 rfl rfl rfl (Y_move rfl rfl) ?_; clear hf; intro a hf
                        refine gY (i := 9) [] rfl (by kernel_rfl) (by kernel_rfl) hf hs0 rfl rfl rfl (Y_move rfl rfl) ?_; clear hf; intro a hf
                        refine gY (i := 10) [] rfl (by kernel_rfl) (by kernel_rfl) hf hs0 rfl rfl rfl (Y_fieldAddr rfl rfl fo71_3) ?_; clear hf; intro a hf
                        refine gY (i := 11) [] rfl (by kernel_rfl) (by kernel_rfl) hf hs0 rfl rfl rfl (Y_load_blk rfl rfl (i := 3) rfl rfl ag2) ?_; clear hf; intro a hf
                        refine gY (i := 12) [] rfl (by kernel_rfl) (by kernel_rfl) hf hs0 rfl rfl rfl (Y_sub rfl rfl rfl) ?_; clear hf; intro a hf
                        refine gY (i := 13) [] rfl (by kernel_rfl) (by kernel_rfl) hf hs0 rfl rfl rfl (Y_sub rfl rfl rfl) ?_; clear hf; intro a hf
                        obtain ⟨q3632, hi3633, hm3597⟩ := bind_some hm3597
                        obtain ⟨hi3633a, hi3633b, hi3633q⟩ := idx_some hi3633
                        obtain ⟨A3634, c3635, hv3636⟩ := hs0.matRow (i := 2) rfl hi3633q
                        refine gY (i := 14) [] rfl (by kernel_rfl) (by kernel_rfl) hf hs0 rfl rfl rfl (Y_index rfl rfl rfl el41 ti25 (Rd.isAt (hs0.rdV (i := 2) rfl) hv3636) hi3633a (ltn hn3535 hi3633b)) ?_; clear hf; intro a hf
                        refine gY (i := 15) [] rfl (by kernel_rfl) (by kernel_rfl) hf hs0 rfl rfl rfl (Y_load_rd rfl rfl (fun w hs => hs.rdV (i := 2) rfl) (at1 hv3636) ag25) ?_; clear hf; intro a hf
                        refine gY (i := 16) [] rfl (by kernel_rfl) (by kernel_rfl) hf hs0 rfl rfl rfl (Y_fieldAddr rfl rfl fo71_0) ?_; clear hf; intro a hf
                        refine gY (i := 17) [] rfl (by kernel_rfl) (by kernel_rfl) hf hs0 rfl rfl rfl (Y_load_blk rfl rfl (i := 3) rfl rfl ag2) ?_; clear hf; intro a hf
                        obtain ⟨q3637, hi3638, hm3597⟩ := bind_some hm3597
                        obtain ⟨hi3638a, hi3638b, hi3638q⟩ := idx_some hi3638
                        refine gY (i := 18) [] rfl (by kernel_rfl) (by kernel_rfl) hf hs0 rfl rfl rfl (Y_index rfl rfl rfl el25 ti2 (Rd.isAt (hs0.rdRow (i := 2) rfl ⟨hi3633q, hv3636⟩) (at1 (ints_at hi3638q))) hi3638a hi3638b) ?_; clear hf; intro a hf
                        refine gY (i := 19) [] rfl (by kernel_rfl) (by kernel_rfl) hf hs0 rfl rfl rfl (Y_load_rd rfl rfl (fun w hs => hs.rdRow (i := 2) rfl ⟨hi3633q, hv3636⟩) (at1 (ints_at hi3638q)) ag2) ?_; clear hf; intro a hf
                        refine gY (i := 20) [] rfl (by kernel_rfl) (by kernel_rfl) hf hs0 rfl rfl rfl (Y_fieldAddr rfl rfl fo71_2) ?_; clear hf; intro a hf
                        refine gY (i := 21) [] rfl (by kernel_rfl) (by kernel_rfl) hf hs0 rfl rfl rfl (Y_load_blk rfl rfl (i := 3) rfl rfl ag2) ?_; clear hf; intro a hf
                        refine gY (i := 22) [] rfl (by kernel_rfl) (by kernel_rfl) hf hs0 rfl rfl rfl (Y_add rfl rfl rfl) ?_; clear hf; intro a hf
                        refine gY (i := 23) [] rfl (by kernel_rfl) (by kernel_rfl) hf hs0 rfl rfl rfl (Y_max rfl rfl rfl) ?_; clear hf; intro a hf
                        obtain ⟨q3639, hi3640, hm3597⟩ := bind_some hm3597
                        obtain ⟨hi3640a, hi3640b, hi3640q⟩ := idx_some hi3640
                        refine gY (i := 24) [] rfl (by kernel_rfl) (by kernel_rfl) hf hs0 rfl rfl rfl (Y_index rfl rfl rfl el25 ti2 (Rd.isAt (hs0.rdRow (i := 2) rfl ⟨hq3539, hv3540⟩) (at1 (ints_at hi3640q))) hi3640a (ltn hn3538 hi3640b)) ?_; clear hf; intro a hf
                        refine gRun (i := 25) rfl (by kernel_rfl) ?_
                        obtain ⟨xs3641, hu3643, hm3597⟩ := bind_some hm3597
                        obtain ⟨ms3642, hu3644, hm3597⟩ := bind_some hm3597
                        refine sStoreM (i := 2) (k := (ms1824.length : Int)) hf hs rfl rfl rfl rfl rfl rfl hq3539 hv3540 rfl hu3643 hu3644 ti2 ?_; clear hs; intro w hs
                        obtain ⟨hq3645, hv3646⟩ := rowUpd hu3643 hu3644 hv3540
                        have hs : St [] W w [.blk b1 34 [.int .i64 p0.Events, .slice A_p0_1 p0.Places.length c_p0_1], .row A4 n5 c6 2 1 (ints r2), .mat A2753 ms2755.length c2754 25 2 (vs1829 ++ ([.slice A2747 r2745.length c2749])) ms3642, .blk b3602 71 [.int .i64 q3600.From, .int .i64 q3600.To, .int .i64 q3600.Delay, .int .i64 q3600.Tokens]] := hs
                        refine wpO_nil ⟨Or.inl rfl, ?_⟩
                        refine gDone (by kernel_rfl) ?_
                        clear hs0
                        refine wpL_nil (Qb_normal ?_)
                        refine wpL_region ?_
                        refine sY hf hs rfl rfl rfl (Y_move rfl rfl) ?_; clear hf; intro a hf
                        refine sY hf hs rfl rfl rfl (Y_add rfl rfl rfl) ?_; clear hf; intro a hf
                        refine sY hf hs rfl rfl rfl (Y_assign rfl rfl) ?_; clear hf; intro a hf
                        refine wpO_nil ?_
                        refine wpL_nil (Ql_normal ?_)
                        exact ⟨ms3642, (IntKind.i64.wrap (x3536 + 1)), xs3641, hm3597, ((hn3535).trans (upd_len hu3644).symm), ((hn3538).trans (upd_len hu3643).symm), hq3645, hv3646, (Fr.pick (Fr.pick (Fr.pick (Fr.pick (Fr.pick (Fr.pick (Fr.pick (Fr.pick (Fr.pick hf.none hf rfl) hf rfl) hf rfl) hf rfl) hf rfl) hf rfl) hf rfl) hf rfl) hf rfl), hs.sel [0, 1, 2] (by decide)⟩
                      · have hm3597 := bif_f hm3597 hb3612
                        refine wpL_skip ?_
                        refine wpL_nil (Qb_normal ?_)
                        refine wpL_region ?_
                        refine sY hf hs rfl rfl rfl (Y_move rfl rfl) ?_; clear hf; intro a hf
                        refine sY hf hs rfl rfl rfl (Y_add rfl rfl rfl) ?_; clear hf; intro a hf
                        refine sY hf hs rfl rfl rfl (Y_assign rfl rfl) ?_; clear hf; intro a hf
                        refine wpO_nil ?_
                        refine wpL_nil (Ql_normal ?_)
                        exact ⟨ms3534, (IntKind.i64.wrap (x3536 + 1)), xs3537, hm3597, hn3535, hn3538, hq3539, hv3540, (Fr.pick (Fr.pick (Fr.pick (Fr.pick (Fr.pick (Fr.pick (Fr.pick (Fr.pick (Fr.pick hf.none hf rfl) hf rfl) hf rfl) hf rfl) hf rfl) hf rfl) hf rfl) hf rfl) hf rfl), hs.sel [0, 1, 2] (by decide)⟩
                  · have hm3597 := bif_f hm3597 hb3599
                    refine wpL_exit (Ql_exit (Qb_exit ?_))
                    exact ⟨ms3534, xs3537, Option.some.inj hm3597, hn3535, hn3538, hq3539, hv3540, (Fr.pick (Fr.pick (Fr.pick (Fr.pick (Fr.pick (Fr.pick (Fr.pick (Fr.pick hf.none hf rfl) hf rfl) hf rfl) hf rfl) hf rfl) hf rfl) hf rfl) hf rfl), hs⟩
              · rintro a w ⟨ms3589, xs3591, hr_, hn3590, hn3592, hq3593, hv3594, hf, hs⟩
                subst hr_
                try dsimp only at hm3428
                refine wpL_nil (Qb_normal ?_)
                refine wpL_region ?_
                refine sY hf hs rfl rfl rfl (Y_move rfl rfl) ?_; clear hf; intro a hf
                refine sY hf hs rfl rfl rfl (Y_add rfl rfl rfl) ?_; clear hf; intro a hf
                refine sY hf hs rfl rfl rfl (Y_assign rfl rfl) ?_; clear hf; intro a hf
                refine wpO_nil ?_
                refine wpL_nil (Ql_normal ?_)
                exact ⟨ms3589, (IntKind.i64.wrap (x3202 + 1)), xs3591, hm3428, hn3590, hn3592, hq3593, hv3594, (Fr.pick (Fr.pick (Fr.pick (Fr.pick (Fr.pick (Fr.pick (Fr.pick (Fr.pick hf.none hf rfl) hf rfl) hf rfl) hf rfl) hf rfl) hf rfl) hf rfl) hf rfl), hs⟩
            · have hm3428 := bif_f hm3428 hb3430
              refine wpL_exit (Ql_exit (Qb_exit ?_))
              exact ⟨ms3200, Option.some.inj hm3428, hn3201, (Fr.pick (Fr.pick (Fr.pick (Fr.pick (Fr.pick (Fr.pick hf.none hf rfl) hf rfl) hf rfl) hf rfl) hf rfl) hf rfl), hs⟩
        · rintro a w ⟨ms3424, hr_, hn3425, hf, hs⟩
          subst hr_
          try dsimp only at hm2742
          refine wpL_nil (Qb_normal ?_)
          refine wpL_region ?_
          refine sY hf hs rfl rfl rfl (Y_move rfl rfl) ?_; clear hf; intro a hf
          refine sY hf hs rfl rfl rfl (Y_add rfl rfl rfl) ?_; clear hf; intro a hf
          refine sY hf hs rfl rfl rfl (Y_assign rfl rfl) ?_; clear hf; intro a hf
          refine wpO_nil ?_
          refine wpL_nil (Ql_normal ?_)
          exact ⟨ms3424, (IntKind.i64.wrap (x1830 + 1)), A2753, ms2755.length, c2754, (vs1829 ++ ([.slice A2747 r2745.length c2749])), hm2742, hn3425, (Fr.pick (Fr.pick (Fr.pick (Fr.pick (Fr.pick (Fr.pick hf.none hf rfl) hf rfl) hf rfl) hf rfl) hf rfl) hf rfl), hs⟩
      · have hm2742 := bif_f hm2742 hb2744
        refine wpL_exit (Ql_exit (Qb_exit ?_))
        exact ⟨ms1824, A1825, n1826, c1827, vs1829, Option.some.inj hm2742, hn1828, (Fr.pick hf.none hf rfl), hs.sel [2] (by decide)⟩
  · rintro a w ⟨ms2734, A2735, n2736, c2737, vs2739, hr_, hn2738, hf, hs⟩
    subst hr_
    try dsimp only at hm
    refine wpL_seq ?_
    refine wpL_region ?_
    refine sY hf hs rfl rfl rfl (Y_move rfl rfl) ?_; clear hf; intro a hf
    refine sY hf hs rfl rfl rfl (Y_assign rfl rfl) ?_; clear hf; intro a hf
    refine wpO_nil ?_
    obtain rfl := Option.some.inj hm
    refine wpL_ret (ret_tmp rfl hf rfl ?_)
    exact ⟨_, rfl, A2735, n2736, c2737, vs2739, rfl, hn2738, hs⟩

set_option maxRecDepth 100000 in
theorem spec_LateFirings_ok (F : Nat) (p0 : GEventGraph) (A_p0_1 : Option Addr) (n_p0_1 c_p0_1 : Nat) (hn_p0_1 : n_p0_1 = p0.Places.length) (p1 : List (List Int)) (A_p1_1 : Option Addr) (n_p1_1 c_p1_1 : Nat) (hn_p1_1 : n_p1_1 = p1.length) (r : List (List Int) × Int) (W : World) (hm : spec_LateFirings F p0 p1 = some r) (h_p0_1 : Rd W A_p0_1 ((recs GPlace.cells) p0.Places)) (h_p1_1 : RdM W A_p1_1 p1) :
    Calls Try.prog 24 [.agg #[.int .i64 p0.Events, .slice A_p0_1 n_p0_1 c_p0_1], .slice A_p1_1 n_p1_1 c_p1_1].toArray W fun e w' => ∃ v, e = .returned v ∧ ∃ A715, ∃ n716, ∃ c717, ∃ vs719, v = .tuple #[.slice A715 n716 c717, .int .i64 r.2] ∧ n716 = r.1.length ∧ St [] W w' [.mat A715 n716 c717 25 2 vs719 r.1] := by
  subst hn_p0_1
  subst hn_p1_1
  unfold spec_LateFirings at hm
  refine Calls.enter (N := 65) Try.func24 rfl rfl rfl (fun a hf => ?_)
  have hs := St.start W
  obtain ⟨w, hw_⟩ : ∃ w, w = W := ⟨W, rfl⟩
  clear hw_ w
  refine wpL_seq ?_
  refine wpL_region ?_
  refine sBox hf hs rfl rfl rfl rfl rfl (cs := [.int .i64 p0.Events, .slice A_p0_1 p0.Places.length c_p0_1]) rfl ?_; clear hf hs; intro a w b1 hs hf
  have hs : St [] W w [.blk b1 34 [.int .i64 p0.Events, .slice A_p0_1 p0.Places.length c_p0_1]] := hs
  refine sY hf hs rfl rfl rfl (Y_assign rfl rfl) ?_; clear hf; intro a hf
  refine sY hf hs rfl rfl rfl (Y_assign rfl rfl) ?_; clear hf; intro a hf
  refine wpO_nil ?_
  refine wpL_seq ?_
  refine wpL_draw (by kernel_rfl) (by kernel_rfl) hs ?_
  refine qY hf rfl rfl rfl (Y_load_blkS rfl rfl (i := 0) rfl ag34 ti34 rfl) ?_; clear hf; intro a hf
  refine qY hf rfl rfl rfl (Y_load_blkS rfl rfl (i := 0) rfl ag34 ti34 rfl) ?_; clear hf; intro a hf
  refine qY hf rfl rfl rfl (Y_move rfl rfl) ?_; clear hf; intro a hf
  obtain ⟨r2, hc3, hm⟩ := bind_some hm
  refine qCall hf rfl rfl rfl rfl (cap := []) rfl rfl en69 (v := .bool r2) (fun w hs => Calls.scal (spec_l22Due_ok F p0 A_p0_1 p0.Places.length c_p0_1 rfl p1 A_p1_1 p1.length c_p1_1 rfl _ _ hc3 (h_p0_1.at hs) (h_p1_1.at hs))) ?_; clear hf; intro a hf
  obtain ⟨r4, hc5, hm⟩ := bind_some hm
  refine qCall hf rfl rfl rfl rfl (cap := []) rfl rfl en68 (v := .int .i64 r4) (fun w hs => Calls.scal (spec_l13Code_ok F p0 A_p0_1 p0.Places.length c_p0_1 rfl r2 _ _ hc5 (h_p0_1.at hs))) ?_; clear hf; intro a hf
  refine qY hf rfl rfl rfl (Y_assign rfl rfl) ?_; clear hf; intro a hf
  refine qNil ?_; clear hs; intro w hs
  refine wpL_seq ?_
  refine wpL_seq ?_
  refine wpL_region ?_
  refine sY hf hs rfl rfl rfl (Y_move rfl rfl) ?_; clear hf; intro a hf
  refine sY hf hs rfl rfl rfl (Y_neq rfl rfl rfl) ?_; clear hf; intro a hf
  refine wpO_nil ?_
  refine wpL_cond hf rfl (fun hb6 => ?_) (fun hb6 => ?_)
  · have hm := bif_t hm hb6
    refine wpL_seq ?_
    refine wpL_region ?_
    refine sY hf hs rfl rfl rfl (Y_move rfl rfl) ?_; clear hf; intro a hf
    refine sY hf hs rfl rfl rfl (Y_assign rfl rfl) ?_; clear hf; intro a hf
    refine sY hf hs rfl rfl rfl (Y_assign rfl rfl) ?_; clear hf; intro a hf
    refine wpO_nil ?_
    have hs : St [] W _ [.blk b1 34 [.int .i64 p0.Events, .slice A_p0_1 p0.Places.length c_p0_1], .mat none 0 0 25 2 [] ([] : List (List Int))] := hs.addNilM 25 2
    obtain rfl := Option.some.inj hm
    refine wpL_ret (ret_tmp2 rfl hf rfl rfl ?_)
    exact ⟨_, rfl, none, 0, 0, [], rfl, rfl, hs.sel [1] (by decide)⟩
  · have hm := bif_f hm hb6
    refine wpL_skip ?_
    refine wpL_seq ?_
    refine wpL_drawG [.blk b1 34 [.int .i64 p0.Events, .slice A_p0_1 p0.Places.length c_p0_1]] 8 (by kernel_rfl) hs ?_; clear hs; intro w hs
    have hs0 : St [] W w [.blk b1 34 [.int .i64 p0.Events, .slice A_p0_1 p0.Places.length c_p0_1]] := hs
    refine gY (i := 0) [] rfl (by kernel_rfl) (by kernel_rfl) hf hs0 rfl rfl rfl (Y_load_blkS rfl rfl (i := 0) rfl ag34 ti34 rfl) ?_; clear hf; intro a hf
    refine gY (i := 1) [] rfl (by kernel_rfl) (by kernel_rfl) hf hs0 rfl rfl rfl (Y_move rfl rfl) ?_; clear hf; intro a hf
    refine gY (i := 2) [] rfl (by kernel_rfl) (by kernel_rfl) hf hs0 rfl rfl rfl (Y_lenH rfl rfl el41 rfl) ?_; clear hf; intro a hf
    refine gY (i := 3) [] rfl (by kernel_rfl) (by kernel_rfl) hf hs0 rfl rfl rfl (Y_fieldAddr rfl rfl fo34_0) ?_; clear hf; intro a hf
    refine gY (i := 4) [] rfl (by kernel_rfl) (by kernel_rfl) hf hs0 rfl rfl rfl (Y_load_blk rfl rfl (i := 0) rfl rfl ag2) ?_; clear hf; intro a hf
    refine gRun (i := 5) rfl (by kernel_rfl) ?_
    obtain ⟨xs20, hk19, hm⟩ := bind_some hm
    refine sMakeL (enc := ints) hf hs rfl rfl rfl rfl rfl hk19 el25 ti2 rfl ints_made ?_; clear hf hs; intro a w A18 hs hf
    have hs : St [] W w [.blk b1 34 [.int .i64 p0.Events, .slice A_p0_1 p0.Places.length c_p0_1], .row A18 xs20.length xs20.length 2 1 (ints xs20)] := hs
    have hs0 : St [] W w [.blk b1 34 [.int .i64 p0.Events, .slice A_p0_1 p0.Places.length c_p0_1]] := hs.sel [0] (by decide)
    refine wpO_nil ⟨Or.inr hs0, ?_⟩
    refine gRun (i := 6) rfl (by kernel_rfl) ?_
    obtain ⟨r21, hc22, hm⟩ := bind_some hm
    refine sCall hf rfl rfl rfl rfl (cap := []) rfl rfl en70 (spec_l13Times_ok F p0 A_p0_1 p0.Places.length c_p0_1 rfl (p1.length : Int) xs20 A18 xs20.length xs20.length rfl _ _ hc22 (h_p0_1.at hs) (hs.rd (i := 1) rfl)) ?_; clear hf
    rintro _ w ⟨A23, n24, c25, vs27, rfl, hn26, hs1⟩ a hf
    have hs : St [] W w [.blk b1 34 [.int .i64 p0.Events, .slice A_p0_1 p0.Places.length c_p0_1], .row A18 xs20.length xs20.length 2 1 (ints xs20), .mat A23 n24 c25 25 2 vs27 r21] := hs.join hs1
    clear hs1
    have hs0 : St [] W w [.blk b1 34 [.int .i64 p0.Events, .slice A_p0_1 p0.Places.length c_p0_1]] := hs.sel [0] (by decide)
    refine wpO_nil ⟨Or.inr hs0, ?_⟩
    refine gY (i := 7) [] rfl (by kernel_rfl) (by kernel_rfl) hf hs0 rfl rfl rfl (Y_assign rfl rfl) ?_; clear hf; intro a hf
    refine gDone (by kernel_rfl) ?_
    clear hs0
    refine wpL_seq ?_
    refine wpL_region ?_
    refine sEmptyM 2 hf hs rfl rfl rfl rfl el41 ti25 rfl ?_; clear hf hs; intro a w A28 hs hf
    have hs : St [] W w [.blk b1 34 [.int .i64 p0.Events, .slice A_p0_1 p0.Places.length c_p0_1], .row A18 xs20.length xs20.length 2 1 (ints xs20), .mat A23 n24 c25 25 2 vs27 r21, .mat A28 0 0 25 2 [] []] := hs
    refine sY hf hs rfl rfl rfl (Y_assign rfl rfl) ?_; clear hf; intro a hf
    refine wpO_nil ?_
    refine wpL_seq ?_
    refine wpL_seq ?_
    refine wpL_region ?_
    refine sY hf hs rfl rfl rfl (Y_assign rfl rfl) ?_; clear hf; intro a hf
    refine wpO_nil ?_
    obtain ⟨r546, hl547, hm⟩ := bind_some hm
    refine wpL_block (fun a w => ∃ ms540 : List (List Int), ∃ A541, ∃ n542, ∃ c543, ∃ vs545, ms540 = r546 ∧ n542 = ms540.length ∧ Fr a 65 [(8, .slice A541 n542 c543)] ∧ St [] W w [.mat A541 n542 c543 25 2 vs545 ms540]) ?_ ?_
    · refine wpL_loop (fun n a w => ∃ ms368 : List (List Int), ∃ x374 : Int, ∃ A369, ∃ n370, ∃ c371, ∃ vs373, spec_LateFirings_L4 F p1 r21 n ms368 x374 = some r546 ∧ n370 = ms368.length ∧ Fr a 65 [(1, .slice A_p1_1 p1.length c_p1_1), (7, .slice A23 n24 c25), (8, .slice A369 n370 c371), (9, .int .i64 x374)] ∧ St [] W w [.mat A23 n24 c25 25 2 vs27 r21, .mat A369 n370 c371 25 2 vs373 ms368]) F ?_ ?_ ?_
      · exact ⟨[], 0, A28, 0, 0, [], hl547, rfl, (Fr.pick (Fr.pick (Fr.pick (Fr.pick hf.none hf rfl) hf rfl) hf rfl) hf rfl), hs.sel [2, 3] (by decide)⟩
      · rintro a w ⟨ms368, x374, A369, n370, c371, vs373, h0_, -, -, -⟩; simp [spec_LateFirings_L4] at h0_
      · rintro n549 a w ⟨ms368, x374, A369, n370, c371, vs373, hm548, hn372, hf, hs⟩
        rw [spec_LateFirings_L4] at hm548
        refine wpL_seq ?_
        refine wpL_seq ?_
        refine wpL_region ?_
        refine sY hf hs rfl rfl rfl (Y_move rfl rfl) ?_; clear hf; intro a hf
        refine sY hf hs rfl rfl rfl (Y_move rfl rfl) ?_; clear hf; intro a hf
        refine sY hf hs rfl rfl rfl (Y_lenH rfl rfl el41 hn26) ?_; clear hf; intro a hf
        refine sY hf hs rfl rfl rfl (Y_lss rfl rfl rfl) ?_; clear hf; intro a hf
        refine wpO_nil ?_
        refine wpL_cond hf rfl (fun hb550 => ?_) (fun hb550 => ?_)
        · have hm548 := bif_t hm548 hb550
          refine wpL_skip ?_
          refine wpL_seq ?_
          refine wpL_block0 ?_
          refine wpL_seq ?_
          refine wpL_region ?_
          refine sY hf hs rfl rfl rfl (Y_assign rfl rfl) ?_; clear hf; intro a hf
          refine wpO_nil ?_
          obtain ⟨r676, hl677, hm548⟩ := bind_some hm548
          refine wpL_block (fun a w => ∃ ms670 : List (List Int), ∃ A671, ∃ n672, ∃ c673, ∃ vs675, ms670 = r676 ∧ n672 = ms670.length ∧ Fr a 65 [(1, .slice A_p1_1 p1.length c_p1_1), (7, .slice A23 n24 c25), (8, .slice A671 n672 c673), (9, .int .i64 x374)] ∧ St [] W w [.mat A23 n24 c25 25 2 vs27 r21, .mat A671 n672 c673 25 2 vs675 ms670]) ?_ ?_
          · refine wpL_loop (fun n a w => ∃ ms628 : List (List Int), ∃ x634 : Int, ∃ A629, ∃ n630, ∃ c631, ∃ vs633, spec_LateFirings_L5 F p1 r21 x374 n ms628 x634 = some r676 ∧ n630 = ms628.length ∧ Fr a 65 [(1, .slice A_p1_1 p1.length c_p1_1), (7, .slice A23 n24 c25), (8, .slice A629 n630 c631), (9, .int .i64 x374), (10, .int .i64 x634)] ∧ St [] W w [.mat A23 n24 c25 25 2 vs27 r21, .mat A629 n630 c631 25 2 vs633 ms628]) F ?_ ?_ ?_
            · exact ⟨ms368, 0, A369, n370, c371, vs373, hl677, hn372, (Fr.pick (Fr.pick (Fr.pick (Fr.pick (Fr.pick hf.none hf rfl) hf rfl) hf rfl) hf rfl) hf rfl), hs⟩
            · rintro a w ⟨ms628, x634, A629, n630, c631, vs633, h0_, -, -, -⟩; simp [spec_LateFirings_L5] at h0_
            · rintro n679 a w ⟨ms628, x634, A629, n630, c631, vs633, hm678, hn632, hf, hs⟩
              rw [spec_LateFirings_L5] at hm678
              refine wpL_seq ?_
              refine wpL_seq ?_
              refine wpL_region ?_
              refine sY hf hs rfl rfl rfl (Y_move rfl rfl) ?_; clear hf; intro a hf
              refine sY hf hs rfl rfl rfl (Y_move rfl rfl) ?_; clear hf; intro a hf
              refine sY hf hs rfl rfl rfl (Y_move rfl rfl) ?_; clear hf; intro a hf
              obtain ⟨q680, hi681, hm678⟩ := bind_some hm678
              obtain ⟨hi681a, hi681b, hi681q⟩ := idx_some hi681
              obtain ⟨A682, c683, hv684⟩ := hs.matRow (i := 0) rfl hi681q
              refine sY hf hs rfl rfl rfl (Y_index rfl rfl rfl el41 ti25 (Rd.isAt (hs.rdV (i := 0) rfl) hv684) hi681a (ltn hn26 hi681b)) ?_; clear hf; intro a hf
              refine sY hf hs rfl rfl rfl (Y_load_rd rfl rfl (fun w hs => hs.rdV (i := 0) rfl) (at1 hv684) ag25) ?_; clear hf; intro a hf
              refine sY hf hs rfl rfl rfl (Y_lenH rfl rfl el25 rfl) ?_; clear hf; intro a hf
              refine sY hf hs rfl rfl rfl (Y_lss rfl rfl rfl) ?_; clear hf; intro a hf
              refine wpO_nil ?_
              refine wpL_cond hf rfl (fun hb685 => ?_) (fun hb685 => ?_)
              · have hm678 := bif_t hm678 hb685
                refine wpL_skip ?_
                refine wpL_seq ?_
                refine wpL_block0 ?_
                refine wpL_seq ?_
                refine wpL_draw (by kernel_rfl) (by kernel_rfl) hs ?_
                refine qY hf rfl rfl rfl (Y_move rfl rfl) ?_; clear hf; intro a hf
                refine qY hf rfl rfl rfl (Y_move rfl rfl) ?_; clear hf; intro a hf
                obtain ⟨q686, hi687, hm678⟩ := bind_some hm678
                obtain ⟨hi687a, hi687b, hi687q⟩ := idx_some hi687
                obtain ⟨A688, c689, hv690⟩ := hs.matRow (i := 0) rfl hi687q
                refine qY hf rfl rfl rfl (Y_index rfl rfl rfl el41 ti25 (Rd.isAt (hs.rdV (i := 0) rfl) hv690) hi687a (ltn hn26 hi687b)) ?_; clear hf; intro a hf
                refine qY hf rfl rfl rfl (Y_load_rd rfl rfl (fun w hs => hs.rdV (i := 0) rfl) (at1 hv690) ag25) ?_; clear hf; intro a hf
                refine qY hf rfl rfl rfl (Y_move rfl rfl) ?_; clear hf; intro a hf
                obtain ⟨q691, hi692, hm678⟩ := bind_some hm678
                obtain ⟨hi692a, hi692b, hi692q⟩ := idx_some hi692
                refine qY hf rfl rfl rfl (Y_index rfl rfl rfl el25 ti2 (Rd.isAt (hs.rdRow (i := 0) rfl ⟨hi687q, hv690⟩) (at1 (ints_at hi692q))) hi692a hi692b) ?_; clear hf; intro a hf
                refine qY hf rfl rfl rfl (Y_load_rd rfl rfl (fun w hs => hs.rdRow (i := 0) rfl ⟨hi687q, hv690⟩) (at1 (ints_at hi692q)) ag2) ?_; clear hf; intro a hf
                refine qY hf rfl rfl rfl (Y_move rfl rfl) ?_; clear hf; intro a hf
                refine qY hf rfl rfl rfl (Y_move rfl rfl) ?_; clear hf; intro a hf
                obtain ⟨q693, hi694, hm678⟩ := bind_some hm678
                obtain ⟨hi694a, hi694b, hi694q⟩ := idx_some hi694
                obtain ⟨vs695, hv696, hr697⟩ := id h_p1_1
                obtain ⟨A698, c699, hv700, hR701⟩ := hr697 _ _ hi694q
                refine qY hf rfl rfl rfl (Y_index rfl rfl rfl el41 ti25 (Rd.isAt hv696 hv700) hi694a hi694b) ?_; clear hf; intro a hf
                refine qY hf rfl rfl rfl (Y_load_rd rfl rfl (fun w hs => hv696.at hs) (at1 hv700) ag25) ?_; clear hf; intro a hf
                refine qY hf rfl rfl rfl (Y_move rfl rfl) ?_; clear hf; intro a hf
                obtain ⟨q702, hi703, hm678⟩ := bind_some hm678
                obtain ⟨hi703a, hi703b, hi703q⟩ := idx_some hi703
                refine qY hf rfl rfl rfl (Y_index rfl rfl rfl el25 ti2 (Rd.isAt (hR701.at hs) (at1 (ints_at hi703q))) hi703a hi703b) ?_; clear hf; intro a hf
                refine qY hf rfl rfl rfl (Y_load_rd rfl rfl (fun w hs => hR701.at hs) (at1 (ints_at hi703q)) ag2) ?_; clear hf; intro a hf
                refine qY hf rfl rfl rfl (Y_gtr rfl rfl rfl) ?_; clear hf; intro a hf
                refine qNil ?_; clear hs; intro w hs
                refine wpL_cond hf rfl (fun hb704 => ?_) (fun hb704 => ?_)
                · have hm678 := bif_t hm678 hb704
                  refine wpL_region ?_
                  refine sY hf hs rfl rfl rfl (Y_move rfl rfl) ?_; clear hf; intro a hf
                  refine sY hf hs rfl rfl rfl (Y_move rfl rfl) ?_; clear hf; intro a hf
                  refine sY hf hs rfl rfl rfl (Y_add rfl rfl rfl) ?_; clear hf; intro a hf
                  refine sY hf hs rfl rfl rfl (Y_move rfl rfl) ?_; clear hf; intro a hf
                  refine sBuildSlice (parts := [(0, .tmp 59), (1, .tmp 60)]) (vs := [.int .i64 (IntKind.i64.wrap (x374 + 1)), .int .i64 x634]) (cells := [.int .i64 (IntKind.i64.wrap (x374 + 1)), .int .i64 x634]) hf hs rfl rfl rfl rfl rfl el25 ti2 rfl rfl rfl rfl ?_; clear hf hs; intro a w A705 hs hA706 hf
                  have hs : St [] W w [.mat A23 n24 c25 25 2 vs27 r21, .mat A629 n630 c631 25 2 vs633 ms628, .row A705 2 2 2 1 (ints ([(IntKind.i64.wrap (x374 + 1)), x634]))] := hs
                  refine sOneM (j := 2) hf hs rfl rfl rfl rfl rfl rfl rfl el41 ti25 ?_; clear hf hs; intro a w A707 hs hf
                  have hs : St [] W w [.mat A23 n24 c25 25 2 vs27 r21, .mat A629 n630 c631 25 2 vs633 ms628, .mat A707 1 1 25 2 ([.slice A705 ([(IntKind.i64.wrap (x374 + 1)), x634]).length 2]) ([[(IntKind.i64.wrap (x374 + 1)), x634]])] := hs
                  obtain ⟨ms711, ha712, hm678⟩ := bind_some hm678
                  refine sAppendM (i := 1) (j := 2) hf hs rfl rfl rfl rfl rfl rfl hn632 rfl (by decide) rfl rfl (by decide) ha712 el41 ti25 rfl ?_; clear hf hs; intro a w A709 c710 hs hf
                  have hs : St [] W w [.mat A23 n24 c25 25 2 vs27 r21, .mat A709 ms711.length c710 25 2 (vs633 ++ ([.slice A705 ([(IntKind.i64.wrap (x374 + 1)), x634]).length 2])) ms711] := hs
                  obtain ⟨hq713, hv714⟩ := hs.appended (i := 1) rfl ha712
                  refine sY hf hs rfl rfl rfl (Y_assign rfl rfl) ?_; clear hf; intro a hf
                  refine wpO_nil ?_
                  refine wpL_nil (Qb_normal ?_)
                  refine wpL_region ?_
                  refine sY hf hs rfl rfl rfl (Y_move rfl rfl) ?_; clear hf; intro a hf
                  refine sY hf hs rfl rfl rfl (Y_add rfl rfl rfl) ?_; clear hf; intro a hf
                  refine sY hf hs rfl rfl rfl (Y_assign rfl rfl) ?_; clear hf; intro a hf
                  refine wpO_nil ?_
                  refine wpL_nil (Ql_normal ?_)
                  exact ⟨ms711, (IntKind.i64.wrap (x634 + 1)), A709, ms711.length, c710, (vs633 ++ ([.slice A705 ([(IntKind.i64.wrap (x374 + 1)), x634]).length 2])), hm678, rfl, (Fr.pick (Fr.pick (Fr.pick (Fr.pick (Fr.pick hf.none hf rfl) hf rfl) hf rfl) hf rfl) hf rfl), hs⟩
                · have hm678 := bif_f hm678 hb704
                  refine wpL_skip ?_
                  refine wpL_nil (Qb_normal ?_)
                  refine wpL_region ?_
                  refine sY hf hs rfl rfl rfl (Y_move rfl rfl) ?_; clear hf; intro a hf
                  refine sY hf hs rfl rfl rfl (Y_add rfl rfl rfl) ?_; clear hf; intro a hf
                  refine sY hf hs rfl rfl rfl (Y_assign rfl rfl) ?_; clear hf; intro a hf
                  refine wpO_nil ?_
                  refine wpL_nil (Ql_normal ?_)
                  exact ⟨ms628, (IntKind.i64.wrap (x634 + 1)), A629, n630, c631, vs633, hm678, hn632, (Fr.pick (Fr.pick (Fr.pick (Fr.pick (Fr.pick hf.none hf rfl) hf rfl) hf rfl) hf rfl) hf rfl), hs⟩
              · have hm678 := bif_f hm678 hb685
                refine wpL_exit (Ql_exit (Qb_exit ?_))
                exact ⟨ms628, A629, n630, c631, vs633, Option.some.inj hm678, hn632, (Fr.pick (Fr.pick (Fr.pick (Fr.pick hf.none hf rfl) hf rfl) hf rfl) hf rfl), hs⟩
          · rintro a w ⟨ms670, A671, n672, c673, vs675, hr_, hn674, hf, hs⟩
            subst hr_
            try dsimp only at hm548
            refine wpL_nil (Qb_normal ?_)
            refine wpL_region ?_
            refine sY hf hs rfl rfl rfl (Y_move rfl rfl) ?_; clear hf; intro a hf
            refine sY hf hs rfl rfl rfl (Y_add rfl rfl rfl) ?_; clear hf; intro a hf
            refine sY hf hs rfl rfl rfl (Y_assign rfl rfl) ?_; clear hf; intro a hf
            refine wpO_nil ?_
            refine wpL_nil (Ql_normal ?_)
            exact ⟨ms670, (IntKind.i64.wrap (x374 + 1)), A671, n672, c673, vs675, hm548, hn674, (Fr.pick (Fr.pick (Fr.pick (Fr.pick hf.none hf rfl) hf rfl) hf rfl) hf rfl), hs⟩
        · have hm548 := bif_f hm548 hb550
          refine wpL_exit (Ql_exit (Qb_exit ?_))
          exact ⟨ms368, A369, n370, c371, vs373, Option.some.inj hm548, hn372, (Fr.pick hf.none hf rfl), hs.sel [1] (by decide)⟩
    · rintro a w ⟨ms540, A541, n542, c543, vs545, hr_, hn544, hf, hs⟩
      subst hr_
      try dsimp only at hm
      refine wpL_seq ?_
      refine wpL_region ?_
      refine sY hf hs rfl rfl rfl (Y_move rfl rfl) ?_; clear hf; intro a hf
      refine sY hf hs rfl rfl rfl (Y_assign rfl rfl) ?_; clear hf; intro a hf
      refine sY hf hs rfl rfl rfl (Y_assign rfl rfl) ?_; clear hf; intro a hf
      refine wpO_nil ?_
      obtain rfl := Option.some.inj hm
      refine wpL_ret (ret_tmp2 rfl hf rfl rfl ?_)
      exact ⟨_, rfl, A541, n542, c543, vs545, rfl, hn544, hs⟩

set_option maxRecDepth 100000 in
theorem impl_within_ok (F : Nat) (p0_n : Int) (p1_low : Int) (p2_high : Int) (r : Bool) (W : World) (hm : impl_within F p0_n p1_low p2_high = some r) :
    Calls Try.prog 65 [.int .i64 p0_n, .int .i64 p1_low, .int .i64 p2_high].toArray W fun e w' => ∃ v, e = .returned v ∧ v = .bool r ∧ St [] W w' [] := by
  unfold impl_within at hm
  refine Calls.enter (N := 15) Try.func65 rfl rfl rfl (fun a hf => ?_)
  have hs := St.start W
  obtain ⟨w, hw_⟩ : ∃ w, w = W := ⟨W, rfl⟩
  clear hw_ w
  refine wpL_seq ?_
  refine wpL_region ?_
  refine sY hf hs rfl rfl rfl (Y_assign rfl rfl) ?_; clear hf; intro a hf
  refine wpO_nil ?_
  refine wpL_seq ?_
  obtain ⟨r3, hj4, hm⟩ := bind_some hm
  refine wpL_cut (fun a w => ∃ b2 : Bool, b2 = r3 ∧ Fr a 15 [(6, .bool b2)] ∧ St [] W w []) ?_ ?_
  · refine wpL_region ?_
    refine sY hf hs rfl rfl rfl (Y_move rfl rfl) ?_; clear hf; intro a hf
    refine sY hf hs rfl rfl rfl (Y_move rfl rfl) ?_; clear hf; intro a hf
    refine sY hf hs rfl rfl rfl (Y_geq rfl rfl rfl) ?_; clear hf; intro a hf
    refine sY hf hs rfl rfl rfl (Y_move rfl rfl) ?_; clear hf; intro a hf
    refine bsplit (decide (p1_low ≤ p0_n)) (fun hb5 => ?_) (fun hb5 => ?_)
    · have hj4 := bif_t hj4 hb5
      refine sYg hf hs rfl rfl rfl (congrArg (fun b => some (Value.bool b)) hb5) rfl rfl rfl (Y_move rfl rfl) ?_; clear hf; intro a hf
      refine sYg hf hs rfl rfl rfl (congrArg (fun b => some (Value.bool b)) hb5) rfl rfl rfl (Y_move rfl rfl) ?_; clear hf; intro a hf
      refine sYg hf hs rfl rfl rfl (congrArg (fun b => some (Value.bool b)) hb5) rfl rfl rfl (Y_leq rfl rfl rfl) ?_; clear hf; intro a hf
      refine sY hf hs rfl rfl rfl (Y_pickT rfl (congrArg (fun b => some (Value.bool b)) hb5) rfl) ?_; clear hf; intro a hf
      refine sY hf hs rfl rfl rfl (Y_assign rfl rfl) ?_; clear hf; intro a hf
      refine wpO_nil ?_
      refine wpL_nil (then_normal ?_)
      exact ⟨(decide (p0_n ≤ p2_high)), Option.some.inj hj4, (Fr.pick hf.none hf rfl), hs⟩
    · have hj4 := bif_f hj4 hb5
      refine sNo hf rfl rfl rfl (congrArg (fun b => some (Value.bool b)) hb5) rfl rfl rfl ?_; clear hf; intro a hf
      refine sNo hf rfl rfl rfl (congrArg (fun b => some (Value.bool b)) hb5) rfl rfl rfl ?_; clear hf; intro a hf
      refine sNo hf rfl rfl rfl (congrArg (fun b => some (Value.bool b)) hb5) rfl rfl rfl ?_; clear hf; intro a hf
      refine sY hf hs rfl rfl rfl (Y_pickF rfl (congrArg (fun b => some (Value.bool b)) hb5) rfl) ?_; clear hf; intro a hf
      refine sY hf hs rfl rfl rfl (Y_assign rfl rfl) ?_; clear hf; intro a hf
      refine wpO_nil ?_
      refine wpL_nil (then_normal ?_)
      exact ⟨false, Option.some.inj hj4, (Fr.pick hf.none hf rfl), hs⟩
  · rintro a w ⟨b2, hr_, hf, hs⟩
    subst hr_
    try dsimp only at hm
    obtain rfl := Option.some.inj hm
    refine wpL_ret (ret_tmp rfl hf rfl ?_)
    exact ⟨_, rfl, rfl, hs⟩

set_option maxRecDepth 100000 in
theorem impl_isEvent_ok (F : Nat) (p0_g : GEventGraph) (A_p0_g_1 : Option Addr) (n_p0_g_1 c_p0_g_1 : Nat) (hn_p0_g_1 : n_p0_g_1 = p0_g.Places.length) (p1_event : Int) (r : Bool) (W : World) (hm : impl_isEvent F p0_g p1_event = some r) (_h_p0_g_1 : Rd W A_p0_g_1 ((recs GPlace.cells) p0_g.Places)) :
    Calls Try.prog 133 [.agg #[.int .i64 p0_g.Events, .slice A_p0_g_1 n_p0_g_1 c_p0_g_1], .int .i64 p1_event].toArray W fun e w' => ∃ v, e = .returned v ∧ v = .bool r ∧ St [] W w' [] := by
  subst hn_p0_g_1
  unfold impl_isEvent at hm
  refine Calls.enter (N := 10) Try.func133 rfl rfl rfl (fun a hf => ?_)
  have hs := St.start W
  obtain ⟨w, hw_⟩ : ∃ w, w = W := ⟨W, rfl⟩
  clear hw_ w
  refine wpL_seq ?_
  refine wpL_region ?_
  refine sBox hf hs rfl rfl rfl rfl rfl (cs := [.int .i64 p0_g.Events, .slice A_p0_g_1 p0_g.Places.length c_p0_g_1]) rfl ?_; clear hf hs; intro a w b1 hs hf
  have hs : St [] W w [.blk b1 34 [.int .i64 p0_g.Events, .slice A_p0_g_1 p0_g.Places.length c_p0_g_1]] := hs
  refine sY hf hs rfl rfl rfl (Y_assign rfl rfl) ?_; clear hf; intro a hf
  refine wpO_nil ?_
  refine wpL_seq ?_
  refine wpL_region ?_
  refine sY hf hs rfl rfl rfl (Y_move rfl rfl) ?_; clear hf; intro a hf
  refine sY hf hs rfl rfl rfl (Y_fieldAddr rfl rfl fo34_0) ?_; clear hf; intro a hf
  refine sY hf hs rfl rfl rfl (Y_load_blk rfl rfl (i := 0) rfl rfl ag2) ?_; clear hf; intro a hf
  refine sY hf hs rfl rfl rfl (Y_sub rfl rfl rfl) ?_; clear hf; intro a hf
  obtain ⟨r2, hc3, hm⟩ := bind_some hm
  refine sCall hf rfl rfl rfl rfl (cap := []) rfl rfl en65 (impl_within_ok F p1_event 0 (IntKind.i64.wrap (p0_g.Events - 1)) _ _ hc3) ?_; clear hf
  rintro _ w ⟨rfl, hs1⟩ a hf
  have hs : St [] W w [.blk b1 34 [.int .i64 p0_g.Events, .slice A_p0_g_1 p0_g.Places.length c_p0_g_1]] := hs.ext hs1.below
  clear hs1
  refine sY hf hs rfl rfl rfl (Y_assign rfl rfl) ?_; clear hf; intro a hf
  refine wpO_nil ?_
  obtain rfl := Option.some.inj hm
  refine wpL_ret (ret_tmp rfl hf rfl ?_)
  exact ⟨_, rfl, rfl, hs.sel [] (by decide)⟩

set_option maxRecDepth 100000 in
theorem impl_isPlace_ok (F : Nat) (p0_g : GEventGraph) (A_p0_g_1 : Option Addr) (n_p0_g_1 c_p0_g_1 : Nat) (hn_p0_g_1 : n_p0_g_1 = p0_g.Places.length) (p1_p : GPlace) (r : Bool) (W : World) (hm : impl_isPlace F p0_g p1_p = some r) (h_p0_g_1 : Rd W A_p0_g_1 ((recs GPlace.cells) p0_g.Places)) :
    Calls Try.prog 120 [.agg #[.int .i64 p0_g.Events, .slice A_p0_g_1 n_p0_g_1 c_p0_g_1], .agg #[.int .i64 p1_p.From, .int .i64 p1_p.To, .int .i64 p1_p.Delay, .int .i64 p1_p.Tokens]].toArray W fun e w' => ∃ v, e = .returned v ∧ v = .bool r ∧ St [] W w' [] := by
  subst hn_p0_g_1
  unfold impl_isPlace at hm
  refine Calls.enter (N := 25) Try.func120 rfl rfl rfl (fun a hf => ?_)
  have hs := St.start W
  obtain ⟨w, hw_⟩ : ∃ w, w = W := ⟨W, rfl⟩
  clear hw_ w
  refine wpL_seq ?_
  refine wpL_region ?_
  refine sBox hf hs rfl rfl rfl rfl rfl (cs := [.int .i64 p0_g.Events, .slice A_p0_g_1 p0_g.Places.length c_p0_g_1]) rfl ?_; clear hf hs; intro a w b1 hs hf
  have hs : St [] W w [.blk b1 34 [.int .i64 p0_g.Events, .slice A_p0_g_1 p0_g.Places.length c_p0_g_1]] := hs
  refine sBox hf hs rfl rfl rfl rfl rfl (cs := [.int .i64 p1_p.From, .int .i64 p1_p.To, .int .i64 p1_p.Delay, .int .i64 p1_p.Tokens]) rfl ?_; clear hf hs; intro a w b2 hs hf
  have hs : St [] W w [.blk b1 34 [.int .i64 p0_g.Events, .slice A_p0_g_1 p0_g.Places.length c_p0_g_1], .blk b2 71 [.int .i64 p1_p.From, .int .i64 p1_p.To, .int .i64 p1_p.Delay, .int .i64 p1_p.Tokens]] := hs
  refine sY hf hs rfl rfl rfl (Y_assign rfl rfl) ?_; clear hf; intro a hf
  refine wpO_nil ?_
  refine wpL_seq ?_
  obtain ⟨r15, hj16, hm⟩ := bind_some hm
  refine wpL_cut (fun a w => ∃ b14 : Bool, b14 = r15 ∧ Fr a 25 [(4, .bool b14)] ∧ St [] W w []) ?_ ?_
  · refine wpL_region ?_
    refine sY hf hs rfl rfl rfl (Y_load_blkS rfl rfl (i := 0) rfl ag34 ti34 rfl) ?_; clear hf; intro a hf
    refine sY hf hs rfl rfl rfl (Y_fieldAddr rfl rfl fo71_0) ?_; clear hf; intro a hf
    refine sY hf hs rfl rfl rfl (Y_load_blk rfl rfl (i := 1) rfl rfl ag2) ?_; clear hf; intro a hf
    obtain ⟨r17, hc18, hj16⟩ := bind_some hj16
    refine sCall hf rfl rfl rfl rfl (cap := []) rfl rfl en133 (impl_isEvent_ok F p0_g A_p0_g_1 p0_g.Places.length c_p0_g_1 rfl p1_p.From _ _ hc18 (h_p0_g_1.at hs)) ?_; clear hf
    rintro _ w ⟨rfl, hs1⟩ a hf
    have hs : St [] W w [.blk b1 34 [.int .i64 p0_g.Events, .slice A_p0_g_1 p0_g.Places.length c_p0_g_1], .blk b2 71 [.int .i64 p1_p.From, .int .i64 p1_p.To, .int .i64 p1_p.Delay, .int .i64 p1_p.Tokens]] := hs.ext hs1.below
    clear hs1
    refine sY hf hs rfl rfl rfl (Y_move rfl rfl) ?_; clear hf; intro a hf
    refine bsplit r17 (fun hb19 => ?_) (fun hb19 => ?_)
    · have hj16 := bif_t hj16 hb19
      refine sYg hf hs rfl rfl rfl (congrArg (fun b => some (Value.bool b)) hb19) rfl rfl rfl (Y_load_blkS rfl rfl (i := 0) rfl ag34 ti34 rfl) ?_; clear hf; intro a hf
      refine sYg hf hs rfl rfl rfl (congrArg (fun b => some (Value.bool b)) hb19) rfl rfl rfl (Y_fieldAddr rfl rfl fo71_1) ?_; clear hf; intro a hf
      refine sYg hf hs rfl rfl rfl (congrArg (fun b => some (Value.bool b)) hb19) rfl rfl rfl (Y_load_blk rfl rfl (i := 1) rfl rfl ag2) ?_; clear hf; intro a hf
      obtain ⟨r20, hc21, hj16⟩ := bind_some hj16
      refine sCallg hf rfl rfl rfl (congrArg (fun b => some (Value.bool b)) hb19) rfl rfl rfl rfl (cap := []) rfl rfl en133 (impl_isEvent_ok F p0_g A_p0_g_1 p0_g.Places.length c_p0_g_1 rfl p1_p.To _ _ hc21 (h_p0_g_1.at hs)) ?_; clear hf
      rintro _ w ⟨rfl, hs1⟩ a hf
      have hs : St [] W w [.blk b1 34 [.int .i64 p0_g.Events, .slice A_p0_g_1 p0_g.Places.length c_p0_g_1], .blk b2 71 [.int .i64 p1_p.From, .int .i64 p1_p.To, .int .i64 p1_p.Delay, .int .i64 p1_p.Tokens]] := hs.ext hs1.below
      clear hs1
      refine sY hf hs rfl rfl rfl (Y_pickT rfl (congrArg (fun b => some (Value.bool b)) hb19) rfl) ?_; clear hf; intro a hf
      refine sY hf hs rfl rfl rfl (Y_move rfl rfl) ?_; clear hf; intro a hf
      refine bsplit r20 (fun hb22 => ?_) (fun hb22 => ?_)
      · have hj16 := bif_t hj16 hb22
        refine sYg hf hs rfl rfl rfl (congrArg (fun b => some (Value.bool b)) hb22) rfl rfl rfl (Y_fieldAddr rfl rfl fo71_2) ?_; clear hf; intro a hf
        refine sYg hf hs rfl rfl rfl (congrArg (fun b => some (Value.bool b)) hb22) rfl rfl rfl (Y_load_blk rfl rfl (i := 1) rfl rfl ag2) ?_; clear hf; intro a hf
        obtain ⟨r23, hc24, hj16⟩ := bind_some hj16
        refine sCallg hf rfl rfl rfl (congrArg (fun b => some (Value.bool b)) hb22) rfl rfl rfl rfl (cap := []) rfl rfl en65 (impl_within_ok F p1_p.Delay 0 1000 _ _ hc24) ?_; clear hf
        rintro _ w ⟨rfl, hs1⟩ a hf
        have hs : St [] W w [.blk b1 34 [.int .i64 p0_g.Events, .slice A_p0_g_1 p0_g.Places.length c_p0_g_1], .blk b2 71 [.int .i64 p1_p.From, .int .i64 p1_p.To, .int .i64 p1_p.Delay, .int .i64 p1_p.Tokens]] := hs.ext hs1.below
        clear hs1
        refine sY hf hs rfl rfl rfl (Y_pickT rfl (congrArg (fun b => some (Value.bool b)) hb22) rfl) ?_; clear hf; intro a hf
        refine sY hf hs rfl rfl rfl (Y_move rfl rfl) ?_; clear hf; intro a hf
        refine bsplit r23 (fun hb25 => ?_) (fun hb25 => ?_)
        · have hj16 := bif_t hj16 hb25
          refine sYg hf hs rfl rfl rfl (congrArg (fun b => some (Value.bool b)) hb25) rfl rfl rfl (Y_fieldAddr rfl rfl fo71_3) ?_; clear hf; intro a hf
          refine sYg hf hs rfl rfl rfl (congrArg (fun b => some (Value.bool b)) hb25) rfl rfl rfl (Y_load_blk rfl rfl (i := 1) rfl rfl ag2) ?_; clear hf; intro a hf
          obtain ⟨r26, hc27, hj16⟩ := bind_some hj16
          refine sCallg hf rfl rfl rfl (congrArg (fun b => some (Value.bool b)) hb25) rfl rfl rfl rfl (cap := []) rfl rfl en65 (impl_within_ok F p1_p.Tokens 0 5 _ _ hc27) ?_; clear hf
          rintro _ w ⟨rfl, hs1⟩ a hf
          have hs : St [] W w [.blk b1 34 [.int .i64 p0_g.Events, .slice A_p0_g_1 p0_g.Places.length c_p0_g_1], .blk b2 71 [.int .i64 p1_p.From, .int .i64 p1_p.To, .int .i64 p1_p.Delay, .int .i64 p1_p.Tokens]] := hs.ext hs1.below
          clear hs1
          refine sY hf hs rfl rfl rfl (Y_pickT rfl (congrArg (fun b => some (Value.bool b)) hb25) rfl) ?_; clear hf; intro a hf
          refine sY hf hs rfl rfl rfl (Y_assign rfl rfl) ?_; clear hf; intro a hf
          refine wpO_nil ?_
          refine wpL_nil (then_normal ?_)
          exact ⟨r26, Option.some.inj hj16, (Fr.pick hf.none hf rfl), hs.sel [] (by decide)⟩
        · have hj16 := bif_f hj16 hb25
          refine sNo hf rfl rfl rfl (congrArg (fun b => some (Value.bool b)) hb25) rfl rfl rfl ?_; clear hf; intro a hf
          refine sNo hf rfl rfl rfl (congrArg (fun b => some (Value.bool b)) hb25) rfl rfl rfl ?_; clear hf; intro a hf
          refine sNo hf rfl rfl rfl (congrArg (fun b => some (Value.bool b)) hb25) rfl rfl rfl ?_; clear hf; intro a hf
          refine sY hf hs rfl rfl rfl (Y_pickF rfl (congrArg (fun b => some (Value.bool b)) hb25) rfl) ?_; clear hf; intro a hf
          refine sY hf hs rfl rfl rfl (Y_assign rfl rfl) ?_; clear hf; intro a hf
          refine wpO_nil ?_
          refine wpL_nil (then_normal ?_)
          exact ⟨false, Option.some.inj hj16, (Fr.pick hf.none hf rfl), hs.sel [] (by decide)⟩
      · have hj16 := bif_f hj16 hb22
        refine sNo hf rfl rfl rfl (congrArg (fun b => some (Value.bool b)) hb22) rfl rfl rfl ?_; clear hf; intro a hf
        refine sNo hf rfl rfl rfl (congrArg (fun b => some (Value.bool b)) hb22) rfl rfl rfl ?_; clear hf; intro a hf
        refine sNo hf rfl rfl rfl (congrArg (fun b => some (Value.bool b)) hb22) rfl rfl rfl ?_; clear hf; intro a hf
        refine sY hf hs rfl rfl rfl (Y_pickF rfl (congrArg (fun b => some (Value.bool b)) hb22) rfl) ?_; clear hf; intro a hf
        refine sY hf hs rfl rfl rfl (Y_move rfl rfl) ?_; clear hf; intro a hf
        refine sNo hf rfl rfl rfl rfl rfl rfl rfl ?_; clear hf; intro a hf
        refine sNo hf rfl rfl rfl rfl rfl rfl rfl ?_; clear hf; intro a hf
        refine sNo hf rfl rfl rfl rfl rfl rfl rfl ?_; clear hf; intro a hf
        refine sY hf hs rfl rfl rfl (Y_pickF rfl rfl rfl) ?_; clear hf; intro a hf
        refine sY hf hs rfl rfl rfl (Y_assign rfl rfl) ?_; clear hf; intro a hf
        refine wpO_nil ?_
        refine wpL_nil (then_normal ?_)
        exact ⟨false, Option.some.inj hj16, (Fr.pick hf.none hf rfl), hs.sel [] (by decide)⟩
    · have hj16 := bif_f hj16 hb19
      refine sNo hf rfl rfl rfl (congrArg (fun b => some (Value.bool b)) hb19) rfl rfl rfl ?_; clear hf; intro a hf
      refine sNo hf rfl rfl rfl (congrArg (fun b => some (Value.bool b)) hb19) rfl rfl rfl ?_; clear hf; intro a hf
      refine sNo hf rfl rfl rfl (congrArg (fun b => some (Value.bool b)) hb19) rfl rfl rfl ?_; clear hf; intro a hf
      refine sNo hf rfl rfl rfl (congrArg (fun b => some (Value.bool b)) hb19) rfl rfl rfl ?_; clear hf; intro a hf
      refine sY hf hs rfl rfl rfl (Y_pickF rfl (congrArg (fun b => some (Value.bool b)) hb19) rfl) ?_; clear hf; intro a hf
      refine sY hf hs rfl rfl rfl (Y_move rfl rfl) ?_; clear hf; intro a hf
      refine sNo hf rfl rfl rfl rfl rfl rfl rfl ?_; clear hf; intro a hf
      refine sNo hf rfl rfl rfl rfl rfl rfl rfl ?_; clear hf; intro a hf
      refine sNo hf rfl rfl rfl rfl rfl rfl rfl ?_; clear hf; intro a hf
      refine sY hf hs rfl rfl rfl (Y_pickF rfl rfl rfl) ?_; clear hf; intro a hf
      refine sY hf hs rfl rfl rfl (Y_move rfl rfl) ?_; clear hf; intro a hf
      refine sNo hf rfl rfl rfl rfl rfl rfl rfl ?_; clear hf; intro a hf
      refine sNo hf rfl rfl rfl rfl rfl rfl rfl ?_; clear hf; intro a hf
      refine sNo hf rfl rfl rfl rfl rfl rfl rfl ?_; clear hf; intro a hf
      refine sY hf hs rfl rfl rfl (Y_pickF rfl rfl rfl) ?_; clear hf; intro a hf
      refine sY hf hs rfl rfl rfl (Y_assign rfl rfl) ?_; clear hf; intro a hf
      refine wpO_nil ?_
      refine wpL_nil (then_normal ?_)
      exact ⟨false, Option.some.inj hj16, (Fr.pick hf.none hf rfl), hs.sel [] (by decide)⟩
  · rintro a w ⟨b14, hr_, hf, hs⟩
    subst hr_
    try dsimp only at hm
    obtain rfl := Option.some.inj hm
    refine wpL_ret (ret_tmp rfl hf rfl ?_)
    exact ⟨_, rfl, rfl, hs⟩

set_option maxRecDepth 100000 in
theorem impl_IsEventGraph_c1_ok (F : Nat) (p0_p : GPlace) (b_z0 : Nat) (z0 : GEventGraph) (A_z0_1 : Option Addr) (n_z0_1 c_z0_1 : Nat) (hn_z0_1 : n_z0_1 = z0.Places.length) (r : Bool) (W : World) (hm : impl_IsEventGraph_c1 F p0_p z0 = some r) (h_z0_1 : Rd W A_z0_1 ((recs GPlace.cells) z0.Places)) (h_z0 : PB W b_z0 34 [.int .i64 z0.Events, .slice A_z0_1 n_z0_1 c_z0_1]) :
    Calls Try.prog 119 [.agg #[.int .i64 p0_p.From, .int .i64 p0_p.To, .int .i64 p0_p.Delay, .int .i64 p0_p.Tokens], .pointer (some ⟨b_z0, 0, none⟩)].toArray W fun e w' => ∃ v, e = .returned v ∧ v = .bool r ∧ St [] W w' [] := by
  subst hn_z0_1
  unfold impl_IsEventGraph_c1 at hm
  refine Calls.enter (N := 8) Try.func119 rfl rfl rfl (fun a hf => ?_)
  have hs := St.start W
  obtain ⟨w, hw_⟩ : ∃ w, w = W := ⟨W, rfl⟩
  clear hw_ w
  refine wpL_seq ?_
  refine wpL_region ?_
  refine sBox hf hs rfl rfl rfl rfl rfl (cs := [.int .i64 p0_p.From, .int .i64 p0_p.To, .int .i64 p0_p.Delay, .int .i64 p0_p.Tokens]) rfl ?_; clear hf hs; intro a w b1 hs hf
  have hs : St [] W w [.blk b1 71 [.int .i64 p0_p.From, .int .i64 p0_p.To, .int .i64 p0_p.Delay, .int .i64 p0_p.Tokens]] := hs
  refine sY hf hs rfl rfl rfl (Y_assign rfl rfl) ?_; clear hf; intro a hf
  refine wpO_nil ?_
  refine wpL_seq ?_
  refine wpL_region ?_
  refine sY hf hs rfl rfl rfl (Y_load_pbS rfl rfl h_z0 ag34 ti34 rfl) ?_; clear hf; intro a hf
  refine sY hf hs rfl rfl rfl (Y_load_blkS rfl rfl (i := 0) rfl ag71 ti71 rfl) ?_; clear hf; intro a hf
  obtain ⟨r2, hc3, hm⟩ := bind_some hm
  refine sCall hf rfl rfl rfl rfl (cap := []) rfl rfl en120 (impl_isPlace_ok F z0 A_z0_1 z0.Places.length c_z0_1 rfl p0_p _ _ hc3 (h_z0_1.at hs)) ?_; clear hf
  rintro _ w ⟨rfl, hs1⟩ a hf
  have hs : St [] W w [.blk b1 71 [.int .i64 p0_p.From, .int .i64 p0_p.To, .int .i64 p0_p.Delay, .int .i64 p0_p.Tokens]] := hs.ext hs1.below
  clear hs1
  refine sY hf hs rfl rfl rfl (Y_not rfl rfl) ?_; clear hf; intro a hf
  refine sY hf hs rfl rfl rfl (Y_assign rfl rfl) ?_; clear hf; intro a hf
  refine wpO_nil ?_
  obtain rfl := Option.some.inj hm
  refine wpL_ret (ret_tmp rfl hf rfl ?_)
  exact ⟨_, rfl, rfl, hs.sel [] (by decide)⟩

set_option maxRecDepth 100000 in
theorem slices_IndexFunc_Place_ok (F : Nat) (p0_s : List GPlace) (A_p0_s_1 : Option Addr) (n_p0_s_1 c_p0_s_1 : Nat) (hn_p0_s_1 : n_p0_s_1 = p0_s.length) (m_p1_f : GPlace → Option Bool) (f_p1_f : FuncId) (k_p1_f : List Value) (r : Int) (W : World) (hm : slices_IndexFunc_Place F p0_s m_p1_f = some r) (h_p0_s_1 : Rd W A_p0_s_1 ((recs GPlace.cells) p0_s)) (h_p1_f : ∀ (x0 : GPlace) (r : Bool) (w : World), m_p1_f x0 = some r → Below W.heap.size W w → Calls Try.prog f_p1_f (([.agg #[.int .i64 x0.From, .int .i64 x0.To, .int .i64 x0.Delay, .int .i64 x0.Tokens]] : List Value) ++ k_p1_f).toArray w fun e w' => ∃ v, e = .returned v ∧ v = .bool r ∧ St [] w w' []) (e_p1_f : En Try.prog f_p1_f) :
    Calls Try.prog 132 [.slice A_p0_s_1 n_p0_s_1 c_p0_s_1, .func (.func f_p1_f) #[] k_p1_f.toArray].toArray W fun e w' => ∃ v, e = .returned v ∧ v = .int .i64 r ∧ St [] W w' [] := by
  subst hn_p0_s_1
  unfold slices_IndexFunc_Place at hm
  refine Calls.enter (N := 19) Try.func132 rfl rfl rfl (fun a hf => ?_)
  have hs := St.start W
  obtain ⟨w, hw_⟩ : ∃ w, w = W := ⟨W, rfl⟩
  clear hw_ w
  refine wpL_seq ?_
  refine wpL_region ?_
  refine sY hf hs rfl rfl rfl (Y_assign rfl rfl) ?_; clear hf; intro a hf
  refine wpO_nil ?_
  refine wpL_seq ?_
  refine wpL_seq ?_
  refine wpL_region ?_
  refine sY hf hs rfl rfl rfl (Y_move rfl rfl) ?_; clear hf; intro a hf
  refine sY hf hs rfl rfl rfl (Y_lenH rfl rfl el32 rfl) ?_; clear hf; intro a hf
  refine sY hf hs rfl rfl rfl (Y_move rfl rfl) ?_; clear hf; intro a hf
  refine wpO_nil ?_
  obtain ⟨r21, hl22, hm⟩ := bind_some hm
  refine wpL_block (fun a w => Sum.inr () = r21 ∧ Fr a 19 [] ∧ St [] W w []) ?_ ?_
  · refine wpL_loop (fun n a w => ∃ x14 : Int, slices_IndexFunc_Place_L1 F p0_s m_p1_f n x14 = some r21 ∧ Fr a 19 [(0, .slice A_p0_s_1 p0_s.length c_p0_s_1), (1, .func (.func f_p1_f) #[] k_p1_f.toArray), (7, .int .i64 (p0_s.length : Int)), (8, .int .i64 x14)] ∧ St [] W w []) F ?_ ?_ ?_
    · exact ⟨0, hl22, (Fr.pick (Fr.pick (Fr.pick (Fr.pick hf.none hf rfl) hf rfl) hf rfl) hf rfl), hs⟩
    · rintro a w ⟨x14, h0_, -, -⟩; simp [slices_IndexFunc_Place_L1] at h0_
    · rintro n24 a w ⟨x14, hm23, hf, hs⟩
      rw [slices_IndexFunc_Place_L1] at hm23
      refine wpL_seq ?_
      refine wpL_region ?_
      refine sY hf hs rfl rfl rfl (Y_lss rfl rfl rfl) ?_; clear hf; intro a hf
      refine wpO_nil ?_
      refine wpL_seq ?_
      refine wpL_cond hf rfl (fun hb25 => ?_) (fun hb25 => ?_)
      · have hm23 := bif_t hm23 hb25
        refine wpL_skip ?_
        refine wpL_seq ?_
        refine wpL_block0 ?_
        refine wpL_seq ?_
        refine wpL_region ?_
        refine sY hf hs rfl rfl rfl (Y_move rfl rfl) ?_; clear hf; intro a hf
        refine sY hf hs rfl rfl rfl (Y_assign rfl rfl) ?_; clear hf; intro a hf
        refine wpO_nil ?_
        refine wpL_seq ?_
        refine wpL_region ?_
        refine sY hf hs rfl rfl rfl (Y_move rfl rfl) ?_; clear hf; intro a hf
        refine sY hf hs rfl rfl rfl (Y_move rfl rfl) ?_; clear hf; intro a hf
        refine sY hf hs rfl rfl rfl (Y_move rfl rfl) ?_; clear hf; intro a hf
        obtain ⟨q26, hi27, hm23⟩ := bind_some hm23
        obtain ⟨hi27a, hi27b, hi27q⟩ := idx_some hi27
        refine sY hf hs rfl rfl rfl (Y_index rfl rfl rfl el32 ti71 (Rd.isAt (h_p0_s_1.at hs) (recs_at (s := 4) GPlace.len hi27q (j := 0) rfl)) hi27a hi27b) ?_; clear hf; intro a hf
        refine sY hf hs rfl rfl rfl (Y_load_rdS rfl rfl (us := [.int .i64 q26.From, .int .i64 q26.To, .int .i64 q26.Delay, .int .i64 q26.Tokens]) (fun w hs => h_p0_s_1.at hs) (fun j u hj => recs_at (s := 4) GPlace.len hi27q hj) (Nat.succ_pos _) ag71 ti71 rfl) ?_; clear hf; intro a hf
        obtain ⟨r28, hc29, hm23⟩ := bind_some hm23
        refine sCall hf rfl rfl rfl rfl (cap := k_p1_f) rfl rfl e_p1_f (h_p1_f q26 _ _ hc29 hs.below) ?_; clear hf; rintro _ w ⟨rfl, hs1⟩ a hf; have hs := hs.ext hs1.below; clear hs1
        refine wpO_nil ?_
        refine wpL_cond hf rfl (fun hb30 => ?_) (fun hb30 => ?_)
        · have hm23 := bif_t hm23 hb30
          refine wpL_seq ?_
          refine wpL_region ?_
          refine sY hf hs rfl rfl rfl (Y_move rfl rfl) ?_; clear hf; intro a hf
          refine sY hf hs rfl rfl rfl (Y_assign rfl rfl) ?_; clear hf; intro a hf
          refine wpO_nil ?_
          obtain rfl := Option.some.inj hm23
          try dsimp only at hm
          obtain rfl := Option.some.inj hm
          refine wpL_ret (Qb_ret (Ql_ret (Qb_ret (ret_tmp rfl hf rfl ?_))))
          exact ⟨_, rfl, rfl, hs⟩
        · have hm23 := bif_f hm23 hb30
          refine wpL_skip ?_
          refine wpL_nil (Qb_normal ?_)
          refine wpL_region ?_
          refine sY hf hs rfl rfl rfl (Y_add rfl rfl rfl) ?_; clear hf; intro a hf
          refine sY hf hs rfl rfl rfl (Y_move rfl rfl) ?_; clear hf; intro a hf
          refine wpO_nil ?_
          refine wpL_nil (Ql_normal ?_)
          exact ⟨(IntKind.i64.wrap (x14 + 1)), hm23, (Fr.pick (Fr.pick (Fr.pick (Fr.pick hf.none hf rfl) hf rfl) hf rfl) hf rfl), hs⟩
      · have hm23 := bif_f hm23 hb25
        refine wpL_exit (Ql_exit (Qb_exit ?_))
        exact ⟨Option.some.inj hm23, hf.none, hs⟩
  · rintro a w ⟨hr_, hf, hs⟩
    subst hr_
    try dsimp only at hm
    refine wpL_seq ?_
    refine wpL_region ?_
    refine sY hf hs rfl rfl rfl (Y_assign rfl rfl) ?_; clear hf; intro a hf
    refine wpO_nil ?_
    obtain rfl := Option.some.inj hm
    refine wpL_ret (ret_tmp rfl hf rfl ?_)
    exact ⟨_, rfl, rfl, hs⟩

set_option maxRecDepth 100000 in
theorem slices_ContainsFunc_Place_ok (F : Nat) (p0_s : List GPlace) (A_p0_s_1 : Option Addr) (n_p0_s_1 c_p0_s_1 : Nat) (hn_p0_s_1 : n_p0_s_1 = p0_s.length) (m_p1_f : GPlace → Option Bool) (f_p1_f : FuncId) (k_p1_f : List Value) (r : Bool) (W : World) (hm : slices_ContainsFunc_Place F p0_s m_p1_f = some r) (h_p0_s_1 : Rd W A_p0_s_1 ((recs GPlace.cells) p0_s)) (h_p1_f : ∀ (x0 : GPlace) (r : Bool) (w : World), m_p1_f x0 = some r → Below W.heap.size W w → Calls Try.prog f_p1_f (([.agg #[.int .i64 x0.From, .int .i64 x0.To, .int .i64 x0.Delay, .int .i64 x0.Tokens]] : List Value) ++ k_p1_f).toArray w fun e w' => ∃ v, e = .returned v ∧ v = .bool r ∧ St [] w w' []) (e_p1_f : En Try.prog f_p1_f) :
    Calls Try.prog 118 [.slice A_p0_s_1 n_p0_s_1 c_p0_s_1, .func (.func f_p1_f) #[] k_p1_f.toArray].toArray W fun e w' => ∃ v, e = .returned v ∧ v = .bool r ∧ St [] W w' [] := by
  subst hn_p0_s_1
  unfold slices_ContainsFunc_Place at hm
  refine Calls.enter (N := 9) Try.func118 rfl rfl rfl (fun a hf => ?_)
  have hs := St.start W
  obtain ⟨w, hw_⟩ : ∃ w, w = W := ⟨W, rfl⟩
  clear hw_ w
  refine wpL_seq ?_
  refine wpL_region ?_
  refine sY hf hs rfl rfl rfl (Y_assign rfl rfl) ?_; clear hf; intro a hf
  refine wpO_nil ?_
  refine wpL_seq ?_
  refine wpL_region ?_
  refine sY hf hs rfl rfl rfl (Y_move rfl rfl) ?_; clear hf; intro a hf
  refine sY hf hs rfl rfl rfl (Y_move rfl rfl) ?_; clear hf; intro a hf
  obtain ⟨r1, hc2, hm⟩ := bind_some hm
  refine sCall hf rfl rfl rfl rfl (cap := []) rfl rfl en132 (slices_IndexFunc_Place_ok F p0_s A_p0_s_1 p0_s.length c_p0_s_1 rfl m_p1_f f_p1_f k_p1_f _ _ hc2 (h_p0_s_1.at hs) (fun x0 r w' hm_ hb => h_p1_f x0 r w' hm_ (hs.below.trans (hb.mono hs.below.size))) e_p1_f) ?_; clear hf
  rintro _ w ⟨rfl, hs1⟩ a hf
  have hs : St [] W w [] := hs.ext hs1.below
  clear hs1
  refine sY hf hs rfl rfl rfl (Y_geq rfl rfl rfl) ?_; clear hf; intro a hf
  refine sY hf hs rfl rfl rfl (Y_assign rfl rfl) ?_; clear hf; intro a hf
  refine wpO_nil ?_
  obtain rfl := Option.some.inj hm
  refine wpL_ret (ret_tmp rfl hf rfl ?_)
  exact ⟨_, rfl, rfl, hs⟩

set_option maxRecDepth 100000 in
theorem impl_IsEventGraph_ok (F : Nat) (p0_g : GEventGraph) (A_p0_g_1 : Option Addr) (n_p0_g_1 c_p0_g_1 : Nat) (hn_p0_g_1 : n_p0_g_1 = p0_g.Places.length) (r : Bool) (W : World) (hm : impl_IsEventGraph F p0_g = some r) (h_p0_g_1 : Rd W A_p0_g_1 ((recs GPlace.cells) p0_g.Places)) :
    Calls Try.prog 95 [.agg #[.int .i64 p0_g.Events, .slice A_p0_g_1 n_p0_g_1 c_p0_g_1]].toArray W fun e w' => ∃ v, e = .returned v ∧ v = .bool r ∧ St [] W w' [] := by
  subst hn_p0_g_1
  unfold impl_IsEventGraph at hm
  refine Calls.enter (N := 19) Try.func95 rfl rfl rfl (fun a hf => ?_)
  have hs := St.start W
  obtain ⟨w, hw_⟩ : ∃ w, w = W := ⟨W, rfl⟩
  clear hw_ w
  refine wpL_seq ?_
  refine wpL_region ?_
  refine sBox hf hs rfl rfl rfl rfl rfl (cs := [.int .i64 p0_g.Events, .slice A_p0_g_1 p0_g.Places.length c_p0_g_1]) rfl ?_; clear hf hs; intro a w b1 hs hf
  have hs : St [] W w [.blk b1 34 [.int .i64 p0_g.Events, .slice A_p0_g_1 p0_g.Places.length c_p0_g_1]] := hs
  refine sY hf hs rfl rfl rfl (Y_assign rfl rfl) ?_; clear hf; intro a hf
  refine wpO_nil ?_
  refine wpL_seq ?_
  obtain ⟨r9, hj10, hm⟩ := bind_some hm
  refine wpL_cut (fun a w => ∃ b8 : Bool, b8 = r9 ∧ Fr a 19 [(2, .bool b8)] ∧ St [] W w []) ?_ ?_
  · refine wpL_region ?_
    refine sY hf hs rfl rfl rfl (Y_fieldAddr rfl rfl fo34_0) ?_; clear hf; intro a hf
    refine sY hf hs rfl rfl rfl (Y_load_blk rfl rfl (i := 0) rfl rfl ag2) ?_; clear hf; intro a hf
    obtain ⟨r11, hc12, hj10⟩ := bind_some hj10
    refine sCall hf rfl rfl rfl rfl (cap := []) rfl rfl en65 (impl_within_ok F p0_g.Events 1 10 _ _ hc12) ?_; clear hf
    rintro _ w ⟨rfl, hs1⟩ a hf
    have hs : St [] W w [.blk b1 34 [.int .i64 p0_g.Events, .slice A_p0_g_1 p0_g.Places.length c_p0_g_1]] := hs.ext hs1.below
    clear hs1
    refine sY hf hs rfl rfl rfl (Y_move rfl rfl) ?_; clear hf; intro a hf
    refine bsplit r11 (fun hb13 => ?_) (fun hb13 => ?_)
    · have hj10 := bif_t hj10 hb13
      refine sYg hf hs rfl rfl rfl (congrArg (fun b => some (Value.bool b)) hb13) rfl rfl rfl (Y_fieldAddr rfl rfl fo34_1) ?_; clear hf; intro a hf
      refine sYg hf hs rfl rfl rfl (congrArg (fun b => some (Value.bool b)) hb13) rfl rfl rfl (Y_load_blk rfl rfl (i := 0) rfl rfl ag32) ?_; clear hf; intro a hf
      refine sYg hf hs rfl rfl rfl (congrArg (fun b => some (Value.bool b)) hb13) rfl rfl rfl (Y_lenH rfl rfl el32 rfl) ?_; clear hf; intro a hf
      refine sYg hf hs rfl rfl rfl (congrArg (fun b => some (Value.bool b)) hb13) rfl rfl rfl (Y_leq rfl rfl rfl) ?_; clear hf; intro a hf
      refine sY hf hs rfl rfl rfl (Y_pickT rfl (congrArg (fun b => some (Value.bool b)) hb13) rfl) ?_; clear hf; intro a hf
      refine sY hf hs rfl rfl rfl (Y_move rfl rfl) ?_; clear hf; intro a hf
      refine bsplit (decide ((p0_g.Places.length : Int) ≤ 30)) (fun hb14 => ?_) (fun hb14 => ?_)
      · have hj10 := bif_t hj10 hb14
        refine sYg hf hs rfl rfl rfl (congrArg (fun b => some (Value.bool b)) hb14) rfl rfl rfl (Y_fieldAddr rfl rfl fo34_1) ?_; clear hf; intro a hf
        refine sYg hf hs rfl rfl rfl (congrArg (fun b => some (Value.bool b)) hb14) rfl rfl rfl (Y_load_blk rfl rfl (i := 0) rfl rfl ag32) ?_; clear hf; intro a hf
        refine sYg hf hs rfl rfl rfl (congrArg (fun b => some (Value.bool b)) hb14) rfl rfl rfl (Y_makeFunc (us := []) (vs := [.pointer (some ⟨b1, 0, none⟩)]) rfl rfl rfl) ?_; clear hf; intro a hf
        obtain ⟨r15, hc16, hj10⟩ := bind_some hj10
        refine sCallg hf rfl rfl rfl (congrArg (fun b => some (Value.bool b)) hb14) rfl rfl rfl rfl (cap := []) rfl rfl en118 (slices_ContainsFunc_Place_ok F p0_g.Places A_p0_g_1 p0_g.Places.length c_p0_g_1 rfl (fun x0 => impl_IsEventGraph_c1 F x0 p0_g) 119 ([.pointer (some ⟨b1, 0, none⟩)]) _ _ hc16 (h_p0_g_1.at hs) (fun x0 r w' hm_ hb => impl_IsEventGraph_c1_ok F x0 b1 p0_g A_p0_g_1 p0_g.Places.length c_p0_g_1 rfl r w' hm_ ((h_p0_g_1.at hs).below hb (Nat.le_refl _)) ((hs.pb (i := 0) rfl).below hb (Nat.le_refl _))) en119) ?_; clear hf
        rintro _ w ⟨rfl, hs1⟩ a hf
        have hs : St [] W w [.blk b1 34 [.int .i64 p0_g.Events, .slice A_p0_g_1 p0_g.Places.length c_p0_g_1]] := hs.ext hs1.below
        clear hs1
        refine sYg hf hs rfl rfl rfl (congrArg (fun b => some (Value.bool b)) hb14) rfl rfl rfl (Y_not rfl rfl) ?_; clear hf; intro a hf
        refine sY hf hs rfl rfl rfl (Y_pickT rfl (congrArg (fun b => some (Value.bool b)) hb14) rfl) ?_; clear hf; intro a hf
        refine sY hf hs rfl rfl rfl (Y_assign rfl rfl) ?_; clear hf; intro a hf
        refine wpO_nil ?_
        refine wpL_nil (then_normal ?_)
        exact ⟨(!r15), Option.some.inj hj10, (Fr.pick hf.none hf rfl), hs.sel [] (by decide)⟩
      · have hj10 := bif_f hj10 hb14
        refine sNo hf rfl rfl rfl (congrArg (fun b => some (Value.bool b)) hb14) rfl rfl rfl ?_; clear hf; intro a hf
        refine sNo hf rfl rfl rfl (congrArg (fun b => some (Value.bool b)) hb14) rfl rfl rfl ?_; clear hf; intro a hf
        refine sNo hf rfl rfl rfl (congrArg (fun b => some (Value.bool b)) hb14) rfl rfl rfl ?_; clear hf; intro a hf
        refine sNo hf rfl rfl rfl (congrArg (fun b => some (Value.bool b)) hb14) rfl rfl rfl ?_; clear hf; intro a hf
        refine sNo hf rfl rfl rfl (congrArg (fun b => some (Value.bool b)) hb14) rfl rfl rfl ?_; clear hf; intro a hf
        refine sY hf hs rfl rfl rfl (Y_pickF rfl (congrArg (fun b => some (Value.bool b)) hb14) rfl) ?_; clear hf; intro a hf
        refine sY hf hs rfl rfl rfl (Y_assign rfl rfl) ?_; clear hf; intro a hf
        refine wpO_nil ?_
        refine wpL_nil (then_normal ?_)
        exact ⟨false, Option.some.inj hj10, (Fr.pick hf.none hf rfl), hs.sel [] (by decide)⟩
    · have hj10 := bif_f hj10 hb13
      refine sNo hf rfl rfl rfl (congrArg (fun b => some (Value.bool b)) hb13) rfl rfl rfl ?_; clear hf; intro a hf
      refine sNo hf rfl rfl rfl (congrArg (fun b => some (Value.bool b)) hb13) rfl rfl rfl ?_; clear hf; intro a hf
      refine sNo hf rfl rfl rfl (congrArg (fun b => some (Value.bool b)) hb13) rfl rfl rfl ?_; clear hf; intro a hf
      refine sNo hf rfl rfl rfl (congrArg (fun b => some (Value.bool b)) hb13) rfl rfl rfl ?_; clear hf; intro a hf
      refine sY hf hs rfl rfl rfl (Y_pickF rfl (congrArg (fun b => some (Value.bool b)) hb13) rfl) ?_; clear hf; intro a hf
      refine sY hf hs rfl rfl rfl (Y_move rfl rfl) ?_; clear hf; intro a hf
      refine sNo hf rfl rfl rfl rfl rfl rfl rfl ?_; clear hf; intro a hf
      refine sNo hf rfl rfl rfl rfl rfl rfl rfl ?_; clear hf; intro a hf
      refine sNo hf rfl rfl rfl rfl rfl rfl rfl ?_; clear hf; intro a hf
      refine sNo hf rfl rfl rfl rfl rfl rfl rfl ?_; clear hf; intro a hf
      refine sNo hf rfl rfl rfl rfl rfl rfl rfl ?_; clear hf; intro a hf
      refine sY hf hs rfl rfl rfl (Y_pickF rfl rfl rfl) ?_; clear hf; intro a hf
      refine sY hf hs rfl rfl rfl (Y_assign rfl rfl) ?_; clear hf; intro a hf
      refine wpO_nil ?_
      refine wpL_nil (then_normal ?_)
      exact ⟨false, Option.some.inj hj10, (Fr.pick hf.none hf rfl), hs.sel [] (by decide)⟩
  · rintro a w ⟨b8, hr_, hf, hs⟩
    subst hr_
    try dsimp only at hm
    obtain rfl := Option.some.inj hm
    refine wpL_ret (ret_tmp rfl hf rfl ?_)
    exact ⟨_, rfl, rfl, hs⟩

set_option maxRecDepth 100000 in
theorem impl_allWithin_ok (F : Nat) (p0_list : List Int) (A_p0_list_1 : Option Addr) (n_p0_list_1 c_p0_list_1 : Nat) (hn_p0_list_1 : n_p0_list_1 = p0_list.length) (p1_low : Int) (p2_high : Int) (r : Bool) (W : World) (hm : impl_allWithin F p0_list p1_low p2_high = some r) (h_p0_list_1 : Rd W A_p0_list_1 (ints p0_list)) :
    Calls Try.prog 103 [.slice A_p0_list_1 n_p0_list_1 c_p0_list_1, .int .i64 p1_low, .int .i64 p2_high].toArray W fun e w' => ∃ v, e = .returned v ∧ v = .bool r ∧ St [] W w' [] := by
  subst hn_p0_list_1
  unfold impl_allWithin at hm
  refine Calls.enter (N := 21) Try.func103 rfl rfl rfl (fun a hf => ?_)
  have hs := St.start W
  obtain ⟨w, hw_⟩ : ∃ w, w = W := ⟨W, rfl⟩
  clear hw_ w
  refine wpL_seq ?_
  refine wpL_region ?_
  refine sY hf hs rfl rfl rfl (Y_assign rfl rfl) ?_; clear hf; intro a hf
  refine wpO_nil ?_
  refine wpL_seq ?_
  refine wpL_seq ?_
  refine wpL_region ?_
  refine sY hf hs rfl rfl rfl (Y_move rfl rfl) ?_; clear hf; intro a hf
  refine sY hf hs rfl rfl rfl (Y_lenH rfl rfl el25 rfl) ?_; clear hf; intro a hf
  refine sY hf hs rfl rfl rfl (Y_move rfl rfl) ?_; clear hf; intro a hf
  refine wpO_nil ?_
  obtain ⟨r21, hl22, hm⟩ := bind_some hm
  refine wpL_block (fun a w => Sum.inr () = r21 ∧ Fr a 21 [] ∧ St [] W w []) ?_ ?_
  · refine wpL_loop (fun n a w => ∃ x14 : Int, impl_allWithin_L1 F p0_list p1_low p2_high n x14 = some r21 ∧ Fr a 21 [(1, .int .i64 p1_low), (2, .int .i64 p2_high), (9, .slice A_p0_list_1 p0_list.length c_p0_list_1), (10, .int .i64 (p0_list.length : Int)), (11, .int .i64 x14)] ∧ St [] W w []) F ?_ ?_ ?_
    · exact ⟨0, hl22, (Fr.pick (Fr.pick (Fr.pick (Fr.pick (Fr.pick hf.none hf rfl) hf rfl) hf rfl) hf rfl) hf rfl), hs⟩
    · rintro a w ⟨x14, h0_, -, -⟩; simp [impl_allWithin_L1] at h0_
    · rintro n24 a w ⟨x14, hm23, hf, hs⟩
      rw [impl_allWithin_L1] at hm23
      refine wpL_seq ?_
      refine wpL_region ?_
      refine sY hf hs rfl rfl rfl (Y_lss rfl rfl rfl) ?_; clear hf; intro a hf
      refine wpO_nil ?_
      refine wpL_seq ?_
      refine wpL_cond hf rfl (fun hb25 => ?_) (fun hb25 => ?_)
      · have hm23 := bif_t hm23 hb25
        refine wpL_skip ?_
        refine wpL_seq ?_
        refine wpL_block0 ?_
        refine wpL_seq ?_
        refine wpL_region ?_
        obtain ⟨q26, hi27, hm23⟩ := bind_some hm23
        obtain ⟨hi27a, hi27b, hi27q⟩ := idx_some hi27
        refine sY hf hs rfl rfl rfl (Y_index rfl rfl rfl el25 ti2 (Rd.isAt (h_p0_list_1.at hs) (at1 (ints_at hi27q))) hi27a hi27b) ?_; clear hf; intro a hf
        refine sY hf hs rfl rfl rfl (Y_load_rd rfl rfl (fun w hs => h_p0_list_1.at hs) (at1 (ints_at hi27q)) ag2) ?_; clear hf; intro a hf
        refine sY hf hs rfl rfl rfl (Y_assign rfl rfl) ?_; clear hf; intro a hf
        refine wpO_nil ?_
        refine wpL_seq ?_
        refine wpL_region ?_
        refine sY hf hs rfl rfl rfl (Y_move rfl rfl) ?_; clear hf; intro a hf
        refine sY hf hs rfl rfl rfl (Y_move rfl rfl) ?_; clear hf; intro a hf
        refine sY hf hs rfl rfl rfl (Y_move rfl rfl) ?_; clear hf; intro a hf
        obtain ⟨r28, hc29, hm23⟩ := bind_some hm23
        refine sCall hf rfl rfl rfl rfl (cap := []) rfl rfl en65 (impl_within_ok F q26 p1_low p2_high _ _ hc29) ?_; clear hf
        rintro _ w ⟨rfl, hs1⟩ a hf
        have hs : St [] W w [] := hs.ext hs1.below
        clear hs1
        refine sY hf hs rfl rfl rfl (Y_not rfl rfl) ?_; clear hf; intro a hf
        refine wpO_nil ?_
        refine wpL_cond hf rfl (fun hb30 => ?_) (fun hb30 => ?_)
        · have hm23 := bif_t hm23 hb30
          refine wpL_seq ?_
          refine wpL_region ?_
          refine sY hf hs rfl rfl rfl (Y_assign rfl rfl) ?_; clear hf; intro a hf
          refine wpO_nil ?_
          obtain rfl := Option.some.inj hm23
          try dsimp only at hm
          obtain rfl := Option.some.inj hm
          refine wpL_ret (Qb_ret (Ql_ret (Qb_ret (ret_tmp rfl hf rfl ?_))))
          exact ⟨_, rfl, rfl, hs⟩
        · have hm23 := bif_f hm23 hb30
          refine wpL_skip ?_
          refine wpL_nil (Qb_normal ?_)
          refine wpL_region ?_
          refine sY hf hs rfl rfl rfl (Y_add rfl rfl rfl) ?_; clear hf; intro a hf
          refine sY hf hs rfl rfl rfl (Y_move rfl rfl) ?_; clear hf; intro a hf
          refine wpO_nil ?_
          refine wpL_nil (Ql_normal ?_)
          exact ⟨(IntKind.i64.wrap (x14 + 1)), hm23, (Fr.pick (Fr.pick (Fr.pick (Fr.pick (Fr.pick hf.none hf rfl) hf rfl) hf rfl) hf rfl) hf rfl), hs⟩
      · have hm23 := bif_f hm23 hb25
        refine wpL_exit (Ql_exit (Qb_exit ?_))
        exact ⟨Option.some.inj hm23, hf.none, hs⟩
  · rintro a w ⟨hr_, hf, hs⟩
    subst hr_
    try dsimp only at hm
    refine wpL_seq ?_
    refine wpL_region ?_
    refine sY hf hs rfl rfl rfl (Y_assign rfl rfl) ?_; clear hf; intro a hf
    refine wpO_nil ?_
    obtain rfl := Option.some.inj hm
    refine wpL_ret (ret_tmp rfl hf rfl ?_)
    exact ⟨_, rfl, rfl, hs⟩

set_option maxRecDepth 100000 in
theorem impl_isTimeTable_c1_ok (F : Nat) (p0_row : List Int) (A_p0_row_1 : Option Addr) (n_p0_row_1 c_p0_row_1 : Nat) (hn_p0_row_1 : n_p0_row_1 = p0_row.length) (b_z0 : Nat) (z0 : GEventGraph) (A_z0_1 : Option Addr) (n_z0_1 c_z0_1 : Nat) (hn_z0_1 : n_z0_1 = z0.Places.length) (r : Bool) (W : World) (hm : impl_isTimeTable_c1 F p0_row z0 = some r) (h_p0_row_1 : Rd W A_p0_row_1 (ints p0_row)) (_h_z0_1 : Rd W A_z0_1 ((recs GPlace.cells) z0.Places)) (h_z0 : PB W b_z0 34 [.int .i64 z0.Events, .slice A_z0_1 n_z0_1 c_z0_1]) :
    Calls Try.prog 127 [.slice A_p0_row_1 n_p0_row_1 c_p0_row_1, .pointer (some ⟨b_z0, 0, none⟩)].toArray W fun e w' => ∃ v, e = .returned v ∧ v = .bool r ∧ St [] W w' [] := by
  subst hn_p0_row_1
  subst hn_z0_1
  unfold impl_isTimeTable_c1 at hm
  refine Calls.enter (N := 14) Try.func127 rfl rfl rfl (fun a hf => ?_)
  have hs := St.start W
  obtain ⟨w, hw_⟩ : ∃ w, w = W := ⟨W, rfl⟩
  clear hw_ w
  refine wpL_seq ?_
  refine wpL_region ?_
  refine sY hf hs rfl rfl rfl (Y_assign rfl rfl) ?_; clear hf; intro a hf
  refine wpO_nil ?_
  refine wpL_seq ?_
  obtain ⟨r5, hj6, hm⟩ := bind_some hm
  refine wpL_cut (fun a w => ∃ b4 : Bool, b4 = r5 ∧ Fr a 14 [(3, .bool b4)] ∧ St [] W w []) ?_ ?_
  · refine wpL_region ?_
    refine sY hf hs rfl rfl rfl (Y_move rfl rfl) ?_; clear hf; intro a hf
    refine sY hf hs rfl rfl rfl (Y_lenH rfl rfl el25 rfl) ?_; clear hf; intro a hf
    refine sY hf hs rfl rfl rfl (Y_fieldAddr rfl rfl fo34_0) ?_; clear hf; intro a hf
    refine sY hf hs rfl rfl rfl (Y_load_pb rfl rfl h_z0 rfl ag2) ?_; clear hf; intro a hf
    refine sY hf hs rfl rfl rfl (Y_neq rfl rfl rfl) ?_; clear hf; intro a hf
    refine sY hf hs rfl rfl rfl (Y_move rfl rfl) ?_; clear hf; intro a hf
    refine bsplit ((p0_row.length : Int) != z0.Events) (fun hb7 => ?_) (fun hb7 => ?_)
    · have hj6 := bif_t hj6 hb7
      refine sNo hf rfl rfl rfl (congrArg (fun b => some (Value.bool b)) hb7) rfl rfl rfl ?_; clear hf; intro a hf
      refine sNo hf rfl rfl rfl (congrArg (fun b => some (Value.bool b)) hb7) rfl rfl rfl ?_; clear hf; intro a hf
      refine sNo hf rfl rfl rfl (congrArg (fun b => some (Value.bool b)) hb7) rfl rfl rfl ?_; clear hf; intro a hf
      refine sY hf hs rfl rfl rfl (Y_pickT rfl (congrArg (fun b => some (Value.bool b)) hb7) rfl) ?_; clear hf; intro a hf
      refine sY hf hs rfl rfl rfl (Y_assign rfl rfl) ?_; clear hf; intro a hf
      refine wpO_nil ?_
      refine wpL_nil (then_normal ?_)
      exact ⟨true, Option.some.inj hj6, (Fr.pick hf.none hf rfl), hs⟩
    · have hj6 := bif_f hj6 hb7
      refine sYg hf hs rfl rfl rfl (congrArg (fun b => some (Value.bool b)) hb7) rfl rfl rfl (Y_move rfl rfl) ?_; clear hf; intro a hf
      obtain ⟨r8, hc9, hj6⟩ := bind_some hj6
      refine sCallg hf rfl rfl rfl (congrArg (fun b => some (Value.bool b)) hb7) rfl rfl rfl rfl (cap := []) rfl rfl en103 (impl_allWithin_ok F p0_row A_p0_row_1 p0_row.length c_p0_row_1 rfl 0 1000000 _ _ hc9 (h_p0_row_1.at hs)) ?_; clear hf
      rintro _ w ⟨rfl, hs1⟩ a hf
      have hs : St [] W w [] := hs.ext hs1.below
      clear hs1
      refine sYg hf hs rfl rfl rfl (congrArg (fun b => some (Value.bool b)) hb7) rfl rfl rfl (Y_not rfl rfl) ?_; clear hf; intro a hf
      refine sY hf hs rfl rfl rfl (Y_pickF rfl (congrArg (fun b => some (Value.bool b)) hb7) rfl) ?_; clear hf; intro a hf
      refine sY hf hs rfl rfl rfl (Y_assign rfl rfl) ?_; clear hf; intro a hf
      refine wpO_nil ?_
      refine wpL_nil (then_normal ?_)
      exact ⟨(!r8), Option.some.inj hj6, (Fr.pick hf.none hf rfl), hs⟩
  · rintro a w ⟨b4, hr_, hf, hs⟩
    subst hr_
    try dsimp only at hm
    obtain rfl := Option.some.inj hm
    refine wpL_ret (ret_tmp rfl hf rfl ?_)
    exact ⟨_, rfl, rfl, hs⟩

set_option maxRecDepth 100000 in
theorem slices_IndexFunc_sint64_ok (F : Nat) (p0_s : List (List Int)) (A_p0_s_1 : Option Addr) (n_p0_s_1 c_p0_s_1 : Nat) (hn_p0_s_1 : n_p0_s_1 = p0_s.length) (m_p1_f : (List Int) → Option Bool) (f_p1_f : FuncId) (k_p1_f : List Value) (r : Int) (W : World) (hm : slices_IndexFunc_sint64 F p0_s m_p1_f = some r) (h_p0_s_1 : RdM W A_p0_s_1 p0_s) (h_p1_f : ∀ (x0 : List Int) (Ax0_1 : Option Addr) (nx0_1 cx0_1 : Nat) (_hnx0_1 : nx0_1 = x0.length) (r : Bool) (w : World), m_p1_f x0 = some r → Below W.heap.size W w → Rd w Ax0_1 (ints x0) → Calls Try.prog f_p1_f (([.slice Ax0_1 nx0_1 cx0_1] : List Value) ++ k_p1_f).toArray w fun e w' => ∃ v, e = .returned v ∧ v = .bool r ∧ St [] w w' []) (e_p1_f : En Try.prog f_p1_f) :
    Calls Try.prog 137 [.slice A_p0_s_1 n_p0_s_1 c_p0_s_1, .func (.func f_p1_f) #[] k_p1_f.toArray].toArray W fun e w' => ∃ v, e = .returned v ∧ v = .int .i64 r ∧ St [] W w' [] := by
  subst hn_p0_s_1
  unfold slices_IndexFunc_sint64 at hm
  refine Calls.enter (N := 19) Try.func137 rfl rfl rfl (fun a hf => ?_)
  have hs := St.start W
  obtain ⟨w, hw_⟩ : ∃ w, w = W := ⟨W, rfl⟩
  clear hw_ w
  refine wpL_seq ?_
  refine wpL_region ?_
  refine sY hf hs rfl rfl rfl (Y_assign rfl rfl) ?_; clear hf; intro a hf
  refine wpO_nil ?_
  refine wpL_seq ?_
  refine wpL_seq ?_
  refine wpL_region ?_
  refine sY hf hs rfl rfl rfl (Y_move rfl rfl) ?_; clear hf; intro a hf
  refine sY hf hs rfl rfl rfl (Y_lenH rfl rfl el41 rfl) ?_; clear hf; intro a hf
  refine sY hf hs rfl rfl rfl (Y_move rfl rfl) ?_; clear hf; intro a hf
  refine wpO_nil ?_
  obtain ⟨r42, hl43, hm⟩ := bind_some hm
  refine wpL_block (fun a w => Sum.inr () = r42 ∧ Fr a 19 [] ∧ St [] W w []) ?_ ?_
  · refine wpL_loop (fun n a w => ∃ x28 : Int, slices_IndexFunc_sint64_L1 F p0_s m_p1_f n x28 = some r42 ∧ Fr a 19 [(0, .slice A_p0_s_1 p0_s.length c_p0_s_1), (1, .func (.func f_p1_f) #[] k_p1_f.toArray), (7, .int .i64 (p0_s.length : Int)), (8, .int .i64 x28)] ∧ St [] W w []) F ?_ ?_ ?_
    · exact ⟨0, hl43, (Fr.pick (Fr.pick (Fr.pick (Fr.pick hf.none hf rfl) hf rfl) hf rfl) hf rfl), hs⟩
    · rintro a w ⟨x28, h0_, -, -⟩; simp [slices_IndexFunc_sint64_L1] at h0_
    · rintro n45 a w ⟨x28, hm44, hf, hs⟩
      rw [slices_IndexFunc_sint64_L1] at hm44
      refine wpL_seq ?_
      refine wpL_region ?_
      refine sY hf hs rfl rfl rfl (Y_lss rfl rfl rfl) ?_; clear hf; intro a hf
      refine wpO_nil ?_
      refine wpL_seq ?_
      refine wpL_cond hf rfl (fun hb46 => ?_) (fun hb46 => ?_)
      · have hm44 := bif_t hm44 hb46
        refine wpL_skip ?_
        refine wpL_seq ?_
        refine wpL_block0 ?_
        refine wpL_seq ?_
        refine wpL_region ?_
        refine sY hf hs rfl rfl rfl (Y_move rfl rfl) ?_; clear hf; intro a hf
        refine sY hf hs rfl rfl rfl (Y_assign rfl rfl) ?_; clear hf; intro a hf
        refine wpO_nil ?_
        refine wpL_seq ?_
        refine wpL_region ?_
        refine sY hf hs rfl rfl rfl (Y_move rfl rfl) ?_; clear hf; intro a hf
        refine sY hf hs rfl rfl rfl (Y_move rfl rfl) ?_; clear hf; intro a hf
        refine sY hf hs rfl rfl rfl (Y_move rfl rfl) ?_; clear hf; intro a hf
        obtain ⟨q47, hi48, hm44⟩ := bind_some hm44
        obtain ⟨hi48a, hi48b, hi48q⟩ := idx_some hi48
        obtain ⟨vs49, hv50, hr51⟩ := id h_p0_s_1
        obtain ⟨A52, c53, hv54, hR55⟩ := hr51 _ _ hi48q
        refine sY hf hs rfl rfl rfl (Y_index rfl rfl rfl el41 ti25 (Rd.isAt hv50 hv54) hi48a hi48b) ?_; clear hf; intro a hf
        refine sY hf hs rfl rfl rfl (Y_load_rd rfl rfl (fun w hs => hv50.at hs) (at1 hv54) ag25) ?_; clear hf; intro a hf
        obtain ⟨r56, hc57, hm44⟩ := bind_some hm44
        refine sCall hf rfl rfl rfl rfl (cap := k_p1_f) rfl rfl e_p1_f (h_p1_f q47 A52 q47.length c53 rfl _ _ hc57 hs.below (hR55.at hs)) ?_; clear hf; rintro _ w ⟨rfl, hs1⟩ a hf; have hs := hs.ext hs1.below; clear hs1
        refine wpO_nil ?_
        refine wpL_cond hf rfl (fun hb58 => ?_) (fun hb58 => ?_)
        · have hm44 := bif_t hm44 hb58
          refine wpL_seq ?_
          refine wpL_region ?_
          refine sY hf hs rfl rfl rfl (Y_move rfl rfl) ?_; clear hf; intro a hf
          refine sY hf hs rfl rfl rfl (Y_assign rfl rfl) ?_; clear hf; intro a hf
          refine wpO_nil ?_
          obtain rfl := Option.some.inj hm44
          try dsimp only at hm
          obtain rfl := Option.some.inj hm
          refine wpL_ret (Qb_ret (Ql_ret (Qb_ret (ret_tmp rfl hf rfl ?_))))
          exact ⟨_, rfl, rfl, hs⟩
        · have hm44 := bif_f hm44 hb58
          refine wpL_skip ?_
          refine wpL_nil (Qb_normal ?_)
          refine wpL_region ?_
          refine sY hf hs rfl rfl rfl (Y_add rfl rfl rfl) ?_; clear hf; intro a hf
          refine sY hf hs rfl rfl rfl (Y_move rfl rfl) ?_; clear hf; intro a hf
          refine wpO_nil ?_
          refine wpL_nil (Ql_normal ?_)
          exact ⟨(IntKind.i64.wrap (x28 + 1)), hm44, (Fr.pick (Fr.pick (Fr.pick (Fr.pick hf.none hf rfl) hf rfl) hf rfl) hf rfl), hs⟩
      · have hm44 := bif_f hm44 hb46
        refine wpL_exit (Ql_exit (Qb_exit ?_))
        exact ⟨Option.some.inj hm44, hf.none, hs⟩
  · rintro a w ⟨hr_, hf, hs⟩
    subst hr_
    try dsimp only at hm
    refine wpL_seq ?_
    refine wpL_region ?_
    refine sY hf hs rfl rfl rfl (Y_assign rfl rfl) ?_; clear hf; intro a hf
    refine wpO_nil ?_
    obtain rfl := Option.some.inj hm
    refine wpL_ret (ret_tmp rfl hf rfl ?_)
    exact ⟨_, rfl, rfl, hs⟩

set_option maxRecDepth 100000 in
theorem slices_ContainsFunc_sint64_ok (F : Nat) (p0_s : List (List Int)) (A_p0_s_1 : Option Addr) (n_p0_s_1 c_p0_s_1 : Nat) (hn_p0_s_1 : n_p0_s_1 = p0_s.length) (m_p1_f : (List Int) → Option Bool) (f_p1_f : FuncId) (k_p1_f : List Value) (r : Bool) (W : World) (hm : slices_ContainsFunc_sint64 F p0_s m_p1_f = some r) (h_p0_s_1 : RdM W A_p0_s_1 p0_s) (h_p1_f : ∀ (x0 : List Int) (Ax0_1 : Option Addr) (nx0_1 cx0_1 : Nat) (_hnx0_1 : nx0_1 = x0.length) (r : Bool) (w : World), m_p1_f x0 = some r → Below W.heap.size W w → Rd w Ax0_1 (ints x0) → Calls Try.prog f_p1_f (([.slice Ax0_1 nx0_1 cx0_1] : List Value) ++ k_p1_f).toArray w fun e w' => ∃ v, e = .returned v ∧ v = .bool r ∧ St [] w w' []) (e_p1_f : En Try.prog f_p1_f) :
    Calls Try.prog 126 [.slice A_p0_s_1 n_p0_s_1 c_p0_s_1, .func (.func f_p1_f) #[] k_p1_f.toArray].toArray W fun e w' => ∃ v, e = .returned v ∧ v = .bool r ∧ St [] W w' [] := by
  subst hn_p0_s_1
  unfold slices_ContainsFunc_sint64 at hm
  refine Calls.enter (N := 9) Try.func126 rfl rfl rfl (fun a hf => ?_)
  have hs := St.start W
  obtain ⟨w, hw_⟩ : ∃ w, w = W := ⟨W, rfl⟩
  clear hw_ w
  refine wpL_seq ?_
  refine wpL_region ?_
  refine sY hf hs rfl rfl rfl (Y_assign rfl rfl) ?_; clear hf; intro a hf
  refine wpO_nil ?_
  refine wpL_seq ?_
  refine wpL_region ?_
  refine sY hf hs rfl rfl rfl (Y_move rfl rfl) ?_; clear hf; intro a hf
  refine sY hf hs rfl rfl rfl (Y_move rfl rfl) ?_; clear hf; intro a hf
  obtain ⟨r1, hc2, hm⟩ := bind_some hm
  refine sCall hf rfl rfl rfl rfl (cap := []) rfl rfl en137 (slices_IndexFunc_sint64_ok F p0_s A_p0_s_1 p0_s.length c_p0_s_1 rfl m_p1_f f_p1_f k_p1_f _ _ hc2 (h_p0_s_1.at hs) (fun x0 A0_0 n0_0 c0_0 h0_0 r w' hm_ hb r0_0 => h_p1_f x0 A0_0 n0_0 c0_0 h0_0 r w' hm_ (hs.below.trans (hb.mono hs.below.size)) r0_0) e_p1_f) ?_; clear hf
  rintro _ w ⟨rfl, hs1⟩ a hf
  have hs : St [] W w [] := hs.ext hs1.below
  clear hs1
  refine sY hf hs rfl rfl rfl (Y_geq rfl rfl rfl) ?_; clear hf; intro a hf
  refine sY hf hs rfl rfl rfl (Y_assign rfl rfl) ?_; clear hf; intro a hf
  refine wpO_nil ?_
  obtain rfl := Option.some.inj hm
  refine wpL_ret (ret_tmp rfl hf rfl ?_)
  exact ⟨_, rfl, rfl, hs⟩

set_option maxRecDepth 100000 in
theorem impl_isTimeTable_ok (F : Nat) (p0_g : GEventGraph) (A_p0_g_1 : Option Addr) (n_p0_g_1 c_p0_g_1 : Nat) (hn_p0_g_1 : n_p0_g_1 = p0_g.Places.length) (p1_table : List (List Int)) (A_p1_table_1 : Option Addr) (n_p1_table_1 c_p1_table_1 : Nat) (hn_p1_table_1 : n_p1_table_1 = p1_table.length) (r : Bool) (W : World) (hm : impl_isTimeTable F p0_g p1_table = some r) (h_p0_g_1 : Rd W A_p0_g_1 ((recs GPlace.cells) p0_g.Places)) (h_p1_table_1 : RdM W A_p1_table_1 p1_table) :
    Calls Try.prog 110 [.agg #[.int .i64 p0_g.Events, .slice A_p0_g_1 n_p0_g_1 c_p0_g_1], .slice A_p1_table_1 n_p1_table_1 c_p1_table_1].toArray W fun e w' => ∃ v, e = .returned v ∧ v = .bool r ∧ St [] W w' [] := by
  subst hn_p0_g_1
  subst hn_p1_table_1
  unfold impl_isTimeTable at hm
  refine Calls.enter (N := 14) Try.func110 rfl rfl rfl (fun a hf => ?_)
  have hs := St.start W
  obtain ⟨w, hw_⟩ : ∃ w, w = W := ⟨W, rfl⟩
  clear hw_ w
  refine wpL_seq ?_
  refine wpL_region ?_
  refine sBox hf hs rfl rfl rfl rfl rfl (cs := [.int .i64 p0_g.Events, .slice A_p0_g_1 p0_g.Places.length c_p0_g_1]) rfl ?_; clear hf hs; intro a w b1 hs hf
  have hs : St [] W w [.blk b1 34 [.int .i64 p0_g.Events, .slice A_p0_g_1 p0_g.Places.length c_p0_g_1]] := hs
  refine sY hf hs rfl rfl rfl (Y_assign rfl rfl) ?_; clear hf; intro a hf
  refine wpO_nil ?_
  refine wpL_seq ?_
  obtain ⟨r6, hj7, hm⟩ := bind_some hm
  refine wpL_cut (fun a w => ∃ b5 : Bool, b5 = r6 ∧ Fr a 14 [(4, .bool b5)] ∧ St [] W w []) ?_ ?_
  · refine wpL_region ?_
    refine sY hf hs rfl rfl rfl (Y_move rfl rfl) ?_; clear hf; intro a hf
    refine sY hf hs rfl rfl rfl (Y_lenH rfl rfl el41 rfl) ?_; clear hf; intro a hf
    refine sY hf hs rfl rfl rfl (Y_leq rfl rfl rfl) ?_; clear hf; intro a hf
    refine sY hf hs rfl rfl rfl (Y_move rfl rfl) ?_; clear hf; intro a hf
    refine bsplit (decide ((p1_table.length : Int) ≤ 50)) (fun hb8 => ?_) (fun hb8 => ?_)
    · have hj7 := bif_t hj7 hb8
      refine sYg hf hs rfl rfl rfl (congrArg (fun b => some (Value.bool b)) hb8) rfl rfl rfl (Y_move rfl rfl) ?_; clear hf; intro a hf
      refine sYg hf hs rfl rfl rfl (congrArg (fun b => some (Value.bool b)) hb8) rfl rfl rfl (Y_makeFunc (us := []) (vs := [.pointer (some ⟨b1, 0, none⟩)]) rfl rfl rfl) ?_; clear hf; intro a hf
      obtain ⟨r9, hc10, hj7⟩ := bind_some hj7
      refine sCallg hf rfl rfl rfl (congrArg (fun b => some (Value.bool b)) hb8) rfl rfl rfl rfl (cap := []) rfl rfl en126 (slices_ContainsFunc_sint64_ok F p1_table A_p1_table_1 p1_table.length c_p1_table_1 rfl (fun x0 => impl_isTimeTable_c1 F x0 p0_g) 127 ([.pointer (some ⟨b1, 0, none⟩)]) _ _ hc10 (h_p1_table_1.at hs) (fun x0 Ax00 nx00 cx00 hx00 r w' hm_ hb rx00 => impl_isTimeTable_c1_ok F x0 Ax00 nx00 cx00 hx00 b1 p0_g A_p0_g_1 p0_g.Places.length c_p0_g_1 rfl r w' hm_ rx00 ((h_p0_g_1.at hs).below hb (Nat.le_refl _)) ((hs.pb (i := 0) rfl).below hb (Nat.le_refl _))) en127) ?_; clear hf
      rintro _ w ⟨rfl, hs1⟩ a hf
      have hs : St [] W w [.blk b1 34 [.int .i64 p0_g.Events, .slice A_p0_g_1 p0_g.Places.length c_p0_g_1]] := hs.ext hs1.below
      clear hs1
      refine sYg hf hs rfl rfl rfl (congrArg (fun b => some (Value.bool b)) hb8) rfl rfl rfl (Y_not rfl rfl) ?_; clear hf; intro a hf
      refine sY hf hs rfl rfl rfl (Y_pickT rfl (congrArg (fun b => some (Value.bool b)) hb8) rfl) ?_; clear hf; intro a hf
      refine sY hf hs rfl rfl rfl (Y_assign rfl rfl) ?_; clear hf; intro a hf
      refine wpO_nil ?_
      refine wpL_nil (then_normal ?_)
      exact ⟨(!r9), Option.some.inj hj7, (Fr.pick hf.none hf rfl), hs.sel [] (by decide)⟩
    · have hj7 := bif_f hj7 hb8
      refine sNo hf rfl rfl rfl (congrArg (fun b => some (Value.bool b)) hb8) rfl rfl rfl ?_; clear hf; intro a hf
      refine sNo hf rfl rfl rfl (congrArg (fun b => some (Value.bool b)) hb8) rfl rfl rfl ?_; clear hf; intro a hf
      refine sNo hf rfl rfl rfl (congrArg (fun b => some (Value.bool b)) hb8) rfl rfl rfl ?_; clear hf; intro a hf
      refine sNo hf rfl rfl rfl (congrArg (fun b => some (Value.bool b)) hb8) rfl rfl rfl ?_; clear hf; intro a hf
      refine sY hf hs rfl rfl rfl (Y_pickF rfl (congrArg (fun b => some (Value.bool b)) hb8) rfl) ?_; clear hf; intro a hf
      refine sY hf hs rfl rfl rfl (Y_assign rfl rfl) ?_; clear hf; intro a hf
      refine wpO_nil ?_
      refine wpL_nil (then_normal ?_)
      exact ⟨false, Option.some.inj hj7, (Fr.pick hf.none hf rfl), hs.sel [] (by decide)⟩
  · rintro a w ⟨b5, hr_, hf, hs⟩
    subst hr_
    try dsimp only at hm
    obtain rfl := Option.some.inj hm
    refine wpL_ret (ret_tmp rfl hf rfl ?_)
    exact ⟨_, rfl, rfl, hs⟩

set_option maxRecDepth 100000 in
theorem slices_Index_int64_ok (F : Nat) (p0_s : List Int) (A_p0_s_1 : Option Addr) (n_p0_s_1 c_p0_s_1 : Nat) (hn_p0_s_1 : n_p0_s_1 = p0_s.length) (p1_v : Int) (r : Int) (W : World) (hm : slices_Index_int64 F p0_s p1_v = some r) (h_p0_s_1 : Rd W A_p0_s_1 (ints p0_s)) :
    Calls Try.prog 138 [.slice A_p0_s_1 n_p0_s_1 c_p0_s_1, .int .i64 p1_v].toArray W fun e w' => ∃ v, e = .returned v ∧ v = .int .i64 r ∧ St [] W w' [] := by
  subst hn_p0_s_1
  unfold slices_Index_int64 at hm
  refine Calls.enter (N := 19) Try.func138 rfl rfl rfl (fun a hf => ?_)
  have hs := St.start W
  obtain ⟨w, hw_⟩ : ∃ w, w = W := ⟨W, rfl⟩
  clear hw_ w
  refine wpL_seq ?_
  refine wpL_region ?_
  refine sY hf hs rfl rfl rfl (Y_assign rfl rfl) ?_; clear hf; intro a hf
  refine wpO_nil ?_
  refine wpL_seq ?_
  refine wpL_seq ?_
  refine wpL_region ?_
  refine sY hf hs rfl rfl rfl (Y_move rfl rfl) ?_; clear hf; intro a hf
  refine sY hf hs rfl rfl rfl (Y_lenH rfl rfl el25 rfl) ?_; clear hf; intro a hf
  refine sY hf hs rfl rfl rfl (Y_move rfl rfl) ?_; clear hf; intro a hf
  refine wpO_nil ?_
  obtain ⟨r15, hl16, hm⟩ := bind_some hm
  refine wpL_block (fun a w => Sum.inr () = r15 ∧ Fr a 19 [] ∧ St [] W w []) ?_ ?_
  · refine wpL_loop (fun n a w => ∃ x10 : Int, slices_Index_int64_L1 F p0_s p1_v n x10 = some r15 ∧ Fr a 19 [(0, .slice A_p0_s_1 p0_s.length c_p0_s_1), (1, .int .i64 p1_v), (7, .int .i64 (p0_s.length : Int)), (8, .int .i64 x10)] ∧ St [] W w []) F ?_ ?_ ?_
    · exact ⟨0, hl16, (Fr.pick (Fr.pick (Fr.pick (Fr.pick hf.none hf rfl) hf rfl) hf rfl) hf rfl), hs⟩
    · rintro a w ⟨x10, h0_, -, -⟩; simp [slices_Index_int64_L1] at h0_
    · rintro n18 a w ⟨x10, hm17, hf, hs⟩
      rw [slices_Index_int64_L1] at hm17
      refine wpL_seq ?_
      refine wpL_region ?_
      refine sY hf hs rfl rfl rfl (Y_lss rfl rfl rfl) ?_; clear hf; intro a hf
      refine wpO_nil ?_
      refine wpL_seq ?_
      refine wpL_cond hf rfl (fun hb19 => ?_) (fun hb19 => ?_)
      · have hm17 := bif_t hm17 hb19
        refine wpL_skip ?_
        refine wpL_seq ?_
        refine wpL_block0 ?_
        refine wpL_seq ?_
        refine wpL_region ?_
        refine sY hf hs rfl rfl rfl (Y_move rfl rfl) ?_; clear hf; intro a hf
        refine sY hf hs rfl rfl rfl (Y_assign rfl rfl) ?_; clear hf; intro a hf
        refine wpO_nil ?_
        refine wpL_seq ?_
        refine wpL_region ?_
        refine sY hf hs rfl rfl rfl (Y_move rfl rfl) ?_; clear hf; intro a hf
        refine sY hf hs rfl rfl rfl (Y_move rfl rfl) ?_; clear hf; intro a hf
        refine sY hf hs rfl rfl rfl (Y_move rfl rfl) ?_; clear hf; intro a hf
        obtain ⟨q20, hi21, hm17⟩ := bind_some hm17
        obtain ⟨hi21a, hi21b, hi21q⟩ := idx_some hi21
        refine sY hf hs rfl rfl rfl (Y_index rfl rfl rfl el25 ti2 (Rd.isAt (h_p0_s_1.at hs) (at1 (ints_at hi21q))) hi21a hi21b) ?_; clear hf; intro a hf
        refine sY hf hs rfl rfl rfl (Y_load_rd rfl rfl (fun w hs => h_p0_s_1.at hs) (at1 (ints_at hi21q)) ag2) ?_; clear hf; intro a hf
        refine sY hf hs rfl rfl rfl (Y_eql rfl rfl rfl) ?_; clear hf; intro a hf
        refine wpO_nil ?_
        refine wpL_cond hf rfl (fun hb22 => ?_) (fun hb22 => ?_)
        · have hm17 := bif_t hm17 hb22
          refine wpL_seq ?_
          refine wpL_region ?_
          refine sY hf hs rfl rfl rfl (Y_move rfl rfl) ?_; clear hf; intro a hf
          refine sY hf hs rfl rfl rfl (Y_assign rfl rfl) ?_; clear hf; intro a hf
          refine wpO_nil ?_
          obtain rfl := Option.some.inj hm17
          try dsimp only at hm
          obtain rfl := Option.some.inj hm
          refine wpL_ret (Qb_ret (Ql_ret (Qb_ret (ret_tmp rfl hf rfl ?_))))
          exact ⟨_, rfl, rfl, hs⟩
        · have hm17 := bif_f hm17 hb22
          refine wpL_skip ?_
          refine wpL_nil (Qb_normal ?_)
          refine wpL_region ?_
          refine sY hf hs rfl rfl rfl (Y_add rfl rfl rfl) ?_; clear hf; intro a hf
          refine sY hf hs rfl rfl rfl (Y_move rfl rfl) ?_; clear hf; intro a hf
          refine wpO_nil ?_
          refine wpL_nil (Ql_normal ?_)
          exact ⟨(IntKind.i64.wrap (x10 + 1)), hm17, (Fr.pick (Fr.pick (Fr.pick (Fr.pick hf.none hf rfl) hf rfl) hf rfl) hf rfl), hs⟩
      · have hm17 := bif_f hm17 hb19
        refine wpL_exit (Ql_exit (Qb_exit ?_))
        exact ⟨Option.some.inj hm17, hf.none, hs⟩
  · rintro a w ⟨hr_, hf, hs⟩
    subst hr_
    try dsimp only at hm
    refine wpL_seq ?_
    refine wpL_region ?_
    refine sY hf hs rfl rfl rfl (Y_assign rfl rfl) ?_; clear hf; intro a hf
    refine wpO_nil ?_
    obtain rfl := Option.some.inj hm
    refine wpL_ret (ret_tmp rfl hf rfl ?_)
    exact ⟨_, rfl, rfl, hs⟩

set_option maxRecDepth 100000 in
theorem slices_Contains_int64_ok (F : Nat) (p0_s : List Int) (A_p0_s_1 : Option Addr) (n_p0_s_1 c_p0_s_1 : Nat) (hn_p0_s_1 : n_p0_s_1 = p0_s.length) (p1_v : Int) (r : Bool) (W : World) (hm : slices_Contains_int64 F p0_s p1_v = some r) (h_p0_s_1 : Rd W A_p0_s_1 (ints p0_s)) :
    Calls Try.prog 128 [.slice A_p0_s_1 n_p0_s_1 c_p0_s_1, .int .i64 p1_v].toArray W fun e w' => ∃ v, e = .returned v ∧ v = .bool r ∧ St [] W w' [] := by
  subst hn_p0_s_1
  unfold slices_Contains_int64 at hm
  refine Calls.enter (N := 9) Try.func128 rfl rfl rfl (fun a hf => ?_)
  have hs := St.start W
  obtain ⟨w, hw_⟩ : ∃ w, w = W := ⟨W, rfl⟩
  clear hw_ w
  refine wpL_seq ?_
  refine wpL_region ?_
  refine sY hf hs rfl rfl rfl (Y_assign rfl rfl) ?_; clear hf; intro a hf
  refine wpO_nil ?_
  refine wpL_seq ?_
  refine wpL_region ?_
  refine sY hf hs rfl rfl rfl (Y_move rfl rfl) ?_; clear hf; intro a hf
  refine sY hf hs rfl rfl rfl (Y_move rfl rfl) ?_; clear hf; intro a hf
  obtain ⟨r1, hc2, hm⟩ := bind_some hm
  refine sCall hf rfl rfl rfl rfl (cap := []) rfl rfl en138 (slices_Index_int64_ok F p0_s A_p0_s_1 p0_s.length c_p0_s_1 rfl p1_v _ _ hc2 (h_p0_s_1.at hs)) ?_; clear hf
  rintro _ w ⟨rfl, hs1⟩ a hf
  have hs : St [] W w [] := hs.ext hs1.below
  clear hs1
  refine sY hf hs rfl rfl rfl (Y_geq rfl rfl rfl) ?_; clear hf; intro a hf
  refine sY hf hs rfl rfl rfl (Y_assign rfl rfl) ?_; clear hf; intro a hf
  refine wpO_nil ?_
  obtain rfl := Option.some.inj hm
  refine wpL_ret (ret_tmp rfl hf rfl ?_)
  exact ⟨_, rfl, rfl, hs⟩

set_option maxRecDepth 100000 in
theorem impl_firingOrder_c1_ok (F : Nat) (p0_p : GPlace) (b_z0 : Nat) (z0 : Int) (b_z1 : Nat) (z1 : List Int) (A_z1_1 : Option Addr) (n_z1_1 c_z1_1 : Nat) (hn_z1_1 : n_z1_1 = z1.length) (r : Bool) (W : World) (hm : impl_firingOrder_c1 F p0_p z0 z1 = some r) (h_z0 : PB W b_z0 2 [.int .i64 z0]) (h_z1_1 : Rd W A_z1_1 (ints z1)) (h_z1 : PB W b_z1 25 [.slice A_z1_1 n_z1_1 c_z1_1]) :
    Calls Try.prog 129 [.agg #[.int .i64 p0_p.From, .int .i64 p0_p.To, .int .i64 p0_p.Delay, .int .i64 p0_p.Tokens], .pointer (some ⟨b_z0, 0, none⟩), .pointer (some ⟨b_z1, 0, none⟩)].toArray W fun e w' => ∃ v, e = .returned v ∧ v = .bool r ∧ St [] W w' [] := by
  subst hn_z1_1
  unfold impl_firingOrder_c1 at hm
  refine Calls.enter (N := 21) Try.func129 rfl rfl rfl (fun a hf => ?_)
  have hs := St.start W
  obtain ⟨w, hw_⟩ : ∃ w, w = W := ⟨W, rfl⟩
  clear hw_ w
  refine wpL_seq ?_
  refine wpL_region ?_
  refine sBox hf hs rfl rfl rfl rfl rfl (cs := [.int .i64 p0_p.From, .int .i64 p0_p.To, .int .i64 p0_p.Delay, .int .i64 p0_p.Tokens]) rfl ?_; clear hf hs; intro a w b1 hs hf
  have hs : St [] W w [.blk b1 71 [.int .i64 p0_p.From, .int .i64 p0_p.To, .int .i64 p0_p.Delay, .int .i64 p0_p.Tokens]] := hs
  refine sY hf hs rfl rfl rfl (Y_assign rfl rfl) ?_; clear hf; intro a hf
  refine wpO_nil ?_
  refine wpL_seq ?_
  obtain ⟨r7, hj8, hm⟩ := bind_some hm
  refine wpL_cut (fun a w => ∃ b6 : Bool, b6 = r7 ∧ Fr a 21 [(4, .bool b6)] ∧ St [] W w []) ?_ ?_
  · refine wpL_region ?_
    refine sY hf hs rfl rfl rfl (Y_fieldAddr rfl rfl fo71_1) ?_; clear hf; intro a hf
    refine sY hf hs rfl rfl rfl (Y_load_blk rfl rfl (i := 0) rfl rfl ag2) ?_; clear hf; intro a hf
    refine sY hf hs rfl rfl rfl (Y_load_pb rfl rfl h_z0 rfl ag2) ?_; clear hf; intro a hf
    refine sY hf hs rfl rfl rfl (Y_eql rfl rfl rfl) ?_; clear hf; intro a hf
    refine sY hf hs rfl rfl rfl (Y_move rfl rfl) ?_; clear hf; intro a hf
    refine bsplit (p0_p.To == z0) (fun hb9 => ?_) (fun hb9 => ?_)
    · have hj8 := bif_t hj8 hb9
      refine sYg hf hs rfl rfl rfl (congrArg (fun b => some (Value.bool b)) hb9) rfl rfl rfl (Y_fieldAddr rfl rfl fo71_3) ?_; clear hf; intro a hf
      refine sYg hf hs rfl rfl rfl (congrArg (fun b => some (Value.bool b)) hb9) rfl rfl rfl (Y_load_blk rfl rfl (i := 0) rfl rfl ag2) ?_; clear hf; intro a hf
      refine sYg hf hs rfl rfl rfl (congrArg (fun b => some (Value.bool b)) hb9) rfl rfl rfl (Y_eql rfl rfl rfl) ?_; clear hf; intro a hf
      refine sY hf hs rfl rfl rfl (Y_pickT rfl (congrArg (fun b => some (Value.bool b)) hb9) rfl) ?_; clear hf; intro a hf
      refine sY hf hs rfl rfl rfl (Y_move rfl rfl) ?_; clear hf; intro a hf
      refine bsplit (p0_p.Tokens == 0) (fun hb10 => ?_) (fun hb10 => ?_)
      · have hj8 := bif_t hj8 hb10
        refine sYg hf hs rfl rfl rfl (congrArg (fun b => some (Value.bool b)) hb10) rfl rfl rfl (Y_load_pb rfl rfl h_z1 rfl ag25) ?_; clear hf; intro a hf
        refine sYg hf hs rfl rfl rfl (congrArg (fun b => some (Value.bool b)) hb10) rfl rfl rfl (Y_fieldAddr rfl rfl fo71_0) ?_; clear hf; intro a hf
        refine sYg hf hs rfl rfl rfl (congrArg (fun b => some (Value.bool b)) hb10) rfl rfl rfl (Y_load_blk rfl rfl (i := 0) rfl rfl ag2) ?_; clear hf; intro a hf
        obtain ⟨r11, hc12, hj8⟩ := bind_some hj8
        refine sCallg hf rfl rfl rfl (congrArg (fun b => some (Value.bool b)) hb10) rfl rfl rfl rfl (cap := []) rfl rfl en128 (slices_Contains_int64_ok F z1 A_z1_1 z1.length c_z1_1 rfl p0_p.From _ _ hc12 (h_z1_1.at hs)) ?_; clear hf
        rintro _ w ⟨rfl, hs1⟩ a hf
        have hs : St [] W w [.blk b1 71 [.int .i64 p0_p.From, .int .i64 p0_p.To, .int .i64 p0_p.Delay, .int .i64 p0_p.Tokens]] := hs.ext hs1.below
        clear hs1
        refine sYg hf hs rfl rfl rfl (congrArg (fun b => some (Value.bool b)) hb10) rfl rfl rfl (Y_not rfl rfl) ?_; clear hf; intro a hf
        refine sY hf hs rfl rfl rfl (Y_pickT rfl (congrArg (fun b => some (Value.bool b)) hb10) rfl) ?_; clear hf; intro a hf
        refine sY hf hs rfl rfl rfl (Y_assign rfl rfl) ?_; clear hf; intro a hf
        refine wpO_nil ?_
        refine wpL_nil (then_normal ?_)
        exact ⟨(!r11), Option.some.inj hj8, (Fr.pick hf.none hf rfl), hs.sel [] (by decide)⟩
      · have hj8 := bif_f hj8 hb10
        refine sNo hf rfl rfl rfl (congrArg (fun b => some (Value.bool b)) hb10) rfl rfl rfl ?_; clear hf; intro a hf
        refine sNo hf rfl rfl rfl (congrArg (fun b => some (Value.bool b)) hb10) rfl rfl rfl ?_; clear hf; intro a hf
        refine sNo hf rfl rfl rfl (congrArg (fun b => some (Value.bool b)) hb10) rfl rfl rfl ?_; clear hf; intro a hf
        refine sNo hf rfl rfl rfl (congrArg (fun b => some (Value.bool b)) hb10) rfl rfl rfl ?_; clear hf; intro a hf
        refine sNo hf rfl rfl rfl (congrArg (fun b => some (Value.bool b)) hb10) rfl rfl rfl ?_; clear hf; intro a hf
        refine sY hf hs rfl rfl rfl (Y_pickF rfl (congrArg (fun b => some (Value.bool b)) hb10) rfl) ?_; clear hf; intro a hf
        refine sY hf hs rfl rfl rfl (Y_assign rfl rfl) ?_; clear hf; intro a hf
        refine wpO_nil ?_
        refine wpL_nil (then_normal ?_)
        exact ⟨false, Option.some.inj hj8, (Fr.pick hf.none hf rfl), hs.sel [] (by decide)⟩
    · have hj8 := bif_f hj8 hb9
      refine sNo hf rfl rfl rfl (congrArg (fun b => some (Value.bool b)) hb9) rfl rfl rfl ?_; clear hf; intro a hf
      refine sNo hf rfl rfl rfl (congrArg (fun b => some (Value.bool b)) hb9) rfl rfl rfl ?_; clear hf; intro a hf
      refine sNo hf rfl rfl rfl (congrArg (fun b => some (Value.bool b)) hb9) rfl rfl rfl ?_; clear hf; intro a hf
      refine sY hf hs rfl rfl rfl (Y_pickF rfl (congrArg (fun b => some (Value.bool b)) hb9) rfl) ?_; clear hf; intro a hf
      refine sY hf hs rfl rfl rfl (Y_move rfl rfl) ?_; clear hf; intro a hf
      refine sNo hf rfl rfl rfl rfl rfl rfl rfl ?_; clear hf; intro a hf
      refine sNo hf rfl rfl rfl rfl rfl rfl rfl ?_; clear hf; intro a hf
      refine sNo hf rfl rfl rfl rfl rfl rfl rfl ?_; clear hf; intro a hf
      refine sNo hf rfl rfl rfl rfl rfl rfl rfl ?_; clear hf; intro a hf
      refine sNo hf rfl rfl rfl rfl rfl rfl rfl ?_; clear hf; intro a hf
      refine sY hf hs rfl rfl rfl (Y_pickF rfl rfl rfl) ?_; clear hf; intro a hf
      refine sY hf hs rfl rfl rfl (Y_assign rfl rfl) ?_; clear hf; intro a hf
      refine wpO_nil ?_
      refine wpL_nil (then_normal ?_)
      exact ⟨false, Option.some.inj hj8, (Fr.pick hf.none hf rfl), hs.sel [] (by decide)⟩
  · rintro a w ⟨b6, hr_, hf, hs⟩
    subst hr_
    try dsimp only at hm
    obtain rfl := Option.some.inj hm
    refine wpL_ret (ret_tmp rfl hf rfl ?_)
    exact ⟨_, rfl, rfl, hs⟩

set_option maxRecDepth 100000 in
theorem impl_firingOrder_ok (F : Nat) (p0_g : GEventGraph) (A_p0_g_1 : Option Addr) (n_p0_g_1 c_p0_g_1 : Nat) (hn_p0_g_1 : n_p0_g_1 = p0_g.Places.length) (r : List Int × Bool) (W : World) (hm : impl_firingOrder F p0_g = some r) (h_p0_g_1 : Rd W A_p0_g_1 ((recs GPlace.cells) p0_g.Places)) :
    Calls Try.prog 111 [.agg #[.int .i64 p0_g.Events, .slice A_p0_g_1 n_p0_g_1 c_p0_g_1]].toArray W fun e w' => ∃ v, e = .returned v ∧ ∃ A459, ∃ n460, ∃ c461, v = .tuple #[.slice A459 n460 c461, .bool r.2] ∧ n460 = r.1.length ∧ St [] W w' [.row A459 n460 c461 2 1 (ints r.1)] := by
  subst hn_p0_g_1
  unfold impl_firingOrder at hm
  refine Calls.enter (N := 41) Try.func111 rfl rfl rfl (fun a hf => ?_)
  have hs := St.start W
  obtain ⟨w, hw_⟩ : ∃ w, w = W := ⟨W, rfl⟩
  clear hw_ w
  refine wpL_seq ?_
  refine wpL_region ?_
  refine sBox hf hs rfl rfl rfl rfl rfl (cs := [.int .i64 p0_g.Events, .slice A_p0_g_1 p0_g.Places.length c_p0_g_1]) rfl ?_; clear hf hs; intro a w b1 hs hf
  have hs : St [] W w [.blk b1 34 [.int .i64 p0_g.Events, .slice A_p0_g_1 p0_g.Places.length c_p0_g_1]] := hs
  refine sY hf hs rfl rfl rfl (Y_assign rfl rfl) ?_; clear hf; intro a hf
  refine sY hf hs rfl rfl rfl (Y_assign rfl rfl) ?_; clear hf; intro a hf
  refine wpO_nil ?_
  refine wpL_seq ?_
  refine wpL_region ?_
  refine sAlloc hf hs rfl rfl rfl rfl ti25 ?_; clear hf hs; intro a w b2 hs hf
  have hs : St [] W w [.blk b1 34 [.int .i64 p0_g.Events, .slice A_p0_g_1 p0_g.Places.length c_p0_g_1], .blk b2 25 [.slice none 0 0]] := hs
  refine wpO_nil ?_
  refine wpL_seq ?_
  obtain ⟨r345, hl346, hm⟩ := bind_some hm
  have hs : St [] W _ [.blk b1 34 [.int .i64 p0_g.Events, .slice A_p0_g_1 p0_g.Places.length c_p0_g_1], .blk b2 25 [.slice none 0 0], .row none 0 0 2 1 (ints ([] : List Int))] := hs.addNil 2 1
  refine wpL_block (fun a w => ∃ xs340 : List Int, ∃ A341, ∃ n342, ∃ c343, Sum.inr xs340 = r345 ∧ n342 = xs340.length ∧ Fr a 41 [(4, .pointer (some ⟨b2, 0, none⟩))] ∧ St [] W w [.blk b2 25 [.slice A341 n342 c343], .row A341 n342 c343 2 1 (ints xs340)]) ?_ ?_
  · refine wpL_loop (fun n a w => ∃ xs227 : List Int, ∃ A228, ∃ n229, ∃ c230, impl_firingOrder_L4 F p0_g n xs227 = some r345 ∧ n229 = xs227.length ∧ Fr a 41 [(1, .pointer (some ⟨b1, 0, none⟩)), (4, .pointer (some ⟨b2, 0, none⟩))] ∧ St [] W w [.blk b1 34 [.int .i64 p0_g.Events, .slice A_p0_g_1 p0_g.Places.length c_p0_g_1], .blk b2 25 [.slice A228 n229 c230], .row A228 n229 c230 2 1 (ints xs227)]) F ?_ ?_ ?_
    · exact ⟨[], none, 0, 0, hl346, rfl, (Fr.pick (Fr.pick hf.none hf rfl) hf rfl), hs⟩
    · rintro a w ⟨xs227, A228, n229, c230, h0_, -, -, -⟩; simp [impl_firingOrder_L4] at h0_
    · rintro n348 a w ⟨xs227, A228, n229, c230, hm347, hn231, hf, hs⟩
      rw [impl_firingOrder_L4] at hm347
      refine wpL_seq ?_
      refine wpL_seq ?_
      refine wpL_region ?_
      refine sY hf hs rfl rfl rfl (Y_load_blk rfl rfl (i := 1) rfl rfl ag25) ?_; clear hf; intro a hf
      refine sY hf hs rfl rfl rfl (Y_lenH rfl rfl el25 hn231) ?_; clear hf; intro a hf
      refine sY hf hs rfl rfl rfl (Y_fieldAddr rfl rfl fo34_0) ?_; clear hf; intro a hf
      refine sY hf hs rfl rfl rfl (Y_load_blk rfl rfl (i := 0) rfl rfl ag2) ?_; clear hf; intro a hf
      refine sY hf hs rfl rfl rfl (Y_lss rfl rfl rfl) ?_; clear hf; intro a hf
      refine wpO_nil ?_
      refine wpL_cond hf rfl (fun hb349 => ?_) (fun hb349 => ?_)
      · have hm347 := bif_t hm347 hb349
        refine wpL_skip ?_
        refine wpL_block0 ?_
        refine wpL_seq ?_
        refine wpL_region ?_
        refine sY hf hs rfl rfl rfl (Y_assign rfl rfl) ?_; clear hf; intro a hf
        refine wpO_nil ?_
        refine wpL_seq ?_
        refine wpL_seq ?_
        refine wpL_region ?_
        refine sAlloc hf hs rfl rfl rfl rfl ti2 ?_; clear hf hs; intro a w b350 hs hf
        have hs : St [] W w [.blk b1 34 [.int .i64 p0_g.Events, .slice A_p0_g_1 p0_g.Places.length c_p0_g_1], .blk b2 25 [.slice A228 n229 c230], .row A228 n229 c230 2 1 (ints xs227), .blk b350 2 [.int .i64 0]] := hs
        refine sStore (i := 3) (us := [.int .i64 0]) hf hs rfl rfl rfl rfl rfl rfl ti2 rfl rfl rfl (Nat.le_of_ble_eq_true rfl) rfl ?_; clear hs; intro w hs
        have hs : St [] W w [.blk b1 34 [.int .i64 p0_g.Events, .slice A_p0_g_1 p0_g.Places.length c_p0_g_1], .blk b2 25 [.slice A228 n229 c230], .row A228 n229 c230 2 1 (ints xs227), .blk b350 2 [.int .i64 0]] := hs
        refine wpO_nil ?_
        obtain ⟨r424, hl425, hm347⟩ := bind_some hm347
        refine wpL_block (fun a w => ∃ x423 : Int, x423 = r424 ∧ Fr a 41 [(1, .pointer (some ⟨b1, 0, none⟩)), (4, .pointer (some ⟨b2, 0, none⟩)), (5, .int .i64 x423)] ∧ St [] W w [.blk b1 34 [.int .i64 p0_g.Events, .slice A_p0_g_1 p0_g.Places.length c_p0_g_1], .blk b2 25 [.slice A228 n229 c230], .row A228 n229 c230 2 1 (ints xs227)]) ?_ ?_
        · refine wpL_loop (fun n a w => ∃ x398 : Int, ∃ x400 : Int, ∃ b399, impl_firingOrder_L5 F p0_g xs227 n x398 x400 = some r424 ∧ Fr a 41 [(1, .pointer (some ⟨b1, 0, none⟩)), (4, .pointer (some ⟨b2, 0, none⟩)), (5, .int .i64 x398), (6, .pointer (some ⟨b399, 0, none⟩))] ∧ St [] W w [.blk b1 34 [.int .i64 p0_g.Events, .slice A_p0_g_1 p0_g.Places.length c_p0_g_1], .blk b2 25 [.slice A228 n229 c230], .row A228 n229 c230 2 1 (ints xs227), .blk b399 2 [.int .i64 x400]]) F ?_ ?_ ?_
          · exact ⟨(-1), 0, b350, hl425, (Fr.pick (Fr.pick (Fr.pick (Fr.pick hf.none hf rfl) hf rfl) hf rfl) hf rfl), hs⟩
          · rintro a w ⟨x398, x400, b399, h0_, -, -⟩; simp [impl_firingOrder_L5] at h0_
          · rintro n427 a w ⟨x398, x400, b399, hm426, hf, hs⟩
            rw [impl_firingOrder_L5] at hm426
            refine wpL_seq ?_
            refine wpL_seq ?_
            obtain ⟨r430, hj431, hm426⟩ := bind_some hm426
            refine wpL_cut (fun a w => ∃ b429 : Bool, b429 = r430 ∧ Fr a 41 [(1, .pointer (some ⟨b1, 0, none⟩)), (4, .pointer (some ⟨b2, 0, none⟩)), (5, .int .i64 x398), (6, .pointer (some ⟨b399, 0, none⟩)), (20, .bool b429)] ∧ St [] W w [.blk b1 34 [.int .i64 p0_g.Events, .slice A_p0_g_1 p0_g.Places.length c_p0_g_1], .blk b2 25 [.slice A228 n229 c230], .row A228 n229 c230 2 1 (ints xs227), .blk b399 2 [.int .i64 x400]]) ?_ ?_
            · refine wpL_region ?_
              refine sY hf hs rfl rfl rfl (Y_load_blk rfl rfl (i := 3) rfl rfl ag2) ?_; clear hf; intro a hf
              refine sY hf hs rfl rfl rfl (Y_fieldAddr rfl rfl fo34_0) ?_; clear hf; intro a hf
              refine sY hf hs rfl rfl rfl (Y_load_blk rfl rfl (i := 0) rfl rfl ag2) ?_; clear hf; intro a hf
              refine sY hf hs rfl rfl rfl (Y_lss rfl rfl rfl) ?_; clear hf; intro a hf
              refine sY hf hs rfl rfl rfl (Y_move rfl rfl) ?_; clear hf; intro a hf
              refine bsplit (decide (x400 < p0_g.Events)) (fun hb432 => ?_) (fun hb432 => ?_)
              · have hj431 := bif_t hj431 hb432
                refine sYg hf hs rfl rfl rfl (congrArg (fun b => some (Value.bool b)) hb432) rfl rfl rfl (Y_move rfl rfl) ?_; clear hf; intro a hf
                refine sYg hf hs rfl rfl rfl (congrArg (fun b => some (Value.bool b)) hb432) rfl rfl rfl (Y_lss rfl rfl rfl) ?_; clear hf; intro a hf
                refine sY hf hs rfl rfl rfl (Y_pickT rfl (congrArg (fun b => some (Value.bool b)) hb432) rfl) ?_; clear hf; intro a hf
                refine wpO_nil ?_
                refine wpL_nil (then_normal ?_)
                exact ⟨(decide (x398 < 0)), Option.some.inj hj431, (Fr.pick (Fr.pick (Fr.pick (Fr.pick (Fr.pick hf.none hf rfl) hf rfl) hf rfl) hf rfl) hf rfl), hs⟩
              · have hj431 := bif_f hj431 hb432
                refine sNo hf rfl rfl rfl (congrArg (fun b => some (Value.bool b)) hb432) rfl rfl rfl ?_; clear hf; intro a hf
                refine sNo hf rfl rfl rfl (congrArg (fun b => some (Value.bool b)) hb432) rfl rfl rfl ?_; clear hf; intro a hf
                refine sY hf hs rfl rfl rfl (Y_pickF rfl (congrArg (fun b => some (Value.bool b)) hb432) rfl) ?_; clear hf; intro a hf
                refine wpO_nil ?_
                refine wpL_nil (then_normal ?_)
                exact ⟨false, Option.some.inj hj431, (Fr.pick (Fr.pick (Fr.pick (Fr.pick (Fr.pick hf.none hf rfl) hf rfl) hf rfl) hf rfl) hf rfl), hs⟩
            · rintro a w ⟨b429, hr_, hf, hs⟩
              subst hr_
              try dsimp only at hm426
              refine wpL_cond hf rfl (fun hb433 => ?_) (fun hb433 => ?_)
              · have hm426 := bif_t hm426 hb433
                refine wpL_skip ?_
                refine wpL_seq ?_
                obtain ⟨r441, hj442, hm426⟩ := bind_some hm426
                refine wpL_block (fun a w => ∃ x440 : Int, x440 = r441 ∧ Fr a 41 [(1, .pointer (some ⟨b1, 0, none⟩)), (4, .pointer (some ⟨b2, 0, none⟩)), (5, .int .i64 x440), (6, .pointer (some ⟨b399, 0, none⟩))] ∧ St [] W w [.blk b1 34 [.int .i64 p0_g.Events, .slice A_p0_g_1 p0_g.Places.length c_p0_g_1], .blk b2 25 [.slice A228 n229 c230], .row A228 n229 c230 2 1 (ints xs227), .blk b399 2 [.int .i64 x400]]) ?_ ?_
                · refine wpL_seq ?_
                  refine wpL_seq ?_
                  refine wpL_region ?_
                  refine sY hf hs rfl rfl rfl (Y_load_blk rfl rfl (i := 1) rfl rfl ag25) ?_; clear hf; intro a hf
                  refine sY hf hs rfl rfl rfl (Y_load_blk rfl rfl (i := 3) rfl rfl ag2) ?_; clear hf; intro a hf
                  obtain ⟨r443, hc444, hj442⟩ := bind_some hj442
                  refine sCall hf rfl rfl rfl rfl (cap := []) rfl rfl en128 (slices_Contains_int64_ok F xs227 A228 n229 c230 hn231 x400 _ _ hc444 (hs.rd (i := 2) rfl)) ?_; clear hf
                  rintro _ w ⟨rfl, hs1⟩ a hf
                  have hs : St [] W w [.blk b1 34 [.int .i64 p0_g.Events, .slice A_p0_g_1 p0_g.Places.length c_p0_g_1], .blk b2 25 [.slice A228 n229 c230], .row A228 n229 c230 2 1 (ints xs227), .blk b399 2 [.int .i64 x400]] := hs.ext hs1.below
                  clear hs1
                  refine wpO_nil ?_
                  refine wpL_cond hf rfl (fun hb445 => ?_) (fun hb445 => ?_)
                  · have hj442 := bif_t hj442 hb445
                    refine wpL_exit (Qb_exit ?_)
                    exact ⟨x398, Option.some.inj hj442, (Fr.pick (Fr.pick (Fr.pick (Fr.pick hf.none hf rfl) hf rfl) hf rfl) hf rfl), hs⟩
                  · have hj442 := bif_f hj442 hb445
                    refine wpL_skip ?_
                    refine wpL_seq ?_
                    refine wpL_region ?_
                    refine sY hf hs rfl rfl rfl (Y_fieldAddr rfl rfl fo34_1) ?_; clear hf; intro a hf
                    refine sY hf hs rfl rfl rfl (Y_load_blk rfl rfl (i := 0) rfl rfl ag32) ?_; clear hf; intro a hf
                    refine sY hf hs rfl rfl rfl (Y_makeFunc (us := []) (vs := [.pointer (some ⟨b399, 0, none⟩), .pointer (some ⟨b2, 0, none⟩)]) rfl rfl rfl) ?_; clear hf; intro a hf
                    obtain ⟨r446, hc447, hj442⟩ := bind_some hj442
                    refine sCall hf rfl rfl rfl rfl (cap := []) rfl rfl en118 (slices_ContainsFunc_Place_ok F p0_g.Places A_p0_g_1 p0_g.Places.length c_p0_g_1 rfl (fun x0 => impl_firingOrder_c1 F x0 x400 xs227) 129 ([.pointer (some ⟨b399, 0, none⟩), .pointer (some ⟨b2, 0, none⟩)]) _ _ hc447 (h_p0_g_1.at hs) (fun x0 r w' hm_ hb => impl_firingOrder_c1_ok F x0 b399 x400 b2 xs227 A228 n229 c230 hn231 r w' hm_ ((hs.pb (i := 3) rfl).below hb (Nat.le_refl _)) ((hs.rd (i := 2) rfl).below hb (Nat.le_refl _)) ((hs.pb (i := 1) rfl).below hb (Nat.le_refl _))) en129) ?_; clear hf
                    rintro _ w ⟨rfl, hs1⟩ a hf
                    have hs : St [] W w [.blk b1 34 [.int .i64 p0_g.Events, .slice A_p0_g_1 p0_g.Places.length c_p0_g_1], .blk b2 25 [.slice A228 n229 c230], .row A228 n229 c230 2 1 (ints xs227), .blk b399 2 [.int .i64 x400]] := hs.ext hs1.below
                    clear hs1
                    refine sY hf hs rfl rfl rfl (Y_assign rfl rfl) ?_; clear hf; intro a hf
                    refine wpO_nil ?_
                    refine wpL_seq ?_
                    refine wpL_region ?_
                    refine sY hf hs rfl rfl rfl (Y_move rfl rfl) ?_; clear hf; intro a hf
                    refine sY hf hs rfl rfl rfl (Y_not rfl rfl) ?_; clear hf; intro a hf
                    refine wpO_nil ?_
                    refine wpL_cond hf rfl (fun hb448 => ?_) (fun hb448 => ?_)
                    · have hj442 := bif_t hj442 hb448
                      refine wpL_region ?_
                      refine sY hf hs rfl rfl rfl (Y_load_blk rfl rfl (i := 3) rfl rfl ag2) ?_; clear hf; intro a hf
                      refine sY hf hs rfl rfl rfl (Y_assign rfl rfl) ?_; clear hf; intro a hf
                      refine wpO_nil ?_
                      refine wpL_nil (Qb_normal ?_)
                      exact ⟨x400, Option.some.inj hj442, (Fr.pick (Fr.pick (Fr.pick (Fr.pick hf.none hf rfl) hf rfl) hf rfl) hf rfl), hs⟩
                    · have hj442 := bif_f hj442 hb448
                      refine wpL_skip ?_
                      refine wpL_nil (Qb_normal ?_)
                      exact ⟨x398, Option.some.inj hj442, (Fr.pick (Fr.pick (Fr.pick (Fr.pick hf.none hf rfl) hf rfl) hf rfl) hf rfl), hs⟩
                · rintro a w ⟨x440, hr_, hf, hs⟩
                  subst hr_
                  try dsimp only at hm426
                  refine wpL_seq ?_
                  refine wpL_seq ?_
                  refine wpL_region ?_
                  refine sY hf hs rfl rfl rfl (Y_load_blk rfl rfl (i := 3) rfl rfl ag2) ?_; clear hf; intro a hf
                  refine wpO_nil ?_
                  refine wpL_region ?_
                  refine sAlloc hf hs rfl rfl rfl rfl ti2 ?_; clear hf hs; intro a w b449 hs hf
                  have hs : St [] W w [.blk b1 34 [.int .i64 p0_g.Events, .slice A_p0_g_1 p0_g.Places.length c_p0_g_1], .blk b2 25 [.slice A228 n229 c230], .row A228 n229 c230 2 1 (ints xs227), .blk b399 2 [.int .i64 x400], .blk b449 2 [.int .i64 0]] := hs
                  refine sStore (i := 4) (us := [.int .i64 x400]) hf hs rfl rfl rfl rfl rfl rfl ti2 rfl rfl rfl (Nat.le_of_ble_eq_true rfl) rfl ?_; clear hs; intro w hs
                  have hs : St [] W w [.blk b1 34 [.int .i64 p0_g.Events, .slice A_p0_g_1 p0_g.Places.length c_p0_g_1], .blk b2 25 [.slice A228 n229 c230], .row A228 n229 c230 2 1 (ints xs227), .blk b399 2 [.int .i64 x400], .blk b449 2 [.int .i64 x400]] := hs
                  refine wpO_nil ?_
                  refine wpL_region ?_
                  refine sY hf hs rfl rfl rfl (Y_load_blk rfl rfl (i := 4) rfl rfl ag2) ?_; clear hf; intro a hf
                  refine sY hf hs rfl rfl rfl (Y_add rfl rfl rfl) ?_; clear hf; intro a hf
                  refine sStore (i := 4) (us := [.int .i64 (IntKind.i64.wrap (x400 + 1))]) hf hs rfl rfl rfl rfl rfl rfl ti2 rfl rfl rfl (Nat.le_of_ble_eq_true rfl) rfl ?_; clear hs; intro w hs
                  have hs : St [] W w [.blk b1 34 [.int .i64 p0_g.Events, .slice A_p0_g_1 p0_g.Places.length c_p0_g_1], .blk b2 25 [.slice A228 n229 c230], .row A228 n229 c230 2 1 (ints xs227), .blk b399 2 [.int .i64 x400], .blk b449 2 [.int .i64 (IntKind.i64.wrap (x400 + 1))]] := hs
                  refine wpO_nil ?_
                  refine wpL_nil (Ql_normal ?_)
                  exact ⟨x440, (IntKind.i64.wrap (x400 + 1)), b449, hm426, (Fr.pick (Fr.pick (Fr.pick (Fr.pick hf.none hf rfl) hf rfl) hf rfl) hf rfl), hs.sel [0, 1, 2, 4] (by decide)⟩
              · have hm426 := bif_f hm426 hb433
                refine wpL_exit (Ql_exit (Qb_exit ?_))
                exact ⟨x398, Option.some.inj hm426, (Fr.pick (Fr.pick (Fr.pick hf.none hf rfl) hf rfl) hf rfl), hs.sel [0, 1, 2] (by decide)⟩
        · rintro a w ⟨x423, hr_, hf, hs⟩
          subst hr_
          try dsimp only at hm347
          refine wpL_seq ?_
          refine wpL_seq ?_
          refine wpL_region ?_
          refine sY hf hs rfl rfl rfl (Y_move rfl rfl) ?_; clear hf; intro a hf
          refine sY hf hs rfl rfl rfl (Y_lss rfl rfl rfl) ?_; clear hf; intro a hf
          refine wpO_nil ?_
          refine wpL_cond hf rfl (fun hb450 => ?_) (fun hb450 => ?_)
          · have hm347 := bif_t hm347 hb450
            refine wpL_seq ?_
            refine wpL_region ?_
            refine sY hf hs rfl rfl rfl (Y_assign rfl rfl) ?_; clear hf; intro a hf
            refine sY hf hs rfl rfl rfl (Y_assign rfl rfl) ?_; clear hf; intro a hf
            refine wpO_nil ?_
            have hs : St [] W _ [.blk b1 34 [.int .i64 p0_g.Events, .slice A_p0_g_1 p0_g.Places.length c_p0_g_1], .blk b2 25 [.slice A228 n229 c230], .row A228 n229 c230 2 1 (ints xs227), .row none 0 0 2 1 (ints ([] : List Int))] := hs.addNil 2 1
            obtain rfl := Option.some.inj hm347
            try dsimp only at hm
            obtain rfl := Option.some.inj hm
            refine wpL_ret (Qb_ret (Ql_ret (Qb_ret (ret_tmp2 rfl hf rfl rfl ?_))))
            exact ⟨_, rfl, none, 0, 0, rfl, rfl, hs.sel [3] (by decide)⟩
          · have hm347 := bif_f hm347 hb450
            refine wpL_skip ?_
            refine wpL_region ?_
            refine sY hf hs rfl rfl rfl (Y_load_blk rfl rfl (i := 1) rfl rfl ag25) ?_; clear hf; intro a hf
            refine sY hf hs rfl rfl rfl (Y_move rfl rfl) ?_; clear hf; intro a hf
            refine sBuildSlice (parts := [(0, .tmp 37)]) (vs := [.int .i64 x423]) (cells := [.int .i64 x423]) hf hs rfl rfl rfl rfl rfl el25 ti2 rfl rfl rfl rfl ?_; clear hf hs; intro a w A452 hs hA453 hf
            have hs : St [] W w [.blk b1 34 [.int .i64 p0_g.Events, .slice A_p0_g_1 p0_g.Places.length c_p0_g_1], .blk b2 25 [.slice A228 n229 c230], .row A228 n229 c230 2 1 (ints xs227), .row A452 1 1 2 1 (ints ([x423]))] := hs
            obtain ⟨xs456, ha457, hm347⟩ := bind_some hm347
            refine sAppendL (i := 2) (xs := xs227) (ys := [x423]) (enc := ints) hf hs rfl rfl rfl rfl rfl rfl hn231 rfl rfl ha457 el25 ti2 rfl rfl rfl (hs.rd (i := 3) rfl) (Nat.succ_pos _) ints_len1 ints_append ints_one ?_; clear hf hs; intro a w A454 c455 hs hf
            have hs : St [] W w [.blk b1 34 [.int .i64 p0_g.Events, .slice A_p0_g_1 p0_g.Places.length c_p0_g_1], .blk b2 25 [.slice A228 n229 c230], .row A454 xs456.length c455 2 1 (ints xs456), .row A452 1 1 2 1 (ints ([x423]))] := hs
            refine sStore (i := 1) (us := [.slice A454 xs456.length c455]) hf hs rfl rfl rfl rfl rfl rfl ti25 rfl rfl rfl (Nat.le_of_ble_eq_true rfl) rfl ?_; clear hs; intro w hs
            have hs : St [] W w [.blk b1 34 [.int .i64 p0_g.Events, .slice A_p0_g_1 p0_g.Places.length c_p0_g_1], .blk b2 25 [.slice A454 xs456.length c455], .row A454 xs456.length c455 2 1 (ints xs456), .row A452 1 1 2 1 (ints ([x423]))] := hs
            refine wpO_nil ?_
            refine wpL_nil (Qb_normal ?_)
            refine wpL_nil (Ql_normal ?_)
            exact ⟨xs456, A454, xs456.length, c455, hm347, rfl, (Fr.pick (Fr.pick hf.none hf rfl) hf rfl), hs.sel [0, 1, 2] (by decide)⟩
      · have hm347 := bif_f hm347 hb349
        refine wpL_exit (Ql_exit (Qb_exit ?_))
        exact ⟨xs227, A228, n229, c230, Option.some.inj hm347, hn231, (Fr.pick hf.none hf rfl), hs.sel [1, 2] (by decide)⟩
  · rintro a w ⟨xs340, A341, n342, c343, hr_, hn344, hf, hs⟩
    subst hr_
    try dsimp only at hm
    refine wpL_seq ?_
    refine wpL_region ?_
    refine sY hf hs rfl rfl rfl (Y_load_blk rfl rfl (i := 0) rfl rfl ag25) ?_; clear hf; intro a hf
    refine sY hf hs rfl rfl rfl (Y_assign rfl rfl) ?_; clear hf; intro a hf
    refine sY hf hs rfl rfl rfl (Y_assign rfl rfl) ?_; clear hf; intro a hf
    refine wpO_nil ?_
    obtain rfl := Option.some.inj hm
    refine wpL_ret (ret_tmp2 rfl hf rfl rfl ?_)
    exact ⟨_, rfl, A341, n342, c343, rfl, hn344, hs.sel [1] (by decide)⟩

set_option maxRecDepth 100000 in
theorem impl_isLive_ok (F : Nat) (p0_g : GEventGraph) (A_p0_g_1 : Option Addr) (n_p0_g_1 c_p0_g_1 : Nat) (hn_p0_g_1 : n_p0_g_1 = p0_g.Places.length) (r : Bool) (W : World) (hm : impl_isLive F p0_g = some r) (h_p0_g_1 : Rd W A_p0_g_1 ((recs GPlace.cells) p0_g.Places)) :
    Calls Try.prog 104 [.agg #[.int .i64 p0_g.Events, .slice A_p0_g_1 n_p0_g_1 c_p0_g_1]].toArray W fun e w' => ∃ v, e = .returned v ∧ v = .bool r ∧ St [] W w' [] := by
  subst hn_p0_g_1
  unfold impl_isLive at hm
  refine Calls.enter (N := 11) Try.func104 rfl rfl rfl (fun a hf => ?_)
  have hs := St.start W
  obtain ⟨w, hw_⟩ : ∃ w, w = W := ⟨W, rfl⟩
  clear hw_ w
  refine wpL_seq ?_
  refine wpL_region ?_
  refine sBox hf hs rfl rfl rfl rfl rfl (cs := [.int .i64 p0_g.Events, .slice A_p0_g_1 p0_g.Places.length c_p0_g_1]) rfl ?_; clear hf hs; intro a w b1 hs hf
  have hs : St [] W w [.blk b1 34 [.int .i64 p0_g.Events, .slice A_p0_g_1 p0_g.Places.length c_p0_g_1]] := hs
  refine sY hf hs rfl rfl rfl (Y_assign rfl rfl) ?_; clear hf; intro a hf
  refine wpO_nil ?_
  refine wpL_seq ?_
  refine wpL_region ?_
  refine sY hf hs rfl rfl rfl (Y_load_blkS rfl rfl (i := 0) rfl ag34 ti34 rfl) ?_; clear hf; intro a hf
  obtain ⟨r2, hc3, hm⟩ := bind_some hm
  refine sCall hf rfl rfl rfl rfl (cap := []) rfl rfl en111 (impl_firingOrder_ok F p0_g A_p0_g_1 p0_g.Places.length c_p0_g_1 rfl _ _ hc3 (h_p0_g_1.at hs)) ?_; clear hf
  rintro _ w ⟨A4, n5, c6, rfl, hn7, hs1⟩ a hf
  have hs : St [] W w [.blk b1 34 [.int .i64 p0_g.Events, .slice A_p0_g_1 p0_g.Places.length c_p0_g_1], .row A4 n5 c6 2 1 (ints r2.1)] := hs.join hs1
  clear hs1
  refine sY hf hs rfl rfl rfl (Y_move rfl rfl) ?_; clear hf; intro a hf
  refine sY hf hs rfl rfl rfl (Y_extract rfl rfl rfl) ?_; clear hf; intro a hf
  refine sY hf hs rfl rfl rfl (Y_extract rfl rfl rfl) ?_; clear hf; intro a hf
  refine sY hf hs rfl rfl rfl (Y_assign rfl rfl) ?_; clear hf; intro a hf
  refine sY hf hs rfl rfl rfl (Y_assign rfl rfl) ?_; clear hf; intro a hf
  refine wpO_nil ?_
  refine wpL_seq ?_
  refine wpL_region ?_
  refine sY hf hs rfl rfl rfl (Y_move rfl rfl) ?_; clear hf; intro a hf
  refine sY hf hs rfl rfl rfl (Y_assign rfl rfl) ?_; clear hf; intro a hf
  refine wpO_nil ?_
  obtain rfl := Option.some.inj hm
  refine wpL_ret (ret_tmp rfl hf rfl ?_)
  exact ⟨_, rfl, rfl, hs.sel [] (by decide)⟩

set_option maxRecDepth 100000 in
theorem impl_checkDue_ok (F : Nat) (p0_g : GEventGraph) (A_p0_g_1 : Option Addr) (n_p0_g_1 c_p0_g_1 : Nat) (hn_p0_g_1 : n_p0_g_1 = p0_g.Places.length) (p1_due : List (List Int)) (A_p1_due_1 : Option Addr) (n_p1_due_1 c_p1_due_1 : Nat) (hn_p1_due_1 : n_p1_due_1 = p1_due.length) (r : Int) (W : World) (hm : impl_checkDue F p0_g p1_due = some r) (h_p0_g_1 : Rd W A_p0_g_1 ((recs GPlace.cells) p0_g.Places)) (h_p1_due_1 : RdM W A_p1_due_1 p1_due) :
    Calls Try.prog 71 [.agg #[.int .i64 p0_g.Events, .slice A_p0_g_1 n_p0_g_1 c_p0_g_1], .slice A_p1_due_1 n_p1_due_1 c_p1_due_1].toArray W fun e w' => ∃ v, e = .returned v ∧ v = .int .i64 r ∧ St [] W w' [] := by
  subst hn_p0_g_1
  subst hn_p1_due_1
  unfold impl_checkDue at hm
  refine Calls.enter (N := 18) Try.func71 rfl rfl rfl (fun a hf => ?_)
  have hs := St.start W
  obtain ⟨w, hw_⟩ : ∃ w, w = W := ⟨W, rfl⟩
  clear hw_ w
  refine wpL_seq ?_
  refine wpL_region ?_
  refine sBox hf hs rfl rfl rfl rfl rfl (cs := [.int .i64 p0_g.Events, .slice A_p0_g_1 p0_g.Places.length c_p0_g_1]) rfl ?_; clear hf hs; intro a w b1 hs hf
  have hs : St [] W w [.blk b1 34 [.int .i64 p0_g.Events, .slice A_p0_g_1 p0_g.Places.length c_p0_g_1]] := hs
  refine sY hf hs rfl rfl rfl (Y_assign rfl rfl) ?_; clear hf; intro a hf
  refine wpO_nil ?_
  refine wpL_seq ?_
  refine wpL_block0 ?_
  refine wpL_seq ?_
  refine wpL_region ?_
  refine sY hf hs rfl rfl rfl (Y_load_blkS rfl rfl (i := 0) rfl ag34 ti34 rfl) ?_; clear hf; intro a hf
  obtain ⟨r2, hc3, hm⟩ := bind_some hm
  refine sCall hf rfl rfl rfl rfl (cap := []) rfl rfl en95 (impl_IsEventGraph_ok F p0_g A_p0_g_1 p0_g.Places.length c_p0_g_1 rfl _ _ hc3 (h_p0_g_1.at hs)) ?_; clear hf
  rintro _ w ⟨rfl, hs1⟩ a hf
  have hs : St [] W w [.blk b1 34 [.int .i64 p0_g.Events, .slice A_p0_g_1 p0_g.Places.length c_p0_g_1]] := hs.ext hs1.below
  clear hs1
  refine sY hf hs rfl rfl rfl (Y_not rfl rfl) ?_; clear hf; intro a hf
  refine sY hf hs rfl rfl rfl (Y_assign rfl rfl) ?_; clear hf; intro a hf
  refine wpO_nil ?_
  refine wpL_cond hf rfl (fun hb4 => ?_) (fun hb4 => ?_)
  · have hm := bif_t hm hb4
    refine wpL_seq ?_
    refine wpL_region ?_
    refine sY hf hs rfl rfl rfl (Y_assign rfl rfl) ?_; clear hf; intro a hf
    refine wpO_nil ?_
    obtain rfl := Option.some.inj hm
    refine wpL_ret (Qb_ret (ret_tmp rfl hf rfl ?_))
    exact ⟨_, rfl, rfl, hs.sel [] (by decide)⟩
  · have hm := bif_f hm hb4
    refine wpL_seq ?_
    refine wpL_region ?_
    refine sY hf hs rfl rfl rfl (Y_load_blkS rfl rfl (i := 0) rfl ag34 ti34 rfl) ?_; clear hf; intro a hf
    refine sY hf hs rfl rfl rfl (Y_move rfl rfl) ?_; clear hf; intro a hf
    obtain ⟨r5, hc6, hm⟩ := bind_some hm
    refine sCall hf rfl rfl rfl rfl (cap := []) rfl rfl en110 (impl_isTimeTable_ok F p0_g A_p0_g_1 p0_g.Places.length c_p0_g_1 rfl p1_due A_p1_due_1 p1_due.length c_p1_due_1 rfl _ _ hc6 (h_p0_g_1.at hs) (h_p1_due_1.at hs)) ?_; clear hf
    rintro _ w ⟨rfl, hs1⟩ a hf
    have hs : St [] W w [.blk b1 34 [.int .i64 p0_g.Events, .slice A_p0_g_1 p0_g.Places.length c_p0_g_1]] := hs.ext hs1.below
    clear hs1
    refine sY hf hs rfl rfl rfl (Y_not rfl rfl) ?_; clear hf; intro a hf
    refine sY hf hs rfl rfl rfl (Y_assign rfl rfl) ?_; clear hf; intro a hf
    refine wpO_nil ?_
    refine wpL_cond hf rfl (fun hb7 => ?_) (fun hb7 => ?_)
    · have hm := bif_t hm hb7
      refine wpL_seq ?_
      refine wpL_region ?_
      refine sY hf hs rfl rfl rfl (Y_assign rfl rfl) ?_; clear hf; intro a hf
      refine wpO_nil ?_
      obtain rfl := Option.some.inj hm
      refine wpL_ret (Qb_ret (ret_tmp rfl hf rfl ?_))
      exact ⟨_, rfl, rfl, hs.sel [] (by decide)⟩
    · have hm := bif_f hm hb7
      refine wpL_seq ?_
      refine wpL_region ?_
      refine sY hf hs rfl rfl rfl (Y_load_blkS rfl rfl (i := 0) rfl ag34 ti34 rfl) ?_; clear hf; intro a hf
      obtain ⟨r8, hc9, hm⟩ := bind_some hm
      refine sCall hf rfl rfl rfl rfl (cap := []) rfl rfl en104 (impl_isLive_ok F p0_g A_p0_g_1 p0_g.Places.length c_p0_g_1 rfl _ _ hc9 (h_p0_g_1.at hs)) ?_; clear hf
      rintro _ w ⟨rfl, hs1⟩ a hf
      have hs : St [] W w [.blk b1 34 [.int .i64 p0_g.Events, .slice A_p0_g_1 p0_g.Places.length c_p0_g_1]] := hs.ext hs1.below
      clear hs1
      refine sY hf hs rfl rfl rfl (Y_not rfl rfl) ?_; clear hf; intro a hf
      refine sY hf hs rfl rfl rfl (Y_assign rfl rfl) ?_; clear hf; intro a hf
      refine wpO_nil ?_
      refine wpL_cond hf rfl (fun hb10 => ?_) (fun hb10 => ?_)
      · have hm := bif_t hm hb10
        refine wpL_seq ?_
        refine wpL_region ?_
        refine sY hf hs rfl rfl rfl (Y_assign rfl rfl) ?_; clear hf; intro a hf
        refine wpO_nil ?_
        obtain rfl := Option.some.inj hm
        refine wpL_ret (Qb_ret (ret_tmp rfl hf rfl ?_))
        exact ⟨_, rfl, rfl, hs.sel [] (by decide)⟩
      · have hm := bif_f hm hb10
        refine wpL_skip ?_
        refine wpL_nil (Qb_normal ?_)
        refine wpL_seq ?_
        refine wpL_region ?_
        refine sY hf hs rfl rfl rfl (Y_assign rfl rfl) ?_; clear hf; intro a hf
        refine wpO_nil ?_
        obtain rfl := Option.some.inj hm
        refine wpL_ret (ret_tmp rfl hf rfl ?_)
        exact ⟨_, rfl, rfl, hs.sel [] (by decide)⟩

set_option maxRecDepth 100000 in
theorem slices_Clone_int64_ok (F : Nat) (p0_s : List Int) (A_p0_s_1 : Option Addr) (n_p0_s_1 c_p0_s_1 : Nat) (hn_p0_s_1 : n_p0_s_1 = p0_s.length) (r : List Int) (W : World) (hm : slices_Clone_int64 F p0_s = some r) (h_p0_s_1 : Rd W A_p0_s_1 (ints p0_s)) :
    Calls Try.prog 98 [.slice A_p0_s_1 n_p0_s_1 c_p0_s_1].toArray W fun e w' => ∃ v, e = .returned v ∧ ∃ A7, ∃ n8, ∃ c9, v = .slice A7 n8 c9 ∧ n8 = r.length ∧ St [] W w' [.row A7 n8 c9 2 1 (ints r)] := by
  subst hn_p0_s_1
  cases A_p0_s_1 with
  | none =>
    obtain rfl : p0_s = [] := rd_none_ints h_p0_s_1
    have hm : some ([] : List Int) = some r := hm
    refine Calls.enter (N := 8) Try.func98 rfl rfl rfl (fun a hf => ?_)
    have hs := St.start W
    obtain ⟨w, hw_⟩ : ∃ w, w = W := ⟨W, rfl⟩
    clear hw_ w
    refine wpL_seq ?_
    refine wpL_region ?_
    refine sY hf hs rfl rfl rfl (Y_assign rfl rfl) ?_; clear hf; intro a hf
    refine wpO_nil ?_
    refine wpL_seq ?_
    refine wpL_seq ?_
    refine wpL_region ?_
    refine sY hf hs rfl rfl rfl (Y_move rfl rfl) ?_; clear hf; intro a hf
    refine sY hf hs rfl rfl rfl (Y_eqnil rfl rfl rfl un25) ?_; clear hf; intro a hf
    refine wpO_nil ?_
    refine wpL_cond hf rfl (fun _ => ?_) (fun e => absurd e (by decide))
    refine wpL_seq ?_
    refine wpL_region ?_
    refine sY hf hs rfl rfl rfl (Y_assign rfl rfl) ?_; clear hf; intro a hf
    refine wpO_nil ?_
    have hs : St [] W _ [.row none 0 0 2 1 (ints ([] : List Int))] := hs.addNil 2 1
    obtain rfl := Option.some.inj hm
    refine wpL_ret (ret_tmp rfl hf rfl ?_)
    exact ⟨_, rfl, none, 0, 0, rfl, rfl, hs⟩
  | some a_ =>
    unfold slices_Clone_int64 at hm
    refine Calls.enter (N := 8) Try.func98 rfl rfl rfl (fun a hf => ?_)
    have hs := St.start W
    obtain ⟨w, hw_⟩ : ∃ w, w = W := ⟨W, rfl⟩
    clear hw_ w
    refine wpL_seq ?_
    refine wpL_region ?_
    refine sY hf hs rfl rfl rfl (Y_assign rfl rfl) ?_; clear hf; intro a hf
    refine wpO_nil ?_
    refine wpL_seq ?_
    refine wpL_seq ?_
    refine wpL_region ?_
    refine sY hf hs rfl rfl rfl (Y_move rfl rfl) ?_; clear hf; intro a hf
    refine sY hf hs rfl rfl rfl (Y_eqnil rfl rfl rfl un25) ?_; clear hf; intro a hf
    refine wpO_nil ?_
    refine wpL_cond hf rfl (fun e => absurd e Bool.false_ne_true) (fun _ => ?_)
    refine wpL_skip ?_
    refine wpL_seq ?_
    refine wpL_region ?_
    refine sEmpty hf hs rfl rfl rfl rfl el25 ti2 ?_; clear hf hs; intro a w A1 hs hf
    have hs : St [] W w [.row A1 0 0 2 1 (ints ([] : List Int))] := hs
    refine sY hf hs rfl rfl rfl (Y_move rfl rfl) ?_; clear hf; intro a hf
    obtain ⟨xs5, ha6, hm⟩ := bind_some hm
    refine sAppendG (i := 0) (xs := ([] : List Int)) (ys := p0_s) (enc := ints) hf hs rfl rfl rfl rfl rfl rfl rfl rfl rfl ha6 el25 ti2 rfl rfl rfl (h_p0_s_1.at hs) ints_len1 ints_append ints_one ?_; clear hf hs; intro a w A3 c4 hs hf
    have hs : St [] W w [.row A3 xs5.length c4 2 1 (ints xs5)] := hs
    refine sY hf hs rfl rfl rfl (Y_assign rfl rfl) ?_; clear hf; intro a hf
    refine wpO_nil ?_
    obtain rfl := Option.some.inj hm
    refine wpL_ret (ret_tmp rfl hf rfl ?_)
    exact ⟨_, rfl, A3, xs5.length, c4, rfl, rfl, hs⟩

set_option maxRecDepth 100000 in
theorem impl_firingTimes_ok (F : Nat) (p0 : GEventGraph) (A_p0_1 : Option Addr) (n_p0_1 c_p0_1 : Nat) (hn_p0_1 : n_p0_1 = p0.Places.length) (p1 : Int) (p2 : List Int) (A_p2_1 : Option Addr) (n_p2_1 c_p2_1 : Nat) (hn_p2_1 : n_p2_1 = p2.length) (r : List (List Int)) (W : World) (hm : impl_firingTimes F p0 p1 p2 = some r) (h_p0_1 : Rd W A_p0_1 ((recs GPlace.cells) p0.Places)) (h_p2_1 : Rd W A_p2_1 (ints p2)) :
    Calls Try.prog 72 [.agg #[.int .i64 p0.Events, .slice A_p0_1 n_p0_1 c_p0_1], .int .i64 p1, .slice A_p2_1 n_p2_1 c_p2_1].toArray W fun e w' => ∃ v, e = .returned v ∧ ∃ A4480, ∃ n4481, ∃ c4482, ∃ vs4484, v = .slice A4480 n4481 c4482 ∧ n4481 = r.length ∧ St [] W w' [.mat A4480 n4481 c4482 25 2 vs4484 r] := by
  subst hn_p0_1
  subst hn_p2_1
  unfold impl_firingTimes at hm
  refine Calls.enter (N := 84) Try.func72 rfl rfl rfl (fun a hf => ?_)
  have hs := St.start W
  obtain ⟨w, hw_⟩ : ∃ w, w = W := ⟨W, rfl⟩
  clear hw_ w
  refine wpL_seq ?_
  refine wpL_region ?_
  refine sBox hf hs rfl rfl rfl rfl rfl (cs := [.int .i64 p0.Events, .slice A_p0_1 p0.Places.length c_p0_1]) rfl ?_; clear hf hs; intro a w b1 hs hf
  have hs : St [] W w [.blk b1 34 [.int .i64 p0.Events, .slice A_p0_1 p0.Places.length c_p0_1]] := hs
  refine sY hf hs rfl rfl rfl (Y_assign rfl rfl) ?_; clear hf; intro a hf
  refine wpO_nil ?_
  refine wpL_seq ?_
  refine wpL_region ?_
  refine sY hf hs rfl rfl rfl (Y_load_blkS rfl rfl (i := 0) rfl ag34 ti34 rfl) ?_; clear hf; intro a hf
  obtain ⟨r2, hc3, hm⟩ := bind_some hm
  refine sCall hf rfl rfl rfl rfl (cap := []) rfl rfl en111 (impl_firingOrder_ok F p0 A_p0_1 p0.Places.length c_p0_1 rfl _ _ hc3 (h_p0_1.at hs)) ?_; clear hf
  rintro _ w ⟨A4, n5, c6, rfl, hn7, hs1⟩ a hf
  have hs : St [] W w [.blk b1 34 [.int .i64 p0.Events, .slice A_p0_1 p0.Places.length c_p0_1], .row A4 n5 c6 2 1 (ints r2.1)] := hs.join hs1
  clear hs1
  refine sY hf hs rfl rfl rfl (Y_move rfl rfl) ?_; clear hf; intro a hf
  refine sY hf hs rfl rfl rfl (Y_extract rfl rfl rfl) ?_; clear hf; intro a hf
  refine sY hf hs rfl rfl rfl (Y_extract rfl rfl rfl) ?_; clear hf; intro a hf
  refine sY hf hs rfl rfl rfl (Y_assign rfl rfl) ?_; clear hf; intro a hf
  refine sY hf hs rfl rfl rfl (Y_assign rfl rfl) ?_; clear hf; intro a hf
  refine wpO_nil ?_
  refine wpL_seq ?_
  refine wpL_region ?_
  refine sY hf hs rfl rfl rfl (Y_assign rfl rfl) ?_; clear hf; intro a hf
  refine wpO_nil ?_
  refine wpL_seq ?_
  refine wpL_seq ?_
  refine wpL_region ?_
  refine sY hf hs rfl rfl rfl (Y_move rfl rfl) ?_; clear hf; intro a hf
  refine sY hf hs rfl rfl rfl (Y_move rfl rfl) ?_; clear hf; intro a hf
  refine wpO_nil ?_
  obtain ⟨r3364, hl3365, hm⟩ := bind_some hm
  have hs : St [] W _ [.blk b1 34 [.int .i64 p0.Events, .slice A_p0_1 p0.Places.length c_p0_1], .row A4 n5 c6 2 1 (ints r2.1), .mat none 0 0 25 2 [] ([] : List (List Int))] := hs.addNilM 25 2
  refine wpL_block (fun a w => ∃ ms3358 : List (List Int), ∃ A3359, ∃ n3360, ∃ c3361, ∃ vs3363, ms3358 = r3364 ∧ n3360 = ms3358.length ∧ Fr a 84 [(9, .slice A3359 n3360 c3361)] ∧ St [] W w [.mat A3359 n3360 c3361 25 2 vs3363 ms3358]) ?_ ?_
  · refine wpL_loop (fun n a w => ∃ ms2240 : List (List Int), ∃ x2246 : Int, ∃ A2241, ∃ n2242, ∃ c2243, ∃ vs2245, impl_firingTimes_L16 F p0 p1 p2 r2 n ms2240 x2246 = some r3364 ∧ n2242 = ms2240.length ∧ Fr a 84 [(2, .slice A_p2_1 p2.length c_p2_1), (3, .pointer (some ⟨b1, 0, none⟩)), (7, .slice A4 n5 c6), (9, .slice A2241 n2242 c2243), (20, .int .i64 p1), (21, .int .i64 x2246)] ∧ St [] W w [.blk b1 34 [.int .i64 p0.Events, .slice A_p0_1 p0.Places.length c_p0_1], .row A4 n5 c6 2 1 (ints r2.1), .mat A2241 n2242 c2243 25 2 vs2245 ms2240]) F ?_ ?_ ?_
    · exact ⟨([] : List (List Int)), 0, none, 0, 0, [], hl3365, rfl, (Fr.pick (Fr.pick (Fr.pick (Fr.pick (Fr.pick (Fr.pick hf.none hf rfl) hf rfl) hf rfl) hf rfl) hf rfl) hf rfl), hs⟩
    · rintro a w ⟨ms2240, x2246, A2241, n2242, c2243, vs2245, h0_, -, -, -⟩; simp [impl_firingTimes_L16] at h0_
    · rintro n3367 a w ⟨ms2240, x2246, A2241, n2242, c2243, vs2245, hm3366, hn2244, hf, hs⟩
      rw [impl_firingTimes_L16] at hm3366
      refine wpL_seq ?_
      refine wpL_region ?_
      refine sY hf hs rfl rfl rfl (Y_lss rfl rfl rfl) ?_; clear hf; intro a hf
      refine wpO_nil ?_
      refine wpL_seq ?_
      refine wpL_cond hf rfl (fun hb3368 => ?_) (fun hb3368 => ?_)
      · have hm3366 := bif_t hm3366 hb3368
        refine wpL_skip ?_
        refine wpL_seq ?_
        refine wpL_block0 ?_
        refine wpL_seq ?_
        refine wpL_region ?_
        refine sY hf hs rfl rfl rfl (Y_move rfl rfl) ?_; clear hf; intro a hf
        refine sY hf hs rfl rfl rfl (Y_assign rfl rfl) ?_; clear hf; intro a hf
        refine wpO_nil ?_
        refine wpL_seq ?_
        refine wpL_region ?_
        refine sY hf hs rfl rfl rfl (Y_move rfl rfl) ?_; clear hf; intro a hf
        refine sY hf hs rfl rfl rfl (Y_move rfl rfl) ?_; clear hf; intro a hf
        obtain ⟨r3369, hc3370, hm3366⟩ := bind_some hm3366
        refine sCall hf rfl rfl rfl rfl (cap := []) rfl rfl en98 (slices_Clone_int64_ok F p2 A_p2_1 p2.length c_p2_1 rfl _ _ hc3370 (h_p2_1.at hs)) ?_; clear hf
        rintro _ w ⟨A3371, n3372, c3373, rfl, hn3374, hs1⟩ a hf
        have hs : St [] W w [.blk b1 34 [.int .i64 p0.Events, .slice A_p0_1 p0.Places.length c_p0_1], .row A4 n5 c6 2 1 (ints r2.1), .mat A2241 n2242 c2243 25 2 vs2245 ms2240, .row A3371 n3372 c3373 2 1 (ints r3369)] := hs.join hs1
        clear hs1
        refine sOneM (j := 3) hf hs rfl rfl rfl rfl rfl rfl hn3374 el41 ti25 ?_; clear hf hs; intro a w A3375 hs hf
        have hs : St [] W w [.blk b1 34 [.int .i64 p0.Events, .slice A_p0_1 p0.Places.length c_p0_1], .row A4 n5 c6 2 1 (ints r2.1), .mat A2241 n2242 c2243 25 2 vs2245 ms2240, .mat A3375 1 1 25 2 ([.slice A3371 r3369.length c3373]) ([r3369])] := hs
        obtain ⟨ms3379, ha3380, hm3366⟩ := bind_some hm3366
        refine sAppendM (i := 2) (j := 3) hf hs rfl rfl rfl rfl rfl rfl hn2244 rfl (by decide) rfl rfl (by decide) ha3380 el41 ti25 rfl ?_; clear hf hs; intro a w A3377 c3378 hs hf
        have hs : St [] W w [.blk b1 34 [.int .i64 p0.Events, .slice A_p0_1 p0.Places.length c_p0_1], .row A4 n5 c6 2 1 (ints r2.1), .mat A3377 ms3379.length c3378 25 2 (vs2245 ++ ([.slice A3371 r3369.length c3373])) ms3379] := hs
        obtain ⟨hq3381, hv3382⟩ := hs.appended (i := 2) rfl ha3380
        refine sY hf hs rfl rfl rfl (Y_assign rfl rfl) ?_; clear hf; intro a hf
        refine wpO_nil ?_
        refine wpL_seq ?_
        refine wpL_region ?_
        refine sY hf hs rfl rfl rfl (Y_move rfl rfl) ?_; clear hf; intro a hf
        refine sY hf hs rfl rfl rfl (Y_lenH rfl rfl el25 hn7) ?_; clear hf; intro a hf
        refine sY hf hs rfl rfl rfl (Y_move rfl rfl) ?_; clear hf; intro a hf
        refine wpO_nil ?_
        obtain ⟨r4204, hl4205, hm3366⟩ := bind_some hm3366
        refine wpL_block (fun a w => ∃ ms4202 : List (List Int), ms4202 = r4204 ∧ ms3379.length = ms4202.length ∧ Fr a 84 [(2, .slice A_p2_1 p2.length c_p2_1), (3, .pointer (some ⟨b1, 0, none⟩)), (7, .slice A4 n5 c6), (9, .slice A3377 ms3379.length c3378), (20, .int .i64 p1), (21, .int .i64 x2246)] ∧ St [] W w [.blk b1 34 [.int .i64 p0.Events, .slice A_p0_1 p0.Places.length c_p0_1], .row A4 n5 c6 2 1 (ints r2.1), .mat A3377 ms3379.length c3378 25 2 (vs2245 ++ ([.slice A3371 r3369.length c3373])) ms4202]) ?_ ?_
        · refine wpL_loop (fun n a w => ∃ ms3928 : List (List Int), ∃ x3930 : Int, impl_firingTimes_L20 F p0 r2 x2246 n ms3928 x3930 = some r4204 ∧ ms3379.length = ms3928.length ∧ Fr a 84 [(2, .slice A_p2_1 p2.length c_p2_1), (3, .pointer (some ⟨b1, 0, none⟩)), (7, .slice A4 n5 c6), (9, .slice A3377 ms3379.length c3378), (10, .int .i64 x2246), (20, .int .i64 p1), (21, .int .i64 x2246), (29, .slice A4 n5 c6), (30, .int .i64 (r2.1.length : Int)), (31, .int .i64 x3930)] ∧ St [] W w [.blk b1 34 [.int .i64 p0.Events, .slice A_p0_1 p0.Places.length c_p0_1], .row A4 n5 c6 2 1 (ints r2.1), .mat A3377 ms3379.length c3378 25 2 (vs2245 ++ ([.slice A3371 r3369.length c3373])) ms3928]) F ?_ ?_ ?_
          · exact ⟨ms3379, 0, hl4205, rfl, (Fr.pick (Fr.pick (Fr.pick (Fr.pick (Fr.pick (Fr.pick (Fr.pick (Fr.pick (Fr.pick (Fr.pick hf.none hf rfl) hf rfl) hf rfl) hf rfl) hf rfl) hf rfl) hf rfl) hf rfl) hf rfl) hf rfl), hs⟩
          · rintro a w ⟨ms3928, x3930, h0_, -, -, -⟩; simp [impl_firingTimes_L20] at h0_
          · rintro n4207 a w ⟨ms3928, x3930, hm4206, hn3929, hf, hs⟩
            rw [impl_firingTimes_L20] at hm4206
            refine wpL_seq ?_
            refine wpL_region ?_
            refine sY hf hs rfl rfl rfl (Y_lss rfl rfl rfl) ?_; clear hf; intro a hf
            refine wpO_nil ?_
            refine wpL_seq ?_
            refine wpL_cond hf rfl (fun hb4208 => ?_) (fun hb4208 => ?_)
            · have hm4206 := bif_t hm4206 hb4208
              refine wpL_skip ?_
              refine wpL_seq ?_
              refine wpL_block0 ?_
              refine wpL_seq ?_
              refine wpL_region ?_
              obtain ⟨q4209, hi4210, hm4206⟩ := bind_some hm4206
              obtain ⟨hi4210a, hi4210b, hi4210q⟩ := idx_some hi4210
              refine sY hf hs rfl rfl rfl (Y_index rfl rfl rfl el25 ti2 (Rd.isAt (hs.rd (i := 1) rfl) (at1 (ints_at hi4210q))) hi4210a (ltn hn7 hi4210b)) ?_; clear hf; intro a hf
              refine sY hf hs rfl rfl rfl (Y_load_rd rfl rfl (fun w hs => hs.rd (i := 1) rfl) (at1 (ints_at hi4210q)) ag2) ?_; clear hf; intro a hf
              refine sY hf hs rfl rfl rfl (Y_assign rfl rfl) ?_; clear hf; intro a hf
              refine wpO_nil ?_
              refine wpL_seq ?_
              refine wpL_region ?_
              refine sY hf hs rfl rfl rfl (Y_fieldAddr rfl rfl fo34_1) ?_; clear hf; intro a hf
              refine sY hf hs rfl rfl rfl (Y_load_blk rfl rfl (i := 0) rfl rfl ag32) ?_; clear hf; intro a hf
              refine sY hf hs rfl rfl rfl (Y_lenH rfl rfl el32 rfl) ?_; clear hf; intro a hf
              refine sY hf hs rfl rfl rfl (Y_move rfl rfl) ?_; clear hf; intro a hf
              refine wpO_nil ?_
              obtain ⟨r4411, hl4412, hm4206⟩ := bind_some hm4206
              refine wpL_block (fun a w => ∃ ms4409 : List (List Int), ms4409 = r4411 ∧ ms3379.length = ms4409.length ∧ Fr a 84 [(2, .slice A_p2_1 p2.length c_p2_1), (3, .pointer (some ⟨b1, 0, none⟩)), (7, .slice A4 n5 c6), (9, .slice A3377 ms3379.length c3378), (10, .int .i64 x2246), (20, .int .i64 p1), (21, .int .i64 x2246), (29, .slice A4 n5 c6), (30, .int .i64 (r2.1.length : Int)), (31, .int .i64 x3930)] ∧ St [] W w [.blk b1 34 [.int .i64 p0.Events, .slice A_p0_1 p0.Places.length c_p0_1], .row A4 n5 c6 2 1 (ints r2.1), .mat A3377 ms3379.length c3378 25 2 (vs2245 ++ ([.slice A3371 r3369.length c3373])) ms4409]) ?_ ?_
              · refine wpL_loop (fun n a w => ∃ ms4342 : List (List Int), ∃ x4344 : Int, impl_firingTimes_L21 F p0 x2246 q4209 n ms4342 x4344 = some r4411 ∧ ms3379.length = ms4342.length ∧ Fr a 84 [(2, .slice A_p2_1 p2.length c_p2_1), (3, .pointer (some ⟨b1, 0, none⟩)), (7, .slice A4 n5 c6), (9, .slice A3377 ms3379.length c3378), (10, .int .i64 x2246), (12, .int .i64 q4209), (20, .int .i64 p1), (21, .int .i64 x2246), (29, .slice A4 n5 c6), (30, .int .i64 (r2.1.length : Int)), (31, .int .i64 x3930), (36, .slice A_p0_1 p0.Places.length c_p0_1), (37, .int .i64 (p0.Places.length : Int)), (38, .int .i64 x4344)] ∧ St [] W w [.blk b1 34 [.int .i64 p0.Events, .slice A_p0_1 p0.Places.length c_p0_1], .row A4 n5 c6 2 1 (ints r2.1), .mat A3377 ms3379.length c3378 25 2 (vs2245 ++ ([.slice A3371 r3369.length c3373])) ms4342]) F ?_ ?_ ?_
                · exact ⟨ms3928, 0, hl4412, hn3929, (Fr.pick (Fr.pick (Fr.pick (Fr.pick (Fr.pick (Fr.pick (Fr.pick (Fr.pick (Fr.pick (Fr.pick (Fr.pick (Fr.pick (Fr.pick (Fr.pick hf.none hf rfl) hf rfl) hf rfl) hf rfl) hf rfl) hf rfl) hf rfl) hf rfl) hf rfl) hf rfl) hf rfl) hf rfl) hf rfl) hf rfl), hs⟩
                · rintro a w ⟨ms4342, x4344, h0_, -, -, -⟩; simp [impl_firingTimes_L21] at h0_
                · rintro n4414 a w ⟨ms4342, x4344, hm4413, hn4343, hf, hs⟩
                  rw [impl_firingTimes_L21] at hm4413
                  refine wpL_seq ?_
                  refine wpL_region ?_
                  refine sY hf hs rfl rfl rfl (Y_lss rfl rfl rfl) ?_; clear hf; intro a hf
                  refine wpO_nil ?_
                  refine wpL_seq ?_
                  refine wpL_cond hf rfl (fun hb4415 => ?_) (fun hb4415 => ?_)
                  · have hm4413 := bif_t hm4413 hb4415
                    refine wpL_skip ?_
                    refine wpL_seq ?_
                    refine wpL_block0 ?_
                    refine wpL_seq ?_
                    refine wpL_region ?_
                    obtain ⟨q4416, hi4417, hm4413⟩ := bind_some hm4413
                    obtain ⟨hi4417a, hi4417b, hi4417q⟩ := idx_some hi4417
                    refine sY hf hs rfl rfl rfl (Y_index rfl rfl rfl el32 ti71 (Rd.isAt (h_p0_1.at hs) (recs_at (s := 4) GPlace.len hi4417q (j := 0) rfl)) hi4417a hi4417b) ?_; clear hf; intro a hf
                    refine sY hf hs rfl rfl rfl (Y_load_rdS rfl rfl (us := [.int .i64 q4416.From, .int .i64 q4416.To, .int .i64 q4416.Delay, .int .i64 q4416.Tokens]) (fun w hs => h_p0_1.at hs) (fun j u hj => recs_at (s := 4) GPlace.len hi4417q hj) (Nat.succ_pos _) ag71 ti71 rfl) ?_; clear hf; intro a hf
                    refine sAlloc hf hs rfl rfl rfl rfl ti71 ?_; clear hf hs; intro a w b4418 hs hf
                    have hs : St [] W w [.blk b1 34 [.int .i64 p0.Events, .slice A_p0_1 p0.Places.length c_p0_1], .row A4 n5 c6 2 1 (ints r2.1), .mat A3377 ms3379.length c3378 25 2 (vs2245 ++ ([.slice A3371 r3369.length c3373])) ms4342, .blk b4418 71 [.int .i64 0, .int .i64 0, .int .i64 0, .int .i64 0]] := hs
                    refine sStore (i := 3) (us := [.int .i64 q4416.From, .int .i64 q4416.To, .int .i64 q4416.Delay, .int .i64 q4416.Tokens]) hf hs rfl rfl rfl rfl rfl rfl ti71 rfl rfl rfl (Nat.le_of_ble_eq_true rfl) rfl ?_; clear hs; intro w hs
                    have hs : St [] W w [.blk b1 34 [.int .i64 p0.Events, .slice A_p0_1 p0.Places.length c_p0_1], .row A4 n5 c6 2 1 (ints r2.1), .mat A3377 ms3379.length c3378 25 2 (vs2245 ++ ([.slice A3371 r3369.length c3373])) ms4342, .blk b4418 71 [.int .i64 q4416.From, .int .i64 q4416.To, .int .i64 q4416.Delay, .int .i64 q4416.Tokens]] := hs
                    refine wpO_nil ?_
                    refine wpL_seq ?_
                    obtain ⟨r4421, hj4422, hm4413⟩ := bind_some hm4413
                    refine wpL_cut (fun a w => ∃ b4420 : Bool, b4420 = r4421 ∧ Fr a 84 [(2, .slice A_p2_1 p2.length c_p2_1), (3, .pointer (some ⟨b1, 0, none⟩)), (7, .slice A4 n5 c6), (9, .slice A3377 ms3379.length c3378), (10, .int .i64 x2246), (12, .int .i64 q4209), (14, .pointer (some ⟨b4418, 0, none⟩)), (20, .int .i64 p1), (21, .int .i64 x2246), (29, .slice A4 n5 c6), (30, .int .i64 (r2.1.length : Int)), (31, .int .i64 x3930), (36, .slice A_p0_1 p0.Places.length c_p0_1), (37, .int .i64 (p0.Places.length : Int)), (38, .int .i64 x4344), (51, .bool b4420)] ∧ St [] W w [.blk b1 34 [.int .i64 p0.Events, .slice A_p0_1 p0.Places.length c_p0_1], .row A4 n5 c6 2 1 (ints r2.1), .mat A3377 ms3379.length c3378 25 2 (vs2245 ++ ([.slice A3371 r3369.length c3373])) ms4342, .blk b4418 71 [.int .i64 q4416.From, .int .i64 q4416.To, .int .i64 q4416.Delay, .int .i64 q4416.Tokens]]) ?_ ?_
                    · refine wpL_region ?_
                      refine sY hf hs rfl rfl rfl (Y_fieldAddr rfl rfl fo71_1) ?_; clear hf; intro a hf
                      refine sY hf hs rfl rfl rfl (Y_load_blk rfl rfl (i := 3) rfl rfl ag2) ?_; clear hf; intro a hf
                      refine sY hf hs rfl rfl rfl (Y_move rfl rfl) ?_; clear hf; intro a hf
                      refine sY hf hs rfl rfl rfl (Y_eql rfl rfl rfl) ?_; clear hf; intro a hf
                      refine sY hf hs rfl rfl rfl (Y_move rfl rfl) ?_; clear hf; intro a hf
                      refine bsplit (q4416.To == q4209) (fun hb4423 => ?_) (fun hb4423 => ?_)
                      · have hj4422 := bif_t hj4422 hb4423
                        refine sYg hf hs rfl rfl rfl (congrArg (fun b => some (Value.bool b)) hb4423) rfl rfl rfl (Y_move rfl rfl) ?_; clear hf; intro a hf
                        refine sYg hf hs rfl rfl rfl (congrArg (fun b => some (Value.bool b)) hb4423) rfl rfl rfl (Y_fieldAddr rfl rfl fo71_3) ?_; clear hf; intro a hf
                        refine sYg hf hs rfl rfl rfl (congrArg (fun b => some (Value.bool b)) hb4423) rfl rfl rfl (Y_load_blk rfl rfl (i := 3) rfl rfl ag2) ?_; clear hf; intro a hf
                        refine sYg hf hs rfl rfl rfl (congrArg (fun b => some (Value.bool b)) hb4423) rfl rfl rfl (Y_geq rfl rfl rfl) ?_; clear hf; intro a hf
                        refine sY hf hs rfl rfl rfl (Y_pickT rfl (congrArg (fun b => some (Value.bool b)) hb4423) rfl) ?_; clear hf; intro a hf
                        refine wpO_nil ?_
                        refine wpL_nil (then_normal ?_)
                        exact ⟨(decide (q4416.Tokens ≤ x2246)), Option.some.inj hj4422, (Fr.pick (Fr.pick (Fr.pick (Fr.pick (Fr.pick (Fr.pick (Fr.pick (Fr.pick (Fr.pick (Fr.pick (Fr.pick (Fr.pick (Fr.pick (Fr.pick (Fr.pick (Fr.pick hf.none hf rfl) hf rfl) hf rfl) hf rfl) hf rfl) hf rfl) hf rfl) hf rfl) hf rfl) hf rfl) hf rfl) hf rfl) hf rfl) hf rfl) hf rfl) hf rfl), hs⟩
                      · have hj4422 := bif_f hj4422 hb4423
                        refine sNo hf rfl rfl rfl (congrArg (fun b => some (Value.bool b)) hb4423) rfl rfl rfl ?_; clear hf; intro a hf
                        refine sNo hf rfl rfl rfl (congrArg (fun b => some (Value.bool b)) hb4423) rfl rfl rfl ?_; clear hf; intro a hf
                        refine sNo hf rfl rfl rfl (congrArg (fun b => some (Value.bool b)) hb4423) rfl rfl rfl ?_; clear hf; intro a hf
                        refine sNo hf rfl rfl rfl (congrArg (fun b => some (Value.bool b)) hb4423) rfl rfl rfl ?_; clear hf; intro a hf
                        refine sY hf hs rfl rfl rfl (Y_pickF rfl (congrArg (fun b => some (Value.bool b)) hb4423) rfl) ?_; clear hf; intro a hf
                        refine wpO_nil ?_
                        refine wpL_nil (then_normal ?_)
                        exact ⟨false, Option.some.inj hj4422, (Fr.pick (Fr.pick (Fr.pick (Fr.pick (Fr.pick (Fr.pick (Fr.pick (Fr.pick (Fr.pick (Fr.pick (Fr.pick (Fr.pick (Fr.pick (Fr.pick (Fr.pick (Fr.pick hf.none hf rfl) hf rfl) hf rfl) hf rfl) hf rfl) hf rfl) hf rfl) hf rfl) hf rfl) hf rfl) hf rfl) hf rfl) hf rfl) hf rfl) hf rfl) hf rfl), hs⟩
                    · rintro a w ⟨b4420, hr_, hf, hs⟩
                      subst hr_
                      try dsimp only at hm4413
                      refine wpL_cond hf rfl (fun hb4424 => ?_) (fun hb4424 => ?_)
                      · have hm4413 := bif_t hm4413 hb4424
                        refine wpL_drawG [.blk b1 34 [.int .i64 p0.Events, .slice A_p0_1 p0.Places.length c_p0_1], .row A4 n5 c6 2 1 (ints r2.1), .mat A3377 ms3379.length c3378 25 2 (vs2245 ++ ([.slice A3371 r3369.length c3373])) ms4342, .blk b4418 71 [.int .i64 q4416.From, .int .i64 q4416.To, .int .i64 q4416.Delay, .int .i64 q4416.Tokens]] 28 (by kernel_rfl) hs ?_; clear hs; intro w hs
                        have hs0 : St [] W w [.blk b1 34 [.int .i64 p0.Events, .slice A_p0_1 p0.Places.length c_p0_1], .row A4 n5 c6 2 1 (ints r2.1), .mat A3377 ms3379.length c3378 25 2 (vs2245 ++ ([.slice A3371 r3369.length c3373])) ms4342, .blk b4418 71 [.int .i64 q4416.From, .int .i64 q4416.To, .int .i64 q4416.Delay, .int .i64 q4416.Tokens]] := hs
                        refine gY (i := 0) [] rfl (by kernel_rfl) (by kernel_rfl) hf hs0 rfl rfl rfl (Y_move rfl rfl) ?_; clear hf; intro a hf
                        refine gY (i := 1) [] rfl (by kernel_rfl) (by kernel_rfl) hf hs0 rfl rfl rfl (Y_move rfl rfl) ?_; clear hf; intro a hf
                        obtain ⟨q4452, hi4453, hm4413⟩ := bind_some hm4413
                        obtain ⟨hi4453a, hi4453b, hi4453q⟩ := idx_some hi4453
                        obtain ⟨A4454, c4455, hv4456⟩ := hs0.matRow (i := 2) rfl hi4453q
                        refine gY (i := 2) [] rfl (by kernel_rfl) (by kernel_rfl) hf hs0 rfl rfl rfl (Y_index rfl rfl rfl el41 ti25 (Rd.isAt (hs0.rdV (i := 2) rfl) hv4456) hi4453a (ltn hn4343 hi4453b)) ?_; clear hf; intro a hf
                        refine gY (i := 3) [] rfl (by kernel_rfl) (by kernel_rfl) hf hs0 rfl rfl rfl (Y_load_rd rfl rfl (fun w hs => hs.rdV (i := 2) rfl) (at1 hv4456) ag25) ?_; clear hf; intro a hf
                        refine gY (i := 4) [] rfl (by kernel_rfl) (by kernel_rfl) hf hs0 rfl rfl rfl (Y_move rfl rfl) ?_; clear hf; intro a hf
                        refine gY (i := 5) [] rfl (by kernel_rfl) (by kernel_rfl) hf hs0 rfl rfl rfl (Y_move rfl rfl) ?_; clear hf; intro a hf
                        refine gY (i := 6) [] rfl (by kernel_rfl) (by kernel_rfl) hf hs0 rfl rfl rfl (Y_move rfl rfl) ?_; clear hf; intro a hf
                        obtain ⟨q4457, hi4458, hm4413⟩ := bind_some hm4413
                        obtain ⟨hi4458a, hi4458b, hi4458q⟩ := idx_some hi4458
                        obtain ⟨A4459, c4460, hv4461⟩ := hs0.matRow (i := 2) rfl hi4458q
                        refine gY (i := 7) [] rfl (by kernel_rfl) (by kernel_rfl) hf hs0 rfl rfl rfl (Y_index rfl rfl rfl el41 ti25 (Rd.isAt (hs0.rdV (i := 2) rfl) hv4461) hi4458a (ltn hn4343 hi4458b)) ?_; clear hf; intro a hf
                        refine gY (i := 8) [] rfl (by kernel_rfl) (by kernel_rfl) hf hs0 rfl rfl rfl (Y_load_rd rfl rfl (fun w hs => hs.rdV (i := 2) rfl) (at1 hv4461) ag25) ?_; clear hf; intro a hf
                        refine gY (i := 9) [] rfl (by kernel_rfl) (by kernel_rfl) hf hs0 rfl rfl rfl (Y_move rfl rfl) ?_; clear hf; intro a hf
                        obtain ⟨q4462, hi4463, hm4413⟩ := bind_some hm4413
                        obtain ⟨hi4463a, hi4463b, hi4463q⟩ := idx_some hi4463
                        refine gY (i := 10) [] rfl (by kernel_rfl) (by kernel_rfl) hf hs0 rfl rfl rfl (Y_index rfl rfl rfl el25 ti2 (Rd.isAt (hs0.rdRow (i := 2) rfl ⟨hi4458q, hv4461⟩) (at1 (ints_at hi4463q))) hi4463a hi4463b) ?_; clear hf; intro a hf
                        refine gY (i := 11) [] rfl (by kernel_rfl) (by kernel_rfl) hf hs0 rfl rfl rfl (Y_load_rd rfl rfl (fun w hs => hs.rdRow (i := 2) rfl ⟨hi4458q, hv4461⟩) (at1 (ints_at hi4463q)) ag2) ?_; clear hf; intro a hf
                        refine gY (i := 12) [] rfl (by kernel_rfl) (by kernel_rfl) hf hs0 rfl rfl rfl (Y_move rfl rfl) ?_; clear hf; intro a hf
                        refine gY (i := 13) [] rfl (by kernel_rfl) (by kernel_rfl) hf hs0 rfl rfl rfl (Y_move rfl rfl) ?_; clear hf; intro a hf
                        refine gY (i := 14) [] rfl (by kernel_rfl) (by kernel_rfl) hf hs0 rfl rfl rfl (Y_fieldAddr rfl rfl fo71_3) ?_; clear hf; intro a hf
                        refine gY (i := 15) [] rfl (by kernel_rfl) (by kernel_rfl) hf hs0 rfl rfl rfl (Y_load_blk rfl rfl (i := 3) rfl rfl ag2) ?_; clear hf; intro a hf
                        refine gY (i := 16) [] rfl (by kernel_rfl) (by kernel_rfl) hf hs0 rfl rfl rfl (Y_sub rfl rfl rfl) ?_; clear hf; intro a hf
                        obtain ⟨q4464, hi4465, hm4413⟩ := bind_some hm4413
                        obtain ⟨hi4465a, hi4465b, hi4465q⟩ := idx_some hi4465
                        obtain ⟨A4466, c4467, hv4468⟩ := hs0.matRow (i := 2) rfl hi4465q
                        refine gY (i := 17) [] rfl (by kernel_rfl) (by kernel_rfl) hf hs0 rfl rfl rfl (Y_index rfl rfl rfl el41 ti25 (Rd.isAt (hs0.rdV (i := 2) rfl) hv4468) hi4465a (ltn hn4343 hi4465b)) ?_; clear hf; intro a hf
                        refine gY (i := 18) [] rfl (by kernel_rfl) (by kernel_rfl) hf hs0 rfl rfl rfl (Y_load_rd rfl rfl (fun w hs => hs.rdV (i := 2) rfl) (at1 hv4468) ag25) ?_; clear hf; intro a hf
                        refine gY (i := 19) [] rfl (by kernel_rfl) (by kernel_rfl) hf hs0 rfl rfl rfl (Y_fieldAddr rfl rfl fo71_0) ?_; clear hf; intro a hf
                        refine gY (i := 20) [] rfl (by kernel_rfl) (by kernel_rfl) hf hs0 rfl rfl rfl (Y_load_blk rfl rfl (i := 3) rfl rfl ag2) ?_; clear hf; intro a hf
                        obtain ⟨q4469, hi4470, hm4413⟩ := bind_some hm4413
                        obtain ⟨hi4470a, hi4470b, hi4470q⟩ := idx_some hi4470
                        refine gY (i := 21) [] rfl (by kernel_rfl) (by kernel_rfl) hf hs0 rfl rfl rfl (Y_index rfl rfl rfl el25 ti2 (Rd.isAt (hs0.rdRow (i := 2) rfl ⟨hi4465q, hv4468⟩) (at1 (ints_at hi4470q))) hi4470a hi4470b) ?_; clear hf; intro a hf
                        refine gY (i := 22) [] rfl (by kernel_rfl) (by kernel_rfl) hf hs0 rfl rfl rfl (Y_load_rd rfl rfl (fun w hs => hs.rdRow (i := 2) rfl ⟨hi4465q, hv4468⟩) (at1 (ints_at hi4470q)) ag2) ?_; clear hf; intro a hf
                        refine gY (i := 23) [] rfl (by kernel_rfl) (by kernel_rfl) hf hs0 rfl rfl rfl (Y_fieldAddr rfl rfl fo71_2) ?_; clear hf; intro a hf
                        refine gY (i := 24) [] rfl (by kernel_rfl) (by kernel_rfl) hf hs0 rfl rfl rfl (Y_load_blk rfl rfl (i := 3) rfl rfl ag2) ?_; clear hf; intro a hf
                        refine gY (i := 25) [] rfl (by kernel_rfl) (by kernel_rfl) hf hs0 rfl rfl rfl (Y_add rfl rfl rfl) ?_; clear hf; intro a hf
                        refine gY (i := 26) [] rfl (by kernel_rfl) (by kernel_rfl) hf hs0 rfl rfl rfl (Y_max rfl rfl rfl) ?_; clear hf; intro a hf
                        obtain ⟨q4471, hi4472, hm4413⟩ := bind_some hm4413
                        obtain ⟨hi4472a, hi4472b, hi4472q⟩ := idx_some hi4472
                        refine gY (i := 27) [] rfl (by kernel_rfl) (by kernel_rfl) hf hs0 rfl rfl rfl (Y_index rfl rfl rfl el25 ti2 (Rd.isAt (hs0.rdRow (i := 2) rfl ⟨hi4453q, hv4456⟩) (at1 (ints_at hi4472q))) hi4472a hi4472b) ?_; clear hf; intro a hf
                        refine gRun (i := 28) rfl (by kernel_rfl) ?_
                        obtain ⟨xs4473, hu4475, hm4413⟩ := bind_some hm4413
                        obtain ⟨ms4474, hu4476, hm4413⟩ := bind_some hm4413
                        refine sStoreM (i := 2) (k := x2246) hf hs rfl rfl rfl rfl rfl rfl hi4453q hv4456 rfl hu4475 hu4476 ti2 ?_; clear hs; intro w hs
                        obtain ⟨hq4477, hv4478⟩ := rowUpd hu4475 hu4476 hv4456
                        have hs : St [] W w [.blk b1 34 [.int .i64 p0.Events, .slice A_p0_1 p0.Places.length c_p0_1], .row A4 n5 c6 2 1 (ints r2.1), .mat A3377 ms3379.length c3378 25 2 (vs2245 ++ ([.slice A3371 r3369.length c3373])) ms4474, .blk b4418 71 [.int .i64 q4416.From, .int .i64 q4416.To, .int .i64 q4416.Delay, .int .i64 q4416.Tokens]] := hs
                        refine wpO_nil ⟨Or.inl rfl, ?_⟩
                        refine gDone (by kernel_rfl) ?_
                        clear hs0
                        refine wpL_nil (Qb_normal ?_)
                        refine wpL_region ?_
                        refine sY hf hs rfl rfl rfl (Y_add rfl rfl rfl) ?_; clear hf; intro a hf
                        refine sY hf hs rfl rfl rfl (Y_move rfl rfl) ?_; clear hf; intro a hf
                        refine wpO_nil ?_
                        refine wpL_nil (Ql_normal ?_)
                        exact ⟨ms4474, (IntKind.i64.wrap (x4344 + 1)), hm4413, ((hn4343).trans (upd_len hu4476).symm), (Fr.pick (Fr.pick (Fr.pick (Fr.pick (Fr.pick (Fr.pick (Fr.pick (Fr.pick (Fr.pick (Fr.pick (Fr.pick (Fr.pick (Fr.pick (Fr.pick hf.none hf rfl) hf rfl) hf rfl) hf rfl) hf rfl) hf rfl) hf rfl) hf rfl) hf rfl) hf rfl) hf rfl) hf rfl) hf rfl) hf rfl), hs.sel [0, 1, 2] (by decide)⟩
                      · have hm4413 := bif_f hm4413 hb4424
                        refine wpL_skip ?_
                        refine wpL_nil (Qb_normal ?_)
                        refine wpL_region ?_
                        refine sY hf hs rfl rfl rfl (Y_add rfl rfl rfl) ?_; clear hf; intro a hf
                        refine sY hf hs rfl rfl rfl (Y_move rfl rfl) ?_; clear hf; intro a hf
                        refine wpO_nil ?_
                        refine wpL_nil (Ql_normal ?_)
                        exact ⟨ms4342, (IntKind.i64.wrap (x4344 + 1)), hm4413, hn4343, (Fr.pick (Fr.pick (Fr.pick (Fr.pick (Fr.pick (Fr.pick (Fr.pick (Fr.pick (Fr.pick (Fr.pick (Fr.pick (Fr.pick (Fr.pick (Fr.pick hf.none hf rfl) hf rfl) hf rfl) hf rfl) hf rfl) hf rfl) hf rfl) hf rfl) hf rfl) hf rfl) hf rfl) hf rfl) hf rfl) hf rfl), hs.sel [0, 1, 2] (by decide)⟩
                  · have hm4413 := bif_f hm4413 hb4415
                    refine wpL_exit (Ql_exit (Qb_exit ?_))
                    exact ⟨ms4342, Option.some.inj hm4413, hn4343, (Fr.pick (Fr.pick (Fr.pick (Fr.pick (Fr.pick (Fr.pick (Fr.pick (Fr.pick (Fr.pick (Fr.pick hf.none hf rfl) hf rfl) hf rfl) hf rfl) hf rfl) hf rfl) hf rfl) hf rfl) hf rfl) hf rfl), hs⟩
              · rintro a w ⟨ms4409, hr_, hn4410, hf, hs⟩
                subst hr_
                try dsimp only at hm4206
                refine wpL_nil (Qb_normal ?_)
                refine wpL_region ?_
                refine sY hf hs rfl rfl rfl (Y_add rfl rfl rfl) ?_; clear hf; intro a hf
                refine sY hf hs rfl rfl rfl (Y_move rfl rfl) ?_; clear hf; intro a hf
                refine wpO_nil ?_
                refine wpL_nil (Ql_normal ?_)
                exact ⟨ms4409, (IntKind.i64.wrap (x3930 + 1)), hm4206, hn4410, (Fr.pick (Fr.pick (Fr.pick (Fr.pick (Fr.pick (Fr.pick (Fr.pick (Fr.pick (Fr.pick (Fr.pick hf.none hf rfl) hf rfl) hf rfl) hf rfl) hf rfl) hf rfl) hf rfl) hf rfl) hf rfl) hf rfl), hs⟩
            · have hm4206 := bif_f hm4206 hb4208
              refine wpL_exit (Ql_exit (Qb_exit ?_))
              exact ⟨ms3928, Option.some.inj hm4206, hn3929, (Fr.pick (Fr.pick (Fr.pick (Fr.pick (Fr.pick (Fr.pick hf.none hf rfl) hf rfl) hf rfl) hf rfl) hf rfl) hf rfl), hs⟩
        · rintro a w ⟨ms4202, hr_, hn4203, hf, hs⟩
          subst hr_
          try dsimp only at hm3366
          refine wpL_nil (Qb_normal ?_)
          refine wpL_region ?_
          refine sY hf hs rfl rfl rfl (Y_add rfl rfl rfl) ?_; clear hf; intro a hf
          refine sY hf hs rfl rfl rfl (Y_move rfl rfl) ?_; clear hf; intro a hf
          refine wpO_nil ?_
          refine wpL_nil (Ql_normal ?_)
          exact ⟨ms4202, (IntKind.i64.wrap (x2246 + 1)), A3377, ms3379.length, c3378, (vs2245 ++ ([.slice A3371 r3369.length c3373])), hm3366, hn4203, (Fr.pick (Fr.pick (Fr.pick (Fr.pick (Fr.pick (Fr.pick hf.none hf rfl) hf rfl) hf rfl) hf rfl) hf rfl) hf rfl), hs⟩
      · have hm3366 := bif_f hm3366 hb3368
        refine wpL_exit (Ql_exit (Qb_exit ?_))
        exact ⟨ms2240, A2241, n2242, c2243, vs2245, Option.some.inj hm3366, hn2244, (Fr.pick hf.none hf rfl), hs.sel [2] (by decide)⟩
  · rintro a w ⟨ms3358, A3359, n3360, c3361, vs3363, hr_, hn3362, hf, hs⟩
    subst hr_
    try dsimp only at hm
    refine wpL_seq ?_
    refine wpL_region ?_
    refine sY hf hs rfl rfl rfl (Y_move rfl rfl) ?_; clear hf; intro a hf
    refine sY hf hs rfl rfl rfl (Y_assign rfl rfl) ?_; clear hf; intro a hf
    refine wpO_nil ?_
    obtain rfl := Option.some.inj hm
    refine wpL_ret (ret_tmp rfl hf rfl ?_)
    exact ⟨_, rfl, A3359, n3360, c3361, vs3363, rfl, hn3362, hs⟩

set_option maxRecDepth 100000 in
theorem impl_LateFirings_c1_ok (F : Nat) (p0_k : Int) (p1_event : Int) (b_z0 : Nat) (z0 : List (List Int)) (A_z0_1 : Option Addr) (n_z0_1 c_z0_1 : Nat) (hn_z0_1 : n_z0_1 = z0.length) (b_z1 : Nat) (z1 : List (List Int)) (A_z1_1 : Option Addr) (n_z1_1 c_z1_1 : Nat) (hn_z1_1 : n_z1_1 = z1.length) (r : Bool) (W : World) (hm : impl_LateFirings_c1 F p0_k p1_event z0 z1 = some r) (h_z0_1 : RdM W A_z0_1 z0) (h_z0 : PB W b_z0 41 [.slice A_z0_1 n_z0_1 c_z0_1]) (h_z1_1 : RdM W A_z1_1 z1) (h_z1 : PB W b_z1 41 [.slice A_z1_1 n_z1_1 c_z1_1]) :
    Calls Try.prog 74 [.int .i64 p0_k, .int .i64 p1_event, .pointer (some ⟨b_z0, 0, none⟩), .pointer (some ⟨b_z1, 0, none⟩)].toArray W fun e w' => ∃ v, e = .returned v ∧ v = .bool r ∧ St [] W w' [] := by
  subst hn_z0_1
  subst hn_z1_1
  unfold impl_LateFirings_c1 at hm
  refine Calls.enter (N := 22) Try.func74 rfl rfl rfl (fun a hf => ?_)
  have hs := St.start W
  obtain ⟨w, hw_⟩ : ∃ w, w = W := ⟨W, rfl⟩
  clear hw_ w
  refine wpL_seq ?_
  refine wpL_region ?_
  refine sY hf hs rfl rfl rfl (Y_assign rfl rfl) ?_; clear hf; intro a hf
  refine wpO_nil ?_
  refine wpL_seq ?_
  refine wpL_draw (by kernel_rfl) (by kernel_rfl) hs ?_
  refine qY hf rfl rfl rfl (Y_load_pb rfl rfl h_z0 rfl ag41) ?_; clear hf; intro a hf
  refine qY hf rfl rfl rfl (Y_move rfl rfl) ?_; clear hf; intro a hf
  obtain ⟨q1, hi2, hm⟩ := bind_some hm
  obtain ⟨hi2a, hi2b, hi2q⟩ := idx_some hi2
  obtain ⟨vs3, hv4, hr5⟩ := id h_z0_1
  obtain ⟨A6, c7, hv8, hR9⟩ := hr5 _ _ hi2q
  refine qY hf rfl rfl rfl (Y_index rfl rfl rfl el41 ti25 (Rd.isAt hv4 hv8) hi2a hi2b) ?_; clear hf; intro a hf
  refine qY hf rfl rfl rfl (Y_load_rd rfl rfl (fun w hs => hv4.at hs) (at1 hv8) ag25) ?_; clear hf; intro a hf
  refine qY hf rfl rfl rfl (Y_move rfl rfl) ?_; clear hf; intro a hf
  obtain ⟨q10, hi11, hm⟩ := bind_some hm
  obtain ⟨hi11a, hi11b, hi11q⟩ := idx_some hi11
  refine qY hf rfl rfl rfl (Y_index rfl rfl rfl el25 ti2 (Rd.isAt (hR9.at hs) (at1 (ints_at hi11q))) hi11a hi11b) ?_; clear hf; intro a hf
  refine qY hf rfl rfl rfl (Y_load_rd rfl rfl (fun w hs => hR9.at hs) (at1 (ints_at hi11q)) ag2) ?_; clear hf; intro a hf
  refine qY hf rfl rfl rfl (Y_load_pb rfl rfl h_z1 rfl ag41) ?_; clear hf; intro a hf
  refine qY hf rfl rfl rfl (Y_move rfl rfl) ?_; clear hf; intro a hf
  obtain ⟨q12, hi13, hm⟩ := bind_some hm
  obtain ⟨hi13a, hi13b, hi13q⟩ := idx_some hi13
  obtain ⟨vs14, hv15, hr16⟩ := id h_z1_1
  obtain ⟨A17, c18, hv19, hR20⟩ := hr16 _ _ hi13q
  refine qY hf rfl rfl rfl (Y_index rfl rfl rfl el41 ti25 (Rd.isAt hv15 hv19) hi13a hi13b) ?_; clear hf; intro a hf
  refine qY hf rfl rfl rfl (Y_load_rd rfl rfl (fun w hs => hv15.at hs) (at1 hv19) ag25) ?_; clear hf; intro a hf
  refine qY hf rfl rfl rfl (Y_move rfl rfl) ?_; clear hf; intro a hf
  obtain ⟨q21, hi22, hm⟩ := bind_some hm
  obtain ⟨hi22a, hi22b, hi22q⟩ := idx_some hi22
  refine qY hf rfl rfl rfl (Y_index rfl rfl rfl el25 ti2 (Rd.isAt (hR20.at hs) (at1 (ints_at hi22q))) hi22a hi22b) ?_; clear hf; intro a hf
  refine qY hf rfl rfl rfl (Y_load_rd rfl rfl (fun w hs => hR20.at hs) (at1 (ints_at hi22q)) ag2) ?_; clear hf; intro a hf
  refine qY hf rfl rfl rfl (Y_gtr rfl rfl rfl) ?_; clear hf; intro a hf
  refine qY hf rfl rfl rfl (Y_assign rfl rfl) ?_; clear hf; intro a hf
  refine qNil ?_; clear hs; intro w hs
  obtain rfl := Option.some.inj hm
  refine wpL_ret (ret_tmp rfl hf rfl ?_)
  exact ⟨_, rfl, rfl, hs⟩

set_option maxRecDepth 100000 in
theorem impl_firingsWith_ok (F : Nat) (p0_table : List (List Int)) (A_p0_table_1 : Option Addr) (n_p0_table_1 c_p0_table_1 : Nat) (hn_p0_table_1 : n_p0_table_1 = p0_table.length) (m_p1_has : Int → Int → Option Bool) (f_p1_has : FuncId) (k_p1_has : List Value) (r : List (List Int)) (W : World) (hm : impl_firingsWith F p0_table m_p1_has = some r) (h_p0_table_1 : RdM W A_p0_table_1 p0_table) (h_p1_has : ∀ (x0 : Int) (x1 : Int) (r : Bool) (w : World), m_p1_has x0 x1 = some r → Below W.heap.size W w → Calls Try.prog f_p1_has (([.int .i64 x0, .int .i64 x1] : List Value) ++ k_p1_has).toArray w fun e w' => ∃ v, e = .returned v ∧ v = .bool r ∧ St [] w w' []) (e_p1_has : En Try.prog f_p1_has) :
    Calls Try.prog 73 [.slice A_p0_table_1 n_p0_table_1 c_p0_table_1, .func (.func f_p1_has) #[] k_p1_has.toArray].toArray W fun e w' => ∃ v, e = .returned v ∧ ∃ A392, ∃ n393, ∃ c394, ∃ vs396, v = .slice A392 n393 c394 ∧ n393 = r.length ∧ St [] W w' [.mat A392 n393 c394 25 2 vs396 r] := by
  subst hn_p0_table_1
  unfold impl_firingsWith at hm
  refine Calls.enter (N := 35) Try.func73 rfl rfl rfl (fun a hf => ?_)
  have hs := St.start W
  obtain ⟨w, hw_⟩ : ∃ w, w = W := ⟨W, rfl⟩
  clear hw_ w
  refine wpL_seq ?_
  refine wpL_region ?_
  refine sY hf hs rfl rfl rfl (Y_assign rfl rfl) ?_; clear hf; intro a hf
  refine wpO_nil ?_
  refine wpL_seq ?_
  refine wpL_region ?_
  refine sY hf hs rfl rfl rfl (Y_assign rfl rfl) ?_; clear hf; intro a hf
  refine wpO_nil ?_
  refine wpL_seq ?_
  refine wpL_seq ?_
  refine wpL_region ?_
  refine sY hf hs rfl rfl rfl (Y_move rfl rfl) ?_; clear hf; intro a hf
  refine sY hf hs rfl rfl rfl (Y_lenH rfl rfl el41 rfl) ?_; clear hf; intro a hf
  refine sY hf hs rfl rfl rfl (Y_move rfl rfl) ?_; clear hf; intro a hf
  refine wpO_nil ?_
  obtain ⟨r297, hl298, hm⟩ := bind_some hm
  have hs : St [] W _ [.mat none 0 0 25 2 [] ([] : List (List Int))] := hs.addNilM 25 2
  refine wpL_block (fun a w => ∃ ms291 : List (List Int), ∃ A292, ∃ n293, ∃ c294, ∃ vs296, ms291 = r297 ∧ n293 = ms291.length ∧ Fr a 35 [(5, .slice A292 n293 c294)] ∧ St [] W w [.mat A292 n293 c294 25 2 vs296 ms291]) ?_ ?_
  · refine wpL_loop (fun n a w => ∃ ms194 : List (List Int), ∃ x200 : Int, ∃ A195, ∃ n196, ∃ c197, ∃ vs199, impl_firingsWith_L4 F p0_table m_p1_has n ms194 x200 = some r297 ∧ n196 = ms194.length ∧ Fr a 35 [(1, .func (.func f_p1_has) #[] k_p1_has.toArray), (5, .slice A195 n196 c197), (9, .slice A_p0_table_1 p0_table.length c_p0_table_1), (10, .int .i64 (p0_table.length : Int)), (11, .int .i64 x200)] ∧ St [] W w [.mat A195 n196 c197 25 2 vs199 ms194]) F ?_ ?_ ?_
    · exact ⟨([] : List (List Int)), 0, none, 0, 0, [], hl298, rfl, (Fr.pick (Fr.pick (Fr.pick (Fr.pick (Fr.pick hf.none hf rfl) hf rfl) hf rfl) hf rfl) hf rfl), hs⟩
    · rintro a w ⟨ms194, x200, A195, n196, c197, vs199, h0_, -, -, -⟩; simp [impl_firingsWith_L4] at h0_
    · rintro n300 a w ⟨ms194, x200, A195, n196, c197, vs199, hm299, hn198, hf, hs⟩
      rw [impl_firingsWith_L4] at hm299
      refine wpL_seq ?_
      refine wpL_region ?_
      refine sY hf hs rfl rfl rfl (Y_lss rfl rfl rfl) ?_; clear hf; intro a hf
      refine wpO_nil ?_
      refine wpL_seq ?_
      refine wpL_cond hf rfl (fun hb301 => ?_) (fun hb301 => ?_)
      · have hm299 := bif_t hm299 hb301
        refine wpL_skip ?_
        refine wpL_seq ?_
        refine wpL_block0 ?_
        refine wpL_seq ?_
        refine wpL_region ?_
        refine sY hf hs rfl rfl rfl (Y_move rfl rfl) ?_; clear hf; intro a hf
        obtain ⟨q302, hi303, hm299⟩ := bind_some hm299
        obtain ⟨hi303a, hi303b, hi303q⟩ := idx_some hi303
        obtain ⟨vs304, hv305, hr306⟩ := id h_p0_table_1
        obtain ⟨A307, c308, hv309, hR310⟩ := hr306 _ _ hi303q
        refine sY hf hs rfl rfl rfl (Y_index rfl rfl rfl el41 ti25 (Rd.isAt hv305 hv309) hi303a hi303b) ?_; clear hf; intro a hf
        refine sY hf hs rfl rfl rfl (Y_load_rd rfl rfl (fun w hs => hv305.at hs) (at1 hv309) ag25) ?_; clear hf; intro a hf
        refine sY hf hs rfl rfl rfl (Y_assign rfl rfl) ?_; clear hf; intro a hf
        refine sY hf hs rfl rfl rfl (Y_assign rfl rfl) ?_; clear hf; intro a hf
        refine wpO_nil ?_
        refine wpL_seq ?_
        refine wpL_region ?_
        refine sY hf hs rfl rfl rfl (Y_move rfl rfl) ?_; clear hf; intro a hf
        refine sY hf hs rfl rfl rfl (Y_lenH rfl rfl el25 rfl) ?_; clear hf; intro a hf
        refine sY hf hs rfl rfl rfl (Y_move rfl rfl) ?_; clear hf; intro a hf
        refine wpO_nil ?_
        obtain ⟨r373, hl374, hm299⟩ := bind_some hm299
        refine wpL_block (fun a w => ∃ ms367 : List (List Int), ∃ A368, ∃ n369, ∃ c370, ∃ vs372, ms367 = r373 ∧ n369 = ms367.length ∧ Fr a 35 [(1, .func (.func f_p1_has) #[] k_p1_has.toArray), (5, .slice A368 n369 c370), (9, .slice A_p0_table_1 p0_table.length c_p0_table_1), (10, .int .i64 (p0_table.length : Int)), (11, .int .i64 x200)] ∧ St [] W w [.mat A368 n369 c370 25 2 vs372 ms367]) ?_ ?_
        · refine wpL_loop (fun n a w => ∃ ms346 : List (List Int), ∃ x352 : Int, ∃ A347, ∃ n348, ∃ c349, ∃ vs351, impl_firingsWith_L5 F m_p1_has x200 q302 n ms346 x352 = some r373 ∧ n348 = ms346.length ∧ Fr a 35 [(1, .func (.func f_p1_has) #[] k_p1_has.toArray), (5, .slice A347 n348 c349), (6, .int .i64 x200), (9, .slice A_p0_table_1 p0_table.length c_p0_table_1), (10, .int .i64 (p0_table.length : Int)), (11, .int .i64 x200), (17, .int .i64 (q302.length : Int)), (18, .int .i64 x352)] ∧ St [] W w [.mat A347 n348 c349 25 2 vs351 ms346]) F ?_ ?_ ?_
          · exact ⟨ms194, 0, A195, n196, c197, vs199, hl374, hn198, (Fr.pick (Fr.pick (Fr.pick (Fr.pick (Fr.pick (Fr.pick (Fr.pick (Fr.pick hf.none hf rfl) hf rfl) hf rfl) hf rfl) hf rfl) hf rfl) hf rfl) hf rfl), hs⟩
          · rintro a w ⟨ms346, x352, A347, n348, c349, vs351, h0_, -, -, -⟩; simp [impl_firingsWith_L5] at h0_
          · rintro n376 a w ⟨ms346, x352, A347, n348, c349, vs351, hm375, hn350, hf, hs⟩
            rw [impl_firingsWith_L5] at hm375
            refine wpL_seq ?_
            refine wpL_region ?_
            refine sY hf hs rfl rfl rfl (Y_lss rfl rfl rfl) ?_; clear hf; intro a hf
            refine wpO_nil ?_
            refine wpL_seq ?_
            refine wpL_cond hf rfl (fun hb377 => ?_) (fun hb377 => ?_)
            · have hm375 := bif_t hm375 hb377
              refine wpL_skip ?_
              refine wpL_seq ?_
              refine wpL_block0 ?_
              refine wpL_seq ?_
              refine wpL_region ?_
              refine sY hf hs rfl rfl rfl (Y_move rfl rfl) ?_; clear hf; intro a hf
              refine sY hf hs rfl rfl rfl (Y_assign rfl rfl) ?_; clear hf; intro a hf
              refine wpO_nil ?_
              refine wpL_seq ?_
              refine wpL_region ?_
              refine sY hf hs rfl rfl rfl (Y_move rfl rfl) ?_; clear hf; intro a hf
              refine sY hf hs rfl rfl rfl (Y_move rfl rfl) ?_; clear hf; intro a hf
              refine sY hf hs rfl rfl rfl (Y_move rfl rfl) ?_; clear hf; intro a hf
              obtain ⟨r378, hc379, hm375⟩ := bind_some hm375
              refine sCall hf rfl rfl rfl rfl (cap := k_p1_has) rfl rfl e_p1_has (h_p1_has x200 x352 _ _ hc379 hs.below) ?_; clear hf; rintro _ w ⟨rfl, hs1⟩ a hf; have hs := hs.ext hs1.below; clear hs1
              refine wpO_nil ?_
              refine wpL_cond hf rfl (fun hb380 => ?_) (fun hb380 => ?_)
              · have hm375 := bif_t hm375 hb380
                refine wpL_region ?_
                refine sY hf hs rfl rfl rfl (Y_move rfl rfl) ?_; clear hf; intro a hf
                refine sY hf hs rfl rfl rfl (Y_move rfl rfl) ?_; clear hf; intro a hf
                refine sY hf hs rfl rfl rfl (Y_add rfl rfl rfl) ?_; clear hf; intro a hf
                refine sY hf hs rfl rfl rfl (Y_move rfl rfl) ?_; clear hf; intro a hf
                refine sBuildSlice (parts := [(0, .tmp 27), (1, .tmp 28)]) (vs := [.int .i64 (IntKind.i64.wrap (x200 + 1)), .int .i64 x352]) (cells := [.int .i64 (IntKind.i64.wrap (x200 + 1)), .int .i64 x352]) hf hs rfl rfl rfl rfl rfl el25 ti2 rfl rfl rfl rfl ?_; clear hf hs; intro a w A381 hs hA382 hf
                have hs : St [] W w [.mat A347 n348 c349 25 2 vs351 ms346, .row A381 2 2 2 1 (ints ([(IntKind.i64.wrap (x200 + 1)), x352]))] := hs
                refine sOneM (j := 1) hf hs rfl rfl rfl rfl rfl rfl rfl el41 ti25 ?_; clear hf hs; intro a w A383 hs hf
                have hs : St [] W w [.mat A347 n348 c349 25 2 vs351 ms346, .mat A383 1 1 25 2 ([.slice A381 ([(IntKind.i64.wrap (x200 + 1)), x352]).length 2]) ([[(IntKind.i64.wrap (x200 + 1)), x352]])] := hs
                obtain ⟨ms387, ha388, hm375⟩ := bind_some hm375
                refine sAppendM (i := 0) (j := 1) hf hs rfl rfl rfl rfl rfl rfl hn350 rfl (by decide) rfl rfl (by decide) ha388 el41 ti25 rfl ?_; clear hf hs; intro a w A385 c386 hs hf
                have hs : St [] W w [.mat A385 ms387.length c386 25 2 (vs351 ++ ([.slice A381 ([(IntKind.i64.wrap (x200 + 1)), x352]).length 2])) ms387] := hs
                obtain ⟨hq389, hv390⟩ := hs.appended (i := 0) rfl ha388
                refine sY hf hs rfl rfl rfl (Y_assign rfl rfl) ?_; clear hf; intro a hf
                refine wpO_nil ?_
                refine wpL_nil (Qb_normal ?_)
                refine wpL_region ?_
                refine sY hf hs rfl rfl rfl (Y_add rfl rfl rfl) ?_; clear hf; intro a hf
                refine sY hf hs rfl rfl rfl (Y_move rfl rfl) ?_; clear hf; intro a hf
                refine wpO_nil ?_
                refine wpL_nil (Ql_normal ?_)
                exact ⟨ms387, (IntKind.i64.wrap (x352 + 1)), A385, ms387.length, c386, (vs351 ++ ([.slice A381 ([(IntKind.i64.wrap (x200 + 1)), x352]).length 2])), hm375, rfl, (Fr.pick (Fr.pick (Fr.pick (Fr.pick (Fr.pick (Fr.pick (Fr.pick (Fr.pick hf.none hf rfl) hf rfl) hf rfl) hf rfl) hf rfl) hf rfl) hf rfl) hf rfl), hs⟩
              · have hm375 := bif_f hm375 hb380
                refine wpL_skip ?_
                refine wpL_nil (Qb_normal ?_)
                refine wpL_region ?_
                refine sY hf hs rfl rfl rfl (Y_add rfl rfl rfl) ?_; clear hf; intro a hf
                refine sY hf hs rfl rfl rfl (Y_move rfl rfl) ?_; clear hf; intro a hf
                refine wpO_nil ?_
                refine wpL_nil (Ql_normal ?_)
                exact ⟨ms346, (IntKind.i64.wrap (x352 + 1)), A347, n348, c349, vs351, hm375, hn350, (Fr.pick (Fr.pick (Fr.pick (Fr.pick (Fr.pick (Fr.pick (Fr.pick (Fr.pick hf.none hf rfl) hf rfl) hf rfl) hf rfl) hf rfl) hf rfl) hf rfl) hf rfl), hs⟩
            · have hm375 := bif_f hm375 hb377
              refine wpL_exit (Ql_exit (Qb_exit ?_))
              exact ⟨ms346, A347, n348, c349, vs351, Option.some.inj hm375, hn350, (Fr.pick (Fr.pick (Fr.pick (Fr.pick (Fr.pick hf.none hf rfl) hf rfl) hf rfl) hf rfl) hf rfl), hs⟩
        · rintro a w ⟨ms367, A368, n369, c370, vs372, hr_, hn371, hf, hs⟩
          subst hr_
          try dsimp only at hm299
          refine wpL_nil (Qb_normal ?_)
          refine wpL_region ?_
          refine sY hf hs rfl rfl rfl (Y_add rfl rfl rfl) ?_; clear hf; intro a hf
          refine sY hf hs rfl rfl rfl (Y_move rfl rfl) ?_; clear hf; intro a hf
          refine wpO_nil ?_
          refine wpL_nil (Ql_normal ?_)
          exact ⟨ms367, (IntKind.i64.wrap (x200 + 1)), A368, n369, c370, vs372, hm299, hn371, (Fr.pick (Fr.pick (Fr.pick (Fr.pick (Fr.pick hf.none hf rfl) hf rfl) hf rfl) hf rfl) hf rfl), hs⟩
      · have hm299 := bif_f hm299 hb301
        refine wpL_exit (Ql_exit (Qb_exit ?_))
        exact ⟨ms194, A195, n196, c197, vs199, Option.some.inj hm299, hn198, (Fr.pick hf.none hf rfl), hs⟩
  · rintro a w ⟨ms291, A292, n293, c294, vs296, hr_, hn295, hf, hs⟩
    subst hr_
    try dsimp only at hm
    refine wpL_seq ?_
    refine wpL_region ?_
    refine sY hf hs rfl rfl rfl (Y_move rfl rfl) ?_; clear hf; intro a hf
    refine sY hf hs rfl rfl rfl (Y_assign rfl rfl) ?_; clear hf; intro a hf
    refine wpO_nil ?_
    obtain rfl := Option.some.inj hm
    refine wpL_ret (ret_tmp rfl hf rfl ?_)
    exact ⟨_, rfl, A292, n293, c294, vs296, rfl, hn295, hs⟩

end Go.Proofs.Ythbcakdjdbfepaa
