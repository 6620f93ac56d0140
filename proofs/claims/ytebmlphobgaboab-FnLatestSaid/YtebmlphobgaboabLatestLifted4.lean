/- The functions do what their models say. -/
import Derived.Test.YtebmlphobgaboabLatestLifted3
import Derived.Test.YtebmlphobgaboabRows
namespace Go.Proofs.Ytebmlphobgaboab
open Go.RowKit

set_option maxHeartbeats 2000000 in
set_option maxRecDepth 100000 in
theorem impl_firingTimes_ok (F : Nat) (p0 : GEventGraph) (al : Option Addr) (aS am : Nat) (bC : aS = p0.Places.length) (p1 : Int) (p2 : List Int) (bp : Option Addr) (cj br : Nat) (cC : cj = p2.length) (r : List (List Int)) (W : World) (hm : impl_firingTimes F p0 p1 p2 = some r) (aP : Rd W al ((recs GPlace.cells) p0.Places)) (cG : Rd W bp (ints p2)) :
  Calls Try.prog 116 [.agg #[.int .i64 p0.Events, .slice al aS am], .int .i64 p1, .slice bp cj br].toArray W fun e w' => ∃ v, e = .returned v ∧ ∃ A2752, ∃ n2753, ∃ c2754, ∃ vs2756, v = .slice A2752 n2753 c2754 ∧ n2753 = r.length ∧ St [] W w' [.mat A2752 n2753 c2754 28 2 vs2756 r] := by
 subst bC
 subst cC
 unfold impl_firingTimes at hm
 refine Calls.enter (N := 84) Try.func116 rfl rfl rfl (fun a hf => ?_)
 have hs := St.start W
 obtain ⟨w, hw_⟩ : ∃ w, w = W := ⟨W, rfl⟩
 clear hw_ w
 refine wpL_seq <| wpL_region ?_
 refine sBox hf hs rfl rfl rfl rfl rfl (cs := [.int .i64 p0.Events, .slice al p0.Places.length am]) rfl ?_; clear hf hs; intro a w b1 hs hf
 have hs : St _ W w [.blk b1 55 [.int .i64 p0.Events, .slice al p0.Places.length am]] := hs
 refine sY hf hs rfl rfl rfl (Y_assign rfl rfl) ?_; clear hf; intro a hf
 refine wpO_nil <| wpL_seq <| wpL_region ?_
 refine sY hf hs rfl rfl rfl (Y_load_blkS rfl rfl (i := 0) rfl ag55 ti55 rfl) ?_; clear hf; intro a hf
 obtain ⟨r2, hc3, hm⟩ := bind_some hm
 refine sCall hf rfl rfl rfl rfl (cap := []) rfl rfl en175 (impl_firingOrder_ok F p0 al p0.Places.length am rfl _ _ hc3 (aP.at hs)) ?_; clear hf
 rintro _ w ⟨A4, n5, c6, rfl, hn7, hs1⟩ a hf
 have hs : St _ W w [_, .row A4 n5 c6 2 1 (ints r2.1)] := hs.join hs1
 clear hs1
 refine sY hf hs rfl rfl rfl (Y_move rfl rfl) ?_; clear hf; intro a hf
 refine sY hf hs rfl rfl rfl (Y_extract rfl rfl rfl) ?_; clear hf; intro a hf
 refine sY hf hs rfl rfl rfl (Y_extract rfl rfl rfl) ?_; clear hf; intro a hf
 refine sY hf hs rfl rfl rfl (Y_assign rfl rfl) ?_; clear hf; intro a hf
 refine sY hf hs rfl rfl rfl (Y_assign rfl rfl) ?_; clear hf; intro a hf
 refine wpO_nil <| wpL_seq <| wpL_region ?_
 refine sY hf hs rfl rfl rfl (Y_assign rfl rfl) ?_; clear hf; intro a hf
 refine wpO_nil <| wpL_seq <| wpL_seq <| wpL_region ?_
 refine sY hf hs rfl rfl rfl (Y_move rfl rfl) ?_; clear hf; intro a hf
 refine sY hf hs rfl rfl rfl (Y_move rfl rfl) ?_; clear hf; intro a hf
 refine wpO_nil ?_
 obtain ⟨r2068, hl2069, hm⟩ := bind_some hm
 have hs : St [] W _ [.blk b1 55 [.int .i64 p0.Events, .slice al p0.Places.length am], .row A4 n5 c6 2 1 (ints r2.1), .mat none 0 0 28 2 [] ([] : List (List Int))] := hs.addNilM 28 2
 refine wpL_block (fun a w => ∃ ms2062 : List (List Int), ∃ A2063, ∃ n2064, ∃ c2065, ∃ vs2067, ms2062 = r2068 ∧ n2064 = ms2062.length ∧ Fr a 84 [(9, .slice A2063 n2064 c2065)] ∧ St [] W w [.mat A2063 n2064 c2065 28 2 vs2067 ms2062]) ?_ ?_
 ·refine wpL_loop (fun n a w => ∃ ms1376 : List (List Int), ∃ x1382 : Int, ∃ A1377, ∃ n1378, ∃ c1379, ∃ vs1381, impl_firingTimes_L16 F p0 p1 p2 r2 n ms1376 x1382 = some r2068 ∧ n1378 = ms1376.length ∧ Fr a 84 [(2, .slice bp p2.length br), (3, .pointer (some ⟨b1, 0, none⟩)), (7, .slice A4 n5 c6), (9, .slice A1377 n1378 c1379), (20, .int .i64 p1), (21, .int .i64 x1382)] ∧ St [] W w [.blk b1 55 [.int .i64 p0.Events, .slice al p0.Places.length am], .row A4 n5 c6 2 1 (ints r2.1), .mat A1377 n1378 c1379 28 2 vs1381 ms1376]) F ?_ ?_ ?_
  ·exact ⟨([] : List (List Int)), 0, none, 0, 0, [], hl2069, rfl, (FrD.pick (FrD.pick (FrD.pick (FrD.pick (FrD.pick (FrD.pick hf.none hf rfl) hf rfl) hf rfl) hf rfl) hf rfl) hf rfl), hs⟩
  ·rintro a w ⟨ms1376, x1382, A1377, n1378, c1379, vs1381, h0_, -, -, -⟩; simp [impl_firingTimes_L16] at h0_
  ·rintro n2071 a w ⟨ms1376, x1382, A1377, n1378, c1379, vs1381, hm2070, hn1380, hf, hs⟩
   rw [impl_firingTimes_L16] at hm2070
   refine wpL_seq <| wpL_region ?_
   refine sY hf hs rfl rfl rfl (Y_lss rfl rfl rfl) ?_; clear hf; intro a hf
   refine wpO_nil <| wpL_seq ?_
   refine wpL_cond hf rfl (fun hb2072 => ?_) (fun hb2072 => ?_)
   ·have hm2070 := bif_t hm2070 hb2072
    refine wpL_skip <| wpL_seq <| wpL_block0 <| wpL_seq <| wpL_region ?_
    refine sY hf hs rfl rfl rfl (Y_move rfl rfl) ?_; clear hf; intro a hf
    refine sY hf hs rfl rfl rfl (Y_assign rfl rfl) ?_; clear hf; intro a hf
    refine wpO_nil <| wpL_seq <| wpL_region ?_
    refine sY hf hs rfl rfl rfl (Y_move rfl rfl) ?_; clear hf; intro a hf
    refine sY hf hs rfl rfl rfl (Y_move rfl rfl) ?_; clear hf; intro a hf
    obtain ⟨r2073, hc2074, hm2070⟩ := bind_some hm2070
    refine sCall hf rfl rfl rfl rfl (cap := []) rfl rfl en120 (slices_Clone_int64_ok F p2 bp p2.length br rfl _ _ hc2074 (cG.at hs)) ?_; clear hf
    rintro _ w ⟨A2075, n2076, c2077, rfl, hn2078, hs1⟩ a hf
    have hs : St _ W w [_, _, _, .row A2075 n2076 c2077 2 1 (ints r2073)] := hs.join hs1
    clear hs1
    refine sOneM (j := 3) hf hs rfl rfl rfl rfl rfl rfl hn2078 el40 ti28 ?_; clear hf hs; intro a w A2079 hs hf
    have hs : St _ W w [_, _, _, .mat A2079 1 1 28 2 ([Value.slice A2075 r2073.length c2077]) ([r2073])] := hs
    obtain ⟨ms2083, ha2084, hm2070⟩ := bind_some hm2070
    refine sAppendM (i := 2) (j := 3) hf hs rfl rfl rfl rfl rfl rfl hn1380 rfl (by decide) rfl rfl (by decide) ha2084 el40 ti28 rfl ?_; clear hf hs; intro a w A2081 c2082 hs hf
    have hs : St _ W w [_, _, .mat A2081 ms2083.length c2082 28 2 (vs1381 ++ ([Value.slice A2075 r2073.length c2077])) ms2083] := hs
    obtain ⟨hq2085, hv2086⟩ := hs.appended (i := 2) rfl ha2084
    refine sY hf hs rfl rfl rfl (Y_assign rfl rfl) ?_; clear hf; intro a hf
    refine wpO_nil <| wpL_seq <| wpL_region ?_
    refine sY hf hs rfl rfl rfl (Y_move rfl rfl) ?_; clear hf; intro a hf
    refine sY hf hs rfl rfl rfl (Y_lenH rfl rfl el28 hn7) ?_; clear hf; intro a hf
    refine sY hf hs rfl rfl rfl (Y_move rfl rfl) ?_; clear hf; intro a hf
    refine wpO_nil ?_
    obtain ⟨r2584, hl2585, hm2070⟩ := bind_some hm2070
    refine wpL_block (fun a w => ∃ ms2582 : List (List Int), ms2582 = r2584 ∧ ms2083.length = ms2582.length ∧ Fr a 84 [(2, .slice bp p2.length br), (3, .pointer (some ⟨b1, 0, none⟩)), (7, .slice A4 n5 c6), (9, .slice A2081 ms2083.length c2082), (20, .int .i64 p1), (21, .int .i64 x1382)] ∧ St [] W w [.blk b1 55 [.int .i64 p0.Events, .slice al p0.Places.length am], .row A4 n5 c6 2 1 (ints r2.1), .mat A2081 ms2083.length c2082 28 2 (vs1381 ++ ([Value.slice A2075 r2073.length c2077])) ms2582]) ?_ ?_
    ·refine wpL_loop (fun n a w => ∃ ms2416 : List (List Int), ∃ x2418 : Int, impl_firingTimes_L20 F p0 r2 x1382 n ms2416 x2418 = some r2584 ∧ ms2083.length = ms2416.length ∧ Fr a 84 [(2, .slice bp p2.length br), (3, .pointer (some ⟨b1, 0, none⟩)), (7, .slice A4 n5 c6), (9, .slice A2081 ms2083.length c2082), (10, .int .i64 x1382), (20, .int .i64 p1), (21, .int .i64 x1382), (29, .slice A4 n5 c6), (30, .int .i64 (r2.1.length : Int)), (31, .int .i64 x2418)] ∧ St [] W w [.blk b1 55 [.int .i64 p0.Events, .slice al p0.Places.length am], .row A4 n5 c6 2 1 (ints r2.1), .mat A2081 ms2083.length c2082 28 2 (vs1381 ++ ([Value.slice A2075 r2073.length c2077])) ms2416]) F ?_ ?_ ?_
     ·exact ⟨ms2083, 0, hl2585, rfl, (FrD.pick (FrD.pick (FrD.pick (FrD.pick (FrD.pick (FrD.pick (FrD.pick (FrD.pick (FrD.pick (FrD.pick hf.none hf rfl) hf rfl) hf rfl) hf rfl) hf rfl) hf rfl) hf rfl) hf rfl) hf rfl) hf rfl), hs⟩
     ·rintro a w ⟨ms2416, x2418, h0_, -, -, -⟩; simp [impl_firingTimes_L20] at h0_
     ·rintro n2587 a w ⟨ms2416, x2418, hm2586, hn2417, hf, hs⟩
      rw [impl_firingTimes_L20] at hm2586
      refine wpL_seq <| wpL_region ?_
      refine sY hf hs rfl rfl rfl (Y_lss rfl rfl rfl) ?_; clear hf; intro a hf
      refine wpO_nil <| wpL_seq ?_
      refine wpL_cond hf rfl (fun hb2588 => ?_) (fun hb2588 => ?_)
      ·have hm2586 := bif_t hm2586 hb2588
       refine wpL_skip <| wpL_seq <| wpL_block0 <| wpL_seq <| wpL_region ?_
       obtain ⟨q2589, hi2590, hm2586⟩ := bind_some hm2586
       obtain ⟨hi2590a, hi2590b, hi2590q⟩ := idx_some hi2590
       refine sY hf hs rfl rfl rfl (Y_index rfl rfl rfl el28 ti2 (Rd.isAt (hs.rd (i := 1) rfl) (at1 (ints_at hi2590q))) hi2590a (ltn hn7 hi2590b)) ?_; clear hf; intro a hf
       refine sY hf hs rfl rfl rfl (Y_load_rd rfl rfl (fun w hs => hs.rd (i := 1) rfl) (at1 (ints_at hi2590q)) ag2) ?_; clear hf; intro a hf
       refine sY hf hs rfl rfl rfl (Y_assign rfl rfl) ?_; clear hf; intro a hf
       refine wpO_nil <| wpL_seq <| wpL_region ?_
       refine sY hf hs rfl rfl rfl (Y_fieldAddr rfl rfl fo55_1) ?_; clear hf; intro a hf
       refine sY hf hs rfl rfl rfl (Y_load_blk rfl rfl (i := 0) rfl rfl ag53) ?_; clear hf; intro a hf
       refine sY hf hs rfl rfl rfl (Y_lenH rfl rfl el53 rfl) ?_; clear hf; intro a hf
       refine sY hf hs rfl rfl rfl (Y_move rfl rfl) ?_; clear hf; intro a hf
       refine wpO_nil ?_
       obtain ⟨r2710, hl2711, hm2586⟩ := bind_some hm2586
       refine wpL_block (fun a w => ∃ ms2708 : List (List Int), ms2708 = r2710 ∧ ms2083.length = ms2708.length ∧ Fr a 84 [(2, .slice bp p2.length br), (3, .pointer (some ⟨b1, 0, none⟩)), (7, .slice A4 n5 c6), (9, .slice A2081 ms2083.length c2082), (10, .int .i64 x1382), (20, .int .i64 p1), (21, .int .i64 x1382), (29, .slice A4 n5 c6), (30, .int .i64 (r2.1.length : Int)), (31, .int .i64 x2418)] ∧ St [] W w [.blk b1 55 [.int .i64 p0.Events, .slice al p0.Places.length am], .row A4 n5 c6 2 1 (ints r2.1), .mat A2081 ms2083.length c2082 28 2 (vs1381 ++ ([Value.slice A2075 r2073.length c2077])) ms2708]) ?_ ?_
       ·refine wpL_loop (fun n a w => ∃ ms2668 : List (List Int), ∃ x2670 : Int, impl_firingTimes_L21 F p0 x1382 q2589 n ms2668 x2670 = some r2710 ∧ ms2083.length = ms2668.length ∧ Fr a 84 [(2, .slice bp p2.length br), (3, .pointer (some ⟨b1, 0, none⟩)), (7, .slice A4 n5 c6), (9, .slice A2081 ms2083.length c2082), (10, .int .i64 x1382), (12, .int .i64 q2589), (20, .int .i64 p1), (21, .int .i64 x1382), (29, .slice A4 n5 c6), (30, .int .i64 (r2.1.length : Int)), (31, .int .i64 x2418), (36, .slice al p0.Places.length am), (37, .int .i64 (p0.Places.length : Int)), (38, .int .i64 x2670)] ∧ St [] W w [.blk b1 55 [.int .i64 p0.Events, .slice al p0.Places.length am], .row A4 n5 c6 2 1 (ints r2.1), .mat A2081 ms2083.length c2082 28 2 (vs1381 ++ ([Value.slice A2075 r2073.length c2077])) ms2668]) F ?_ ?_ ?_
        ·exact ⟨ms2416, 0, hl2711, hn2417, (FrD.pick (FrD.pick (FrD.pick (FrD.pick (FrD.pick (FrD.pick (FrD.pick (FrD.pick (FrD.pick (FrD.pick (FrD.pick (FrD.pick (FrD.pick (FrD.pick hf.none hf rfl) hf rfl) hf rfl) hf rfl) hf rfl) hf rfl) hf rfl) hf rfl) hf rfl) hf rfl) hf rfl) hf rfl) hf rfl) hf rfl), hs⟩
        ·rintro a w ⟨ms2668, x2670, h0_, -, -, -⟩; simp [impl_firingTimes_L21] at h0_
        ·rintro n2713 a w ⟨ms2668, x2670, hm2712, hn2669, hf, hs⟩
         rw [impl_firingTimes_L21] at hm2712
         refine wpL_seq <| wpL_region ?_
         refine sY hf hs rfl rfl rfl (Y_lss rfl rfl rfl) ?_; clear hf; intro a hf
         refine wpO_nil <| wpL_seq ?_
         refine wpL_cond hf rfl (fun hb2714 => ?_) (fun hb2714 => ?_)
         ·have hm2712 := bif_t hm2712 hb2714
          refine wpL_skip <| wpL_seq <| wpL_block0 <| wpL_seq <| wpL_region ?_
          obtain ⟨q2715, hi2716, hm2712⟩ := bind_some hm2712
          obtain ⟨hi2716a, hi2716b, hi2716q⟩ := idx_some hi2716
          refine sY hf hs rfl rfl rfl (Y_index rfl rfl rfl el53 ti64 (Rd.isAt (aP.at hs) (recs_at (s := 4) GPlace.len hi2716q (j := 0) rfl)) hi2716a hi2716b) ?_; clear hf; intro a hf
          refine sY hf hs rfl rfl rfl (Y_load_rdS rfl rfl (us := [.int .i64 q2715.From, .int .i64 q2715.To, .int .i64 q2715.Delay, .int .i64 q2715.Tokens]) (fun w hs => aP.at hs) (fun j u hj => recs_at (s := 4) GPlace.len hi2716q hj) (Nat.succ_pos _) ag64 ti64 rfl) ?_; clear hf; intro a hf
          refine sAlloc hf hs rfl rfl rfl rfl ti64 ?_; clear hf hs; intro a w b2717 hs hf
          have hs : St _ W w [_, _, _, .blk b2717 64 [.int .i64 0, .int .i64 0, .int .i64 0, .int .i64 0]] := hs
          refine sStore (i := 3) (us := [.int .i64 q2715.From, .int .i64 q2715.To, .int .i64 q2715.Delay, .int .i64 q2715.Tokens]) hf hs rfl rfl rfl rfl rfl rfl ti64 rfl rfl rfl (Nat.le_of_ble_eq_true rfl) rfl ?_; clear hs; intro w hs
          have hs : St _ W w [_, _, _, .blk b2717 64 [.int .i64 q2715.From, .int .i64 q2715.To, .int .i64 q2715.Delay, .int .i64 q2715.Tokens]] := hs
          refine wpO_nil <| wpL_seq ?_
          obtain ⟨r2720, hj2721, hm2712⟩ := bind_some hm2712
          refine wpL_cut (fun a w => ∃ b2719 : Bool, b2719 = r2720 ∧ Fr a 84 [(2, .slice bp p2.length br), (3, .pointer (some ⟨b1, 0, none⟩)), (7, .slice A4 n5 c6), (9, .slice A2081 ms2083.length c2082), (10, .int .i64 x1382), (12, .int .i64 q2589), (14, .pointer (some ⟨b2717, 0, none⟩)), (20, .int .i64 p1), (21, .int .i64 x1382), (29, .slice A4 n5 c6), (30, .int .i64 (r2.1.length : Int)), (31, .int .i64 x2418), (36, .slice al p0.Places.length am), (37, .int .i64 (p0.Places.length : Int)), (38, .int .i64 x2670), (51, .bool b2719)] ∧ St [] W w [.blk b1 55 [.int .i64 p0.Events, .slice al p0.Places.length am], .row A4 n5 c6 2 1 (ints r2.1), .mat A2081 ms2083.length c2082 28 2 (vs1381 ++ ([Value.slice A2075 r2073.length c2077])) ms2668, .blk b2717 64 [.int .i64 q2715.From, .int .i64 q2715.To, .int .i64 q2715.Delay, .int .i64 q2715.Tokens]]) ?_ ?_
          ·refine wpL_region ?_
           refine sY hf hs rfl rfl rfl (Y_fieldAddr rfl rfl fo64_1) ?_; clear hf; intro a hf
           refine sY hf hs rfl rfl rfl (Y_load_blk rfl rfl (i := 3) rfl rfl ag2) ?_; clear hf; intro a hf
           refine sY hf hs rfl rfl rfl (Y_move rfl rfl) ?_; clear hf; intro a hf
           refine sY hf hs rfl rfl rfl (Y_eql rfl rfl rfl) ?_; clear hf; intro a hf
           refine sY hf hs rfl rfl rfl (Y_move rfl rfl) ?_; clear hf; intro a hf
           refine bsplit (q2715.To == q2589) (fun hb2722 => ?_) (fun hb2722 => ?_)
           ·have hj2721 := bif_t hj2721 hb2722
            refine sYg hf hs rfl rfl rfl (congrArg (fun b => some (Value.bool b)) hb2722) rfl rfl rfl (Y_move rfl rfl) ?_; clear hf; intro a hf
            refine sYg hf hs rfl rfl rfl (congrArg (fun b => some (Value.bool b)) hb2722) rfl rfl rfl (Y_fieldAddr rfl rfl fo64_3) ?_; clear hf; intro a hf
            refine sYg hf hs rfl rfl rfl (congrArg (fun b => some (Value.bool b)) hb2722) rfl rfl rfl (Y_load_blk rfl rfl (i := 3) rfl rfl ag2) ?_; clear hf; intro a hf
            refine sYg hf hs rfl rfl rfl (congrArg (fun b => some (Value.bool b)) hb2722) rfl rfl rfl (Y_geq rfl rfl rfl) ?_; clear hf; intro a hf
            refine sY hf hs rfl rfl rfl (Y_pickT rfl (congrArg (fun b => some (Value.bool b)) hb2722) rfl) ?_; clear hf; intro a hf
            refine wpO_nil ?_
            refine wpL_nil (then_normal ?_)
            exact ⟨(decide (q2715.Tokens ≤ x1382)), Option.some.inj hj2721, (FrD.pick (FrD.pick (FrD.pick (FrD.pick (FrD.pick (FrD.pick (FrD.pick (FrD.pick (FrD.pick (FrD.pick (FrD.pick (FrD.pick (FrD.pick (FrD.pick (FrD.pick (FrD.pick hf.none hf rfl) hf rfl) hf rfl) hf rfl) hf rfl) hf rfl) hf rfl) hf rfl) hf rfl) hf rfl) hf rfl) hf rfl) hf rfl) hf rfl) hf rfl) hf rfl), hs⟩
           ·have hj2721 := bif_f hj2721 hb2722
            refine sNo hf rfl rfl rfl (congrArg (fun b => some (Value.bool b)) hb2722) rfl rfl rfl ?_; clear hf; intro a hf
            refine sNo hf rfl rfl rfl (congrArg (fun b => some (Value.bool b)) hb2722) rfl rfl rfl ?_; clear hf; intro a hf
            refine sNo hf rfl rfl rfl (congrArg (fun b => some (Value.bool b)) hb2722) rfl rfl rfl ?_; clear hf; intro a hf
            refine sNo hf rfl rfl rfl (congrArg (fun b => some (Value.bool b)) hb2722) rfl rfl rfl ?_; clear hf; intro a hf
            refine sY hf hs rfl rfl rfl (Y_pickF rfl (congrArg (fun b => some (Value.bool b)) hb2722) rfl) ?_; clear hf; intro a hf
            refine wpO_nil ?_
            refine wpL_nil (then_normal ?_)
            exact ⟨false, Option.some.inj hj2721, (FrD.pick (FrD.pick (FrD.pick (FrD.pick (FrD.pick (FrD.pick (FrD.pick (FrD.pick (FrD.pick (FrD.pick (FrD.pick (FrD.pick (FrD.pick (FrD.pick (FrD.pick (FrD.pick hf.none hf rfl) hf rfl) hf rfl) hf rfl) hf rfl) hf rfl) hf rfl) hf rfl) hf rfl) hf rfl) hf rfl) hf rfl) hf rfl) hf rfl) hf rfl) hf rfl), hs⟩
          ·rintro a w ⟨b2719, hr_, hf, hs⟩
           subst hr_
           try dsimp only at hm2712
           refine wpL_cond hf rfl (fun hb2723 => ?_) (fun hb2723 => ?_)
           ·have hm2712 := bif_t hm2712 hb2723
            refine wpL_drawM [.blk b1 55 [.int .i64 p0.Events, .slice al p0.Places.length am], .row A4 n5 c6 2 1 (ints r2.1), .mat A2081 ms2083.length c2082 28 2 (vs1381 ++ ([Value.slice A2075 r2073.length c2077])) ms2668, .blk b2717 64 [.int .i64 q2715.From, .int .i64 q2715.To, .int .i64 q2715.Delay, .int .i64 q2715.Tokens]] [28] (by kernel_rfl) hs ?_; clear hs; intro w hs
            have hs0 : St _ W w [_, _, _, _] := hs
            refine mYp (i := 0) rfl (by kernel_rfl) (by kernel_rfl) hf rfl rfl rfl (fun _ => Y_move rfl rfl) ?_; clear hf; intro a hf
            refine mYp (i := 1) rfl (by kernel_rfl) (by kernel_rfl) hf rfl rfl rfl (fun _ => Y_move rfl rfl) ?_; clear hf; intro a hf
            obtain ⟨q2724, hi2725, hm2712⟩ := bind_some hm2712
            obtain ⟨hi2725a, hi2725b, hi2725q⟩ := idx_some hi2725
            obtain ⟨A2726, c2727, hv2728⟩ := hs.matRow (i := 2) rfl hi2725q
            refine mYp (i := 2) rfl (by kernel_rfl) (by kernel_rfl) hf rfl rfl rfl (fun _ => Y_index rfl rfl rfl el40 ti28 (Rd.isAt (hs.rdV (i := 2) rfl) hv2728) hi2725a (ltn hn2669 hi2725b)) ?_; clear hf; intro a hf
            refine mY (i := 3) [[]] rfl (by kernel_rfl) (by kernel_rfl) hf hs0 rfl rfl rfl (Y_load_rd rfl rfl (fun w hs => hs.rdV (i := 2) rfl) (at1 hv2728) ag28) ?_; clear hf; intro a hf
            refine mYp (i := 4) rfl (by kernel_rfl) (by kernel_rfl) hf rfl rfl rfl (fun _ => Y_move rfl rfl) ?_; clear hf; intro a hf
            refine mYp (i := 5) rfl (by kernel_rfl) (by kernel_rfl) hf rfl rfl rfl (fun _ => Y_move rfl rfl) ?_; clear hf; intro a hf
            refine mYp (i := 6) rfl (by kernel_rfl) (by kernel_rfl) hf rfl rfl rfl (fun _ => Y_move rfl rfl) ?_; clear hf; intro a hf
            obtain ⟨q2729, hi2730, hm2712⟩ := bind_some hm2712
            obtain ⟨hi2730a, hi2730b, hi2730q⟩ := idx_some hi2730
            obtain ⟨A2731, c2732, hv2733⟩ := hs.matRow (i := 2) rfl hi2730q
            refine mYp (i := 7) rfl (by kernel_rfl) (by kernel_rfl) hf rfl rfl rfl (fun _ => Y_index rfl rfl rfl el40 ti28 (Rd.isAt (hs.rdV (i := 2) rfl) hv2733) hi2730a (ltn hn2669 hi2730b)) ?_; clear hf; intro a hf
            refine mY (i := 8) [[]] rfl (by kernel_rfl) (by kernel_rfl) hf hs0 rfl rfl rfl (Y_load_rd rfl rfl (fun w hs => hs.rdV (i := 2) rfl) (at1 hv2733) ag28) ?_; clear hf; intro a hf
            refine mYp (i := 9) rfl (by kernel_rfl) (by kernel_rfl) hf rfl rfl rfl (fun _ => Y_move rfl rfl) ?_; clear hf; intro a hf
            obtain ⟨q2734, hi2735, hm2712⟩ := bind_some hm2712
            obtain ⟨hi2735a, hi2735b, hi2735q⟩ := idx_some hi2735
            refine mYp (i := 10) rfl (by kernel_rfl) (by kernel_rfl) hf rfl rfl rfl (fun _ => Y_index rfl rfl rfl el28 ti2 (Rd.isAt (hs.rdRow (i := 2) rfl ⟨hi2730q, hv2733⟩) (at1 (ints_at hi2735q))) hi2735a hi2735b) ?_; clear hf; intro a hf
            refine mY (i := 11) [[]] rfl (by kernel_rfl) (by kernel_rfl) hf hs0 rfl rfl rfl (Y_load_rd rfl rfl (fun w hs => hs.rdRow (i := 2) rfl ⟨hi2730q, hv2733⟩) (at1 (ints_at hi2735q)) ag2) ?_; clear hf; intro a hf
            refine mYp (i := 12) rfl (by kernel_rfl) (by kernel_rfl) hf rfl rfl rfl (fun _ => Y_move rfl rfl) ?_; clear hf; intro a hf
            refine mYp (i := 13) rfl (by kernel_rfl) (by kernel_rfl) hf rfl rfl rfl (fun _ => Y_move rfl rfl) ?_; clear hf; intro a hf
            refine mYp (i := 14) rfl (by kernel_rfl) (by kernel_rfl) hf rfl rfl rfl (fun _ => Y_fieldAddr rfl rfl fo64_3) ?_; clear hf; intro a hf
            refine mY (i := 15) [[]] rfl (by kernel_rfl) (by kernel_rfl) hf hs0 rfl rfl rfl (Y_load_blk rfl rfl (i := 3) rfl rfl ag2) ?_; clear hf; intro a hf
            refine mYp (i := 16) rfl (by kernel_rfl) (by kernel_rfl) hf rfl rfl rfl (fun _ => Y_sub rfl rfl rfl) ?_; clear hf; intro a hf
            obtain ⟨q2736, hi2737, hm2712⟩ := bind_some hm2712
            obtain ⟨hi2737a, hi2737b, hi2737q⟩ := idx_some hi2737
            obtain ⟨A2738, c2739, hv2740⟩ := hs.matRow (i := 2) rfl hi2737q
            refine mYp (i := 17) rfl (by kernel_rfl) (by kernel_rfl) hf rfl rfl rfl (fun _ => Y_index rfl rfl rfl el40 ti28 (Rd.isAt (hs.rdV (i := 2) rfl) hv2740) hi2737a (ltn hn2669 hi2737b)) ?_; clear hf; intro a hf
            refine mY (i := 18) [[]] rfl (by kernel_rfl) (by kernel_rfl) hf hs0 rfl rfl rfl (Y_load_rd rfl rfl (fun w hs => hs.rdV (i := 2) rfl) (at1 hv2740) ag28) ?_; clear hf; intro a hf
            refine mYp (i := 19) rfl (by kernel_rfl) (by kernel_rfl) hf rfl rfl rfl (fun _ => Y_fieldAddr rfl rfl fo64_0) ?_; clear hf; intro a hf
            refine mY (i := 20) [[]] rfl (by kernel_rfl) (by kernel_rfl) hf hs0 rfl rfl rfl (Y_load_blk rfl rfl (i := 3) rfl rfl ag2) ?_; clear hf; intro a hf
            obtain ⟨q2741, hi2742, hm2712⟩ := bind_some hm2712
            obtain ⟨hi2742a, hi2742b, hi2742q⟩ := idx_some hi2742
            refine mYp (i := 21) rfl (by kernel_rfl) (by kernel_rfl) hf rfl rfl rfl (fun _ => Y_index rfl rfl rfl el28 ti2 (Rd.isAt (hs.rdRow (i := 2) rfl ⟨hi2737q, hv2740⟩) (at1 (ints_at hi2742q))) hi2742a hi2742b) ?_; clear hf; intro a hf
            refine mY (i := 22) [[]] rfl (by kernel_rfl) (by kernel_rfl) hf hs0 rfl rfl rfl (Y_load_rd rfl rfl (fun w hs => hs.rdRow (i := 2) rfl ⟨hi2737q, hv2740⟩) (at1 (ints_at hi2742q)) ag2) ?_; clear hf; intro a hf
            refine mYp (i := 23) rfl (by kernel_rfl) (by kernel_rfl) hf rfl rfl rfl (fun _ => Y_fieldAddr rfl rfl fo64_2) ?_; clear hf; intro a hf
            refine mY (i := 24) [[]] rfl (by kernel_rfl) (by kernel_rfl) hf hs0 rfl rfl rfl (Y_load_blk rfl rfl (i := 3) rfl rfl ag2) ?_; clear hf; intro a hf
            refine mYp (i := 25) rfl (by kernel_rfl) (by kernel_rfl) hf rfl rfl rfl (fun _ => Y_add rfl rfl rfl) ?_; clear hf; intro a hf
            refine mYp (i := 26) rfl (by kernel_rfl) (by kernel_rfl) hf rfl rfl rfl (fun _ => Y_max rfl rfl rfl) ?_; clear hf; intro a hf
            obtain ⟨q2743, hi2744, hm2712⟩ := bind_some hm2712
            obtain ⟨hi2744a, hi2744b, hi2744q⟩ := idx_some hi2744
            refine mYp (i := 27) rfl (by kernel_rfl) (by kernel_rfl) hf rfl rfl rfl (fun _ => Y_index rfl rfl rfl el28 ti2 (Rd.isAt (hs.rdRow (i := 2) rfl ⟨hi2725q, hv2728⟩) (at1 (ints_at hi2744q))) hi2744a hi2744b) ?_; clear hf; intro a hf
            refine mRun (i := 28) rfl (by kernel_rfl) ?_
            obtain ⟨xs2745, hu2747, hm2712⟩ := bind_some hm2712
            obtain ⟨ms2746, hu2748, hm2712⟩ := bind_some hm2712
            refine sStoreM (i := 2) (k := x1382) hf hs rfl rfl rfl rfl rfl rfl hi2725q hv2728 rfl hu2747 hu2748 ti2 ?_; clear hs; intro w hs
            obtain ⟨hq2749, hv2750⟩ := rowUpd hu2747 hu2748 hv2728
            have hs : St _ W w [_, _, .mat A2081 ms2083.length c2082 28 2 (vs1381 ++ ([Value.slice A2075 r2073.length c2077])) ms2746, _] := hs
            refine wpO_nil ⟨Or.inl (by decide), ?_⟩
            refine mDone (by kernel_rfl) ?_
            clear hs0
            refine wpL_nil (Qb_normal ?_)
            refine wpL_region ?_
            refine sY hf hs rfl rfl rfl (Y_add rfl rfl rfl) ?_; clear hf; intro a hf
            refine sY hf hs rfl rfl rfl (Y_move rfl rfl) ?_; clear hf; intro a hf
            refine wpO_nil ?_
            refine wpL_nil (Ql_normal ?_)
            exact ⟨ms2746, (IntKind.i64.wrap (x2670 + 1)), hm2712, ((hn2669).trans (upd_len hu2748).symm), (FrD.pick (FrD.pick (FrD.pick (FrD.pick (FrD.pick (FrD.pick (FrD.pick (FrD.pick (FrD.pick (FrD.pick (FrD.pick (FrD.pick (FrD.pick (FrD.pick hf.none hf rfl) hf rfl) hf rfl) hf rfl) hf rfl) hf rfl) hf rfl) hf rfl) hf rfl) hf rfl) hf rfl) hf rfl) hf rfl) hf rfl), hs.sel [0, 1, 2] (by decide)⟩
           ·have hm2712 := bif_f hm2712 hb2723
            refine wpL_skip ?_
            refine wpL_nil (Qb_normal ?_)
            refine wpL_region ?_
            refine sY hf hs rfl rfl rfl (Y_add rfl rfl rfl) ?_; clear hf; intro a hf
            refine sY hf hs rfl rfl rfl (Y_move rfl rfl) ?_; clear hf; intro a hf
            refine wpO_nil ?_
            refine wpL_nil (Ql_normal ?_)
            exact ⟨ms2668, (IntKind.i64.wrap (x2670 + 1)), hm2712, hn2669, (FrD.pick (FrD.pick (FrD.pick (FrD.pick (FrD.pick (FrD.pick (FrD.pick (FrD.pick (FrD.pick (FrD.pick (FrD.pick (FrD.pick (FrD.pick (FrD.pick hf.none hf rfl) hf rfl) hf rfl) hf rfl) hf rfl) hf rfl) hf rfl) hf rfl) hf rfl) hf rfl) hf rfl) hf rfl) hf rfl) hf rfl), hs.sel [0, 1, 2] (by decide)⟩
         ·have hm2712 := bif_f hm2712 hb2714
          refine wpL_exit (Ql_exit (Qb_exit ?_))
          exact ⟨ms2668, Option.some.inj hm2712, hn2669, (FrD.pick (FrD.pick (FrD.pick (FrD.pick (FrD.pick (FrD.pick (FrD.pick (FrD.pick (FrD.pick (FrD.pick hf.none hf rfl) hf rfl) hf rfl) hf rfl) hf rfl) hf rfl) hf rfl) hf rfl) hf rfl) hf rfl), hs⟩
       ·rintro a w ⟨ms2708, hr_, hn2709, hf, hs⟩
        subst hr_
        try dsimp only at hm2586
        refine wpL_nil (Qb_normal ?_)
        refine wpL_region ?_
        refine sY hf hs rfl rfl rfl (Y_add rfl rfl rfl) ?_; clear hf; intro a hf
        refine sY hf hs rfl rfl rfl (Y_move rfl rfl) ?_; clear hf; intro a hf
        refine wpO_nil ?_
        refine wpL_nil (Ql_normal ?_)
        exact ⟨ms2708, (IntKind.i64.wrap (x2418 + 1)), hm2586, hn2709, (FrD.pick (FrD.pick (FrD.pick (FrD.pick (FrD.pick (FrD.pick (FrD.pick (FrD.pick (FrD.pick (FrD.pick hf.none hf rfl) hf rfl) hf rfl) hf rfl) hf rfl) hf rfl) hf rfl) hf rfl) hf rfl) hf rfl), hs⟩
      ·have hm2586 := bif_f hm2586 hb2588
       refine wpL_exit (Ql_exit (Qb_exit ?_))
       exact ⟨ms2416, Option.some.inj hm2586, hn2417, (FrD.pick (FrD.pick (FrD.pick (FrD.pick (FrD.pick (FrD.pick hf.none hf rfl) hf rfl) hf rfl) hf rfl) hf rfl) hf rfl), hs⟩
    ·rintro a w ⟨ms2582, hr_, hn2583, hf, hs⟩
     subst hr_
     try dsimp only at hm2070
     refine wpL_nil (Qb_normal ?_)
     refine wpL_region ?_
     refine sY hf hs rfl rfl rfl (Y_add rfl rfl rfl) ?_; clear hf; intro a hf
     refine sY hf hs rfl rfl rfl (Y_move rfl rfl) ?_; clear hf; intro a hf
     refine wpO_nil ?_
     refine wpL_nil (Ql_normal ?_)
     exact ⟨ms2582, (IntKind.i64.wrap (x1382 + 1)), A2081, ms2083.length, c2082, (vs1381 ++ ([Value.slice A2075 r2073.length c2077])), hm2070, hn2583, (FrD.pick (FrD.pick (FrD.pick (FrD.pick (FrD.pick (FrD.pick hf.none hf rfl) hf rfl) hf rfl) hf rfl) hf rfl) hf rfl), hs⟩
   ·have hm2070 := bif_f hm2070 hb2072
    refine wpL_exit (Ql_exit (Qb_exit ?_))
    exact ⟨ms1376, A1377, n1378, c1379, vs1381, Option.some.inj hm2070, hn1380, (FrD.pick hf.none hf rfl), hs.sel [2] (by decide)⟩
 ·rintro a w ⟨ms2062, A2063, n2064, c2065, vs2067, hr_, hn2066, hf, hs⟩
  subst hr_
  try dsimp only at hm
  refine wpL_seq <| wpL_region ?_
  refine sY hf hs rfl rfl rfl (Y_move rfl rfl) ?_; clear hf; intro a hf
  refine sY hf hs rfl rfl rfl (Y_assign rfl rfl) ?_; clear hf; intro a hf
  refine wpO_nil ?_
  obtain rfl := Option.some.inj hm
  refine wpL_ret (ret_tmp rfl hf rfl ?_)
  exact ⟨_, rfl, A2063, n2064, c2065, vs2067, rfl, hn2066, hs⟩

set_option maxRecDepth 100000 in
theorem impl_floatsOf_ok (F : Nat) (ae : GEventGraph) (ad : Option Addr) (ap af : Nat) (aw : ap = ae.Places.length) (aA : List (List Int)) (ay : Option Addr) (aE aB : Nat) (aN : aE = aA.length) (r : List (List Int)) (W : World) (hm : impl_floatsOf F ae aA = some r) (au : Rd W ad ((recs GPlace.cells) ae.Places)) (aG : RdM W ay aA) :
  Calls Try.prog 106 [.agg #[.int .i64 ae.Events, .slice ad ap af], .slice ay aE aB].toArray W fun e w' => ∃ v, e = .returned v ∧ ∃ A401, ∃ n402, ∃ c403, ∃ vs405, v = .slice A401 n402 c403 ∧ n402 = r.length ∧ St [] W w' [.mat A401 n402 c403 28 2 vs405 r] := by
 subst aw
 subst aN
 unfold impl_floatsOf at hm
 refine Calls.enter (N := 46) Try.func106 rfl rfl rfl (fun a hf => ?_)
 have hs := St.start W
 obtain ⟨w, hw_⟩ : ∃ w, w = W := ⟨W, rfl⟩
 clear hw_ w
 refine wpL_seq <| wpL_region ?_
 refine sBox hf hs rfl rfl rfl rfl rfl (cs := [.int .i64 ae.Events, .slice ad ae.Places.length af]) rfl ?_; clear hf hs; intro a w b1 hs hf
 have hs : St _ W w [.blk b1 55 [.int .i64 ae.Events, .slice ad ae.Places.length af]] := hs
 refine sY hf hs rfl rfl rfl (Y_assign rfl rfl) ?_; clear hf; intro a hf
 refine wpO_nil <| wpL_seq <| wpL_region ?_
 refine sY hf hs rfl rfl rfl (Y_load_blkS rfl rfl (i := 0) rfl ag55 ti55 rfl) ?_; clear hf; intro a hf
 refine sY hf hs rfl rfl rfl (Y_move rfl rfl) ?_; clear hf; intro a hf
 obtain ⟨r2, hc3, hm⟩ := bind_some hm
 refine sCall hf rfl rfl rfl rfl (cap := []) rfl rfl en102 (impl_latestTimes_ok F ae ad ae.Places.length af rfl aA ay aA.length aB rfl _ _ hc3 (au.at hs) (aG.at hs)) ?_; clear hf
 rintro _ w ⟨A4, n5, c6, vs8, rfl, hn7, hs1⟩ a hf
 have hs : St _ W w [_, .mat A4 n5 c6 28 2 vs8 r2] := hs.join hs1
 clear hs1
 refine sY hf hs rfl rfl rfl (Y_assign rfl rfl) ?_; clear hf; intro a hf
 refine wpO_nil <| wpL_seq <| wpL_seq ?_
 refine wpL_drawM [.blk b1 55 [.int .i64 ae.Events, .slice ad ae.Places.length af], .mat A4 n5 c6 28 2 vs8 r2] [6] (by kernel_rfl) hs ?_; clear hs; intro w hs
 have hs0 : St _ W w [_, _] := hs
 refine mY (i := 0) [[]] rfl (by kernel_rfl) (by kernel_rfl) hf hs0 rfl rfl rfl (Y_load_blkS rfl rfl (i := 0) rfl ag55 ti55 rfl) ?_; clear hf; intro a hf
 refine mYp (i := 1) rfl (by kernel_rfl) (by kernel_rfl) hf rfl rfl rfl (fun _ => Y_move rfl rfl) ?_; clear hf; intro a hf
 refine mYp (i := 2) rfl (by kernel_rfl) (by kernel_rfl) hf rfl rfl rfl (fun _ => Y_lenH rfl rfl el40 rfl) ?_; clear hf; intro a hf
 refine mYp (i := 3) rfl (by kernel_rfl) (by kernel_rfl) hf rfl rfl rfl (fun _ => Y_fieldAddr rfl rfl fo55_0) ?_; clear hf; intro a hf
 refine mY (i := 4) [[5]] rfl (by kernel_rfl) (by kernel_rfl) hf hs0 rfl rfl rfl (Y_load_blk rfl rfl (i := 0) rfl rfl ag2) ?_; clear hf; intro a hf
 refine mYp (i := 8) rfl (by kernel_rfl) (by kernel_rfl) hf rfl rfl rfl (fun _ => Y_move rfl rfl) ?_; clear hf; intro a hf
 refine mRun (i := 5) rfl (by kernel_rfl) ?_
 obtain ⟨xs21, hk20, hm⟩ := bind_some hm
 refine sMakeL (enc := ints) hf hs rfl rfl rfl rfl rfl hk20 el28 ti2 rfl ints_made ?_; clear hf hs; intro a w A19 hs hf
 have hs : St _ W w [_, _, .row A19 xs21.length xs21.length 2 1 (ints xs21)] := hs
 have hs0 : St _ W w [_, _] := hs.sel [0, 1] (by decide)
 refine wpO_nil ⟨Or.inr (fun _ => hs0), ?_⟩
 refine mRun (i := 6) rfl (by kernel_rfl) ?_
 obtain ⟨r22, hc23, hm⟩ := bind_some hm
 refine sCall hf rfl rfl rfl rfl (cap := []) rfl rfl en116 (impl_firingTimes_ok F ae ad ae.Places.length af rfl (aA.length : Int) xs21 A19 xs21.length xs21.length rfl _ _ hc23 (au.at hs) (hs.rd (i := 2) rfl)) ?_; clear hf
 rintro _ w ⟨A24, n25, c26, vs28, rfl, hn27, hs1⟩ a hf
 have hs : St _ W w [_, _, _, .mat A24 n25 c26 28 2 vs28 r22] := hs.join hs1
 clear hs1
 refine wpO_nil ⟨Or.inl (by decide), ?_⟩
 refine mYp (i := 7) rfl (by kernel_rfl) (by kernel_rfl) hf rfl rfl rfl (fun _ => Y_lenH rfl rfl el40 hn27) ?_; clear hf; intro a hf
 refine mDone (by kernel_rfl) ?_
 clear hs0
 obtain ⟨r307, hl308, hm⟩ := bind_some hm
 refine wpL_block (fun a w => ∃ ms305 : List (List Int), ms305 = r307 ∧ n5 = ms305.length ∧ Fr a 46 [(5, .slice A4 n5 c6)] ∧ St [] W w [.mat A4 n5 c6 28 2 vs8 ms305]) ?_ ?_
 ·refine wpL_loop (fun n a w => ∃ ms212 : List (List Int), ∃ x214 : Int, impl_floatsOf_L4 F r22 n ms212 x214 = some r307 ∧ n5 = ms212.length ∧ Fr a 46 [(5, .slice A4 n5 c6), (19, .slice A24 n25 c26), (20, .int .i64 (r22.length : Int)), (21, .int .i64 x214)] ∧ St [] W w [.mat A4 n5 c6 28 2 vs8 ms212, .mat A24 n25 c26 28 2 vs28 r22]) F ?_ ?_ ?_
  ·exact ⟨r2, 0, hl308, hn7, (FrD.pick (FrD.pick (FrD.pick (FrD.pick hf.none hf rfl) hf rfl) hf rfl) hf rfl), hs.sel [1, 3] (by decide)⟩
  ·rintro a w ⟨ms212, x214, h0_, -, -, -⟩; simp [impl_floatsOf_L4] at h0_
  ·rintro n310 a w ⟨ms212, x214, hm309, hn213, hf, hs⟩
   rw [impl_floatsOf_L4] at hm309
   refine wpL_seq <| wpL_region ?_
   refine sY hf hs rfl rfl rfl (Y_lss rfl rfl rfl) ?_; clear hf; intro a hf
   refine wpO_nil <| wpL_seq ?_
   refine wpL_cond hf rfl (fun hb311 => ?_) (fun hb311 => ?_)
   ·have hm309 := bif_t hm309 hb311
    refine wpL_skip <| wpL_seq <| wpL_block0 <| wpL_seq <| wpL_region ?_
    refine sY hf hs rfl rfl rfl (Y_move rfl rfl) ?_; clear hf; intro a hf
    obtain ⟨q312, hi313, hm309⟩ := bind_some hm309
    obtain ⟨hi313a, hi313b, hi313q⟩ := idx_some hi313
    obtain ⟨A314, c315, hv316⟩ := hs.matRow (i := 1) rfl hi313q
    refine sY hf hs rfl rfl rfl (Y_index rfl rfl rfl el40 ti28 (Rd.isAt (hs.rdV (i := 1) rfl) hv316) hi313a (ltn hn27 hi313b)) ?_; clear hf; intro a hf
    refine sY hf hs rfl rfl rfl (Y_load_rd rfl rfl (fun w hs => hs.rdV (i := 1) rfl) (at1 hv316) ag28) ?_; clear hf; intro a hf
    refine sY hf hs rfl rfl rfl (Y_assign rfl rfl) ?_; clear hf; intro a hf
    refine sY hf hs rfl rfl rfl (Y_assign rfl rfl) ?_; clear hf; intro a hf
    refine wpO_nil <| wpL_seq <| wpL_region ?_
    refine sY hf hs rfl rfl rfl (Y_move rfl rfl) ?_; clear hf; intro a hf
    refine sY hf hs rfl rfl rfl (Y_lenH rfl rfl el28 rfl) ?_; clear hf; intro a hf
    refine sY hf hs rfl rfl rfl (Y_move rfl rfl) ?_; clear hf; intro a hf
    refine wpO_nil ?_
    obtain ⟨r379, hl380, hm309⟩ := bind_some hm309
    refine wpL_block (fun a w => ∃ ms377 : List (List Int), ms377 = r379 ∧ n5 = ms377.length ∧ Fr a 46 [(5, .slice A4 n5 c6), (19, .slice A24 n25 c26), (20, .int .i64 (r22.length : Int)), (21, .int .i64 x214)] ∧ St [] W w [.mat A4 n5 c6 28 2 vs8 ms377, .mat A24 n25 c26 28 2 vs28 r22]) ?_ ?_
    ·refine wpL_loop (fun n a w => ∃ ms356 : List (List Int), ∃ x358 : Int, impl_floatsOf_L5 F x214 q312 n ms356 x358 = some r379 ∧ n5 = ms356.length ∧ Fr a 46 [(5, .slice A4 n5 c6), (6, .int .i64 x214), (19, .slice A24 n25 c26), (20, .int .i64 (r22.length : Int)), (21, .int .i64 x214), (26, .slice A314 q312.length c315), (27, .int .i64 (q312.length : Int)), (28, .int .i64 x358)] ∧ St [] W w [.mat A4 n5 c6 28 2 vs8 ms356, .mat A24 n25 c26 28 2 vs28 r22]) F ?_ ?_ ?_
     ·exact ⟨ms212, 0, hl380, hn213, (FrD.pick (FrD.pick (FrD.pick (FrD.pick (FrD.pick (FrD.pick (FrD.pick (FrD.pick hf.none hf rfl) hf rfl) hf rfl) hf rfl) hf rfl) hf rfl) hf rfl) hf rfl), hs⟩
     ·rintro a w ⟨ms356, x358, h0_, -, -, -⟩; simp [impl_floatsOf_L5] at h0_
     ·rintro n382 a w ⟨ms356, x358, hm381, hn357, hf, hs⟩
      rw [impl_floatsOf_L5] at hm381
      refine wpL_seq <| wpL_region ?_
      refine sY hf hs rfl rfl rfl (Y_lss rfl rfl rfl) ?_; clear hf; intro a hf
      refine wpO_nil <| wpL_seq ?_
      refine wpL_cond hf rfl (fun hb383 => ?_) (fun hb383 => ?_)
      ·have hm381 := bif_t hm381 hb383
       refine wpL_skip <| wpL_seq <| wpL_block0 <| wpL_seq <| wpL_region ?_
       refine sY hf hs rfl rfl rfl (Y_move rfl rfl) ?_; clear hf; intro a hf
       obtain ⟨q384, hi385, hm381⟩ := bind_some hm381
       obtain ⟨hi385a, hi385b, hi385q⟩ := idx_some hi385
       refine sY hf hs rfl rfl rfl (Y_index rfl rfl rfl el28 ti2 (Rd.isAt (hs.rdRow (i := 1) rfl ⟨hi313q, hv316⟩) (at1 (ints_at hi385q))) hi385a hi385b) ?_; clear hf; intro a hf
       refine sY hf hs rfl rfl rfl (Y_load_rd rfl rfl (fun w hs => hs.rdRow (i := 1) rfl ⟨hi313q, hv316⟩) (at1 (ints_at hi385q)) ag2) ?_; clear hf; intro a hf
       refine sY hf hs rfl rfl rfl (Y_assign rfl rfl) ?_; clear hf; intro a hf
       refine sY hf hs rfl rfl rfl (Y_assign rfl rfl) ?_; clear hf; intro a hf
       refine wpO_nil <| wpL_region ?_
       refine sY hf hs rfl rfl rfl (Y_move rfl rfl) ?_; clear hf; intro a hf
       refine sY hf hs rfl rfl rfl (Y_move rfl rfl) ?_; clear hf; intro a hf
       obtain ⟨q386, hi387, hm381⟩ := bind_some hm381
       obtain ⟨hi387a, hi387b, hi387q⟩ := idx_some hi387
       obtain ⟨A388, c389, hv390⟩ := hs.matRow (i := 0) rfl hi387q
       refine sY hf hs rfl rfl rfl (Y_index rfl rfl rfl el40 ti28 (Rd.isAt (hs.rdV (i := 0) rfl) hv390) hi387a (ltn hn357 hi387b)) ?_; clear hf; intro a hf
       refine sY hf hs rfl rfl rfl (Y_load_rd rfl rfl (fun w hs => hs.rdV (i := 0) rfl) (at1 hv390) ag28) ?_; clear hf; intro a hf
       refine sY hf hs rfl rfl rfl (Y_move rfl rfl) ?_; clear hf; intro a hf
       obtain ⟨q391, hi392, hm381⟩ := bind_some hm381
       obtain ⟨hi392a, hi392b, hi392q⟩ := idx_some hi392
       refine sY hf hs rfl rfl rfl (Y_index rfl rfl rfl el28 ti2 (Rd.isAt (hs.rdRow (i := 0) rfl ⟨hi387q, hv390⟩) (at1 (ints_at hi392q))) hi392a hi392b) ?_; clear hf; intro a hf
       refine sY hf hs rfl rfl rfl (Y_load_rd rfl rfl (fun w hs => hs.rdRow (i := 0) rfl ⟨hi387q, hv390⟩) (at1 (ints_at hi392q)) ag2) ?_; clear hf; intro a hf
       refine sY hf hs rfl rfl rfl (Y_move rfl rfl) ?_; clear hf; intro a hf
       refine sY hf hs rfl rfl rfl (Y_sub rfl rfl rfl) ?_; clear hf; intro a hf
       obtain ⟨q393, hi394, hm381⟩ := bind_some hm381
       obtain ⟨hi394a, hi394b, hi394q⟩ := idx_some hi394
       refine sY hf hs rfl rfl rfl (Y_index rfl rfl rfl el28 ti2 (Rd.isAt (hs.rdRow (i := 0) rfl ⟨hi387q, hv390⟩) (at1 (ints_at hi394q))) hi394a hi394b) ?_; clear hf; intro a hf
       obtain ⟨xs395, hu397, hm381⟩ := bind_some hm381
       obtain ⟨ms396, hu398, hm381⟩ := bind_some hm381
       refine sStoreM (i := 0) (k := x214) hf hs rfl rfl rfl rfl rfl rfl hi387q hv390 rfl hu397 hu398 ti2 ?_; clear hs; intro w hs
       obtain ⟨hq399, hv400⟩ := rowUpd hu397 hu398 hv390
       have hs : St _ W w [.mat A4 n5 c6 28 2 vs8 ms396, _] := hs
       refine wpO_nil ?_
       refine wpL_nil (Qb_normal ?_)
       refine wpL_region ?_
       refine sY hf hs rfl rfl rfl (Y_add rfl rfl rfl) ?_; clear hf; intro a hf
       refine sY hf hs rfl rfl rfl (Y_move rfl rfl) ?_; clear hf; intro a hf
       refine wpO_nil ?_
       refine wpL_nil (Ql_normal ?_)
       exact ⟨ms396, (IntKind.i64.wrap (x358 + 1)), hm381, ((hn357).trans (upd_len hu398).symm), (FrD.pick (FrD.pick (FrD.pick (FrD.pick (FrD.pick (FrD.pick (FrD.pick (FrD.pick hf.none hf rfl) hf rfl) hf rfl) hf rfl) hf rfl) hf rfl) hf rfl) hf rfl), hs⟩
      ·have hm381 := bif_f hm381 hb383
       refine wpL_exit (Ql_exit (Qb_exit ?_))
       exact ⟨ms356, Option.some.inj hm381, hn357, (FrD.pick (FrD.pick (FrD.pick (FrD.pick hf.none hf rfl) hf rfl) hf rfl) hf rfl), hs⟩
    ·rintro a w ⟨ms377, hr_, hn378, hf, hs⟩
     subst hr_
     try dsimp only at hm309
     refine wpL_nil (Qb_normal ?_)
     refine wpL_region ?_
     refine sY hf hs rfl rfl rfl (Y_add rfl rfl rfl) ?_; clear hf; intro a hf
     refine sY hf hs rfl rfl rfl (Y_move rfl rfl) ?_; clear hf; intro a hf
     refine wpO_nil ?_
     refine wpL_nil (Ql_normal ?_)
     exact ⟨ms377, (IntKind.i64.wrap (x214 + 1)), hm309, hn378, (FrD.pick (FrD.pick (FrD.pick (FrD.pick hf.none hf rfl) hf rfl) hf rfl) hf rfl), hs⟩
   ·have hm309 := bif_f hm309 hb311
    refine wpL_exit (Ql_exit (Qb_exit ?_))
    exact ⟨ms212, Option.some.inj hm309, hn213, (FrD.pick hf.none hf rfl), hs.sel [0] (by decide)⟩
 ·rintro a w ⟨ms305, hr_, hn306, hf, hs⟩
  subst hr_
  try dsimp only at hm
  refine wpL_seq <| wpL_region ?_
  refine sY hf hs rfl rfl rfl (Y_move rfl rfl) ?_; clear hf; intro a hf
  refine sY hf hs rfl rfl rfl (Y_assign rfl rfl) ?_; clear hf; intro a hf
  refine wpO_nil ?_
  obtain rfl := Option.some.inj hm
  refine wpL_ret (ret_tmp rfl hf rfl ?_)
  exact ⟨_, rfl, A4, n5, c6, vs8, rfl, hn306, hs⟩

set_option maxRecDepth 100000 in
theorem impl_FloatsOf_ok (F : Nat) (ae : GEventGraph) (ad : Option Addr) (ap af : Nat) (aw : ap = ae.Places.length) (aA : List (List Int)) (ay : Option Addr) (aE aB : Nat) (aN : aE = aA.length) (r : List (List Int) × Int) (W : World) (hm : impl_FloatsOf F ae aA = some r) (au : Rd W ad ((recs GPlace.cells) ae.Places)) (aG : RdM W ay aA) :
  Calls Try.prog 44 [.agg #[.int .i64 ae.Events, .slice ad ap af], .slice ay aE aB].toArray W fun e w' => ∃ v, e = .returned v ∧ ∃ A13, ∃ n14, ∃ c15, ∃ vs17, v = .tuple #[.slice A13 n14 c15, .int .i64 r.2] ∧ n14 = r.1.length ∧ St [] W w' [.mat A13 n14 c15 28 2 vs17 r.1] := by
 subst aw
 subst aN
 unfold impl_FloatsOf at hm
 refine Calls.enter (N := 16) Try.func44 rfl rfl rfl (fun a hf => ?_)
 have hs := St.start W
 obtain ⟨w, hw_⟩ : ∃ w, w = W := ⟨W, rfl⟩
 clear hw_ w
 refine wpL_seq <| wpL_region ?_
 refine sBox hf hs rfl rfl rfl rfl rfl (cs := [.int .i64 ae.Events, .slice ad ae.Places.length af]) rfl ?_; clear hf hs; intro a w b1 hs hf
 have hs : St _ W w [_] := hs
 refine sY hf hs rfl rfl rfl (Y_assign rfl rfl) ?_; clear hf; intro a hf
 refine sY hf hs rfl rfl rfl (Y_assign rfl rfl) ?_; clear hf; intro a hf
 refine wpO_nil <| wpL_seq <| wpL_seq <| wpL_region ?_
 refine sY hf hs rfl rfl rfl (Y_load_blkS rfl rfl (i := 0) rfl ag55 ti55 rfl) ?_; clear hf; intro a hf
 refine sY hf hs rfl rfl rfl (Y_move rfl rfl) ?_; clear hf; intro a hf
 obtain ⟨r2, hc3, hm⟩ := bind_some hm
 refine sCall hf rfl rfl rfl rfl (cap := []) rfl rfl en101 (impl_checkDue_ok F ae ad ae.Places.length af rfl aA ay aA.length aB rfl _ _ hc3 (au.at hs) (aG.at hs)) ?_; clear hf
 rintro _ w ⟨rfl, hs1⟩ a hf
 have hs : St _ W w [_] := hs.ext hs1.below
 clear hs1
 refine sY hf hs rfl rfl rfl (Y_assign rfl rfl) ?_; clear hf; intro a hf
 refine wpO_nil <| wpL_seq <| wpL_region ?_
 refine sY hf hs rfl rfl rfl (Y_move rfl rfl) ?_; clear hf; intro a hf
 refine sY hf hs rfl rfl rfl (Y_neq rfl rfl rfl) ?_; clear hf; intro a hf
 refine wpO_nil ?_
 refine wpL_cond hf rfl (fun hb4 => ?_) (fun hb4 => ?_)
 ·have hm := bif_t hm hb4
  refine wpL_seq <| wpL_region ?_
  refine sY hf hs rfl rfl rfl (Y_move rfl rfl) ?_; clear hf; intro a hf
  refine sY hf hs rfl rfl rfl (Y_assign rfl rfl) ?_; clear hf; intro a hf
  refine sY hf hs rfl rfl rfl (Y_assign rfl rfl) ?_; clear hf; intro a hf
  refine wpO_nil ?_
  have hs : St [] W _ [.blk b1 55 [.int .i64 ae.Events, .slice ad ae.Places.length af], .mat none 0 0 28 2 [] ([] : List (List Int))] := hs.addNilM 28 2
  obtain rfl := Option.some.inj hm
  refine wpL_ret (ret_tmp2 rfl hf rfl rfl ?_)
  exact ⟨_, rfl, none, 0, 0, [], rfl, rfl, hs.sel [1] (by decide)⟩
 ·have hm := bif_f hm hb4
  refine wpL_skip <| wpL_seq <| wpL_region ?_
  refine sY hf hs rfl rfl rfl (Y_load_blkS rfl rfl (i := 0) rfl ag55 ti55 rfl) ?_; clear hf; intro a hf
  refine sY hf hs rfl rfl rfl (Y_move rfl rfl) ?_; clear hf; intro a hf
  obtain ⟨r6, hc7, hm⟩ := bind_some hm
  refine sCall hf rfl rfl rfl rfl (cap := []) rfl rfl en106 (impl_floatsOf_ok F ae ad ae.Places.length af rfl aA ay aA.length aB rfl _ _ hc7 (au.at hs) (aG.at hs)) ?_; clear hf
  rintro _ w ⟨A8, n9, c10, vs12, rfl, hn11, hs1⟩ a hf
  have hs : St _ W w [_, .mat A8 n9 c10 28 2 vs12 r6] := hs.join hs1
  clear hs1
  refine sY hf hs rfl rfl rfl (Y_assign rfl rfl) ?_; clear hf; intro a hf
  refine sY hf hs rfl rfl rfl (Y_assign rfl rfl) ?_; clear hf; intro a hf
  refine wpO_nil ?_
  obtain rfl := Option.some.inj hm
  refine wpL_ret (ret_tmp2 rfl hf rfl rfl ?_)
  exact ⟨_, rfl, A8, n9, c10, vs12, rfl, hn11, hs.sel [1] (by decide)⟩

set_option maxRecDepth 100000 in
theorem spec_l22Floats_ok (F : Nat) (ae : GEventGraph) (ad : Option Addr) (ap af : Nat) (aw : ap = ae.Places.length) (aA : List (List Int)) (ay : Option Addr) (aE aB : Nat) (aN : aE = aA.length) (r : List (List Int)) (W : World) (hm : spec_l22Floats F ae aA = some r) (au : Rd W ad ((recs GPlace.cells) ae.Places)) (aG : RdM W ay aA) :
  Calls Try.prog 107 [.agg #[.int .i64 ae.Events, .slice ad ap af], .slice ay aE aB].toArray W fun e w' => ∃ v, e = .returned v ∧ ∃ A621, ∃ n622, ∃ c623, ∃ vs625, v = .slice A621 n622 c623 ∧ n622 = r.length ∧ St [] W w' [.mat A621 n622 c623 28 2 vs625 r] := by
 subst aw
 subst aN
 unfold spec_l22Floats at hm
 refine Calls.enter (N := 56) Try.func107 rfl rfl rfl (fun a hf => ?_)
 have hs := St.start W
 obtain ⟨w, hw_⟩ : ∃ w, w = W := ⟨W, rfl⟩
 clear hw_ w
 refine wpL_seq <| wpL_region ?_
 refine sBox hf hs rfl rfl rfl rfl rfl (cs := [.int .i64 ae.Events, .slice ad ae.Places.length af]) rfl ?_; clear hf hs; intro a w b1 hs hf
 have hs : St _ W w [_] := hs
 refine sY hf hs rfl rfl rfl (Y_assign rfl rfl) ?_; clear hf; intro a hf
 refine wpO_nil <| wpL_seq <| wpL_region ?_
 refine sY hf hs rfl rfl rfl (Y_load_blkS rfl rfl (i := 0) rfl ag55 ti55 rfl) ?_; clear hf; intro a hf
 refine sY hf hs rfl rfl rfl (Y_move rfl rfl) ?_; clear hf; intro a hf
 obtain ⟨r2, hc3, hm⟩ := bind_some hm
 refine sCall hf rfl rfl rfl rfl (cap := []) rfl rfl en105 (spec_l22Latest_ok F ae ad ae.Places.length af rfl aA ay aA.length aB rfl _ _ hc3 (au.at hs) (aG.at hs)) ?_; clear hf
 rintro _ w ⟨A4, n5, c6, vs8, rfl, hn7, hs1⟩ a hf
 have hs : St _ W w [_, .mat A4 n5 c6 28 2 vs8 r2] := hs.join hs1
 clear hs1
 refine sY hf hs rfl rfl rfl (Y_assign rfl rfl) ?_; clear hf; intro a hf
 refine wpO_nil <| wpL_seq ?_
 refine wpL_drawM [.blk b1 55 [.int .i64 ae.Events, .slice ad ae.Places.length af], .mat A4 n5 c6 28 2 vs8 r2] [6] (by kernel_rfl) hs ?_; clear hs; intro w hs
 have hs0 : St _ W w [_, _] := hs
 refine mY (i := 0) [[]] rfl (by kernel_rfl) (by kernel_rfl) hf hs0 rfl rfl rfl (Y_load_blkS rfl rfl (i := 0) rfl ag55 ti55 rfl) ?_; clear hf; intro a hf
 refine mYp (i := 1) rfl (by kernel_rfl) (by kernel_rfl) hf rfl rfl rfl (fun _ => Y_move rfl rfl) ?_; clear hf; intro a hf
 refine mYp (i := 2) rfl (by kernel_rfl) (by kernel_rfl) hf rfl rfl rfl (fun _ => Y_lenH rfl rfl el40 rfl) ?_; clear hf; intro a hf
 refine mYp (i := 3) rfl (by kernel_rfl) (by kernel_rfl) hf rfl rfl rfl (fun _ => Y_fieldAddr rfl rfl fo55_0) ?_; clear hf; intro a hf
 refine mY (i := 4) [[5]] rfl (by kernel_rfl) (by kernel_rfl) hf hs0 rfl rfl rfl (Y_load_blk rfl rfl (i := 0) rfl rfl ag2) ?_; clear hf; intro a hf
 refine mRun (i := 5) rfl (by kernel_rfl) ?_
 obtain ⟨xs21, hk20, hm⟩ := bind_some hm
 refine sMakeL (enc := ints) hf hs rfl rfl rfl rfl rfl hk20 el28 ti2 rfl ints_made ?_; clear hf hs; intro a w A19 hs hf
 have hs : St _ W w [_, _, .row A19 xs21.length xs21.length 2 1 (ints xs21)] := hs
 have hs0 : St _ W w [_, _] := hs.sel [0, 1] (by decide)
 refine wpO_nil ⟨Or.inr (fun _ => hs0), ?_⟩
 refine mRun (i := 6) rfl (by kernel_rfl) ?_
 obtain ⟨r22, hc23, hm⟩ := bind_some hm
 refine sCall hf rfl rfl rfl rfl (cap := []) rfl rfl en181 (spec_l13Times_ok F ae ad ae.Places.length af rfl (aA.length : Int) xs21 A19 xs21.length xs21.length rfl _ _ hc23 (au.at hs) (hs.rd (i := 2) rfl)) ?_; clear hf
 rintro _ w ⟨A24, n25, c26, vs28, rfl, hn27, hs1⟩ a hf
 have hs : St _ W w [_, _, _, .mat A24 n25 c26 28 2 vs28 r22] := hs.join hs1
 clear hs1
 refine wpO_nil ⟨Or.inl (by decide), ?_⟩
 refine mYp (i := 7) rfl (by kernel_rfl) (by kernel_rfl) hf rfl rfl rfl (fun _ => Y_assign rfl rfl) ?_; clear hf; intro a hf
 refine mDone (by kernel_rfl) ?_
 clear hs0
 refine wpL_seq <| wpL_seq <| wpL_region ?_
 refine sY hf hs rfl rfl rfl (Y_assign rfl rfl) ?_; clear hf; intro a hf
 refine wpO_nil ?_
 obtain ⟨r472, hl473, hm⟩ := bind_some hm
 refine wpL_block (fun a w => ∃ ms470 : List (List Int), ms470 = r472 ∧ n5 = ms470.length ∧ Fr a 56 [(5, .slice A4 n5 c6)] ∧ St [] W w [.mat A4 n5 c6 28 2 vs8 ms470]) ?_ ?_
 ·refine wpL_loop (fun n a w => ∃ ms322 : List (List Int), ∃ x324 : Int, spec_l22Floats_L4 F r22 n ms322 x324 = some r472 ∧ n5 = ms322.length ∧ Fr a 56 [(5, .slice A4 n5 c6), (6, .slice A24 n25 c26), (7, .int .i64 x324)] ∧ St [] W w [.mat A4 n5 c6 28 2 vs8 ms322, .mat A24 n25 c26 28 2 vs28 r22]) F ?_ ?_ ?_
  ·exact ⟨r2, 0, hl473, hn7, (FrD.pick (FrD.pick (FrD.pick hf.none hf rfl) hf rfl) hf rfl), hs.sel [1, 3] (by decide)⟩
  ·rintro a w ⟨ms322, x324, h0_, -, -, -⟩; simp [spec_l22Floats_L4] at h0_
  ·rintro n475 a w ⟨ms322, x324, hm474, hn323, hf, hs⟩
   rw [spec_l22Floats_L4] at hm474
   refine wpL_seq <| wpL_seq <| wpL_region ?_
   refine sY hf hs rfl rfl rfl (Y_move rfl rfl) ?_; clear hf; intro a hf
   refine sY hf hs rfl rfl rfl (Y_move rfl rfl) ?_; clear hf; intro a hf
   refine sY hf hs rfl rfl rfl (Y_lenH rfl rfl el40 hn323) ?_; clear hf; intro a hf
   refine sY hf hs rfl rfl rfl (Y_lss rfl rfl rfl) ?_; clear hf; intro a hf
   refine wpO_nil ?_
   refine wpL_cond hf rfl (fun hb476 => ?_) (fun hb476 => ?_)
   ·have hm474 := bif_t hm474 hb476
    refine wpL_skip <| wpL_seq <| wpL_block0 <| wpL_seq <| wpL_region ?_
    refine sY hf hs rfl rfl rfl (Y_assign rfl rfl) ?_; clear hf; intro a hf
    refine wpO_nil ?_
    obtain ⟨r584, hl585, hm474⟩ := bind_some hm474
    refine wpL_block (fun a w => ∃ ms582 : List (List Int), ms582 = r584 ∧ n5 = ms582.length ∧ Fr a 56 [(5, .slice A4 n5 c6), (6, .slice A24 n25 c26), (7, .int .i64 x324)] ∧ St [] W w [.mat A4 n5 c6 28 2 vs8 ms582, .mat A24 n25 c26 28 2 vs28 r22]) ?_ ?_
    ·refine wpL_loop (fun n a w => ∃ ms546 : List (List Int), ∃ x548 : Int, spec_l22Floats_L5 F r22 x324 n ms546 x548 = some r584 ∧ n5 = ms546.length ∧ Fr a 56 [(5, .slice A4 n5 c6), (6, .slice A24 n25 c26), (7, .int .i64 x324), (8, .int .i64 x548)] ∧ St [] W w [.mat A4 n5 c6 28 2 vs8 ms546, .mat A24 n25 c26 28 2 vs28 r22]) F ?_ ?_ ?_
     ·exact ⟨ms322, 0, hl585, hn323, (FrD.pick (FrD.pick (FrD.pick (FrD.pick hf.none hf rfl) hf rfl) hf rfl) hf rfl), hs⟩
     ·rintro a w ⟨ms546, x548, h0_, -, -, -⟩; simp [spec_l22Floats_L5] at h0_
     ·rintro n587 a w ⟨ms546, x548, hm586, hn547, hf, hs⟩
      rw [spec_l22Floats_L5] at hm586
      refine wpL_seq <| wpL_seq <| wpL_region ?_
      refine sY hf hs rfl rfl rfl (Y_move rfl rfl) ?_; clear hf; intro a hf
      refine sY hf hs rfl rfl rfl (Y_move rfl rfl) ?_; clear hf; intro a hf
      refine sY hf hs rfl rfl rfl (Y_move rfl rfl) ?_; clear hf; intro a hf
      obtain ⟨q588, hi589, hm586⟩ := bind_some hm586
      obtain ⟨hi589a, hi589b, hi589q⟩ := idx_some hi589
      obtain ⟨A590, c591, hv592⟩ := hs.matRow (i := 0) rfl hi589q
      refine sY hf hs rfl rfl rfl (Y_index rfl rfl rfl el40 ti28 (Rd.isAt (hs.rdV (i := 0) rfl) hv592) hi589a (ltn hn547 hi589b)) ?_; clear hf; intro a hf
      refine sY hf hs rfl rfl rfl (Y_load_rd rfl rfl (fun w hs => hs.rdV (i := 0) rfl) (at1 hv592) ag28) ?_; clear hf; intro a hf
      refine sY hf hs rfl rfl rfl (Y_lenH rfl rfl el28 rfl) ?_; clear hf; intro a hf
      refine sY hf hs rfl rfl rfl (Y_lss rfl rfl rfl) ?_; clear hf; intro a hf
      refine wpO_nil ?_
      refine wpL_cond hf rfl (fun hb593 => ?_) (fun hb593 => ?_)
      ·have hm586 := bif_t hm586 hb593
       refine wpL_skip <| wpL_seq <| wpL_block0 ?_
       refine wpL_drawM [.mat A4 n5 c6 28 2 vs8 ms546, .mat A24 n25 c26 28 2 vs28 r22] [21] (by kernel_rfl) hs ?_; clear hs; intro w hs
       have hs0 : St _ W w [_, _] := hs
       refine mYp (i := 0) rfl (by kernel_rfl) (by kernel_rfl) hf rfl rfl rfl (fun _ => Y_move rfl rfl) ?_; clear hf; intro a hf
       refine mYp (i := 1) rfl (by kernel_rfl) (by kernel_rfl) hf rfl rfl rfl (fun _ => Y_move rfl rfl) ?_; clear hf; intro a hf
       obtain ⟨q594, hi595, hm586⟩ := bind_some hm586
       obtain ⟨hi595a, hi595b, hi595q⟩ := idx_some hi595
       obtain ⟨A596, c597, hv598⟩ := hs.matRow (i := 0) rfl hi595q
       refine mYp (i := 2) rfl (by kernel_rfl) (by kernel_rfl) hf rfl rfl rfl (fun _ => Y_index rfl rfl rfl el40 ti28 (Rd.isAt (hs.rdV (i := 0) rfl) hv598) hi595a (ltn hn547 hi595b)) ?_; clear hf; intro a hf
       refine mY (i := 3) [[]] rfl (by kernel_rfl) (by kernel_rfl) hf hs0 rfl rfl rfl (Y_load_rd rfl rfl (fun w hs => hs.rdV (i := 0) rfl) (at1 hv598) ag28) ?_; clear hf; intro a hf
       refine mYp (i := 4) rfl (by kernel_rfl) (by kernel_rfl) hf rfl rfl rfl (fun _ => Y_move rfl rfl) ?_; clear hf; intro a hf
       refine mYp (i := 5) rfl (by kernel_rfl) (by kernel_rfl) hf rfl rfl rfl (fun _ => Y_move rfl rfl) ?_; clear hf; intro a hf
       refine mYp (i := 6) rfl (by kernel_rfl) (by kernel_rfl) hf rfl rfl rfl (fun _ => Y_move rfl rfl) ?_; clear hf; intro a hf
       obtain ⟨q599, hi600, hm586⟩ := bind_some hm586
       obtain ⟨hi600a, hi600b, hi600q⟩ := idx_some hi600
       obtain ⟨A601, c602, hv603⟩ := hs.matRow (i := 0) rfl hi600q
       refine mYp (i := 7) rfl (by kernel_rfl) (by kernel_rfl) hf rfl rfl rfl (fun _ => Y_index rfl rfl rfl el40 ti28 (Rd.isAt (hs.rdV (i := 0) rfl) hv603) hi600a (ltn hn547 hi600b)) ?_; clear hf; intro a hf
       refine mY (i := 8) [[]] rfl (by kernel_rfl) (by kernel_rfl) hf hs0 rfl rfl rfl (Y_load_rd rfl rfl (fun w hs => hs.rdV (i := 0) rfl) (at1 hv603) ag28) ?_; clear hf; intro a hf
       refine mYp (i := 9) rfl (by kernel_rfl) (by kernel_rfl) hf rfl rfl rfl (fun _ => Y_move rfl rfl) ?_; clear hf; intro a hf
       obtain ⟨q604, hi605, hm586⟩ := bind_some hm586
       obtain ⟨hi605a, hi605b, hi605q⟩ := idx_some hi605
       refine mYp (i := 10) rfl (by kernel_rfl) (by kernel_rfl) hf rfl rfl rfl (fun _ => Y_index rfl rfl rfl el28 ti2 (Rd.isAt (hs.rdRow (i := 0) rfl ⟨hi600q, hv603⟩) (at1 (ints_at hi605q))) hi605a hi605b) ?_; clear hf; intro a hf
       refine mY (i := 11) [[]] rfl (by kernel_rfl) (by kernel_rfl) hf hs0 rfl rfl rfl (Y_load_rd rfl rfl (fun w hs => hs.rdRow (i := 0) rfl ⟨hi600q, hv603⟩) (at1 (ints_at hi605q)) ag2) ?_; clear hf; intro a hf
       refine mYp (i := 12) rfl (by kernel_rfl) (by kernel_rfl) hf rfl rfl rfl (fun _ => Y_move rfl rfl) ?_; clear hf; intro a hf
       refine mYp (i := 13) rfl (by kernel_rfl) (by kernel_rfl) hf rfl rfl rfl (fun _ => Y_move rfl rfl) ?_; clear hf; intro a hf
       obtain ⟨q606, hi607, hm586⟩ := bind_some hm586
       obtain ⟨hi607a, hi607b, hi607q⟩ := idx_some hi607
       obtain ⟨A608, c609, hv610⟩ := hs.matRow (i := 1) rfl hi607q
       refine mYp (i := 14) rfl (by kernel_rfl) (by kernel_rfl) hf rfl rfl rfl (fun _ => Y_index rfl rfl rfl el40 ti28 (Rd.isAt (hs.rdV (i := 1) rfl) hv610) hi607a (ltn hn27 hi607b)) ?_; clear hf; intro a hf
       refine mY (i := 15) [[]] rfl (by kernel_rfl) (by kernel_rfl) hf hs0 rfl rfl rfl (Y_load_rd rfl rfl (fun w hs => hs.rdV (i := 1) rfl) (at1 hv610) ag28) ?_; clear hf; intro a hf
       refine mYp (i := 16) rfl (by kernel_rfl) (by kernel_rfl) hf rfl rfl rfl (fun _ => Y_move rfl rfl) ?_; clear hf; intro a hf
       obtain ⟨q611, hi612, hm586⟩ := bind_some hm586
       obtain ⟨hi612a, hi612b, hi612q⟩ := idx_some hi612
       refine mYp (i := 17) rfl (by kernel_rfl) (by kernel_rfl) hf rfl rfl rfl (fun _ => Y_index rfl rfl rfl el28 ti2 (Rd.isAt (hs.rdRow (i := 1) rfl ⟨hi607q, hv610⟩) (at1 (ints_at hi612q))) hi612a hi612b) ?_; clear hf; intro a hf
       refine mY (i := 18) [[]] rfl (by kernel_rfl) (by kernel_rfl) hf hs0 rfl rfl rfl (Y_load_rd rfl rfl (fun w hs => hs.rdRow (i := 1) rfl ⟨hi607q, hv610⟩) (at1 (ints_at hi612q)) ag2) ?_; clear hf; intro a hf
       refine mYp (i := 19) rfl (by kernel_rfl) (by kernel_rfl) hf rfl rfl rfl (fun _ => Y_sub rfl rfl rfl) ?_; clear hf; intro a hf
       obtain ⟨q613, hi614, hm586⟩ := bind_some hm586
       obtain ⟨hi614a, hi614b, hi614q⟩ := idx_some hi614
       refine mYp (i := 20) rfl (by kernel_rfl) (by kernel_rfl) hf rfl rfl rfl (fun _ => Y_index rfl rfl rfl el28 ti2 (Rd.isAt (hs.rdRow (i := 0) rfl ⟨hi595q, hv598⟩) (at1 (ints_at hi614q))) hi614a hi614b) ?_; clear hf; intro a hf
       refine mRun (i := 21) rfl (by kernel_rfl) ?_
       obtain ⟨xs615, hu617, hm586⟩ := bind_some hm586
       obtain ⟨ms616, hu618, hm586⟩ := bind_some hm586
       refine sStoreM (i := 0) (k := x324) hf hs rfl rfl rfl rfl rfl rfl hi595q hv598 rfl hu617 hu618 ti2 ?_; clear hs; intro w hs
       obtain ⟨hq619, hv620⟩ := rowUpd hu617 hu618 hv598
       have hs : St _ W w [.mat A4 n5 c6 28 2 vs8 ms616, _] := hs
       refine wpO_nil ⟨Or.inl (by decide), ?_⟩
       refine mDone (by kernel_rfl) ?_
       clear hs0
       refine wpL_nil (Qb_normal ?_)
       refine wpL_region ?_
       refine sY hf hs rfl rfl rfl (Y_move rfl rfl) ?_; clear hf; intro a hf
       refine sY hf hs rfl rfl rfl (Y_add rfl rfl rfl) ?_; clear hf; intro a hf
       refine sY hf hs rfl rfl rfl (Y_assign rfl rfl) ?_; clear hf; intro a hf
       refine wpO_nil ?_
       refine wpL_nil (Ql_normal ?_)
       exact ⟨ms616, (IntKind.i64.wrap (x548 + 1)), hm586, ((hn547).trans (upd_len hu618).symm), (FrD.pick (FrD.pick (FrD.pick (FrD.pick hf.none hf rfl) hf rfl) hf rfl) hf rfl), hs⟩
      ·have hm586 := bif_f hm586 hb593
       refine wpL_exit (Ql_exit (Qb_exit ?_))
       exact ⟨ms546, Option.some.inj hm586, hn547, (FrD.pick (FrD.pick (FrD.pick hf.none hf rfl) hf rfl) hf rfl), hs⟩
    ·rintro a w ⟨ms582, hr_, hn583, hf, hs⟩
     subst hr_
     try dsimp only at hm474
     refine wpL_nil (Qb_normal ?_)
     refine wpL_region ?_
     refine sY hf hs rfl rfl rfl (Y_move rfl rfl) ?_; clear hf; intro a hf
     refine sY hf hs rfl rfl rfl (Y_add rfl rfl rfl) ?_; clear hf; intro a hf
     refine sY hf hs rfl rfl rfl (Y_assign rfl rfl) ?_; clear hf; intro a hf
     refine wpO_nil ?_
     refine wpL_nil (Ql_normal ?_)
     exact ⟨ms582, (IntKind.i64.wrap (x324 + 1)), hm474, hn583, (FrD.pick (FrD.pick (FrD.pick hf.none hf rfl) hf rfl) hf rfl), hs⟩
   ·have hm474 := bif_f hm474 hb476
    refine wpL_exit (Ql_exit (Qb_exit ?_))
    exact ⟨ms322, Option.some.inj hm474, hn323, (FrD.pick hf.none hf rfl), hs.sel [0] (by decide)⟩
 ·rintro a w ⟨ms470, hr_, hn471, hf, hs⟩
  subst hr_
  try dsimp only at hm
  refine wpL_seq <| wpL_region ?_
  refine sY hf hs rfl rfl rfl (Y_move rfl rfl) ?_; clear hf; intro a hf
  refine sY hf hs rfl rfl rfl (Y_assign rfl rfl) ?_; clear hf; intro a hf
  refine wpO_nil ?_
  obtain rfl := Option.some.inj hm
  refine wpL_ret (ret_tmp rfl hf rfl ?_)
  exact ⟨_, rfl, A4, n5, c6, vs8, rfl, hn471, hs⟩

set_option maxRecDepth 100000 in
theorem spec_FloatsOf_ok (F : Nat) (ae : GEventGraph) (ad : Option Addr) (ap af : Nat) (aw : ap = ae.Places.length) (aA : List (List Int)) (ay : Option Addr) (aE aB : Nat) (aN : aE = aA.length) (r : List (List Int) × Int) (W : World) (hm : spec_FloatsOf F ae aA = some r) (au : Rd W ad ((recs GPlace.cells) ae.Places)) (aG : RdM W ay aA) :
  Calls Try.prog 45 [.agg #[.int .i64 ae.Events, .slice ad ap af], .slice ay aE aB].toArray W fun e w' => ∃ v, e = .returned v ∧ ∃ A15, ∃ n16, ∃ c17, ∃ vs19, v = .tuple #[.slice A15 n16 c17, .int .i64 r.2] ∧ n16 = r.1.length ∧ St [] W w' [.mat A15 n16 c17 28 2 vs19 r.1] := by
 subst aw
 subst aN
 unfold spec_FloatsOf at hm
 refine Calls.enter (N := 18) Try.func45 rfl rfl rfl (fun a hf => ?_)
 have hs := St.start W
 obtain ⟨w, hw_⟩ : ∃ w, w = W := ⟨W, rfl⟩
 clear hw_ w
 refine wpL_seq <| wpL_region ?_
 refine sBox hf hs rfl rfl rfl rfl rfl (cs := [.int .i64 ae.Events, .slice ad ae.Places.length af]) rfl ?_; clear hf hs; intro a w b1 hs hf
 have hs : St _ W w [_] := hs
 refine sY hf hs rfl rfl rfl (Y_assign rfl rfl) ?_; clear hf; intro a hf
 refine sY hf hs rfl rfl rfl (Y_assign rfl rfl) ?_; clear hf; intro a hf
 refine wpO_nil <| wpL_seq ?_
 refine wpL_draw (by kernel_rfl) (by kernel_rfl) hs ?_
 refine qY hf rfl rfl rfl (Y_load_blkS rfl rfl (i := 0) rfl ag55 ti55 rfl) ?_; clear hf; intro a hf
 refine qY hf rfl rfl rfl (Y_load_blkS rfl rfl (i := 0) rfl ag55 ti55 rfl) ?_; clear hf; intro a hf
 refine qY hf rfl rfl rfl (Y_move rfl rfl) ?_; clear hf; intro a hf
 obtain ⟨r2, hc3, hm⟩ := bind_some hm
 refine qCall hf rfl rfl rfl rfl (cap := []) rfl rfl en104 (v := .bool r2) (fun w hs => Calls.scal (spec_l22Due_ok F ae ad ae.Places.length af rfl aA ay aA.length aB rfl _ _ hc3 (au.at hs) (aG.at hs))) ?_; clear hf; intro a hf
 obtain ⟨r4, hc5, hm⟩ := bind_some hm
 refine qCall hf rfl rfl rfl rfl (cap := []) rfl rfl en103 (v := .int .i64 r4) (fun w hs => Calls.scal (spec_l13Code_ok F ae ad ae.Places.length af rfl r2 _ _ hc5 (au.at hs))) ?_; clear hf; intro a hf
 refine qY hf rfl rfl rfl (Y_assign rfl rfl) ?_; clear hf; intro a hf
 refine qNil ?_; clear hs; intro w hs
 refine wpL_seq <| wpL_seq <| wpL_region ?_
 refine sY hf hs rfl rfl rfl (Y_move rfl rfl) ?_; clear hf; intro a hf
 refine sY hf hs rfl rfl rfl (Y_neq rfl rfl rfl) ?_; clear hf; intro a hf
 refine wpO_nil ?_
 refine wpL_cond hf rfl (fun hb6 => ?_) (fun hb6 => ?_)
 ·have hm := bif_t hm hb6
  refine wpL_seq <| wpL_region ?_
  refine sY hf hs rfl rfl rfl (Y_move rfl rfl) ?_; clear hf; intro a hf
  refine sY hf hs rfl rfl rfl (Y_assign rfl rfl) ?_; clear hf; intro a hf
  refine sY hf hs rfl rfl rfl (Y_assign rfl rfl) ?_; clear hf; intro a hf
  refine wpO_nil ?_
  have hs : St [] W _ [.blk b1 55 [.int .i64 ae.Events, .slice ad ae.Places.length af], .mat none 0 0 28 2 [] ([] : List (List Int))] := hs.addNilM 28 2
  obtain rfl := Option.some.inj hm
  refine wpL_ret (ret_tmp2 rfl hf rfl rfl ?_)
  exact ⟨_, rfl, none, 0, 0, [], rfl, rfl, hs.sel [1] (by decide)⟩
 ·have hm := bif_f hm hb6
  refine wpL_skip <| wpL_seq <| wpL_region ?_
  refine sY hf hs rfl rfl rfl (Y_load_blkS rfl rfl (i := 0) rfl ag55 ti55 rfl) ?_; clear hf; intro a hf
  refine sY hf hs rfl rfl rfl (Y_move rfl rfl) ?_; clear hf; intro a hf
  obtain ⟨r8, hc9, hm⟩ := bind_some hm
  refine sCall hf rfl rfl rfl rfl (cap := []) rfl rfl en107 (spec_l22Floats_ok F ae ad ae.Places.length af rfl aA ay aA.length aB rfl _ _ hc9 (au.at hs) (aG.at hs)) ?_; clear hf
  rintro _ w ⟨A10, n11, c12, vs14, rfl, hn13, hs1⟩ a hf
  have hs : St _ W w [_, .mat A10 n11 c12 28 2 vs14 r8] := hs.join hs1
  clear hs1
  refine sY hf hs rfl rfl rfl (Y_assign rfl rfl) ?_; clear hf; intro a hf
  refine sY hf hs rfl rfl rfl (Y_assign rfl rfl) ?_; clear hf; intro a hf
  refine wpO_nil ?_
  obtain rfl := Option.some.inj hm
  refine wpL_ret (ret_tmp2 rfl hf rfl rfl ?_)
  exact ⟨_, rfl, A10, n11, c12, vs14, rfl, hn13, hs.sel [1] (by decide)⟩

set_option maxRecDepth 100000 in
theorem spec_l13Draw_ok (F : Nat) (aq : Nat) (ak : List Int) (ah : Option Addr) (aD ai : Nat) (bD : aD = ak.length) (ax : Int) (av : Int) (r : (GEventGraph × Int) × Int × Int) (W : World) (hm : spec_l13Draw F ak ax av = some r) (bc : KR (muL [.blk aq 149 [.slice ah aD ai, .int .i64 ax, .int .i64 av]]) W ah (bytes ak)) (hst : St (muL [.blk aq 149 [.slice ah aD ai, .int .i64 ax, .int .i64 av]]) W W [.blk aq 149 [.slice ah aD ai, .int .i64 ax, .int .i64 av]]) :
  Calls Try.prog 108 [.pointer (some ⟨aq, 0, none⟩)].toArray W fun e w' => ∃ v, e = .returned v ∧ ∃ A50, ∃ n51, ∃ c52, v = .tuple #[.agg #[.int .i64 r.1.1.Events, .slice A50 n51 c52], .int .i64 r.1.2] ∧ n51 = r.1.1.Places.length ∧ St (muL [.blk aq 149 [.slice ah aD ai, .int .i64 ax, .int .i64 av]]) W w' [.row A50 n51 c52 64 4 ((recs GPlace.cells) r.1.1.Places), .blk aq 149 [.slice ah aD ai, .int .i64 r.2.1, .int .i64 r.2.2]] := by
 subst bD
 unfold spec_l13Draw at hm
 refine Calls.enter (N := 22) Try.func108 rfl rfl rfl (fun a hf => ?_)
 have hs := hst
 obtain ⟨w, hw_⟩ : ∃ w, w = W := ⟨W, rfl⟩
 clear hw_ w
 refine wpL_seq <| wpL_region ?_
 refine sAlloc hf hs rfl rfl rfl rfl ti55 ?_; clear hf hs; intro a w b1 hs hf
 have hs : St _ W w [.blk aq 149 [.slice ah ak.length ai, .int .i64 ax, .int .i64 av], .blk b1 55 [.int .i64 0, .slice none 0 0]] := hs
 refine sY hf hs rfl rfl rfl (Y_assign rfl rfl) ?_; clear hf; intro a hf
 refine wpO_nil <| wpL_seq <| wpL_region ?_
 refine sY hf hs rfl rfl rfl (Y_move rfl rfl) ?_; clear hf; intro a hf
 obtain ⟨r2, hc3, hm⟩ := bind_some hm
 refine sCall hf rfl rfl rfl rfl (cap := []) rfl rfl en170 (spec_l11Draw_ok F aq ak ah ak.length ai rfl ax av _ _ hc3 (bc.pass hs [0]) (hs.sel [0] (by decide)).rebase) ?_; clear hf
 rintro _ w ⟨A4, n5, c6, rfl, hn7, hs1⟩ a hf
 have hs : St _ W w [_, .row A4 n5 c6 64 4 ((recs GPlace.cells) r2.1.Places), .blk aq 149 [.slice ah ak.length ai, .int .i64 r2.2.1, .int .i64 r2.2.2]] := St.mutTail (La := [_]) (Lb := [_]) (hs.sel [1, 0] (by decide)) hs1
 clear hs1
 refine sAlloc hf hs rfl rfl rfl rfl ti55 ?_; clear hf hs; intro a w b8 hs hf
 have hs : St _ W w [_, _, _, .blk b8 55 [.int .i64 0, .slice none 0 0]] := hs
 refine sStore (i := 3) (us := [.int .i64 r2.1.Events, .slice A4 n5 c6]) hf hs rfl rfl rfl rfl rfl rfl ti55 rfl rfl rfl (Nat.le_of_ble_eq_true rfl) rfl ?_; clear hs; intro w hs
 have hs : St _ W w [_, _, _, .blk b8 55 [.int .i64 r2.1.Events, .slice A4 n5 c6]] := hs
 refine wpO_nil <| wpL_seq <| wpL_seq <| wpL_region ?_
 refine sY hf hs rfl rfl rfl (Y_move rfl rfl) ?_; clear hf; intro a hf
 obtain ⟨r9, hc10, hm⟩ := bind_some hm
 refine sCall hf rfl rfl rfl rfl (cap := []) rfl rfl en93 (spec_l01Next_ok F aq ak ah ak.length ai rfl r2.2.1 r2.2.2 20 _ _ hc10 (bc.pass hs [2]) (hs.sel [2] (by decide)).rebase) ?_; clear hf
 rintro _ w ⟨rfl, hs1⟩ a hf
 have hs : St _ W w [_, _, _, .blk aq 149 [.slice ah ak.length ai, .int .i64 r9.2.1, .int .i64 r9.2.2]] := St.mutTail (La := [_, _, _]) (Lb := [_]) (hs.sel [0, 1, 3, 2] (by decide)) hs1
 clear hs1
 refine sY hf hs rfl rfl rfl (Y_eql rfl rfl rfl) ?_; clear hf; intro a hf
 refine wpO_nil ?_
 obtain ⟨r26, hj27, hm⟩ := bind_some hm
 refine wpL_cut (fun a w => ∃ x18 : Int, ∃ x19 : Int, ∃ x20 : Int, ∃ xs21 : List GPlace, ∃ A22, ∃ n23, ∃ c24, (x18, x19, x20, xs21) = r26 ∧ n23 = xs21.length ∧ Fr a 22 [(0, .pointer (some ⟨aq, 0, none⟩)), (2, .pointer (some ⟨b1, 0, none⟩)), (4, .pointer (some ⟨b8, 0, none⟩))] ∧ St (muL [.blk aq 149 [.slice ah ak.length ai, .int .i64 ax, .int .i64 av]]) W w [.blk aq 149 [.slice ah ak.length ai, .int .i64 x18, .int .i64 x19], .blk b1 55 [.int .i64 0, .slice none 0 0], .blk b8 55 [.int .i64 x20, .slice A22 n23 c24], .row A22 n23 c24 64 4 ((recs GPlace.cells) xs21)]) ?_ ?_
 ·refine wpL_cond hf rfl (fun hb28 => ?_) (fun hb28 => ?_)
  ·have hj27 := bif_t hj27 hb28
   refine wpL_region ?_
   refine sY hf hs rfl rfl rfl (Y_move rfl rfl) ?_; clear hf; intro a hf
   obtain ⟨r29, hc30, hj27⟩ := bind_some hj27
   refine sCall hf rfl rfl rfl rfl (cap := []) rfl rfl en171 (spec_l12Draw_ok F aq ak ah ak.length ai rfl r9.2.1 r9.2.2 _ _ hc30 (bc.pass hs [3]) (hs.sel [3] (by decide)).rebase) ?_; clear hf
   rintro _ w ⟨A31, n32, c33, rfl, hn34, hs1⟩ a hf
   have hs : St _ W w [_, _, _, .row A31 n32 c33 64 4 ((recs GPlace.cells) r29.1.Places), .blk aq 149 [.slice ah ak.length ai, .int .i64 r29.2.1, .int .i64 r29.2.2]] := St.mutTail (La := [_, _, _]) (Lb := [_]) (hs.sel [0, 1, 2, 3] (by decide)) hs1
   clear hs1
   refine sStore (i := 2) (us := [.int .i64 r29.1.Events, .slice A31 n32 c33]) hf hs rfl rfl rfl rfl rfl rfl ti55 rfl rfl rfl (Nat.le_of_ble_eq_true rfl) rfl ?_; clear hs; intro w hs
   have hs : St _ W w [_, _, .blk b8 55 [.int .i64 r29.1.Events, .slice A31 n32 c33], _, _] := hs
   refine wpO_nil ?_
   refine wpL_nil (then_normal ?_)
   exact ⟨r29.2.1, r29.2.2, r29.1.Events, r29.1.Places, A31, n32, c33, Option.some.inj hj27, hn34, (FrD.pick (FrD.pick (FrD.pick hf.none hf rfl) hf rfl) hf rfl), hs.sel [4, 0, 2, 3] (by decide)⟩
  ·have hj27 := bif_f hj27 hb28
   refine wpL_skip ?_
   refine wpL_nil (then_normal ?_)
   exact ⟨r9.2.1, r9.2.2, r2.1.Events, r2.1.Places, A4, n5, c6, Option.some.inj hj27, hn7, (FrD.pick (FrD.pick (FrD.pick hf.none hf rfl) hf rfl) hf rfl), hs.sel [3, 0, 2, 1] (by decide)⟩
 ·rintro a w ⟨x18, x19, x20, xs21, A22, n23, c24, hr_, hn25, hf, hs⟩
  subst hr_
  try dsimp only at hm
  refine wpL_seq <| wpL_seq <| wpL_region ?_
  refine sY hf hs rfl rfl rfl (Y_move rfl rfl) ?_; clear hf; intro a hf
  obtain ⟨r35, hc36, hm⟩ := bind_some hm
  refine sCall hf rfl rfl rfl rfl (cap := []) rfl rfl en93 (spec_l01Next_ok F aq ak ah ak.length ai rfl x18 x19 24 _ _ hc36 (bc.pass hs [0]) (hs.sel [0] (by decide)).rebase) ?_; clear hf
  rintro _ w ⟨rfl, hs1⟩ a hf
  have hs : St _ W w [_, _, _, .blk aq 149 [.slice ah ak.length ai, .int .i64 r35.2.1, .int .i64 r35.2.2]] := St.mutTail (La := [_, _, _]) (Lb := [_]) (hs.sel [1, 2, 3, 0] (by decide)) hs1
  clear hs1
  refine sY hf hs rfl rfl rfl (Y_eql rfl rfl rfl) ?_; clear hf; intro a hf
  refine wpO_nil ?_
  refine wpL_cond hf rfl (fun hb37 => ?_) (fun hb37 => ?_)
  ·have hm := bif_t hm hb37
   refine wpL_seq ?_
   refine wpL_drawM [.blk b1 55 [.int .i64 0, .slice none 0 0], .blk b8 55 [.int .i64 x20, .slice A22 n23 c24], .row A22 n23 c24 64 4 ((recs GPlace.cells) xs21)] [4] (by kernel_rfl) hs ?_; clear hs; intro w hs
   have hs0 : St _ W w [_, _, _] := hs.sel [0, 1, 2] (by decide)
   refine mY (i := 0) [[]] rfl (by kernel_rfl) (by kernel_rfl) hf hs0 rfl rfl rfl (Y_load_blkS rfl rfl (i := 1) rfl ag55 ti55 rfl) ?_; clear hf; intro a hf
   refine mYp (i := 1) rfl (by kernel_rfl) (by kernel_rfl) hf rfl rfl rfl (fun _ => Y_move rfl rfl) ?_; clear hf; intro a hf
   refine mRun (i := 2) rfl (by kernel_rfl) ?_
   refine sBuildSlice (parts := [(0, .const (.int .i64 (-1))), (1, .const (.int .i64 0)), (2, .const (.int .i64 50)), (3, .const (.int .i64 51))]) (vs := [.int .i64 (-1), .int .i64 0, .int .i64 50, .int .i64 51]) (cells := [.int .i64 (-1), .int .i64 0, .int .i64 50, .int .i64 51]) hf hs rfl rfl rfl rfl rfl el28 ti2 rfl rfl rfl rfl ?_; clear hf hs; intro a w A42 hs hA43 hf
   have hs : St _ W w [_, _, _, _, .row A42 4 4 2 1 (ints ([(-1), 0, 50, 51]))] := hs
   have hs0 : St _ W w [_, _, _] := hs.sel [0, 1, 2] (by decide)
   refine wpO_nil ⟨Or.inr (fun _ => hs0), ?_⟩
   refine mRun (i := 3) rfl (by kernel_rfl) ?_
   obtain ⟨r44, hc45, hm⟩ := bind_some hm
   refine sCall hf rfl rfl rfl rfl (cap := []) rfl rfl en109 (spec_l01Pick_ok F aq ak ah ak.length ai rfl r35.2.1 r35.2.2 ([(-1), 0, 50, 51]) A42 4 4 rfl _ _ hc45 (bc.pass hs [3]) (hs.keepR (i := 4) rfl [3] (by decide)) (hs.sel [3] (by decide)).rebase) ?_; clear hf
   rintro _ w ⟨rfl, hs1⟩ a hf
   have hs : St _ W w [_, _, _, _, .blk aq 149 [.slice ah ak.length ai, .int .i64 r44.2.1, .int .i64 r44.2.2]] := St.mutTail (La := [_, _, _, _]) (Lb := [_]) (hs.sel [0, 1, 2, 4, 3] (by decide)) hs1
   clear hs1
   have hs0 : St _ W w [_, _, _] := hs.sel [0, 1, 2] (by decide)
   refine wpO_nil ⟨Or.inr (fun _ => hs0), ?_⟩
   refine mRun (i := 4) rfl (by kernel_rfl) ?_
   refine sStore (i := 0) (us := [.int .i64 x20, .slice A22 n23 c24]) hf hs rfl rfl rfl rfl rfl rfl ti55 rfl rfl rfl (Nat.le_of_ble_eq_true rfl) rfl ?_; clear hs; intro w hs
   have hs : St _ W w [.blk b1 55 [.int .i64 x20, .slice A22 n23 c24], _, _, _, _] := hs
   refine wpO_nil ⟨Or.inl (by decide), ?_⟩
   refine mYp (i := 5) rfl (by kernel_rfl) (by kernel_rfl) hf rfl rfl rfl (fun _ => Y_assign rfl rfl) ?_; clear hf; intro a hf
   refine mDone (by kernel_rfl) ?_
   clear hs0
   obtain rfl := Option.some.inj hm
   refine wpL_ret (ret_cell_tmp rfl hf rfl rfl hs (i := 0) rfl ag55 ti55 rfl ?_)
   exact ⟨_, rfl, A22, n23, c24, rfl, hn25, hs.sel [2, 4] (by decide)⟩
  ·have hm := bif_f hm hb37
   refine wpL_skip <| wpL_seq ?_
   refine wpL_drawM [.blk b1 55 [.int .i64 0, .slice none 0 0], .blk b8 55 [.int .i64 x20, .slice A22 n23 c24], .row A22 n23 c24 64 4 ((recs GPlace.cells) xs21)] [3] (by kernel_rfl) hs ?_; clear hs; intro w hs
   have hs0 : St _ W w [_, _, _] := hs.sel [0, 1, 2] (by decide)
   refine mY (i := 0) [[]] rfl (by kernel_rfl) (by kernel_rfl) hf hs0 rfl rfl rfl (Y_load_blkS rfl rfl (i := 1) rfl ag55 ti55 rfl) ?_; clear hf; intro a hf
   refine mYp (i := 1) rfl (by kernel_rfl) (by kernel_rfl) hf rfl rfl rfl (fun _ => Y_move rfl rfl) ?_; clear hf; intro a hf
   refine mRun (i := 2) rfl (by kernel_rfl) ?_
   obtain ⟨r48, hc49, hm⟩ := bind_some hm
   refine sCall hf rfl rfl rfl rfl (cap := []) rfl rfl en93 (spec_l01Next_ok F aq ak ah ak.length ai rfl r35.2.1 r35.2.2 9 _ _ hc49 (bc.pass hs [3]) (hs.sel [3] (by decide)).rebase) ?_; clear hf
   rintro _ w ⟨rfl, hs1⟩ a hf
   have hs : St _ W w [_, _, _, .blk aq 149 [.slice ah ak.length ai, .int .i64 r48.2.1, .int .i64 r48.2.2]] := St.mutTail (La := [_, _, _]) (Lb := [_]) (hs.sel [0, 1, 2, 3] (by decide)) hs1
   clear hs1
   have hs0 : St _ W w [_, _, _] := hs.sel [0, 1, 2] (by decide)
   refine wpO_nil ⟨Or.inr (fun _ => hs0), ?_⟩
   refine mRun (i := 3) rfl (by kernel_rfl) ?_
   refine sStore (i := 0) (us := [.int .i64 x20, .slice A22 n23 c24]) hf hs rfl rfl rfl rfl rfl rfl ti55 rfl rfl rfl (Nat.le_of_ble_eq_true rfl) rfl ?_; clear hs; intro w hs
   have hs : St _ W w [_, _, _, _] := hs
   refine wpO_nil ⟨Or.inl (by decide), ?_⟩
   refine mYp (i := 4) rfl (by kernel_rfl) (by kernel_rfl) hf rfl rfl rfl (fun _ => Y_assign rfl rfl) ?_; clear hf; intro a hf
   refine mDone (by kernel_rfl) ?_
   clear hs0
   obtain rfl := Option.some.inj hm
   refine wpL_ret (ret_cell_tmp rfl hf rfl rfl hs (i := 0) rfl ag55 ti55 rfl ?_)
   exact ⟨_, rfl, A22, n23, c24, rfl, hn25, hs.sel [2, 3] (by decide)⟩

set_option maxRecDepth 100000 in
theorem spec_DrawDueOfLast_ok (F : Nat) (ac : List Int) (ao : Option Addr) (aX ar : Nat) (bv : aX = ac.length) (r : GEventGraph × Int × List Int) (W : World) (hm : spec_DrawDueOfLast F ac = some r) (bb : Rd W ao (bytes ac)) :
  Calls Try.prog 46 [.slice ao aX ar].toArray W fun e w' => ∃ v, e = .returned v ∧ ∃ A108, ∃ n109, ∃ c110, ∃ A112, ∃ n113, ∃ c114, v = .tuple #[.agg #[.int .i64 r.1.Events, .slice A108 n109 c110], .int .i64 r.2.1, .slice A112 n113 c114] ∧ n109 = r.1.Places.length ∧ n113 = r.2.2.length ∧ St [] W w' [.row A108 n109 c110 64 4 ((recs GPlace.cells) r.1.Places), .row A112 n113 c114 2 1 (ints r.2.2)] := by
 subst bv
 unfold spec_DrawDueOfLast at hm
 refine Calls.enter (N := 41) Try.func46 rfl rfl rfl (fun a hf => ?_)
 have hs := St.start W
 obtain ⟨w, hw_⟩ : ∃ w, w = W := ⟨W, rfl⟩
 clear hw_ w
 refine wpL_seq <| wpL_region ?_
 refine sAlloc hf hs rfl rfl rfl rfl ti55 ?_; clear hf hs; intro a w b1 hs hf
 have hs : St _ W w [_] := hs
 refine sY hf hs rfl rfl rfl (Y_assign rfl rfl) ?_; clear hf; intro a hf
 refine sY hf hs rfl rfl rfl (Y_assign rfl rfl) ?_; clear hf; intro a hf
 refine wpO_nil <| wpL_seq <| wpL_region ?_
 refine sY hf hs rfl rfl rfl (Y_move rfl rfl) ?_; clear hf; intro a hf
 obtain ⟨r2, hc3, hm⟩ := bind_some hm
 refine sCall hf rfl rfl rfl rfl (cap := []) rfl rfl en65 (spec_l01From_ok F ac ao ac.length ar rfl _ _ hc3 (bb.at hs)) ?_; clear hf
 rintro _ w ⟨b4, rfl, hs1⟩ a hf
 have hs : St _ W w [_, .blk b4 149 [.slice ao ac.length ar, .int .i64 r2.1, .int .i64 r2.2]] := hs.join hs1
 clear hs1
 refine sY hf hs rfl rfl rfl (Y_assign rfl rfl) ?_; clear hf; intro a hf
 refine wpO_nil <| wpL_seq <| wpL_region ?_
 refine sY hf hs rfl rfl rfl (Y_move rfl rfl) ?_; clear hf; intro a hf
 obtain ⟨r5, hc6, hm⟩ := bind_some hm
 refine sCall hf rfl rfl rfl rfl (cap := []) rfl rfl en108 (spec_l13Draw_ok F b4 ac ao ac.length ar rfl r2.1 r2.2 _ _ hc6 (bb.pass hs [1]) (hs.sel [1] (by decide)).rebase) ?_; clear hf
 rintro _ w ⟨A7, n8, c9, rfl, hn10, hs1⟩ a hf
 have hs : St _ W w [_, .row A7 n8 c9 64 4 ((recs GPlace.cells) r5.1.1.Places), .blk b4 149 [.slice ao ac.length ar, .int .i64 r5.2.1, .int .i64 r5.2.2]] := St.mutTail (La := [_]) (Lb := [_]) (hs.sel [0, 1] (by decide)) hs1
 clear hs1
 refine sY hf hs rfl rfl rfl (Y_move rfl rfl) ?_; clear hf; intro a hf
 refine sY hf hs rfl rfl rfl (Y_extract rfl rfl rfl) ?_; clear hf; intro a hf
 refine sY hf hs rfl rfl rfl (Y_extract rfl rfl rfl) ?_; clear hf; intro a hf
 refine sAlloc hf hs rfl rfl rfl rfl ti55 ?_; clear hf hs; intro a w b11 hs hf
 have hs : St _ W w [_, _, _, .blk b11 55 [.int .i64 0, .slice none 0 0]] := hs
 refine sStore (i := 3) (us := [.int .i64 r5.1.1.Events, .slice A7 n8 c9]) hf hs rfl rfl rfl rfl rfl rfl ti55 rfl rfl rfl (Nat.le_of_ble_eq_true rfl) rfl ?_; clear hs; intro w hs
 have hs : St _ W w [_, _, _, .blk b11 55 [.int .i64 r5.1.1.Events, .slice A7 n8 c9]] := hs
 refine sY hf hs rfl rfl rfl (Y_assign rfl rfl) ?_; clear hf; intro a hf
 refine wpO_nil <| wpL_seq <| wpL_region ?_
 refine sEmpty hf hs rfl rfl rfl rfl el28 ti2 ?_; clear hf hs; intro a w A12 hs hf
 have hs : St _ W w [_, _, _, _, .row A12 0 0 2 1 (ints ([] : List Int))] := hs
 refine sY hf hs rfl rfl rfl (Y_assign rfl rfl) ?_; clear hf; intro a hf
 refine wpO_nil <| wpL_seq <| wpL_seq <| wpL_region ?_
 refine sY hf hs rfl rfl rfl (Y_assign rfl rfl) ?_; clear hf; intro a hf
 refine wpO_nil ?_
 obtain ⟨r64, hl65, hm⟩ := bind_some hm
 refine wpL_block (fun a w => ∃ x57 : Int, ∃ x58 : Int, ∃ xs59 : List Int, ∃ A60, ∃ n61, ∃ c62, (x57, x58, xs59) = r64 ∧ n61 = xs59.length ∧ Fr a 41 [(2, .pointer (some ⟨b1, 0, none⟩)), (5, .pointer (some ⟨b4, 0, none⟩)), (6, .pointer (some ⟨b11, 0, none⟩)), (7, .int .i64 r5.1.2), (8, .slice A60 n61 c62)] ∧ St [] W w [.blk b1 55 [.int .i64 0, .slice none 0 0], .blk b4 149 [.slice ao ac.length ar, .int .i64 x57, .int .i64 x58], .blk b11 55 [.int .i64 r5.1.1.Events, .slice A7 n8 c9], .row A7 n8 c9 64 4 ((recs GPlace.cells) r5.1.1.Places), .row A60 n61 c62 2 1 (ints xs59)]) ?_ ?_
 ·refine wpL_loop (fun n a w => ∃ x40 : Int, ∃ x41 : Int, ∃ xs42 : List Int, ∃ x47 : Int, ∃ A43, ∃ n44, ∃ c45, spec_DrawDueOfLast_L1 F ac r5 n x40 x41 xs42 x47 = some r64 ∧ n44 = xs42.length ∧ Fr a 41 [(2, .pointer (some ⟨b1, 0, none⟩)), (5, .pointer (some ⟨b4, 0, none⟩)), (6, .pointer (some ⟨b11, 0, none⟩)), (7, .int .i64 r5.1.2), (8, .slice A43 n44 c45), (9, .int .i64 x47)] ∧ St [] W w [.blk b1 55 [.int .i64 0, .slice none 0 0], .blk b4 149 [.slice ao ac.length ar, .int .i64 x40, .int .i64 x41], .blk b11 55 [.int .i64 r5.1.1.Events, .slice A7 n8 c9], .row A7 n8 c9 64 4 ((recs GPlace.cells) r5.1.1.Places), .row A43 n44 c45 2 1 (ints xs42)]) F ?_ ?_ ?_
  ·exact ⟨r5.2.1, r5.2.2, ([] : List Int), 0, A12, 0, 0, hl65, rfl, (FrD.pick (FrD.pick (FrD.pick (FrD.pick (FrD.pick (FrD.pick hf.none hf rfl) hf rfl) hf rfl) hf rfl) hf rfl) hf rfl), hs.sel [0, 2, 3, 1, 4] (by decide)⟩
  ·rintro a w ⟨x40, x41, xs42, x47, A43, n44, c45, h0_, -, -, -⟩; simp [spec_DrawDueOfLast_L1] at h0_
  ·rintro n67 a w ⟨x40, x41, xs42, x47, A43, n44, c45, hm66, hn46, hf, hs⟩
   rw [spec_DrawDueOfLast_L1] at hm66
   refine wpL_seq <| wpL_seq <| wpL_region ?_
   refine sY hf hs rfl rfl rfl (Y_move rfl rfl) ?_; clear hf; intro a hf
   refine sY hf hs rfl rfl rfl (Y_fieldAddr rfl rfl fo55_0) ?_; clear hf; intro a hf
   refine sY hf hs rfl rfl rfl (Y_load_blk rfl rfl (i := 2) rfl rfl ag2) ?_; clear hf; intro a hf
   refine sY hf hs rfl rfl rfl (Y_lss rfl rfl rfl) ?_; clear hf; intro a hf
   refine wpO_nil ?_
   refine wpL_cond hf rfl (fun hb68 => ?_) (fun hb68 => ?_)
   ·have hm66 := bif_t hm66 hb68
    refine wpL_skip <| wpL_seq <| wpL_block0 <| wpL_region ?_
    refine sY hf hs rfl rfl rfl (Y_move rfl rfl) ?_; clear hf; intro a hf
    refine sY hf hs rfl rfl rfl (Y_move rfl rfl) ?_; clear hf; intro a hf
    obtain ⟨r69, hc70, hm66⟩ := bind_some hm66
    refine sCall hf rfl rfl rfl rfl (cap := []) rfl rfl en93 (spec_l01Next_ok F b4 ac ao ac.length ar rfl x40 x41 80 _ _ hc70 (bb.pass hs [1]) (hs.sel [1] (by decide)).rebase) ?_; clear hf
    rintro _ w ⟨rfl, hs1⟩ a hf
    have hs : St _ W w [_, _, _, _, .blk b4 149 [.slice ao ac.length ar, .int .i64 r69.2.1, .int .i64 r69.2.2]] := St.mutTail (La := [_, _, _, _]) (Lb := [_]) (hs.sel [0, 2, 3, 4, 1] (by decide)) hs1
    clear hs1
    refine sBuildSlice (parts := [(0, .tmp 26)]) (vs := [.int .i64 r69.1]) (cells := [.int .i64 r69.1]) hf hs rfl rfl rfl rfl rfl el28 ti2 rfl rfl rfl rfl ?_; clear hf hs; intro a w A71 hs hA72 hf
    have hs : St _ W w [_, _, _, _, _, .row A71 1 1 2 1 (ints ([r69.1]))] := hs
    obtain ⟨xs75, ha76, hm66⟩ := bind_some hm66
    refine sAppendL (i := 3) (xs := xs42) (ys := [r69.1]) (enc := ints) hf hs rfl rfl rfl rfl rfl rfl hn46 rfl rfl ha76 el28 ti2 rfl rfl rfl (hs.rd (i := 5) rfl) (Nat.succ_pos _) ints_len1 ints_append ints_one ?_; clear hf hs; intro a w A73 c74 hs hf
    have hs : St _ W w [_, _, _, .row A73 xs75.length c74 2 1 (ints xs75), _, _] := hs
    refine sY hf hs rfl rfl rfl (Y_assign rfl rfl) ?_; clear hf; intro a hf
    refine wpO_nil ?_
    refine wpL_nil (Qb_normal ?_)
    refine wpL_region ?_
    refine sY hf hs rfl rfl rfl (Y_move rfl rfl) ?_; clear hf; intro a hf
    refine sY hf hs rfl rfl rfl (Y_add rfl rfl rfl) ?_; clear hf; intro a hf
    refine sY hf hs rfl rfl rfl (Y_assign rfl rfl) ?_; clear hf; intro a hf
    refine wpO_nil ?_
    refine wpL_nil (Ql_normal ?_)
    exact ⟨r69.2.1, r69.2.2, xs75, (IntKind.i64.wrap (x47 + 1)), A73, xs75.length, c74, hm66, rfl, (FrD.pick (FrD.pick (FrD.pick (FrD.pick (FrD.pick (FrD.pick hf.none hf rfl) hf rfl) hf rfl) hf rfl) hf rfl) hf rfl), hs.sel [0, 4, 1, 2, 3] (by decide)⟩
   ·have hm66 := bif_f hm66 hb68
    refine wpL_exit (Ql_exit (Qb_exit ?_))
    exact ⟨x40, x41, xs42, A43, n44, c45, Option.some.inj hm66, hn46, (FrD.pick (FrD.pick (FrD.pick (FrD.pick (FrD.pick hf.none hf rfl) hf rfl) hf rfl) hf rfl) hf rfl), hs⟩
 ·rintro a w ⟨x57, x58, xs59, A60, n61, c62, hr_, hn63, hf, hs⟩
  subst hr_
  try dsimp only at hm
  refine wpL_seq <| wpL_seq <| wpL_region ?_
  refine sY hf hs rfl rfl rfl (Y_move rfl rfl) ?_; clear hf; intro a hf
  obtain ⟨r77, hc78, hm⟩ := bind_some hm
  refine sCall hf rfl rfl rfl rfl (cap := []) rfl rfl en93 (spec_l01Next_ok F b4 ac ao ac.length ar rfl x57 x58 20 _ _ hc78 (bb.pass hs [1]) (hs.sel [1] (by decide)).rebase) ?_; clear hf
  rintro _ w ⟨rfl, hs1⟩ a hf
  have hs : St _ W w [_, _, _, _, .blk b4 149 [.slice ao ac.length ar, .int .i64 r77.2.1, .int .i64 r77.2.2]] := St.mutTail (La := [_, _, _, _]) (Lb := [_]) (hs.sel [0, 2, 3, 4, 1] (by decide)) hs1
  clear hs1
  refine sY hf hs rfl rfl rfl (Y_eql rfl rfl rfl) ?_; clear hf; intro a hf
  refine wpO_nil ?_
  obtain ⟨r95, hj96, hm⟩ := bind_some hm
  refine wpL_cut (fun a w => ∃ xs90 : List Int, ∃ A91, ∃ n92, ∃ c93, xs90 = r95 ∧ n92 = xs90.length ∧ Fr a 41 [(2, .pointer (some ⟨b1, 0, none⟩)), (6, .pointer (some ⟨b11, 0, none⟩)), (7, .int .i64 r5.1.2), (8, .slice A91 n92 c93)] ∧ St [] W w [.blk b1 55 [.int .i64 0, .slice none 0 0], .blk b11 55 [.int .i64 r5.1.1.Events, .slice A7 n8 c9], .row A7 n8 c9 64 4 ((recs GPlace.cells) r5.1.1.Places), .row A91 n92 c93 2 1 (ints xs90)]) ?_ ?_
  ·refine wpL_cond hf rfl (fun hb97 => ?_) (fun hb97 => ?_)
   ·have hj96 := bif_t hj96 hb97
    refine wpL_region ?_
    refine sY hf hs rfl rfl rfl (Y_move rfl rfl) ?_; clear hf; intro a hf
    refine sY hf hs rfl rfl rfl (Y_move rfl rfl) ?_; clear hf; intro a hf
    refine sBuildSlice (parts := [(0, .const (.int .i64 0)), (1, .const (.int .i64 (-1)))]) (vs := [.int .i64 0, .int .i64 (-1)]) (cells := [.int .i64 0, .int .i64 (-1)]) hf hs rfl rfl rfl rfl rfl el28 ti2 rfl rfl rfl rfl ?_; clear hf hs; intro a w A98 hs hA99 hf
    have hs : St _ W w [_, _, _, _, _, .row A98 2 2 2 1 (ints ([0, (-1)]))] := hs
    obtain ⟨r100, hc101, hj96⟩ := bind_some hj96
    refine sCall hf rfl rfl rfl rfl (cap := []) rfl rfl en109 (spec_l01Pick_ok F b4 ac ao ac.length ar rfl r77.2.1 r77.2.2 ([0, (-1)]) A98 2 2 rfl _ _ hc101 (bb.pass hs [4]) (hs.keepR (i := 5) rfl [4] (by decide)) (hs.sel [4] (by decide)).rebase) ?_; clear hf
    rintro _ w ⟨rfl, hs1⟩ a hf
    have hs : St _ W w [_, _, _, _, _, .blk b4 149 [.slice ao ac.length ar, .int .i64 r100.2.1, .int .i64 r100.2.2]] := St.mutTail (La := [_, _, _, _, _]) (Lb := [_]) (hs.sel [0, 1, 2, 3, 5, 4] (by decide)) hs1
    clear hs1
    refine sBuildSlice (parts := [(0, .tmp 35)]) (vs := [.int .i64 r100.1]) (cells := [.int .i64 r100.1]) hf hs rfl rfl rfl rfl rfl el28 ti2 rfl rfl rfl rfl ?_; clear hf hs; intro a w A102 hs hA103 hf
    have hs : St _ W w [_, _, _, _, _, _, .row A102 1 1 2 1 (ints ([r100.1]))] := hs
    obtain ⟨xs106, ha107, hj96⟩ := bind_some hj96
    refine sAppendL (i := 3) (xs := xs59) (ys := [r100.1]) (enc := ints) hf hs rfl rfl rfl rfl rfl rfl hn63 rfl rfl ha107 el28 ti2 rfl rfl rfl (hs.rd (i := 6) rfl) (Nat.succ_pos _) ints_len1 ints_append ints_one ?_; clear hf hs; intro a w A104 c105 hs hf
    have hs : St _ W w [_, _, _, .row A104 xs106.length c105 2 1 (ints xs106), _, _, _] := hs
    refine sY hf hs rfl rfl rfl (Y_assign rfl rfl) ?_; clear hf; intro a hf
    refine wpO_nil ?_
    refine wpL_nil (then_normal ?_)
    exact ⟨xs106, A104, xs106.length, c105, Option.some.inj hj96, rfl, (FrD.pick (FrD.pick (FrD.pick (FrD.pick hf.none hf rfl) hf rfl) hf rfl) hf rfl), hs.sel [0, 1, 2, 3] (by decide)⟩
   ·have hj96 := bif_f hj96 hb97
    refine wpL_skip ?_
    refine wpL_nil (then_normal ?_)
    exact ⟨xs59, A60, n61, c62, Option.some.inj hj96, hn63, (FrD.pick (FrD.pick (FrD.pick (FrD.pick hf.none hf rfl) hf rfl) hf rfl) hf rfl), hs.sel [0, 1, 2, 3] (by decide)⟩
  ·rintro a w ⟨xs90, A91, n92, c93, hr_, hn94, hf, hs⟩
   subst hr_
   try dsimp only at hm
   refine wpL_seq <| wpL_region ?_
   refine sY hf hs rfl rfl rfl (Y_load_blkS rfl rfl (i := 1) rfl ag55 ti55 rfl) ?_; clear hf; intro a hf
   refine sY hf hs rfl rfl rfl (Y_move rfl rfl) ?_; clear hf; intro a hf
   refine sY hf hs rfl rfl rfl (Y_move rfl rfl) ?_; clear hf; intro a hf
   refine sStore (i := 0) (us := [.int .i64 r5.1.1.Events, .slice A7 n8 c9]) hf hs rfl rfl rfl rfl rfl rfl ti55 rfl rfl rfl (Nat.le_of_ble_eq_true rfl) rfl ?_; clear hs; intro w hs
   have hs : St _ W w [.blk b1 55 [.int .i64 r5.1.1.Events, .slice A7 n8 c9], _, _, _] := hs
   refine sY hf hs rfl rfl rfl (Y_assign rfl rfl) ?_; clear hf; intro a hf
   refine sY hf hs rfl rfl rfl (Y_assign rfl rfl) ?_; clear hf; intro a hf
   refine wpO_nil ?_
   obtain rfl := Option.some.inj hm
   refine wpL_ret (ret_cell_tmp2 rfl hf rfl rfl rfl hs (i := 0) rfl ag55 ti55 rfl ?_)
   exact ⟨_, rfl, A7, n8, c9, A91, n92, c93, rfl, hn10, hn94, hs.sel [2, 3] (by decide)⟩

set_option maxRecDepth 100000 in
theorem impl_matrixBy_ok (F : Nat) (cf : Int) (aJ : Int) (bN : Int → Int → Option Int) (bG : FuncId) (bH : List Value) (r : List (List Int)) (W : World) (hm : impl_matrixBy F cf aJ bN = some r) (cN : ∀ (x0 : Int) (x1 : Int) (r : Int) (w : World), bN x0 x1 = some r → Below W.heap.size W w → Calls Try.prog bG (([.int .i64 x0, .int .i64 x1] : List Value) ++ bH).toArray w fun e w' => ∃ v, e = .returned v ∧ v = .int .i64 r ∧ St [] w w' []) (cO : En Try.prog bG) :
  Calls Try.prog 111 [.int .i64 cf, .int .i64 aJ, .func (.func bG) #[] bH.toArray].toArray W fun e w' => ∃ v, e = .returned v ∧ ∃ A641, ∃ n642, ∃ c643, ∃ vs645, v = .slice A641 n642 c643 ∧ n642 = r.length ∧ St [] W w' [.mat A641 n642 c643 28 2 vs645 r] := by
 unfold impl_matrixBy at hm
 refine Calls.enter (N := 43) Try.func111 rfl rfl rfl (fun a hf => ?_)
 have hs := St.start W
 obtain ⟨w, hw_⟩ : ∃ w, w = W := ⟨W, rfl⟩
 clear hw_ w
 refine wpL_seq <| wpL_region ?_
 refine sY hf hs rfl rfl rfl (Y_assign rfl rfl) ?_; clear hf; intro a hf
 refine wpO_nil <| wpL_seq <| wpL_region ?_
 refine sY hf hs rfl rfl rfl (Y_move rfl rfl) ?_; clear hf; intro a hf
 obtain ⟨ms3, hk2, hm⟩ := bind_some hm
 refine sMakeM 2 hf hs rfl rfl rfl rfl rfl hk2 el40 ti28 rfl ?_; clear hf hs; intro a w A1 vs4 hs hf
 have hs : St _ W w [.mat A1 ms3.length ms3.length 28 2 vs4 ms3] := hs
 refine sY hf hs rfl rfl rfl (Y_assign rfl rfl) ?_; clear hf; intro a hf
 refine wpO_nil <| wpL_seq <| wpL_seq <| wpL_region ?_
 refine sY hf hs rfl rfl rfl (Y_move rfl rfl) ?_; clear hf; intro a hf
 refine sY hf hs rfl rfl rfl (Y_lenH rfl rfl el40 rfl) ?_; clear hf; intro a hf
 refine sY hf hs rfl rfl rfl (Y_move rfl rfl) ?_; clear hf; intro a hf
 refine wpO_nil ?_
 obtain ⟨r484, hl485, hm⟩ := bind_some hm
 refine wpL_block (fun a w => ∃ ms478 : List (List Int), ∃ A479, ∃ n480, ∃ c481, ∃ vs483, ms478 = r484 ∧ n480 = ms478.length ∧ Fr a 43 [(7, .slice A479 n480 c481)] ∧ St [] W w [.mat A479 n480 c481 28 2 vs483 ms478]) ?_ ?_
 ·refine wpL_loop (fun n a w => ∃ ms318 : List (List Int), ∃ x324 : Int, ∃ A319, ∃ n320, ∃ c321, ∃ vs323, impl_matrixBy_L4 F aJ bN ms3 n ms318 x324 = some r484 ∧ n320 = ms318.length ∧ Fr a 43 [(1, .int .i64 aJ), (2, .func (.func bG) #[] bH.toArray), (7, .slice A319 n320 c321), (13, .int .i64 (ms3.length : Int)), (14, .int .i64 x324)] ∧ St [] W w [.mat A319 n320 c321 28 2 vs323 ms318]) F ?_ ?_ ?_
  ·exact ⟨ms3, 0, A1, ms3.length, ms3.length, vs4, hl485, rfl, (FrD.pick (FrD.pick (FrD.pick (FrD.pick (FrD.pick hf.none hf rfl) hf rfl) hf rfl) hf rfl) hf rfl), hs⟩
  ·rintro a w ⟨ms318, x324, A319, n320, c321, vs323, h0_, -, -, -⟩; simp [impl_matrixBy_L4] at h0_
  ·rintro n487 a w ⟨ms318, x324, A319, n320, c321, vs323, hm486, hn322, hf, hs⟩
   rw [impl_matrixBy_L4] at hm486
   refine wpL_seq <| wpL_region ?_
   refine sY hf hs rfl rfl rfl (Y_lss rfl rfl rfl) ?_; clear hf; intro a hf
   refine wpO_nil <| wpL_seq ?_
   refine wpL_cond hf rfl (fun hb488 => ?_) (fun hb488 => ?_)
   ·have hm486 := bif_t hm486 hb488
    refine wpL_skip <| wpL_seq <| wpL_block0 <| wpL_seq <| wpL_region ?_
    refine sY hf hs rfl rfl rfl (Y_move rfl rfl) ?_; clear hf; intro a hf
    refine sY hf hs rfl rfl rfl (Y_assign rfl rfl) ?_; clear hf; intro a hf
    refine wpO_nil <| wpL_seq <| wpL_region ?_
    refine sY hf hs rfl rfl rfl (Y_move rfl rfl) ?_; clear hf; intro a hf
    refine sY hf hs rfl rfl rfl (Y_move rfl rfl) ?_; clear hf; intro a hf
    refine sY hf hs rfl rfl rfl (Y_move rfl rfl) ?_; clear hf; intro a hf
    obtain ⟨xs491, hk490, hm486⟩ := bind_some hm486
    refine sMakeL (enc := ints) hf hs rfl rfl rfl rfl rfl hk490 el28 ti2 rfl ints_made ?_; clear hf hs; intro a w A489 hs hf
    have hs : St _ W w [_, .row A489 xs491.length xs491.length 2 1 (ints xs491)] := hs
    obtain ⟨q492, hi493, hm486⟩ := bind_some hm486
    obtain ⟨hi493a, hi493b, hi493q⟩ := idx_some hi493
    obtain ⟨A494, c495, hv496⟩ := hs.matRow (i := 0) rfl hi493q
    refine sY hf hs rfl rfl rfl (Y_index rfl rfl rfl el40 ti28 (Rd.isAt (hs.rdV (i := 0) rfl) hv496) hi493a (ltn hn322 hi493b)) ?_; clear hf; intro a hf
    obtain ⟨ms497, hu498, hm486⟩ := bind_some hm486
    refine sStoreRowM (i := 0) (j := 1) (k := x324) hf hs rfl rfl rfl rfl rfl rfl rfl (by decide) rfl hu498 ti28 ?_; clear hs; intro w vs499 hs
    have hs : St _ W w [.mat A319 n320 c321 28 2 vs499 ms497] := hs
    refine wpO_nil <| wpL_seq <| wpL_region ?_
    refine sY hf hs rfl rfl rfl (Y_move rfl rfl) ?_; clear hf; intro a hf
    refine sY hf hs rfl rfl rfl (Y_move rfl rfl) ?_; clear hf; intro a hf
    obtain ⟨q500, hi501, hm486⟩ := bind_some hm486
    obtain ⟨hi501a, hi501b, hi501q⟩ := idx_some hi501
    obtain ⟨A502, c503, hv504⟩ := hs.matRow (i := 0) rfl hi501q
    refine sY hf hs rfl rfl rfl (Y_index rfl rfl rfl el40 ti28 (Rd.isAt (hs.rdV (i := 0) rfl) hv504) hi501a (ltn ((hn322).trans (upd_len hu498).symm) hi501b)) ?_; clear hf; intro a hf
    refine sY hf hs rfl rfl rfl (Y_load_rd rfl rfl (fun w hs => hs.rdV (i := 0) rfl) (at1 hv504) ag28) ?_; clear hf; intro a hf
    refine sY hf hs rfl rfl rfl (Y_lenH rfl rfl el28 rfl) ?_; clear hf; intro a hf
    refine sY hf hs rfl rfl rfl (Y_move rfl rfl) ?_; clear hf; intro a hf
    refine wpO_nil ?_
    obtain ⟨r606, hl607, hm486⟩ := bind_some hm486
    refine wpL_block (fun a w => ∃ ms604 : List (List Int), ms604 = r606 ∧ n320 = ms604.length ∧ Fr a 43 [(1, .int .i64 aJ), (2, .func (.func bG) #[] bH.toArray), (7, .slice A319 n320 c321), (13, .int .i64 (ms3.length : Int)), (14, .int .i64 x324)] ∧ St [] W w [.mat A319 n320 c321 28 2 vs499 ms604]) ?_ ?_
    ·refine wpL_loop (fun n a w => ∃ ms570 : List (List Int), ∃ x572 : Int, impl_matrixBy_L5 F bN x324 q500 n ms570 x572 = some r606 ∧ n320 = ms570.length ∧ Fr a 43 [(1, .int .i64 aJ), (2, .func (.func bG) #[] bH.toArray), (7, .slice A319 n320 c321), (8, .int .i64 x324), (13, .int .i64 (ms3.length : Int)), (14, .int .i64 x324), (26, .int .i64 (q500.length : Int)), (27, .int .i64 x572)] ∧ St [] W w [.mat A319 n320 c321 28 2 vs499 ms570]) F ?_ ?_ ?_
     ·exact ⟨ms497, 0, hl607, ((hn322).trans (upd_len hu498).symm), (FrD.pick (FrD.pick (FrD.pick (FrD.pick (FrD.pick (FrD.pick (FrD.pick (FrD.pick hf.none hf rfl) hf rfl) hf rfl) hf rfl) hf rfl) hf rfl) hf rfl) hf rfl), hs⟩
     ·rintro a w ⟨ms570, x572, h0_, -, -, -⟩; simp [impl_matrixBy_L5] at h0_
     ·rintro n609 a w ⟨ms570, x572, hm608, hn571, hf, hs⟩
      rw [impl_matrixBy_L5] at hm608
      refine wpL_seq <| wpL_region ?_
      refine sY hf hs rfl rfl rfl (Y_lss rfl rfl rfl) ?_; clear hf; intro a hf
      refine wpO_nil <| wpL_seq ?_
      refine wpL_cond hf rfl (fun hb610 => ?_) (fun hb610 => ?_)
      ·have hm608 := bif_t hm608 hb610
       refine wpL_skip <| wpL_seq <| wpL_block0 <| wpL_seq <| wpL_region ?_
       refine sY hf hs rfl rfl rfl (Y_move rfl rfl) ?_; clear hf; intro a hf
       refine sY hf hs rfl rfl rfl (Y_assign rfl rfl) ?_; clear hf; intro a hf
       refine wpO_nil ?_
       refine wpL_drawM [.mat A319 n320 c321 28 2 vs499 ms570] [10] (by kernel_rfl) hs ?_; clear hs; intro w hs
       have hs0 : St _ W w [_] := hs
       refine mYp (i := 0) rfl (by kernel_rfl) (by kernel_rfl) hf rfl rfl rfl (fun _ => Y_move rfl rfl) ?_; clear hf; intro a hf
       refine mYp (i := 1) rfl (by kernel_rfl) (by kernel_rfl) hf rfl rfl rfl (fun _ => Y_move rfl rfl) ?_; clear hf; intro a hf
       obtain ⟨q626, hi627, hm608⟩ := bind_some hm608
       obtain ⟨hi627a, hi627b, hi627q⟩ := idx_some hi627
       obtain ⟨A628, c629, hv630⟩ := hs.matRow (i := 0) rfl hi627q
       refine mYp (i := 2) rfl (by kernel_rfl) (by kernel_rfl) hf rfl rfl rfl (fun _ => Y_index rfl rfl rfl el40 ti28 (Rd.isAt (hs.rdV (i := 0) rfl) hv630) hi627a (ltn hn571 hi627b)) ?_; clear hf; intro a hf
       refine mY (i := 3) [[]] rfl (by kernel_rfl) (by kernel_rfl) hf hs0 rfl rfl rfl (Y_load_rd rfl rfl (fun w hs => hs.rdV (i := 0) rfl) (at1 hv630) ag28) ?_; clear hf; intro a hf
       refine mYp (i := 4) rfl (by kernel_rfl) (by kernel_rfl) hf rfl rfl rfl (fun _ => Y_move rfl rfl) ?_; clear hf; intro a hf
       refine mYp (i := 5) rfl (by kernel_rfl) (by kernel_rfl) hf rfl rfl rfl (fun _ => Y_move rfl rfl) ?_; clear hf; intro a hf
       refine mYp (i := 6) rfl (by kernel_rfl) (by kernel_rfl) hf rfl rfl rfl (fun _ => Y_move rfl rfl) ?_; clear hf; intro a hf
       refine mYp (i := 7) rfl (by kernel_rfl) (by kernel_rfl) hf rfl rfl rfl (fun _ => Y_move rfl rfl) ?_; clear hf; intro a hf
       refine mRun (i := 8) rfl (by kernel_rfl) ?_
       obtain ⟨r631, hc632, hm608⟩ := bind_some hm608
       refine sCall hf rfl rfl rfl rfl (cap := bH) rfl rfl cO (cN x324 x572 _ _ hc632 hs.below) ?_; clear hf; rintro _ w ⟨rfl, hs1⟩ a hf; have hs := hs.ext hs1.below; clear hs1
       have hs0 : St _ W w [_] := hs
       refine wpO_nil ⟨Or.inr (fun _ => hs0), ?_⟩
       obtain ⟨q633, hi634, hm608⟩ := bind_some hm608
       obtain ⟨hi634a, hi634b, hi634q⟩ := idx_some hi634
       refine mYp (i := 9) rfl (by kernel_rfl) (by kernel_rfl) hf rfl rfl rfl (fun _ => Y_index rfl rfl rfl el28 ti2 (Rd.isAt (hs.rdRow (i := 0) rfl ⟨hi627q, hv630⟩) (at1 (ints_at hi634q))) hi634a hi634b) ?_; clear hf; intro a hf
       refine mRun (i := 10) rfl (by kernel_rfl) ?_
       obtain ⟨xs635, hu637, hm608⟩ := bind_some hm608
       obtain ⟨ms636, hu638, hm608⟩ := bind_some hm608
       refine sStoreM (i := 0) (k := x324) hf hs rfl rfl rfl rfl rfl rfl hi627q hv630 rfl hu637 hu638 ti2 ?_; clear hs; intro w hs
       obtain ⟨hq639, hv640⟩ := rowUpd hu637 hu638 hv630
       have hs : St _ W w [.mat A319 n320 c321 28 2 vs499 ms636] := hs
       refine wpO_nil ⟨Or.inl (by decide), ?_⟩
       refine mDone (by kernel_rfl) ?_
       clear hs0
       refine wpL_nil (Qb_normal ?_)
       refine wpL_region ?_
       refine sY hf hs rfl rfl rfl (Y_add rfl rfl rfl) ?_; clear hf; intro a hf
       refine sY hf hs rfl rfl rfl (Y_move rfl rfl) ?_; clear hf; intro a hf
       refine wpO_nil ?_
       refine wpL_nil (Ql_normal ?_)
       exact ⟨ms636, (IntKind.i64.wrap (x572 + 1)), hm608, ((hn571).trans (upd_len hu638).symm), (FrD.pick (FrD.pick (FrD.pick (FrD.pick (FrD.pick (FrD.pick (FrD.pick (FrD.pick hf.none hf rfl) hf rfl) hf rfl) hf rfl) hf rfl) hf rfl) hf rfl) hf rfl), hs⟩
      ·have hm608 := bif_f hm608 hb610
       refine wpL_exit (Ql_exit (Qb_exit ?_))
       exact ⟨ms570, Option.some.inj hm608, hn571, (FrD.pick (FrD.pick (FrD.pick (FrD.pick (FrD.pick hf.none hf rfl) hf rfl) hf rfl) hf rfl) hf rfl), hs⟩
    ·rintro a w ⟨ms604, hr_, hn605, hf, hs⟩
     subst hr_
     try dsimp only at hm486
     refine wpL_nil (Qb_normal ?_)
     refine wpL_region ?_
     refine sY hf hs rfl rfl rfl (Y_add rfl rfl rfl) ?_; clear hf; intro a hf
     refine sY hf hs rfl rfl rfl (Y_move rfl rfl) ?_; clear hf; intro a hf
     refine wpO_nil ?_
     refine wpL_nil (Ql_normal ?_)
     exact ⟨ms604, (IntKind.i64.wrap (x324 + 1)), A319, n320, c321, vs499, hm486, hn605, (FrD.pick (FrD.pick (FrD.pick (FrD.pick (FrD.pick hf.none hf rfl) hf rfl) hf rfl) hf rfl) hf rfl), hs⟩
   ·have hm486 := bif_f hm486 hb488
    refine wpL_exit (Ql_exit (Qb_exit ?_))
    exact ⟨ms318, A319, n320, c321, vs323, Option.some.inj hm486, hn322, (FrD.pick hf.none hf rfl), hs⟩
 ·rintro a w ⟨ms478, A479, n480, c481, vs483, hr_, hn482, hf, hs⟩
  subst hr_
  try dsimp only at hm
  refine wpL_seq <| wpL_region ?_
  refine sY hf hs rfl rfl rfl (Y_move rfl rfl) ?_; clear hf; intro a hf
  refine sY hf hs rfl rfl rfl (Y_assign rfl rfl) ?_; clear hf; intro a hf
  refine wpO_nil ?_
  obtain rfl := Option.some.inj hm
  refine wpL_ret (ret_tmp rfl hf rfl ?_)
  exact ⟨_, rfl, A479, n480, c481, vs483, rfl, hn482, hs⟩

set_option maxRecDepth 100000 in
theorem impl_DueOfLast_c1_ok (F : Nat) (p0 : Int) (p1 : Int) (r : Int) (W : World) (hm : impl_DueOfLast_c1 F p0 p1 = some r) :
  Calls Try.prog 112 [.int .i64 p0, .int .i64 p1].toArray W fun e w' => ∃ v, e = .returned v ∧ v = .int .i64 r ∧ St [] W w' [] := by
 unfold impl_DueOfLast_c1 at hm
 refine Calls.enter (N := 5) Try.func112 rfl rfl rfl (fun a hf => ?_)
 have hs := St.start W
 obtain ⟨w, hw_⟩ : ∃ w, w = W := ⟨W, rfl⟩
 clear hw_ w
 refine wpL_seq <| wpL_region ?_
 refine sY hf hs rfl rfl rfl (Y_assign rfl rfl) ?_; clear hf; intro a hf
 refine wpO_nil <| wpL_seq <| wpL_region ?_
 refine sY hf hs rfl rfl rfl (Y_assign rfl rfl) ?_; clear hf; intro a hf
 refine wpO_nil ?_
 obtain rfl := Option.some.inj hm
 refine wpL_ret (ret_tmp rfl hf rfl ?_)
 exact ⟨_, rfl, rfl, hs⟩

set_option maxRecDepth 100000 in
theorem impl_DueOfLast_ok (F : Nat) (ae : GEventGraph) (ad : Option Addr) (ap af : Nat) (aw : ap = ae.Places.length) (aJ : Int) (aW : List Int) (aL : Option Addr) (bK aV : Nat) (bW : bK = aW.length) (r : List (List Int) × Int) (W : World) (hm : impl_DueOfLast F ae aJ aW = some r) (au : Rd W ad ((recs GPlace.cells) ae.Places)) (bL : Rd W aL (ints aW)) :
  Calls Try.prog 47 [.agg #[.int .i64 ae.Events, .slice ad ap af], .int .i64 aJ, .slice aL bK aV].toArray W fun e w' => ∃ v, e = .returned v ∧ ∃ A37, ∃ n38, ∃ c39, ∃ vs41, v = .tuple #[.slice A37 n38 c39, .int .i64 r.2] ∧ n38 = r.1.length ∧ St [] W w' [.mat A37 n38 c39 28 2 vs41 r.1] := by
 subst aw
 subst bW
 unfold impl_DueOfLast at hm
 refine Calls.enter (N := 39) Try.func47 rfl rfl rfl (fun a hf => ?_)
 have hs := St.start W
 obtain ⟨w, hw_⟩ : ∃ w, w = W := ⟨W, rfl⟩
 clear hw_ w
 refine wpL_seq <| wpL_region ?_
 refine sBox hf hs rfl rfl rfl rfl rfl (cs := [.int .i64 ae.Events, .slice ad ae.Places.length af]) rfl ?_; clear hf hs; intro a w b1 hs hf
 have hs : St _ W w [.blk b1 55 [.int .i64 ae.Events, .slice ad ae.Places.length af]] := hs
 refine sY hf hs rfl rfl rfl (Y_assign rfl rfl) ?_; clear hf; intro a hf
 refine sY hf hs rfl rfl rfl (Y_assign rfl rfl) ?_; clear hf; intro a hf
 refine wpO_nil <| wpL_seq <| wpL_seq <| wpL_region ?_
 refine sY hf hs rfl rfl rfl (Y_load_blkS rfl rfl (i := 0) rfl ag55 ti55 rfl) ?_; clear hf; intro a hf
 obtain ⟨r2, hc3, hm⟩ := bind_some hm
 refine sCall hf rfl rfl rfl rfl (cap := []) rfl rfl en110 (impl_IsEventGraph_ok F ae ad ae.Places.length af rfl _ _ hc3 (au.at hs)) ?_; clear hf
 rintro _ w ⟨rfl, hs1⟩ a hf
 have hs : St _ W w [_] := hs.ext hs1.below
 clear hs1
 refine sY hf hs rfl rfl rfl (Y_not rfl rfl) ?_; clear hf; intro a hf
 refine wpO_nil ?_
 refine wpL_cond hf rfl (fun hb4 => ?_) (fun hb4 => ?_)
 ·have hm := bif_t hm hb4
  refine wpL_seq <| wpL_region ?_
  refine sY hf hs rfl rfl rfl (Y_assign rfl rfl) ?_; clear hf; intro a hf
  refine sY hf hs rfl rfl rfl (Y_assign rfl rfl) ?_; clear hf; intro a hf
  refine wpO_nil ?_
  have hs : St [] W _ [.blk b1 55 [.int .i64 ae.Events, .slice ad ae.Places.length af], .mat none 0 0 28 2 [] ([] : List (List Int))] := hs.addNilM 28 2
  obtain rfl := Option.some.inj hm
  refine wpL_ret (ret_tmp2 rfl hf rfl rfl ?_)
  exact ⟨_, rfl, none, 0, 0, [], rfl, rfl, hs.sel [1] (by decide)⟩
 ·have hm := bif_f hm hb4
  refine wpL_skip <| wpL_seq <| wpL_seq ?_
  obtain ⟨r13, hj14, hm⟩ := bind_some hm
  refine wpL_cut (fun a w => ∃ b12 : Bool, b12 = r13 ∧ Fr a 39 [(1, .int .i64 aJ), (2, .slice aL aW.length aV), (26, .bool b12)] ∧ St [] W w []) ?_ ?_
  ·refine wpL_region ?_
   refine sY hf hs rfl rfl rfl (Y_move rfl rfl) ?_; clear hf; intro a hf
   obtain ⟨r15, hc16, hj14⟩ := bind_some hj14
   refine sCall hf rfl rfl rfl rfl (cap := []) rfl rfl en71 (impl_within_ok F aJ 1 50 _ _ hc16) ?_; clear hf
   rintro _ w ⟨rfl, hs1⟩ a hf
   have hs : St _ W w [_] := hs.ext hs1.below
   clear hs1
   refine sY hf hs rfl rfl rfl (Y_not rfl rfl) ?_; clear hf; intro a hf
   refine sY hf hs rfl rfl rfl (Y_move rfl rfl) ?_; clear hf; intro a hf
   refine bsplit (!r15) (fun hb17 => ?_) (fun hb17 => ?_)
   ·have hj14 := bif_t hj14 hb17
    refine sNo hf rfl rfl rfl (congrArg (fun b => some (Value.bool b)) hb17) rfl rfl rfl ?_; clear hf; intro a hf
    refine sNo hf rfl rfl rfl (congrArg (fun b => some (Value.bool b)) hb17) rfl rfl rfl ?_; clear hf; intro a hf
    refine sNo hf rfl rfl rfl (congrArg (fun b => some (Value.bool b)) hb17) rfl rfl rfl ?_; clear hf; intro a hf
    refine sNo hf rfl rfl rfl (congrArg (fun b => some (Value.bool b)) hb17) rfl rfl rfl ?_; clear hf; intro a hf
    refine sNo hf rfl rfl rfl (congrArg (fun b => some (Value.bool b)) hb17) rfl rfl rfl ?_; clear hf; intro a hf
    refine sY hf hs rfl rfl rfl (Y_pickT rfl (congrArg (fun b => some (Value.bool b)) hb17) rfl) ?_; clear hf; intro a hf
    refine sY hf hs rfl rfl rfl (Y_move rfl rfl) ?_; clear hf; intro a hf
    refine sNo hf rfl rfl rfl rfl rfl rfl rfl ?_; clear hf; intro a hf
    refine sNo hf rfl rfl rfl rfl rfl rfl rfl ?_; clear hf; intro a hf
    refine sNo hf rfl rfl rfl rfl rfl rfl rfl ?_; clear hf; intro a hf
    refine sY hf hs rfl rfl rfl (Y_pickT rfl rfl rfl) ?_; clear hf; intro a hf
    refine wpO_nil ?_
    refine wpL_nil (then_normal ?_)
    exact ⟨true, Option.some.inj hj14, (FrD.pick (FrD.pick (FrD.pick hf.none hf rfl) hf rfl) hf rfl), hs.sel [] (by decide)⟩
   ·have hj14 := bif_f hj14 hb17
    refine sYg hf hs rfl rfl rfl (congrArg (fun b => some (Value.bool b)) hb17) rfl rfl rfl (Y_move rfl rfl) ?_; clear hf; intro a hf
    refine sYg hf hs rfl rfl rfl (congrArg (fun b => some (Value.bool b)) hb17) rfl rfl rfl (Y_lenH rfl rfl el28 rfl) ?_; clear hf; intro a hf
    refine sYg hf hs rfl rfl rfl (congrArg (fun b => some (Value.bool b)) hb17) rfl rfl rfl (Y_fieldAddr rfl rfl fo55_0) ?_; clear hf; intro a hf
    refine sYg hf hs rfl rfl rfl (congrArg (fun b => some (Value.bool b)) hb17) rfl rfl rfl (Y_load_blk rfl rfl (i := 0) rfl rfl ag2) ?_; clear hf; intro a hf
    refine sYg hf hs rfl rfl rfl (congrArg (fun b => some (Value.bool b)) hb17) rfl rfl rfl (Y_neq rfl rfl rfl) ?_; clear hf; intro a hf
    refine sY hf hs rfl rfl rfl (Y_pickF rfl (congrArg (fun b => some (Value.bool b)) hb17) rfl) ?_; clear hf; intro a hf
    refine sY hf hs rfl rfl rfl (Y_move rfl rfl) ?_; clear hf; intro a hf
    refine bsplit ((aW.length : Int) != ae.Events) (fun hb18 => ?_) (fun hb18 => ?_)
    ·have hj14 := bif_t hj14 hb18
     refine sNo hf rfl rfl rfl (congrArg (fun b => some (Value.bool b)) hb18) rfl rfl rfl ?_; clear hf; intro a hf
     refine sNo hf rfl rfl rfl (congrArg (fun b => some (Value.bool b)) hb18) rfl rfl rfl ?_; clear hf; intro a hf
     refine sNo hf rfl rfl rfl (congrArg (fun b => some (Value.bool b)) hb18) rfl rfl rfl ?_; clear hf; intro a hf
     refine sY hf hs rfl rfl rfl (Y_pickT rfl (congrArg (fun b => some (Value.bool b)) hb18) rfl) ?_; clear hf; intro a hf
     refine wpO_nil ?_
     refine wpL_nil (then_normal ?_)
     exact ⟨true, Option.some.inj hj14, (FrD.pick (FrD.pick (FrD.pick hf.none hf rfl) hf rfl) hf rfl), hs.sel [] (by decide)⟩
    ·have hj14 := bif_f hj14 hb18
     refine sYg hf hs rfl rfl rfl (congrArg (fun b => some (Value.bool b)) hb18) rfl rfl rfl (Y_move rfl rfl) ?_; clear hf; intro a hf
     obtain ⟨r19, hc20, hj14⟩ := bind_some hj14
     refine sCallg hf rfl rfl rfl (congrArg (fun b => some (Value.bool b)) hb18) rfl rfl rfl rfl (cap := []) rfl rfl en74 (impl_allWithin_ok F aW aL aW.length aV rfl 0 1000000 _ _ hc20 (bL.at hs)) ?_; clear hf
     rintro _ w ⟨rfl, hs1⟩ a hf
     have hs : St _ W w [_] := hs.ext hs1.below
     clear hs1
     refine sYg hf hs rfl rfl rfl (congrArg (fun b => some (Value.bool b)) hb18) rfl rfl rfl (Y_not rfl rfl) ?_; clear hf; intro a hf
     refine sY hf hs rfl rfl rfl (Y_pickF rfl (congrArg (fun b => some (Value.bool b)) hb18) rfl) ?_; clear hf; intro a hf
     refine wpO_nil ?_
     refine wpL_nil (then_normal ?_)
     exact ⟨(!r19), Option.some.inj hj14, (FrD.pick (FrD.pick (FrD.pick hf.none hf rfl) hf rfl) hf rfl), hs.sel [] (by decide)⟩
  ·rintro a w ⟨b12, hr_, hf, hs⟩
   subst hr_
   try dsimp only at hm
   refine wpL_cond hf rfl (fun hb21 => ?_) (fun hb21 => ?_)
   ·have hm := bif_t hm hb21
    refine wpL_seq <| wpL_region ?_
    refine sY hf hs rfl rfl rfl (Y_assign rfl rfl) ?_; clear hf; intro a hf
    refine sY hf hs rfl rfl rfl (Y_assign rfl rfl) ?_; clear hf; intro a hf
    refine wpO_nil ?_
    have hs : St [] W _ [.mat none 0 0 28 2 [] ([] : List (List Int))] := hs.addNilM 28 2
    obtain rfl := Option.some.inj hm
    refine wpL_ret (ret_tmp2 rfl hf rfl rfl ?_)
    exact ⟨_, rfl, none, 0, 0, [], rfl, rfl, hs⟩
   ·have hm := bif_f hm hb21
    refine wpL_skip <| wpL_seq <| wpL_region ?_
    refine sY hf hs rfl rfl rfl (Y_move rfl rfl) ?_; clear hf; intro a hf
    refine sY hf hs rfl rfl rfl (Y_move rfl rfl) ?_; clear hf; intro a hf
    refine sY hf hs rfl rfl rfl (Y_lenH rfl rfl el28 rfl) ?_; clear hf; intro a hf
    obtain ⟨r23, hc24, hm⟩ := bind_some hm
    refine sCall hf rfl rfl rfl rfl (cap := []) rfl rfl en111 (impl_matrixBy_ok F aJ (aW.length : Int) (fun x0 x1 => impl_DueOfLast_c1 F x0 x1) 112 [] _ _ hc24 (fun x0 x1 r w' hm_ hb => impl_DueOfLast_c1_ok F x0 x1 r w' hm_ ) en112) ?_; clear hf
    rintro _ w ⟨A25, n26, c27, vs29, rfl, hn28, hs1⟩ a hf
    have hs : St _ W w [.mat A25 n26 c27 28 2 vs29 r23] := hs.join hs1
    clear hs1
    refine sY hf hs rfl rfl rfl (Y_assign rfl rfl) ?_; clear hf; intro a hf
    refine wpO_nil <| wpL_seq <| wpL_region ?_
    refine sY hf hs rfl rfl rfl (Y_move rfl rfl) ?_; clear hf; intro a hf
    refine sY hf hs rfl rfl rfl (Y_move rfl rfl) ?_; clear hf; intro a hf
    refine sY hf hs rfl rfl rfl (Y_sub rfl rfl rfl) ?_; clear hf; intro a hf
    obtain ⟨q30, hi31, hm⟩ := bind_some hm
    obtain ⟨hi31a, hi31b, hi31q⟩ := idx_some hi31
    obtain ⟨A32, c33, hv34⟩ := hs.matRow (i := 0) rfl hi31q
    refine sY hf hs rfl rfl rfl (Y_index rfl rfl rfl el40 ti28 (Rd.isAt (hs.rdV (i := 0) rfl) hv34) hi31a (ltn hn28 hi31b)) ?_; clear hf; intro a hf
    refine sY hf hs rfl rfl rfl (Y_load_rd rfl rfl (fun w hs => hs.rdV (i := 0) rfl) (at1 hv34) ag28) ?_; clear hf; intro a hf
    refine sY hf hs rfl rfl rfl (Y_move rfl rfl) ?_; clear hf; intro a hf
    obtain ⟨ms35, hu36, hm⟩ := bind_some hm
    refine sCopyM (i := 0) (k := (IntKind.i64.wrap (aJ - 1))) (xs := q30) (ys := aW) hf hs rfl rfl rfl rfl rfl rfl rfl hi31q hv34 rfl rfl el28 ti2 (bL.at hs) hu36 ?_; clear hf hs; intro a w hs hf
    have hs : St _ W w [.mat A25 n26 c27 28 2 vs29 ms35] := hs
    refine wpO_nil <| wpL_seq <| wpL_region ?_
    refine sY hf hs rfl rfl rfl (Y_move rfl rfl) ?_; clear hf; intro a hf
    refine sY hf hs rfl rfl rfl (Y_assign rfl rfl) ?_; clear hf; intro a hf
    refine sY hf hs rfl rfl rfl (Y_assign rfl rfl) ?_; clear hf; intro a hf
    refine wpO_nil ?_
    obtain rfl := Option.some.inj hm
    refine wpL_ret (ret_tmp2 rfl hf rfl rfl ?_)
    exact ⟨_, rfl, A25, n26, c27, vs29, rfl, ((hn28).trans (upd_len hu36).symm), hs⟩

set_option maxRecDepth 100000 in
theorem spec_DueOfLast_ok (F : Nat) (ae : GEventGraph) (ad : Option Addr) (ap af : Nat) (aw : ap = ae.Places.length) (aJ : Int) (aW : List Int) (aL : Option Addr) (bK aV : Nat) (bW : bK = aW.length) (r : List (List Int) × Int) (W : World) (hm : spec_DueOfLast F ae aJ aW = some r) (au : Rd W ad ((recs GPlace.cells) ae.Places)) (bL : Rd W aL (ints aW)) :
  Calls Try.prog 48 [.agg #[.int .i64 ae.Events, .slice ad ap af], .int .i64 aJ, .slice aL bK aV].toArray W fun e w' => ∃ v, e = .returned v ∧ ∃ A306, ∃ n307, ∃ c308, ∃ vs310, v = .tuple #[.slice A306 n307 c308, .int .i64 r.2] ∧ n307 = r.1.length ∧ St [] W w' [.mat A306 n307 c308 28 2 vs310 r.1] := by
 subst aw
 subst bW
 unfold spec_DueOfLast at hm
 refine Calls.enter (N := 52) Try.func48 rfl rfl rfl (fun a hf => ?_)
 have hs := St.start W
 obtain ⟨w, hw_⟩ : ∃ w, w = W := ⟨W, rfl⟩
 clear hw_ w
 refine wpL_seq <| wpL_region ?_
 refine sBox hf hs rfl rfl rfl rfl rfl (cs := [.int .i64 ae.Events, .slice ad ae.Places.length af]) rfl ?_; clear hf hs; intro a w b1 hs hf
 have hs : St _ W w [_] := hs
 refine sY hf hs rfl rfl rfl (Y_assign rfl rfl) ?_; clear hf; intro a hf
 refine sY hf hs rfl rfl rfl (Y_assign rfl rfl) ?_; clear hf; intro a hf
 refine wpO_nil <| wpL_seq <| wpL_block0 <| wpL_seq <| wpL_region ?_
 refine sY hf hs rfl rfl rfl (Y_load_blkS rfl rfl (i := 0) rfl ag55 ti55 rfl) ?_; clear hf; intro a hf
 obtain ⟨r2, hc3, hm⟩ := bind_some hm
 refine sCall hf rfl rfl rfl rfl (cap := []) rfl rfl en113 (spec_IsEventGraph_ok F ae ad ae.Places.length af rfl _ _ hc3 (au.at hs)) ?_; clear hf
 rintro _ w ⟨rfl, hs1⟩ a hf
 have hs : St _ W w [_] := hs.ext hs1.below
 clear hs1
 refine sY hf hs rfl rfl rfl (Y_not rfl rfl) ?_; clear hf; intro a hf
 refine sY hf hs rfl rfl rfl (Y_assign rfl rfl) ?_; clear hf; intro a hf
 refine wpO_nil ?_
 refine wpL_cond hf rfl (fun hb4 => ?_) (fun hb4 => ?_)
 ·have hm := bif_t hm hb4
  refine wpL_seq <| wpL_region ?_
  refine sY hf hs rfl rfl rfl (Y_assign rfl rfl) ?_; clear hf; intro a hf
  refine sY hf hs rfl rfl rfl (Y_assign rfl rfl) ?_; clear hf; intro a hf
  refine wpO_nil ?_
  have hs : St [] W _ [.blk b1 55 [.int .i64 ae.Events, .slice ad ae.Places.length af], .mat none 0 0 28 2 [] ([] : List (List Int))] := hs.addNilM 28 2
  obtain rfl := Option.some.inj hm
  refine wpL_ret (Qb_ret (ret_tmp2 rfl hf rfl rfl ?_))
  exact ⟨_, rfl, none, 0, 0, [], rfl, rfl, hs.sel [1] (by decide)⟩
 ·have hm := bif_f hm hb4
  refine wpL_seq ?_
  obtain ⟨r14, hj15, hm⟩ := bind_some hm
  refine wpL_cut (fun a w => ∃ b13 : Bool, b13 = r14 ∧ Fr a 52 [(1, .int .i64 aJ), (2, .slice aL aW.length aV), (3, .pointer (some ⟨b1, 0, none⟩)), (16, .bool b13)] ∧ St [] W w [.blk b1 55 [.int .i64 ae.Events, .slice ad ae.Places.length af]]) ?_ ?_
  ·refine wpL_region ?_
   refine sY hf hs rfl rfl rfl (Y_move rfl rfl) ?_; clear hf; intro a hf
   obtain ⟨r16, hc17, hj15⟩ := bind_some hj15
   refine sCall hf rfl rfl rfl rfl (cap := []) rfl rfl en77 (spec_l01In_ok F aJ 1 50 _ _ hc17) ?_; clear hf
   rintro _ w ⟨rfl, hs1⟩ a hf
   have hs : St _ W w [_] := hs.ext hs1.below
   clear hs1
   refine sY hf hs rfl rfl rfl (Y_not rfl rfl) ?_; clear hf; intro a hf
   refine sY hf hs rfl rfl rfl (Y_move rfl rfl) ?_; clear hf; intro a hf
   refine bsplit (!r16) (fun hb18 => ?_) (fun hb18 => ?_)
   ·have hj15 := bif_t hj15 hb18
    refine sNo hf rfl rfl rfl (congrArg (fun b => some (Value.bool b)) hb18) rfl rfl rfl ?_; clear hf; intro a hf
    refine sNo hf rfl rfl rfl (congrArg (fun b => some (Value.bool b)) hb18) rfl rfl rfl ?_; clear hf; intro a hf
    refine sNo hf rfl rfl rfl (congrArg (fun b => some (Value.bool b)) hb18) rfl rfl rfl ?_; clear hf; intro a hf
    refine sNo hf rfl rfl rfl (congrArg (fun b => some (Value.bool b)) hb18) rfl rfl rfl ?_; clear hf; intro a hf
    refine sNo hf rfl rfl rfl (congrArg (fun b => some (Value.bool b)) hb18) rfl rfl rfl ?_; clear hf; intro a hf
    refine sY hf hs rfl rfl rfl (Y_pickT rfl (congrArg (fun b => some (Value.bool b)) hb18) rfl) ?_; clear hf; intro a hf
    refine sY hf hs rfl rfl rfl (Y_assign rfl rfl) ?_; clear hf; intro a hf
    refine wpO_nil ?_
    refine wpL_nil (then_normal ?_)
    exact ⟨true, Option.some.inj hj15, (FrD.pick (FrD.pick (FrD.pick (FrD.pick hf.none hf rfl) hf rfl) hf rfl) hf rfl), hs⟩
   ·have hj15 := bif_f hj15 hb18
    refine sYg hf hs rfl rfl rfl (congrArg (fun b => some (Value.bool b)) hb18) rfl rfl rfl (Y_load_blkS rfl rfl (i := 0) rfl ag55 ti55 rfl) ?_; clear hf; intro a hf
    refine sYg hf hs rfl rfl rfl (congrArg (fun b => some (Value.bool b)) hb18) rfl rfl rfl (Y_move rfl rfl) ?_; clear hf; intro a hf
    refine sBuildSliceG (parts := [(0, .tmp 22)]) (vs := [.slice aL aW.length aV]) (cells := [.slice aL aW.length aV]) hf hs rfl rfl rfl (congrArg (fun b => some (Value.bool b)) hb18) rfl rfl rfl rfl rfl el40 ti28 rfl rfl rfl rfl ?_; clear hf hs; intro a w A19 hs hA20 hf
    have hs : St _ W w [_, .row A19 1 1 28 1 [.slice aL aW.length aV]] := hs
    obtain ⟨r21, hc22, hj15⟩ := bind_some hj15
    refine sCallg hf rfl rfl rfl (congrArg (fun b => some (Value.bool b)) hb18) rfl rfl rfl rfl (cap := []) rfl rfl en104 (spec_l22Due_ok F ae ad ae.Places.length af rfl ([aW]) A19 1 1 rfl _ _ hc22 (au.at hs) (RdM.one (hs.rd (i := 1) rfl) rfl (bL.at hs))) ?_; clear hf
    rintro _ w ⟨rfl, hs1⟩ a hf
    have hs : St _ W w [_, _] := hs.ext hs1.below
    clear hs1
    refine sYg hf hs rfl rfl rfl (congrArg (fun b => some (Value.bool b)) hb18) rfl rfl rfl (Y_not rfl rfl) ?_; clear hf; intro a hf
    refine sY hf hs rfl rfl rfl (Y_pickF rfl (congrArg (fun b => some (Value.bool b)) hb18) rfl) ?_; clear hf; intro a hf
    refine sY hf hs rfl rfl rfl (Y_assign rfl rfl) ?_; clear hf; intro a hf
    refine wpO_nil ?_
    refine wpL_nil (then_normal ?_)
    exact ⟨(!r21), Option.some.inj hj15, (FrD.pick (FrD.pick (FrD.pick (FrD.pick hf.none hf rfl) hf rfl) hf rfl) hf rfl), hs.sel [0] (by decide)⟩
  ·rintro a w ⟨b13, hr_, hf, hs⟩
   subst hr_
   try dsimp only at hm
   refine wpL_cond hf rfl (fun hb23 => ?_) (fun hb23 => ?_)
   ·have hm := bif_t hm hb23
    refine wpL_seq <| wpL_region ?_
    refine sY hf hs rfl rfl rfl (Y_assign rfl rfl) ?_; clear hf; intro a hf
    refine sY hf hs rfl rfl rfl (Y_assign rfl rfl) ?_; clear hf; intro a hf
    refine wpO_nil ?_
    have hs : St [] W _ [.blk b1 55 [.int .i64 ae.Events, .slice ad ae.Places.length af], .mat none 0 0 28 2 [] ([] : List (List Int))] := hs.addNilM 28 2
    obtain rfl := Option.some.inj hm
    refine wpL_ret (Qb_ret (ret_tmp2 rfl hf rfl rfl ?_))
    exact ⟨_, rfl, none, 0, 0, [], rfl, rfl, hs.sel [1] (by decide)⟩
   ·have hm := bif_f hm hb23
    refine wpL_skip ?_
    refine wpL_nil (Qb_normal ?_)
    refine wpL_seq <| wpL_region ?_
    refine sEmptyM 2 hf hs rfl rfl rfl rfl el40 ti28 rfl ?_; clear hf hs; intro a w A25 hs hf
    have hs : St _ W w [_, .mat A25 0 0 28 2 [] []] := hs
    refine sY hf hs rfl rfl rfl (Y_assign rfl rfl) ?_; clear hf; intro a hf
    refine wpO_nil <| wpL_seq <| wpL_seq <| wpL_region ?_
    refine sY hf hs rfl rfl rfl (Y_assign rfl rfl) ?_; clear hf; intro a hf
    refine wpO_nil ?_
    obtain ⟨r228, hl229, hm⟩ := bind_some hm
    refine wpL_block (fun a w => ∃ ms222 : List (List Int), ∃ A223, ∃ n224, ∃ c225, ∃ vs227, ms222 = r228 ∧ n224 = ms222.length ∧ Fr a 52 [(2, .slice aL aW.length aV), (8, .slice A223 n224 c225)] ∧ St [] W w [.mat A223 n224 c225 28 2 vs227 ms222]) ?_ ?_
    ·refine wpL_loop (fun n a w => ∃ ms155 : List (List Int), ∃ x161 : Int, ∃ A156, ∃ n157, ∃ c158, ∃ vs160, spec_DueOfLast_L4 F ae aJ n ms155 x161 = some r228 ∧ n157 = ms155.length ∧ Fr a 52 [(1, .int .i64 aJ), (2, .slice aL aW.length aV), (3, .pointer (some ⟨b1, 0, none⟩)), (8, .slice A156 n157 c158), (9, .int .i64 x161)] ∧ St [] W w [.blk b1 55 [.int .i64 ae.Events, .slice ad ae.Places.length af], .mat A156 n157 c158 28 2 vs160 ms155]) F ?_ ?_ ?_
     ·exact ⟨[], 1, A25, 0, 0, [], hl229, rfl, (FrD.pick (FrD.pick (FrD.pick (FrD.pick (FrD.pick hf.none hf rfl) hf rfl) hf rfl) hf rfl) hf rfl), hs⟩
     ·rintro a w ⟨ms155, x161, A156, n157, c158, vs160, h0_, -, -, -⟩; simp [spec_DueOfLast_L4] at h0_
     ·rintro n231 a w ⟨ms155, x161, A156, n157, c158, vs160, hm230, hn159, hf, hs⟩
      rw [spec_DueOfLast_L4] at hm230
      refine wpL_seq <| wpL_seq <| wpL_region ?_
      refine sY hf hs rfl rfl rfl (Y_move rfl rfl) ?_; clear hf; intro a hf
      refine sY hf hs rfl rfl rfl (Y_move rfl rfl) ?_; clear hf; intro a hf
      refine sY hf hs rfl rfl rfl (Y_lss rfl rfl rfl) ?_; clear hf; intro a hf
      refine wpO_nil ?_
      refine wpL_cond hf rfl (fun hb232 => ?_) (fun hb232 => ?_)
      ·have hm230 := bif_t hm230 hb232
       refine wpL_skip <| wpL_seq <| wpL_block0 <| wpL_seq <| wpL_region ?_
       refine sEmpty hf hs rfl rfl rfl rfl el28 ti2 ?_; clear hf hs; intro a w A233 hs hf
       have hs : St _ W w [_, _, .row A233 0 0 2 1 (ints ([] : List Int))] := hs
       refine sY hf hs rfl rfl rfl (Y_assign rfl rfl) ?_; clear hf; intro a hf
       refine wpO_nil <| wpL_seq <| wpL_seq <| wpL_region ?_
       refine sY hf hs rfl rfl rfl (Y_assign rfl rfl) ?_; clear hf; intro a hf
       refine wpO_nil ?_
       obtain ⟨r273, hl274, hm230⟩ := bind_some hm230
       refine wpL_block (fun a w => ∃ xs268 : List Int, ∃ A269, ∃ n270, ∃ c271, xs268 = r273 ∧ n270 = xs268.length ∧ Fr a 52 [(1, .int .i64 aJ), (2, .slice aL aW.length aV), (3, .pointer (some ⟨b1, 0, none⟩)), (8, .slice A156 n157 c158), (9, .int .i64 x161), (10, .slice A269 n270 c271)] ∧ St [] W w [.blk b1 55 [.int .i64 ae.Events, .slice ad ae.Places.length af], .mat A156 n157 c158 28 2 vs160 ms155, .row A269 n270 c271 2 1 (ints xs268)]) ?_ ?_
       ·refine wpL_loop (fun n a w => ∃ xs255 : List Int, ∃ x260 : Int, ∃ A256, ∃ n257, ∃ c258, spec_DueOfLast_L5 F ae n xs255 x260 = some r273 ∧ n257 = xs255.length ∧ Fr a 52 [(1, .int .i64 aJ), (2, .slice aL aW.length aV), (3, .pointer (some ⟨b1, 0, none⟩)), (8, .slice A156 n157 c158), (9, .int .i64 x161), (10, .slice A256 n257 c258), (11, .int .i64 x260)] ∧ St [] W w [.blk b1 55 [.int .i64 ae.Events, .slice ad ae.Places.length af], .mat A156 n157 c158 28 2 vs160 ms155, .row A256 n257 c258 2 1 (ints xs255)]) F ?_ ?_ ?_
        ·exact ⟨([] : List Int), 0, A233, 0, 0, hl274, rfl, (FrD.pick (FrD.pick (FrD.pick (FrD.pick (FrD.pick (FrD.pick (FrD.pick hf.none hf rfl) hf rfl) hf rfl) hf rfl) hf rfl) hf rfl) hf rfl), hs⟩
        ·rintro a w ⟨xs255, x260, A256, n257, c258, h0_, -, -, -⟩; simp [spec_DueOfLast_L5] at h0_
        ·rintro n276 a w ⟨xs255, x260, A256, n257, c258, hm275, hn259, hf, hs⟩
         rw [spec_DueOfLast_L5] at hm275
         refine wpL_seq <| wpL_seq <| wpL_region ?_
         refine sY hf hs rfl rfl rfl (Y_move rfl rfl) ?_; clear hf; intro a hf
         refine sY hf hs rfl rfl rfl (Y_fieldAddr rfl rfl fo55_0) ?_; clear hf; intro a hf
         refine sY hf hs rfl rfl rfl (Y_load_blk rfl rfl (i := 0) rfl rfl ag2) ?_; clear hf; intro a hf
         refine sY hf hs rfl rfl rfl (Y_lss rfl rfl rfl) ?_; clear hf; intro a hf
         refine wpO_nil ?_
         refine wpL_cond hf rfl (fun hb277 => ?_) (fun hb277 => ?_)
         ·have hm275 := bif_t hm275 hb277
          refine wpL_skip <| wpL_seq <| wpL_block0 <| wpL_region ?_
          refine sY hf hs rfl rfl rfl (Y_move rfl rfl) ?_; clear hf; intro a hf
          refine sBuildSlice (parts := [(0, .const (.int .i64 1000000))]) (vs := [.int .i64 1000000]) (cells := [.int .i64 1000000]) hf hs rfl rfl rfl rfl rfl el28 ti2 rfl rfl rfl rfl ?_; clear hf hs; intro a w A278 hs hA279 hf
          have hs : St _ W w [_, _, _, .row A278 1 1 2 1 (ints ([1000000]))] := hs
          obtain ⟨xs282, ha283, hm275⟩ := bind_some hm275
          refine sAppendL (i := 2) (xs := xs255) (ys := [1000000]) (enc := ints) hf hs rfl rfl rfl rfl rfl rfl hn259 rfl rfl ha283 el28 ti2 rfl rfl rfl (hs.rd (i := 3) rfl) (Nat.succ_pos _) ints_len1 ints_append ints_one ?_; clear hf hs; intro a w A280 c281 hs hf
          have hs : St _ W w [_, _, .row A280 xs282.length c281 2 1 (ints xs282), _] := hs
          refine sY hf hs rfl rfl rfl (Y_assign rfl rfl) ?_; clear hf; intro a hf
          refine wpO_nil ?_
          refine wpL_nil (Qb_normal ?_)
          refine wpL_region ?_
          refine sY hf hs rfl rfl rfl (Y_move rfl rfl) ?_; clear hf; intro a hf
          refine sY hf hs rfl rfl rfl (Y_add rfl rfl rfl) ?_; clear hf; intro a hf
          refine sY hf hs rfl rfl rfl (Y_assign rfl rfl) ?_; clear hf; intro a hf
          refine wpO_nil ?_
          refine wpL_nil (Ql_normal ?_)
          exact ⟨xs282, (IntKind.i64.wrap (x260 + 1)), A280, xs282.length, c281, hm275, rfl, (FrD.pick (FrD.pick (FrD.pick (FrD.pick (FrD.pick (FrD.pick (FrD.pick hf.none hf rfl) hf rfl) hf rfl) hf rfl) hf rfl) hf rfl) hf rfl), hs.sel [0, 1, 2] (by decide)⟩
         ·have hm275 := bif_f hm275 hb277
          refine wpL_exit (Ql_exit (Qb_exit ?_))
          exact ⟨xs255, A256, n257, c258, Option.some.inj hm275, hn259, (FrD.pick (FrD.pick (FrD.pick (FrD.pick (FrD.pick (FrD.pick hf.none hf rfl) hf rfl) hf rfl) hf rfl) hf rfl) hf rfl), hs⟩
       ·rintro a w ⟨xs268, A269, n270, c271, hr_, hn272, hf, hs⟩
        subst hr_
        try dsimp only at hm230
        refine wpL_region ?_
        refine sY hf hs rfl rfl rfl (Y_move rfl rfl) ?_; clear hf; intro a hf
        refine sY hf hs rfl rfl rfl (Y_move rfl rfl) ?_; clear hf; intro a hf
        refine sOneM (j := 2) hf hs rfl rfl rfl rfl rfl rfl hn272 el40 ti28 ?_; clear hf hs; intro a w A284 hs hf
        have hs : St _ W w [_, _, .mat A284 1 1 28 2 ([Value.slice A269 xs268.length c271]) ([xs268])] := hs
        obtain ⟨ms288, ha289, hm230⟩ := bind_some hm230
        refine sAppendM (i := 1) (j := 2) hf hs rfl rfl rfl rfl rfl rfl hn159 rfl (by decide) rfl rfl (by decide) ha289 el40 ti28 rfl ?_; clear hf hs; intro a w A286 c287 hs hf
        have hs : St _ W w [_, .mat A286 ms288.length c287 28 2 (vs160 ++ ([Value.slice A269 xs268.length c271])) ms288] := hs
        obtain ⟨hq290, hv291⟩ := hs.appended (i := 1) rfl ha289
        refine sY hf hs rfl rfl rfl (Y_assign rfl rfl) ?_; clear hf; intro a hf
        refine wpO_nil ?_
        refine wpL_nil (Qb_normal ?_)
        refine wpL_region ?_
        refine sY hf hs rfl rfl rfl (Y_move rfl rfl) ?_; clear hf; intro a hf
        refine sY hf hs rfl rfl rfl (Y_add rfl rfl rfl) ?_; clear hf; intro a hf
        refine sY hf hs rfl rfl rfl (Y_assign rfl rfl) ?_; clear hf; intro a hf
        refine wpO_nil ?_
        refine wpL_nil (Ql_normal ?_)
        exact ⟨ms288, (IntKind.i64.wrap (x161 + 1)), A286, ms288.length, c287, (vs160 ++ ([Value.slice A269 xs268.length c271])), hm230, rfl, (FrD.pick (FrD.pick (FrD.pick (FrD.pick (FrD.pick hf.none hf rfl) hf rfl) hf rfl) hf rfl) hf rfl), hs⟩
      ·have hm230 := bif_f hm230 hb232
       refine wpL_exit (Ql_exit (Qb_exit ?_))
       exact ⟨ms155, A156, n157, c158, vs160, Option.some.inj hm230, hn159, (FrD.pick (FrD.pick hf.none hf rfl) hf rfl), hs.sel [1] (by decide)⟩
    ·rintro a w ⟨ms222, A223, n224, c225, vs227, hr_, hn226, hf, hs⟩
     subst hr_
     try dsimp only at hm
     refine wpL_seq <| wpL_region ?_
     refine sY hf hs rfl rfl rfl (Y_move rfl rfl) ?_; clear hf; intro a hf
     refine sY hf hs rfl rfl rfl (Y_move rfl rfl) ?_; clear hf; intro a hf
     obtain ⟨r292, hc293, hm⟩ := bind_some hm
     refine sCall hf rfl rfl rfl rfl (cap := []) rfl rfl en114 (spec_l01Own_ok F aW aL aW.length aV rfl _ _ hc293 (bL.at hs)) ?_; clear hf
     rintro _ w ⟨A294, n295, c296, rfl, hn297, hs1⟩ a hf
     have hs : St _ W w [.mat A223 n224 c225 28 2 vs227 ms222, .row A294 n295 c296 2 1 (ints r292)] := hs.join hs1
     clear hs1
     refine sOneM (j := 1) hf hs rfl rfl rfl rfl rfl rfl hn297 el40 ti28 ?_; clear hf hs; intro a w A298 hs hf
     have hs : St _ W w [_, .mat A298 1 1 28 2 ([Value.slice A294 r292.length c296]) ([r292])] := hs
     obtain ⟨ms302, ha303, hm⟩ := bind_some hm
     refine sAppendM (i := 0) (j := 1) hf hs rfl rfl rfl rfl rfl rfl hn226 rfl (by decide) rfl rfl (by decide) ha303 el40 ti28 rfl ?_; clear hf hs; intro a w A300 c301 hs hf
     have hs : St _ W w [.mat A300 ms302.length c301 28 2 (vs227 ++ ([Value.slice A294 r292.length c296])) ms302] := hs
     obtain ⟨hq304, hv305⟩ := hs.appended (i := 0) rfl ha303
     refine sY hf hs rfl rfl rfl (Y_assign rfl rfl) ?_; clear hf; intro a hf
     refine sY hf hs rfl rfl rfl (Y_assign rfl rfl) ?_; clear hf; intro a hf
     refine wpO_nil ?_
     obtain rfl := Option.some.inj hm
     refine wpL_ret (ret_tmp2 rfl hf rfl rfl ?_)
     exact ⟨_, rfl, A300, ms302.length, c301, (vs227 ++ ([Value.slice A294 r292.length c296])), rfl, rfl, hs⟩

set_option maxRecDepth 100000 in
theorem laws_likeInts_ok (F : Nat) (bj : List Int) (aQ : Option Addr) (bo bk : Nat) (bz : bo = bj.length) (bR : List Int) (bI : Option Addr) (bS bU : Nat) (cq : bS = bR.length) (r : Bool) (W : World) (hm : laws_likeInts F bj bR = some r) (bA : Rd W aQ (ints bj)) (ci : Rd W bI (ints bR)) :
  Calls Try.prog 21 [.slice aQ bo bk, .slice bI bS bU].toArray W fun e w' => ∃ v, e = .returned v ∧ v = .bool r ∧ St [] W w' [] := by
 subst bz
 subst cq
 unfold laws_likeInts at hm
 refine Calls.enter (N := 26) Try.func21 rfl rfl rfl (fun a hf => ?_)
 have hs := St.start W
 obtain ⟨w, hw_⟩ : ∃ w, w = W := ⟨W, rfl⟩
 clear hw_ w
 refine wpL_seq <| wpL_region ?_
 refine sY hf hs rfl rfl rfl (Y_assign rfl rfl) ?_; clear hf; intro a hf
 refine wpO_nil <| wpL_seq <| wpL_seq <| wpL_region ?_
 refine sY hf hs rfl rfl rfl (Y_move rfl rfl) ?_; clear hf; intro a hf
 refine sY hf hs rfl rfl rfl (Y_lenH rfl rfl el28 rfl) ?_; clear hf; intro a hf
 refine sY hf hs rfl rfl rfl (Y_move rfl rfl) ?_; clear hf; intro a hf
 refine sY hf hs rfl rfl rfl (Y_lenH rfl rfl el28 rfl) ?_; clear hf; intro a hf
 refine sY hf hs rfl rfl rfl (Y_neq rfl rfl rfl) ?_; clear hf; intro a hf
 refine wpO_nil ?_
 refine wpL_cond hf rfl (fun hb1 => ?_) (fun hb1 => ?_)
 ·have hm := bif_t hm hb1
  refine wpL_seq <| wpL_region ?_
  refine sY hf hs rfl rfl rfl (Y_assign rfl rfl) ?_; clear hf; intro a hf
  refine wpO_nil ?_
  obtain rfl := Option.some.inj hm
  refine wpL_ret (ret_tmp rfl hf rfl ?_)
  exact ⟨_, rfl, rfl, hs⟩
 ·have hm := bif_f hm hb1
  refine wpL_skip <| wpL_seq <| wpL_seq <| wpL_region ?_
  refine sY hf hs rfl rfl rfl (Y_assign rfl rfl) ?_; clear hf; intro a hf
  refine wpO_nil ?_
  obtain ⟨r22, hl23, hm⟩ := bind_some hm
  refine wpL_block (fun a w => Sum.inr () = r22 ∧ Fr a 26 [] ∧ St [] W w []) ?_ ?_
  ·refine wpL_loop (fun n a w => ∃ x15 : Int, laws_likeInts_L1 F bj bR n x15 = some r22 ∧ Fr a 26 [(0, .slice aQ bj.length bk), (1, .slice bI bR.length bU), (5, .int .i64 x15)] ∧ St [] W w []) F ?_ ?_ ?_
   ·exact ⟨0, hl23, (FrD.pick (FrD.pick (FrD.pick hf.none hf rfl) hf rfl) hf rfl), hs⟩
   ·rintro a w ⟨x15, h0_, -, -⟩; simp [laws_likeInts_L1] at h0_
   ·rintro n25 a w ⟨x15, hm24, hf, hs⟩
    rw [laws_likeInts_L1] at hm24
    refine wpL_seq <| wpL_seq <| wpL_region ?_
    refine sY hf hs rfl rfl rfl (Y_move rfl rfl) ?_; clear hf; intro a hf
    refine sY hf hs rfl rfl rfl (Y_move rfl rfl) ?_; clear hf; intro a hf
    refine sY hf hs rfl rfl rfl (Y_lenH rfl rfl el28 rfl) ?_; clear hf; intro a hf
    refine sY hf hs rfl rfl rfl (Y_lss rfl rfl rfl) ?_; clear hf; intro a hf
    refine wpO_nil ?_
    refine wpL_cond hf rfl (fun hb26 => ?_) (fun hb26 => ?_)
    ·have hm24 := bif_t hm24 hb26
     refine wpL_skip <| wpL_seq <| wpL_block0 <| wpL_seq ?_
     refine wpL_draw (by kernel_rfl) (by kernel_rfl) hs ?_
     refine qY hf rfl rfl rfl (Y_move rfl rfl) ?_; clear hf; intro a hf
     refine qY hf rfl rfl rfl (Y_move rfl rfl) ?_; clear hf; intro a hf
     obtain ⟨q27, hi28, hm24⟩ := bind_some hm24
     obtain ⟨hi28a, hi28b, hi28q⟩ := idx_some hi28
     refine qY hf rfl rfl rfl (Y_index rfl rfl rfl el28 ti2 (Rd.isAt (bA.at hs) (at1 (ints_at hi28q))) hi28a hi28b) ?_; clear hf; intro a hf
     refine qY hf rfl rfl rfl (Y_load_rd rfl rfl (fun w hs => bA.at hs) (at1 (ints_at hi28q)) ag2) ?_; clear hf; intro a hf
     refine qY hf rfl rfl rfl (Y_move rfl rfl) ?_; clear hf; intro a hf
     refine qY hf rfl rfl rfl (Y_move rfl rfl) ?_; clear hf; intro a hf
     obtain ⟨q29, hi30, hm24⟩ := bind_some hm24
     obtain ⟨hi30a, hi30b, hi30q⟩ := idx_some hi30
     refine qY hf rfl rfl rfl (Y_index rfl rfl rfl el28 ti2 (Rd.isAt (ci.at hs) (at1 (ints_at hi30q))) hi30a hi30b) ?_; clear hf; intro a hf
     refine qY hf rfl rfl rfl (Y_load_rd rfl rfl (fun w hs => ci.at hs) (at1 (ints_at hi30q)) ag2) ?_; clear hf; intro a hf
     refine qY hf rfl rfl rfl (Y_neq rfl rfl rfl) ?_; clear hf; intro a hf
     refine qNil ?_; clear hs; intro w hs
     refine wpL_cond hf rfl (fun hb31 => ?_) (fun hb31 => ?_)
     ·have hm24 := bif_t hm24 hb31
      refine wpL_seq <| wpL_region ?_
      refine sY hf hs rfl rfl rfl (Y_assign rfl rfl) ?_; clear hf; intro a hf
      refine wpO_nil ?_
      obtain rfl := Option.some.inj hm24
      try dsimp only at hm
      obtain rfl := Option.some.inj hm
      refine wpL_ret (Qb_ret (Ql_ret (Qb_ret (ret_tmp rfl hf rfl ?_))))
      exact ⟨_, rfl, rfl, hs⟩
     ·have hm24 := bif_f hm24 hb31
      refine wpL_skip ?_
      refine wpL_nil (Qb_normal ?_)
      refine wpL_region ?_
      refine sY hf hs rfl rfl rfl (Y_move rfl rfl) ?_; clear hf; intro a hf
      refine sY hf hs rfl rfl rfl (Y_add rfl rfl rfl) ?_; clear hf; intro a hf
      refine sY hf hs rfl rfl rfl (Y_assign rfl rfl) ?_; clear hf; intro a hf
      refine wpO_nil ?_
      refine wpL_nil (Ql_normal ?_)
      exact ⟨(IntKind.i64.wrap (x15 + 1)), hm24, (FrD.pick (FrD.pick (FrD.pick hf.none hf rfl) hf rfl) hf rfl), hs⟩
    ·have hm24 := bif_f hm24 hb26
     refine wpL_exit (Ql_exit (Qb_exit ?_))
     exact ⟨Option.some.inj hm24, hf.none, hs⟩
  ·rintro a w ⟨hr_, hf, hs⟩
   subst hr_
   try dsimp only at hm
   refine wpL_seq <| wpL_region ?_
   refine sY hf hs rfl rfl rfl (Y_assign rfl rfl) ?_; clear hf; intro a hf
   refine wpO_nil ?_
   obtain rfl := Option.some.inj hm
   refine wpL_ret (ret_tmp rfl hf rfl ?_)
   exact ⟨_, rfl, rfl, hs⟩

set_option maxRecDepth 100000 in
theorem laws_likeTables9_ok (F : Nat) (bj : List (List Int)) (aQ : Option Addr) (bo bk : Nat) (bz : bo = bj.length) (bR : List (List Int)) (bI : Option Addr) (bS bU : Nat) (cq : bS = bR.length) (r : Bool) (W : World) (hm : laws_likeTables9 F bj bR = some r) (bA : RdM W aQ bj) (ci : RdM W bI bR) :
  Calls Try.prog 31 [.slice aQ bo bk, .slice bI bS bU].toArray W fun e w' => ∃ v, e = .returned v ∧ v = .bool r ∧ St [] W w' [] := by
 subst bz
 subst cq
 unfold laws_likeTables9 at hm
 refine Calls.enter (N := 27) Try.func31 rfl rfl rfl (fun a hf => ?_)
 have hs := St.start W
 obtain ⟨w, hw_⟩ : ∃ w, w = W := ⟨W, rfl⟩
 clear hw_ w
 refine wpL_seq <| wpL_region ?_
 refine sY hf hs rfl rfl rfl (Y_assign rfl rfl) ?_; clear hf; intro a hf
 refine wpO_nil <| wpL_seq <| wpL_seq <| wpL_region ?_
 refine sY hf hs rfl rfl rfl (Y_move rfl rfl) ?_; clear hf; intro a hf
 refine sY hf hs rfl rfl rfl (Y_lenH rfl rfl el40 rfl) ?_; clear hf; intro a hf
 refine sY hf hs rfl rfl rfl (Y_move rfl rfl) ?_; clear hf; intro a hf
 refine sY hf hs rfl rfl rfl (Y_lenH rfl rfl el40 rfl) ?_; clear hf; intro a hf
 refine sY hf hs rfl rfl rfl (Y_neq rfl rfl rfl) ?_; clear hf; intro a hf
 refine wpO_nil ?_
 refine wpL_cond hf rfl (fun hb1 => ?_) (fun hb1 => ?_)
 ·have hm := bif_t hm hb1
  refine wpL_seq <| wpL_region ?_
  refine sY hf hs rfl rfl rfl (Y_assign rfl rfl) ?_; clear hf; intro a hf
  refine wpO_nil ?_
  obtain rfl := Option.some.inj hm
  refine wpL_ret (ret_tmp rfl hf rfl ?_)
  exact ⟨_, rfl, rfl, hs⟩
 ·have hm := bif_f hm hb1
  refine wpL_skip <| wpL_seq <| wpL_seq <| wpL_region ?_
  refine sY hf hs rfl rfl rfl (Y_assign rfl rfl) ?_; clear hf; intro a hf
  refine wpO_nil ?_
  obtain ⟨r70, hl71, hm⟩ := bind_some hm
  refine wpL_block (fun a w => Sum.inr () = r70 ∧ Fr a 27 [] ∧ St [] W w []) ?_ ?_
  ·refine wpL_loop (fun n a w => ∃ x47 : Int, laws_likeTables9_L1 F bj bR n x47 = some r70 ∧ Fr a 27 [(0, .slice aQ bj.length bk), (1, .slice bI bR.length bU), (5, .int .i64 x47)] ∧ St [] W w []) F ?_ ?_ ?_
   ·exact ⟨0, hl71, (FrD.pick (FrD.pick (FrD.pick hf.none hf rfl) hf rfl) hf rfl), hs⟩
   ·rintro a w ⟨x47, h0_, -, -⟩; simp [laws_likeTables9_L1] at h0_
   ·rintro n73 a w ⟨x47, hm72, hf, hs⟩
    rw [laws_likeTables9_L1] at hm72
    refine wpL_seq <| wpL_seq <| wpL_region ?_
    refine sY hf hs rfl rfl rfl (Y_move rfl rfl) ?_; clear hf; intro a hf
    refine sY hf hs rfl rfl rfl (Y_move rfl rfl) ?_; clear hf; intro a hf
    refine sY hf hs rfl rfl rfl (Y_lenH rfl rfl el40 rfl) ?_; clear hf; intro a hf
    refine sY hf hs rfl rfl rfl (Y_lss rfl rfl rfl) ?_; clear hf; intro a hf
    refine wpO_nil ?_
    refine wpL_cond hf rfl (fun hb74 => ?_) (fun hb74 => ?_)
    ·have hm72 := bif_t hm72 hb74
     refine wpL_skip <| wpL_seq <| wpL_block0 <| wpL_seq ?_
     refine wpL_draw (by kernel_rfl) (by kernel_rfl) hs ?_
     refine qY hf rfl rfl rfl (Y_move rfl rfl) ?_; clear hf; intro a hf
     refine qY hf rfl rfl rfl (Y_move rfl rfl) ?_; clear hf; intro a hf
     obtain ⟨q75, hi76, hm72⟩ := bind_some hm72
     obtain ⟨hi76a, hi76b, hi76q⟩ := idx_some hi76
     obtain ⟨vs77, hv78, hr79⟩ := id bA
     obtain ⟨A80, c81, hv82, hR83⟩ := hr79 _ _ hi76q
     refine qY hf rfl rfl rfl (Y_index rfl rfl rfl el40 ti28 (Rd.isAt hv78 hv82) hi76a hi76b) ?_; clear hf; intro a hf
     refine qY hf rfl rfl rfl (Y_load_rd rfl rfl (fun w hs => hv78.at hs) (at1 hv82) ag28) ?_; clear hf; intro a hf
     refine qY hf rfl rfl rfl (Y_move rfl rfl) ?_; clear hf; intro a hf
     refine qY hf rfl rfl rfl (Y_move rfl rfl) ?_; clear hf; intro a hf
     obtain ⟨q84, hi85, hm72⟩ := bind_some hm72
     obtain ⟨hi85a, hi85b, hi85q⟩ := idx_some hi85
     obtain ⟨vs86, hv87, hr88⟩ := id ci
     obtain ⟨A89, c90, hv91, hR92⟩ := hr88 _ _ hi85q
     refine qY hf rfl rfl rfl (Y_index rfl rfl rfl el40 ti28 (Rd.isAt hv87 hv91) hi85a hi85b) ?_; clear hf; intro a hf
     refine qY hf rfl rfl rfl (Y_load_rd rfl rfl (fun w hs => hv87.at hs) (at1 hv91) ag28) ?_; clear hf; intro a hf
     obtain ⟨r93, hc94, hm72⟩ := bind_some hm72
     refine qCall hf rfl rfl rfl rfl (cap := []) rfl rfl en21 (v := .bool r93) (fun w hs => Calls.scal (laws_likeInts_ok F q75 A80 q75.length c81 rfl q84 A89 q84.length c90 rfl _ _ hc94 (hR83.at hs) (hR92.at hs))) ?_; clear hf; intro a hf
     refine qY hf rfl rfl rfl (Y_not rfl rfl) ?_; clear hf; intro a hf
     refine qNil ?_; clear hs; intro w hs
     refine wpL_cond hf rfl (fun hb95 => ?_) (fun hb95 => ?_)
     ·have hm72 := bif_t hm72 hb95
      refine wpL_seq <| wpL_region ?_
      refine sY hf hs rfl rfl rfl (Y_assign rfl rfl) ?_; clear hf; intro a hf
      refine wpO_nil ?_
      obtain rfl := Option.some.inj hm72
      try dsimp only at hm
      obtain rfl := Option.some.inj hm
      refine wpL_ret (Qb_ret (Ql_ret (Qb_ret (ret_tmp rfl hf rfl ?_))))
      exact ⟨_, rfl, rfl, hs⟩
     ·have hm72 := bif_f hm72 hb95
      refine wpL_skip ?_
      refine wpL_nil (Qb_normal ?_)
      refine wpL_region ?_
      refine sY hf hs rfl rfl rfl (Y_move rfl rfl) ?_; clear hf; intro a hf
      refine sY hf hs rfl rfl rfl (Y_add rfl rfl rfl) ?_; clear hf; intro a hf
      refine sY hf hs rfl rfl rfl (Y_assign rfl rfl) ?_; clear hf; intro a hf
      refine wpO_nil ?_
      refine wpL_nil (Ql_normal ?_)
      exact ⟨(IntKind.i64.wrap (x47 + 1)), hm72, (FrD.pick (FrD.pick (FrD.pick hf.none hf rfl) hf rfl) hf rfl), hs⟩
    ·have hm72 := bif_f hm72 hb74
     refine wpL_exit (Ql_exit (Qb_exit ?_))
     exact ⟨Option.some.inj hm72, hf.none, hs⟩
  ·rintro a w ⟨hr_, hf, hs⟩
   subst hr_
   try dsimp only at hm
   refine wpL_seq <| wpL_region ?_
   refine sY hf hs rfl rfl rfl (Y_assign rfl rfl) ?_; clear hf; intro a hf
   refine wpO_nil ?_
   obtain rfl := Option.some.inj hm
   refine wpL_ret (ret_tmp rfl hf rfl ?_)
   exact ⟨_, rfl, rfl, hs⟩

set_option maxRecDepth 100000 in
theorem impl_checkFirings_ok (F : Nat) (ae : GEventGraph) (ad : Option Addr) (ap af : Nat) (aw : ap = ae.Places.length) (aJ : Int) (r : Int) (W : World) (hm : impl_checkFirings F ae aJ = some r) (au : Rd W ad ((recs GPlace.cells) ae.Places)) :
  Calls Try.prog 115 [.agg #[.int .i64 ae.Events, .slice ad ap af], .int .i64 aJ].toArray W fun e w' => ∃ v, e = .returned v ∧ v = .int .i64 r ∧ St [] W w' [] := by
 subst aw
 unfold impl_checkFirings at hm
 refine Calls.enter (N := 17) Try.func115 rfl rfl rfl (fun a hf => ?_)
 have hs := St.start W
 obtain ⟨w, hw_⟩ : ∃ w, w = W := ⟨W, rfl⟩
 clear hw_ w
 refine wpL_seq <| wpL_region ?_
 refine sBox hf hs rfl rfl rfl rfl rfl (cs := [.int .i64 ae.Events, .slice ad ae.Places.length af]) rfl ?_; clear hf hs; intro a w b1 hs hf
 have hs : St _ W w [.blk b1 55 [.int .i64 ae.Events, .slice ad ae.Places.length af]] := hs
 refine sY hf hs rfl rfl rfl (Y_assign rfl rfl) ?_; clear hf; intro a hf
 refine wpO_nil <| wpL_seq <| wpL_block0 <| wpL_seq <| wpL_region ?_
 refine sY hf hs rfl rfl rfl (Y_load_blkS rfl rfl (i := 0) rfl ag55 ti55 rfl) ?_; clear hf; intro a hf
 obtain ⟨r2, hc3, hm⟩ := bind_some hm
 refine sCall hf rfl rfl rfl rfl (cap := []) rfl rfl en110 (impl_IsEventGraph_ok F ae ad ae.Places.length af rfl _ _ hc3 (au.at hs)) ?_; clear hf
 rintro _ w ⟨rfl, hs1⟩ a hf
 have hs : St _ W w [_] := hs.ext hs1.below
 clear hs1
 refine sY hf hs rfl rfl rfl (Y_not rfl rfl) ?_; clear hf; intro a hf
 refine sY hf hs rfl rfl rfl (Y_assign rfl rfl) ?_; clear hf; intro a hf
 refine wpO_nil ?_
 refine wpL_cond hf rfl (fun hb4 => ?_) (fun hb4 => ?_)
 ·have hm := bif_t hm hb4
  refine wpL_seq <| wpL_region ?_
  refine sY hf hs rfl rfl rfl (Y_assign rfl rfl) ?_; clear hf; intro a hf
  refine wpO_nil ?_
  obtain rfl := Option.some.inj hm
  refine wpL_ret (Qb_ret (ret_tmp rfl hf rfl ?_))
  exact ⟨_, rfl, rfl, hs.sel [] (by decide)⟩
 ·have hm := bif_f hm hb4
  refine wpL_seq <| wpL_region ?_
  refine sY hf hs rfl rfl rfl (Y_move rfl rfl) ?_; clear hf; intro a hf
  obtain ⟨r5, hc6, hm⟩ := bind_some hm
  refine sCall hf rfl rfl rfl rfl (cap := []) rfl rfl en71 (impl_within_ok F aJ 0 50 _ _ hc6) ?_; clear hf
  rintro _ w ⟨rfl, hs1⟩ a hf
  have hs : St _ W w [_] := hs.ext hs1.below
  clear hs1
  refine sY hf hs rfl rfl rfl (Y_not rfl rfl) ?_; clear hf; intro a hf
  refine sY hf hs rfl rfl rfl (Y_assign rfl rfl) ?_; clear hf; intro a hf
  refine wpO_nil ?_
  refine wpL_cond hf rfl (fun hb7 => ?_) (fun hb7 => ?_)
  ·have hm := bif_t hm hb7
   refine wpL_seq <| wpL_region ?_
   refine sY hf hs rfl rfl rfl (Y_assign rfl rfl) ?_; clear hf; intro a hf
   refine wpO_nil ?_
   obtain rfl := Option.some.inj hm
   refine wpL_ret (Qb_ret (ret_tmp rfl hf rfl ?_))
   exact ⟨_, rfl, rfl, hs.sel [] (by decide)⟩
  ·have hm := bif_f hm hb7
   refine wpL_seq <| wpL_region ?_
   refine sY hf hs rfl rfl rfl (Y_load_blkS rfl rfl (i := 0) rfl ag55 ti55 rfl) ?_; clear hf; intro a hf
   obtain ⟨r8, hc9, hm⟩ := bind_some hm
   refine sCall hf rfl rfl rfl rfl (cap := []) rfl rfl en174 (impl_isLive_ok F ae ad ae.Places.length af rfl _ _ hc9 (au.at hs)) ?_; clear hf
   rintro _ w ⟨rfl, hs1⟩ a hf
   have hs : St _ W w [_] := hs.ext hs1.below
   clear hs1
   refine sY hf hs rfl rfl rfl (Y_not rfl rfl) ?_; clear hf; intro a hf
   refine sY hf hs rfl rfl rfl (Y_assign rfl rfl) ?_; clear hf; intro a hf
   refine wpO_nil ?_
   refine wpL_cond hf rfl (fun hb10 => ?_) (fun hb10 => ?_)
   ·have hm := bif_t hm hb10
    refine wpL_seq <| wpL_region ?_
    refine sY hf hs rfl rfl rfl (Y_assign rfl rfl) ?_; clear hf; intro a hf
    refine wpO_nil ?_
    obtain rfl := Option.some.inj hm
    refine wpL_ret (Qb_ret (ret_tmp rfl hf rfl ?_))
    exact ⟨_, rfl, rfl, hs.sel [] (by decide)⟩
   ·have hm := bif_f hm hb10
    refine wpL_skip ?_
    refine wpL_nil (Qb_normal ?_)
    refine wpL_seq <| wpL_region ?_
    refine sY hf hs rfl rfl rfl (Y_assign rfl rfl) ?_; clear hf; intro a hf
    refine wpO_nil ?_
    obtain rfl := Option.some.inj hm
    refine wpL_ret (ret_tmp rfl hf rfl ?_)
    exact ⟨_, rfl, rfl, hs.sel [] (by decide)⟩

set_option maxRecDepth 100000 in
theorem impl_FiringTimes_ok (F : Nat) (ae : GEventGraph) (ad : Option Addr) (ap af : Nat) (aw : ap = ae.Places.length) (aJ : Int) (r : List (List Int) × Int) (W : World) (hm : impl_FiringTimes F ae aJ = some r) (au : Rd W ad ((recs GPlace.cells) ae.Places)) :
  Calls Try.prog 49 [.agg #[.int .i64 ae.Events, .slice ad ap af], .int .i64 aJ].toArray W fun e w' => ∃ v, e = .returned v ∧ ∃ A26, ∃ n27, ∃ c28, ∃ vs30, v = .tuple #[.slice A26 n27 c28, .int .i64 r.2] ∧ n27 = r.1.length ∧ St [] W w' [.mat A26 n27 c28 28 2 vs30 r.1] := by
 subst aw
 unfold impl_FiringTimes at hm
 refine Calls.enter (N := 19) Try.func49 rfl rfl rfl (fun a hf => ?_)
 have hs := St.start W
 obtain ⟨w, hw_⟩ : ∃ w, w = W := ⟨W, rfl⟩
 clear hw_ w
 refine wpL_seq <| wpL_region ?_
 refine sBox hf hs rfl rfl rfl rfl rfl (cs := [.int .i64 ae.Events, .slice ad ae.Places.length af]) rfl ?_; clear hf hs; intro a w b1 hs hf
 have hs : St _ W w [_] := hs
 refine sY hf hs rfl rfl rfl (Y_assign rfl rfl) ?_; clear hf; intro a hf
 refine sY hf hs rfl rfl rfl (Y_assign rfl rfl) ?_; clear hf; intro a hf
 refine wpO_nil <| wpL_seq <| wpL_seq <| wpL_region ?_
 refine sY hf hs rfl rfl rfl (Y_load_blkS rfl rfl (i := 0) rfl ag55 ti55 rfl) ?_; clear hf; intro a hf
 refine sY hf hs rfl rfl rfl (Y_move rfl rfl) ?_; clear hf; intro a hf
 obtain ⟨r2, hc3, hm⟩ := bind_some hm
 refine sCall hf rfl rfl rfl rfl (cap := []) rfl rfl en115 (impl_checkFirings_ok F ae ad ae.Places.length af rfl aJ _ _ hc3 (au.at hs)) ?_; clear hf
 rintro _ w ⟨rfl, hs1⟩ a hf
 have hs : St _ W w [_] := hs.ext hs1.below
 clear hs1
 refine sY hf hs rfl rfl rfl (Y_assign rfl rfl) ?_; clear hf; intro a hf
 refine wpO_nil <| wpL_seq <| wpL_region ?_
 refine sY hf hs rfl rfl rfl (Y_move rfl rfl) ?_; clear hf; intro a hf
 refine sY hf hs rfl rfl rfl (Y_neq rfl rfl rfl) ?_; clear hf; intro a hf
 refine wpO_nil ?_
 refine wpL_cond hf rfl (fun hb4 => ?_) (fun hb4 => ?_)
 ·have hm := bif_t hm hb4
  refine wpL_seq <| wpL_region ?_
  refine sY hf hs rfl rfl rfl (Y_move rfl rfl) ?_; clear hf; intro a hf
  refine sY hf hs rfl rfl rfl (Y_assign rfl rfl) ?_; clear hf; intro a hf
  refine sY hf hs rfl rfl rfl (Y_assign rfl rfl) ?_; clear hf; intro a hf
  refine wpO_nil ?_
  have hs : St [] W _ [.blk b1 55 [.int .i64 ae.Events, .slice ad ae.Places.length af], .mat none 0 0 28 2 [] ([] : List (List Int))] := hs.addNilM 28 2
  obtain rfl := Option.some.inj hm
  refine wpL_ret (ret_tmp2 rfl hf rfl rfl ?_)
  exact ⟨_, rfl, none, 0, 0, [], rfl, rfl, hs.sel [1] (by decide)⟩
 ·have hm := bif_f hm hb4
  refine wpL_skip <| wpL_seq ?_
  refine wpL_drawM [.blk b1 55 [.int .i64 ae.Events, .slice ad ae.Places.length af]] [5] (by kernel_rfl) hs ?_; clear hs; intro w hs
  have hs0 : St _ W w [_] := hs
  refine mY (i := 0) [[]] rfl (by kernel_rfl) (by kernel_rfl) hf hs0 rfl rfl rfl (Y_load_blkS rfl rfl (i := 0) rfl ag55 ti55 rfl) ?_; clear hf; intro a hf
  refine mYp (i := 1) rfl (by kernel_rfl) (by kernel_rfl) hf rfl rfl rfl (fun _ => Y_move rfl rfl) ?_; clear hf; intro a hf
  refine mYp (i := 2) rfl (by kernel_rfl) (by kernel_rfl) hf rfl rfl rfl (fun _ => Y_fieldAddr rfl rfl fo55_0) ?_; clear hf; intro a hf
  refine mY (i := 3) [[4]] rfl (by kernel_rfl) (by kernel_rfl) hf hs0 rfl rfl rfl (Y_load_blk rfl rfl (i := 0) rfl rfl ag2) ?_; clear hf; intro a hf
  refine mRun (i := 4) rfl (by kernel_rfl) ?_
  obtain ⟨xs18, hk17, hm⟩ := bind_some hm
  refine sMakeL (enc := ints) hf hs rfl rfl rfl rfl rfl hk17 el28 ti2 rfl ints_made ?_; clear hf hs; intro a w A16 hs hf
  have hs : St _ W w [_, .row A16 xs18.length xs18.length 2 1 (ints xs18)] := hs
  have hs0 : St _ W w [_] := hs.sel [0] (by decide)
  refine wpO_nil ⟨Or.inr (fun _ => hs0), ?_⟩
  refine mRun (i := 5) rfl (by kernel_rfl) ?_
  obtain ⟨r19, hc20, hm⟩ := bind_some hm
  refine sCall hf rfl rfl rfl rfl (cap := []) rfl rfl en116 (impl_firingTimes_ok F ae ad ae.Places.length af rfl aJ xs18 A16 xs18.length xs18.length rfl _ _ hc20 (au.at hs) (hs.rd (i := 1) rfl)) ?_; clear hf
  rintro _ w ⟨A21, n22, c23, vs25, rfl, hn24, hs1⟩ a hf
  have hs : St _ W w [_, _, .mat A21 n22 c23 28 2 vs25 r19] := hs.join hs1
  clear hs1
  refine wpO_nil ⟨Or.inl (by decide), ?_⟩
  refine mYp (i := 6) rfl (by kernel_rfl) (by kernel_rfl) hf rfl rfl rfl (fun _ => Y_assign rfl rfl) ?_; clear hf; intro a hf
  refine mYp (i := 7) rfl (by kernel_rfl) (by kernel_rfl) hf rfl rfl rfl (fun _ => Y_assign rfl rfl) ?_; clear hf; intro a hf
  refine mDone (by kernel_rfl) ?_
  clear hs0
  obtain rfl := Option.some.inj hm
  refine wpL_ret (ret_tmp2 rfl hf rfl rfl ?_)
  exact ⟨_, rfl, A21, n22, c23, vs25, rfl, hn24, hs.sel [2] (by decide)⟩

end Go.Proofs.Ytebmlphobgaboab
