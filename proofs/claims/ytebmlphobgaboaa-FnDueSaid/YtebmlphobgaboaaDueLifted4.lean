/- The functions do what their models say. -/
import Derived.Test.YtebmlphobgaboaaDueLifted3
import Derived.Test.YtebmlphobgaboaaRows
namespace Go.Proofs.Ytebmlphobgaboaa
open Go.RowKit

set_option maxHeartbeats 2000000 in
set_option maxRecDepth 100000 in
theorem spec_l22Latest_ok (F : Nat) (p0 : GEventGraph) (ai : Option Addr) (aL aj : Nat) (bo : aL = p0.Places.length) (p1 : List (List Int)) (aF : Option Addr) (aT aI : Nat) (bG : aT = p1.length) (r : List (List Int)) (W : World) (hm : spec_l22Latest F p0 p1 = some r) (aJ : Rd W ai ((recs GPlace.cells) p0.Places)) (br : RdM W aF p1) :
  Calls Try.prog 193 [.agg #[.int .i64 p0.Events, .slice ai aL aj], .slice aF aT aI].toArray W fun e w' => ∃ v, e = .returned v ∧ ∃ A2911, ∃ n2912, ∃ c2913, ∃ vs2915, v = .slice A2911 n2912 c2913 ∧ n2912 = r.length ∧ St [] W w' [.mat A2911 n2912 c2913 23 2 vs2915 r] := by
 subst bo
 subst bG
 unfold spec_l22Latest at hm
 refine Calls.enter (N := 91) Try.func193 rfl rfl rfl (fun a hf => ?_)
 have hs := St.start W
 obtain ⟨w, hw_⟩ : ∃ w, w = W := ⟨W, rfl⟩
 clear hw_ w
 refine wpL_seq <| wpL_region ?_
 refine sBox hf hs rfl rfl rfl rfl rfl (cs := [.int .i64 p0.Events, .slice ai p0.Places.length aj]) rfl ?_; clear hf hs; intro a w b1 hs hf
 have hs : St [] W w [.blk b1 52 [.int .i64 p0.Events, .slice ai p0.Places.length aj]] := hs
 refine sY hf hs rfl rfl rfl (Y_assign rfl rfl) ?_; clear hf; intro a hf
 refine wpO_nil <| wpL_seq <| wpL_region ?_
 refine sY hf hs rfl rfl rfl (Y_load_blkS rfl rfl (i := 0) rfl ag52 ti52 rfl) ?_; clear hf; intro a hf
 obtain ⟨r2, hc3, hm⟩ := bind_some hm
 refine sCall hf rfl rfl rfl rfl (cap := []) rfl rfl en145 (spec_l12Order_ok F p0 ai p0.Places.length aj rfl _ _ hc3 (aJ.at hs)) ?_; clear hf
 rintro _ w ⟨A4, n5, c6, rfl, hn7, hs1⟩ a hf
 have hs : St [] W w [.blk b1 52 [.int .i64 p0.Events, .slice ai p0.Places.length aj], .row A4 n5 c6 2 1 (ints r2)] := hs.join hs1
 clear hs1
 refine sY hf hs rfl rfl rfl (Y_assign rfl rfl) ?_; clear hf; intro a hf
 refine wpO_nil <| wpL_seq <| wpL_region ?_
 refine sY hf hs rfl rfl rfl (Y_move rfl rfl) ?_; clear hf; intro a hf
 obtain ⟨r8, hc9, hm⟩ := bind_some hm
 refine sCall hf rfl rfl rfl rfl (cap := []) rfl rfl en164 (spec_l02Own_ok F p1 aF p1.length aI rfl _ _ hc9 (br.at hs)) ?_; clear hf
 rintro _ w ⟨A10, n11, c12, vs14, rfl, hn13, hs1⟩ a hf
 have hs : St [] W w [.blk b1 52 [.int .i64 p0.Events, .slice ai p0.Places.length aj], .row A4 n5 c6 2 1 (ints r2), .mat A10 n11 c12 23 2 vs14 r8] := hs.join hs1
 clear hs1
 refine sY hf hs rfl rfl rfl (Y_assign rfl rfl) ?_; clear hf; intro a hf
 refine wpO_nil <| wpL_seq <| wpL_region ?_
 refine sY hf hs rfl rfl rfl (Y_move rfl rfl) ?_; clear hf; intro a hf
 refine sY hf hs rfl rfl rfl (Y_lenH rfl rfl el59 rfl) ?_; clear hf; intro a hf
 refine sY hf hs rfl rfl rfl (Y_assign rfl rfl) ?_; clear hf; intro a hf
 refine wpO_nil <| wpL_seq <| wpL_seq <| wpL_region ?_
 refine sY hf hs rfl rfl rfl (Y_move rfl rfl) ?_; clear hf; intro a hf
 refine sY hf hs rfl rfl rfl (Y_assign rfl rfl) ?_; clear hf; intro a hf
 refine wpO_nil ?_
 obtain ⟨r2186, hl2187, hm⟩ := bind_some hm
 refine wpL_block (fun a w => ∃ ms2184 : List (List Int), ms2184 = r2186 ∧ n11 = ms2184.length ∧ Fr a 91 [(6, .slice A10 n11 c12)] ∧ St [] W w [.mat A10 n11 c12 23 2 vs14 ms2184]) ?_ ?_
 ·refine wpL_loop (fun n a w => ∃ ms1460 : List (List Int), ∃ x1462 : Int, spec_l22Latest_L16 F p0 p1 r2 n ms1460 x1462 = some r2186 ∧ n11 = ms1460.length ∧ Fr a 91 [(2, .pointer (some ⟨b1, 0, none⟩)), (5, .slice A4 n5 c6), (6, .slice A10 n11 c12), (7, .int .i64 (p1.length : Int)), (8, .int .i64 x1462)] ∧ St [] W w [.blk b1 52 [.int .i64 p0.Events, .slice ai p0.Places.length aj], .row A4 n5 c6 2 1 (ints r2), .mat A10 n11 c12 23 2 vs14 ms1460]) F ?_ ?_ ?_
  ·exact ⟨r8, (p1.length : Int), hl2187, hn13, (FrD.pick (FrD.pick (FrD.pick (FrD.pick (FrD.pick hf.none hf rfl) hf rfl) hf rfl) hf rfl) hf rfl), hs⟩
  ·rintro a w ⟨ms1460, x1462, h0_, -, -, -⟩; simp [spec_l22Latest_L16] at h0_
  ·rintro n2189 a w ⟨ms1460, x1462, hm2188, hn1461, hf, hs⟩
   rw [spec_l22Latest_L16] at hm2188
   refine wpL_seq <| wpL_seq <| wpL_region ?_
   refine sY hf hs rfl rfl rfl (Y_move rfl rfl) ?_; clear hf; intro a hf
   refine sY hf hs rfl rfl rfl (Y_geq rfl rfl rfl) ?_; clear hf; intro a hf
   refine wpO_nil ?_
   refine wpL_cond hf rfl (fun hb2190 => ?_) (fun hb2190 => ?_)
   ·have hm2188 := bif_t hm2188 hb2190
    refine wpL_skip <| wpL_seq <| wpL_block0 <| wpL_seq <| wpL_region ?_
    refine sY hf hs rfl rfl rfl (Y_move rfl rfl) ?_; clear hf; intro a hf
    refine sY hf hs rfl rfl rfl (Y_lenH rfl rfl el23 hn7) ?_; clear hf; intro a hf
    refine sY hf hs rfl rfl rfl (Y_sub rfl rfl rfl) ?_; clear hf; intro a hf
    refine sY hf hs rfl rfl rfl (Y_assign rfl rfl) ?_; clear hf; intro a hf
    refine wpO_nil ?_
    obtain ⟨r2730, hl2731, hm2188⟩ := bind_some hm2188
    refine wpL_block (fun a w => ∃ ms2728 : List (List Int), ms2728 = r2730 ∧ n11 = ms2728.length ∧ Fr a 91 [(2, .pointer (some ⟨b1, 0, none⟩)), (5, .slice A4 n5 c6), (6, .slice A10 n11 c12), (7, .int .i64 (p1.length : Int)), (8, .int .i64 x1462)] ∧ St [] W w [.blk b1 52 [.int .i64 p0.Events, .slice ai p0.Places.length aj], .row A4 n5 c6 2 1 (ints r2), .mat A10 n11 c12 23 2 vs14 ms2728]) ?_ ?_
    ·refine wpL_loop (fun n a w => ∃ ms2548 : List (List Int), ∃ x2550 : Int, spec_l22Latest_L20 F p0 p1 r2 x1462 n ms2548 x2550 = some r2730 ∧ n11 = ms2548.length ∧ Fr a 91 [(2, .pointer (some ⟨b1, 0, none⟩)), (5, .slice A4 n5 c6), (6, .slice A10 n11 c12), (7, .int .i64 (p1.length : Int)), (8, .int .i64 x1462), (9, .int .i64 x2550)] ∧ St [] W w [.blk b1 52 [.int .i64 p0.Events, .slice ai p0.Places.length aj], .row A4 n5 c6 2 1 (ints r2), .mat A10 n11 c12 23 2 vs14 ms2548]) F ?_ ?_ ?_
     ·exact ⟨ms1460, (IntKind.i64.wrap ((r2.length : Int) - 1)), hl2731, hn1461, (FrD.pick (FrD.pick (FrD.pick (FrD.pick (FrD.pick (FrD.pick hf.none hf rfl) hf rfl) hf rfl) hf rfl) hf rfl) hf rfl), hs⟩
     ·rintro a w ⟨ms2548, x2550, h0_, -, -, -⟩; simp [spec_l22Latest_L20] at h0_
     ·rintro n2733 a w ⟨ms2548, x2550, hm2732, hn2549, hf, hs⟩
      rw [spec_l22Latest_L20] at hm2732
      refine wpL_seq <| wpL_seq <| wpL_region ?_
      refine sY hf hs rfl rfl rfl (Y_move rfl rfl) ?_; clear hf; intro a hf
      refine sY hf hs rfl rfl rfl (Y_geq rfl rfl rfl) ?_; clear hf; intro a hf
      refine wpO_nil ?_
      refine wpL_cond hf rfl (fun hb2734 => ?_) (fun hb2734 => ?_)
      ·have hm2732 := bif_t hm2732 hb2734
       refine wpL_skip <| wpL_seq <| wpL_block0 <| wpL_seq <| wpL_region ?_
       refine sY hf hs rfl rfl rfl (Y_assign rfl rfl) ?_; clear hf; intro a hf
       refine wpO_nil ?_
       obtain ⟨r2866, hl2867, hm2732⟩ := bind_some hm2732
       refine wpL_block (fun a w => ∃ ms2864 : List (List Int), ms2864 = r2866 ∧ n11 = ms2864.length ∧ Fr a 91 [(2, .pointer (some ⟨b1, 0, none⟩)), (5, .slice A4 n5 c6), (6, .slice A10 n11 c12), (7, .int .i64 (p1.length : Int)), (8, .int .i64 x1462), (9, .int .i64 x2550)] ∧ St [] W w [.blk b1 52 [.int .i64 p0.Events, .slice ai p0.Places.length aj], .row A4 n5 c6 2 1 (ints r2), .mat A10 n11 c12 23 2 vs14 ms2864]) ?_ ?_
       ·refine wpL_loop (fun n a w => ∃ ms2820 : List (List Int), ∃ x2822 : Int, spec_l22Latest_L21 F p0 p1 r2 x1462 x2550 n ms2820 x2822 = some r2866 ∧ n11 = ms2820.length ∧ Fr a 91 [(2, .pointer (some ⟨b1, 0, none⟩)), (5, .slice A4 n5 c6), (6, .slice A10 n11 c12), (7, .int .i64 (p1.length : Int)), (8, .int .i64 x1462), (9, .int .i64 x2550), (10, .int .i64 x2822)] ∧ St [] W w [.blk b1 52 [.int .i64 p0.Events, .slice ai p0.Places.length aj], .row A4 n5 c6 2 1 (ints r2), .mat A10 n11 c12 23 2 vs14 ms2820]) F ?_ ?_ ?_
        ·exact ⟨ms2548, 0, hl2867, hn2549, (FrD.pick (FrD.pick (FrD.pick (FrD.pick (FrD.pick (FrD.pick (FrD.pick hf.none hf rfl) hf rfl) hf rfl) hf rfl) hf rfl) hf rfl) hf rfl), hs⟩
        ·rintro a w ⟨ms2820, x2822, h0_, -, -, -⟩; simp [spec_l22Latest_L21] at h0_
        ·rintro n2869 a w ⟨ms2820, x2822, hm2868, hn2821, hf, hs⟩
         rw [spec_l22Latest_L21] at hm2868
         refine wpL_seq <| wpL_seq <| wpL_region ?_
         refine sY hf hs rfl rfl rfl (Y_move rfl rfl) ?_; clear hf; intro a hf
         refine sY hf hs rfl rfl rfl (Y_fieldAddr rfl rfl fo52_1) ?_; clear hf; intro a hf
         refine sY hf hs rfl rfl rfl (Y_load_blk rfl rfl (i := 0) rfl rfl ag50) ?_; clear hf; intro a hf
         refine sY hf hs rfl rfl rfl (Y_lenH rfl rfl el50 rfl) ?_; clear hf; intro a hf
         refine sY hf hs rfl rfl rfl (Y_lss rfl rfl rfl) ?_; clear hf; intro a hf
         refine wpO_nil ?_
         refine wpL_cond hf rfl (fun hb2870 => ?_) (fun hb2870 => ?_)
         ·have hm2868 := bif_t hm2868 hb2870
          refine wpL_skip <| wpL_seq <| wpL_block0 <| wpL_seq <| wpL_region ?_
          refine sY hf hs rfl rfl rfl (Y_fieldAddr rfl rfl fo52_1) ?_; clear hf; intro a hf
          refine sY hf hs rfl rfl rfl (Y_load_blk rfl rfl (i := 0) rfl rfl ag50) ?_; clear hf; intro a hf
          refine sY hf hs rfl rfl rfl (Y_move rfl rfl) ?_; clear hf; intro a hf
          obtain ⟨q2871, hi2872, hm2868⟩ := bind_some hm2868
          obtain ⟨hi2872a, hi2872b, hi2872q⟩ := idx_some hi2872
          refine sY hf hs rfl rfl rfl (Y_index rfl rfl rfl el50 ti112 (Rd.isAt (aJ.at hs) (recs_at (s := 4) GPlace.len hi2872q (j := 0) rfl)) hi2872a hi2872b) ?_; clear hf; intro a hf
          refine sY hf hs rfl rfl rfl (Y_load_rdS rfl rfl (us := [.int .i64 q2871.From, .int .i64 q2871.To, .int .i64 q2871.Delay, .int .i64 q2871.Tokens]) (fun w hs => aJ.at hs) (fun j u hj => recs_at (s := 4) GPlace.len hi2872q hj) (Nat.succ_pos _) ag112 ti112 rfl) ?_; clear hf; intro a hf
          refine sAlloc hf hs rfl rfl rfl rfl ti112 ?_; clear hf hs; intro a w b2873 hs hf
          have hs : St [] W w [.blk b1 52 [.int .i64 p0.Events, .slice ai p0.Places.length aj], .row A4 n5 c6 2 1 (ints r2), .mat A10 n11 c12 23 2 vs14 ms2820, .blk b2873 112 [.int .i64 0, .int .i64 0, .int .i64 0, .int .i64 0]] := hs
          refine sStore (i := 3) (us := [.int .i64 q2871.From, .int .i64 q2871.To, .int .i64 q2871.Delay, .int .i64 q2871.Tokens]) hf hs rfl rfl rfl rfl rfl rfl ti112 rfl rfl rfl (Nat.le_of_ble_eq_true rfl) rfl ?_; clear hs; intro w hs
          have hs : St [] W w [.blk b1 52 [.int .i64 p0.Events, .slice ai p0.Places.length aj], .row A4 n5 c6 2 1 (ints r2), .mat A10 n11 c12 23 2 vs14 ms2820, .blk b2873 112 [.int .i64 q2871.From, .int .i64 q2871.To, .int .i64 q2871.Delay, .int .i64 q2871.Tokens]] := hs
          refine wpO_nil <| wpL_seq ?_
          obtain ⟨r2878, hj2879, hm2868⟩ := bind_some hm2868
          refine wpL_cut (fun a w => ∃ b2877 : Bool, b2877 = r2878 ∧ Fr a 91 [(2, .pointer (some ⟨b1, 0, none⟩)), (5, .slice A4 n5 c6), (6, .slice A10 n11 c12), (7, .int .i64 (p1.length : Int)), (8, .int .i64 x1462), (9, .int .i64 x2550), (10, .int .i64 x2822), (11, .pointer (some ⟨b2873, 0, none⟩)), (56, .bool b2877)] ∧ St [] W w [.blk b1 52 [.int .i64 p0.Events, .slice ai p0.Places.length aj], .row A4 n5 c6 2 1 (ints r2), .mat A10 n11 c12 23 2 vs14 ms2820, .blk b2873 112 [.int .i64 q2871.From, .int .i64 q2871.To, .int .i64 q2871.Delay, .int .i64 q2871.Tokens]]) ?_ ?_
          ·refine wpL_draw (by kernel_rfl) (by kernel_rfl) hs ?_
           refine qY hf rfl rfl rfl (Y_fieldAddr rfl rfl fo112_0) ?_; clear hf; intro a hf
           refine qY hf rfl rfl rfl (Y_load_blk rfl rfl (i := 3) rfl rfl ag2) ?_; clear hf; intro a hf
           refine qY hf rfl rfl rfl (Y_move rfl rfl) ?_; clear hf; intro a hf
           refine qY hf rfl rfl rfl (Y_move rfl rfl) ?_; clear hf; intro a hf
           obtain ⟨q2880, hi2881, hj2879⟩ := bind_some hj2879
           obtain ⟨hi2881a, hi2881b, hi2881q⟩ := idx_some hi2881
           refine qY hf rfl rfl rfl (Y_index rfl rfl rfl el23 ti2 (Rd.isAt (hs.rd (i := 1) rfl) (at1 (ints_at hi2881q))) hi2881a (ltn hn7 hi2881b)) ?_; clear hf; intro a hf
           refine qY hf rfl rfl rfl (Y_load_rd rfl rfl (fun w hs => hs.rd (i := 1) rfl) (at1 (ints_at hi2881q)) ag2) ?_; clear hf; intro a hf
           refine qY hf rfl rfl rfl (Y_eql rfl rfl rfl) ?_; clear hf; intro a hf
           refine qY hf rfl rfl rfl (Y_move rfl rfl) ?_; clear hf; intro a hf
           refine bsplit (q2871.From == q2880) (fun hb2882 => ?_) (fun hb2882 => ?_)
           ·have hj2879 := bif_t hj2879 hb2882
            refine qYg hf rfl rfl rfl (congrArg (fun b => some (Value.bool b)) hb2882) rfl rfl rfl (Y_move rfl rfl) ?_; clear hf; intro a hf
            refine qYg hf rfl rfl rfl (congrArg (fun b => some (Value.bool b)) hb2882) rfl rfl rfl (Y_fieldAddr rfl rfl fo112_3) ?_; clear hf; intro a hf
            refine qYg hf rfl rfl rfl (congrArg (fun b => some (Value.bool b)) hb2882) rfl rfl rfl (Y_load_blk rfl rfl (i := 3) rfl rfl ag2) ?_; clear hf; intro a hf
            refine qYg hf rfl rfl rfl (congrArg (fun b => some (Value.bool b)) hb2882) rfl rfl rfl (Y_add rfl rfl rfl) ?_; clear hf; intro a hf
            refine qYg hf rfl rfl rfl (congrArg (fun b => some (Value.bool b)) hb2882) rfl rfl rfl (Y_move rfl rfl) ?_; clear hf; intro a hf
            refine qYg hf rfl rfl rfl (congrArg (fun b => some (Value.bool b)) hb2882) rfl rfl rfl (Y_leq rfl rfl rfl) ?_; clear hf; intro a hf
            refine qY hf rfl rfl rfl (Y_pickT rfl (congrArg (fun b => some (Value.bool b)) hb2882) rfl) ?_; clear hf; intro a hf
            refine qNil ?_; clear hs; intro w hs
            refine wpL_nil (then_normal ?_)
            exact ⟨(decide ((IntKind.i64.wrap (x1462 + q2871.Tokens)) ≤ (p1.length : Int))), Option.some.inj hj2879, (FrD.pick (FrD.pick (FrD.pick (FrD.pick (FrD.pick (FrD.pick (FrD.pick (FrD.pick (FrD.pick hf.none hf rfl) hf rfl) hf rfl) hf rfl) hf rfl) hf rfl) hf rfl) hf rfl) hf rfl), hs⟩
           ·have hj2879 := bif_f hj2879 hb2882
            refine qNo hf rfl rfl rfl (congrArg (fun b => some (Value.bool b)) hb2882) rfl rfl rfl ?_; clear hf; intro a hf
            refine qNo hf rfl rfl rfl (congrArg (fun b => some (Value.bool b)) hb2882) rfl rfl rfl ?_; clear hf; intro a hf
            refine qNo hf rfl rfl rfl (congrArg (fun b => some (Value.bool b)) hb2882) rfl rfl rfl ?_; clear hf; intro a hf
            refine qNo hf rfl rfl rfl (congrArg (fun b => some (Value.bool b)) hb2882) rfl rfl rfl ?_; clear hf; intro a hf
            refine qNo hf rfl rfl rfl (congrArg (fun b => some (Value.bool b)) hb2882) rfl rfl rfl ?_; clear hf; intro a hf
            refine qNo hf rfl rfl rfl (congrArg (fun b => some (Value.bool b)) hb2882) rfl rfl rfl ?_; clear hf; intro a hf
            refine qY hf rfl rfl rfl (Y_pickF rfl (congrArg (fun b => some (Value.bool b)) hb2882) rfl) ?_; clear hf; intro a hf
            refine qNil ?_; clear hs; intro w hs
            refine wpL_nil (then_normal ?_)
            exact ⟨false, Option.some.inj hj2879, (FrD.pick (FrD.pick (FrD.pick (FrD.pick (FrD.pick (FrD.pick (FrD.pick (FrD.pick (FrD.pick hf.none hf rfl) hf rfl) hf rfl) hf rfl) hf rfl) hf rfl) hf rfl) hf rfl) hf rfl), hs⟩
          ·rintro a w ⟨b2877, hr_, hf, hs⟩
           subst hr_
           try dsimp only at hm2868
           refine wpL_cond hf rfl (fun hb2883 => ?_) (fun hb2883 => ?_)
           ·have hm2868 := bif_t hm2868 hb2883
            refine wpL_drawM [.blk b1 52 [.int .i64 p0.Events, .slice ai p0.Places.length aj], .row A4 n5 c6 2 1 (ints r2), .mat A10 n11 c12 23 2 vs14 ms2820, .blk b2873 112 [.int .i64 q2871.From, .int .i64 q2871.To, .int .i64 q2871.Delay, .int .i64 q2871.Tokens]] [33] (by kernel_rfl) hs ?_; clear hs; intro w hs
            have hs0 : St [] W w [.blk b1 52 [.int .i64 p0.Events, .slice ai p0.Places.length aj], .row A4 n5 c6 2 1 (ints r2), .mat A10 n11 c12 23 2 vs14 ms2820, .blk b2873 112 [.int .i64 q2871.From, .int .i64 q2871.To, .int .i64 q2871.Delay, .int .i64 q2871.Tokens]] := hs
            refine mYp (i := 0) rfl (by kernel_rfl) (by kernel_rfl) hf rfl rfl rfl (fun _ => Y_move rfl rfl) ?_; clear hf; intro a hf
            refine mYp (i := 1) rfl (by kernel_rfl) (by kernel_rfl) hf rfl rfl rfl (fun _ => Y_move rfl rfl) ?_; clear hf; intro a hf
            refine mYp (i := 2) rfl (by kernel_rfl) (by kernel_rfl) hf rfl rfl rfl (fun _ => Y_sub rfl rfl rfl) ?_; clear hf; intro a hf
            obtain ⟨q2884, hi2885, hm2868⟩ := bind_some hm2868
            obtain ⟨hi2885a, hi2885b, hi2885q⟩ := idx_some hi2885
            obtain ⟨A2886, c2887, hv2888⟩ := hs.matRow (i := 2) rfl hi2885q
            refine mYp (i := 3) rfl (by kernel_rfl) (by kernel_rfl) hf rfl rfl rfl (fun _ => Y_index rfl rfl rfl el59 ti23 (Rd.isAt (hs.rdV (i := 2) rfl) hv2888) hi2885a (ltn hn2821 hi2885b)) ?_; clear hf; intro a hf
            refine mY (i := 4) [[]] rfl (by kernel_rfl) (by kernel_rfl) hf hs0 rfl rfl rfl (Y_load_rd rfl rfl (fun w hs => hs.rdV (i := 2) rfl) (at1 hv2888) ag23) ?_; clear hf; intro a hf
            refine mYp (i := 5) rfl (by kernel_rfl) (by kernel_rfl) hf rfl rfl rfl (fun _ => Y_fieldAddr rfl rfl fo112_0) ?_; clear hf; intro a hf
            refine mY (i := 6) [[]] rfl (by kernel_rfl) (by kernel_rfl) hf hs0 rfl rfl rfl (Y_load_blk rfl rfl (i := 3) rfl rfl ag2) ?_; clear hf; intro a hf
            refine mYp (i := 7) rfl (by kernel_rfl) (by kernel_rfl) hf rfl rfl rfl (fun _ => Y_move rfl rfl) ?_; clear hf; intro a hf
            refine mYp (i := 8) rfl (by kernel_rfl) (by kernel_rfl) hf rfl rfl rfl (fun _ => Y_move rfl rfl) ?_; clear hf; intro a hf
            refine mYp (i := 9) rfl (by kernel_rfl) (by kernel_rfl) hf rfl rfl rfl (fun _ => Y_sub rfl rfl rfl) ?_; clear hf; intro a hf
            obtain ⟨q2889, hi2890, hm2868⟩ := bind_some hm2868
            obtain ⟨hi2890a, hi2890b, hi2890q⟩ := idx_some hi2890
            obtain ⟨A2891, c2892, hv2893⟩ := hs.matRow (i := 2) rfl hi2890q
            refine mYp (i := 10) rfl (by kernel_rfl) (by kernel_rfl) hf rfl rfl rfl (fun _ => Y_index rfl rfl rfl el59 ti23 (Rd.isAt (hs.rdV (i := 2) rfl) hv2893) hi2890a (ltn hn2821 hi2890b)) ?_; clear hf; intro a hf
            refine mY (i := 11) [[]] rfl (by kernel_rfl) (by kernel_rfl) hf hs0 rfl rfl rfl (Y_load_rd rfl rfl (fun w hs => hs.rdV (i := 2) rfl) (at1 hv2893) ag23) ?_; clear hf; intro a hf
            refine mYp (i := 12) rfl (by kernel_rfl) (by kernel_rfl) hf rfl rfl rfl (fun _ => Y_fieldAddr rfl rfl fo112_0) ?_; clear hf; intro a hf
            refine mY (i := 13) [[]] rfl (by kernel_rfl) (by kernel_rfl) hf hs0 rfl rfl rfl (Y_load_blk rfl rfl (i := 3) rfl rfl ag2) ?_; clear hf; intro a hf
            obtain ⟨q2894, hi2895, hm2868⟩ := bind_some hm2868
            obtain ⟨hi2895a, hi2895b, hi2895q⟩ := idx_some hi2895
            refine mYp (i := 14) rfl (by kernel_rfl) (by kernel_rfl) hf rfl rfl rfl (fun _ => Y_index rfl rfl rfl el23 ti2 (Rd.isAt (hs.rdRow (i := 2) rfl ⟨hi2890q, hv2893⟩) (at1 (ints_at hi2895q))) hi2895a hi2895b) ?_; clear hf; intro a hf
            refine mY (i := 15) [[]] rfl (by kernel_rfl) (by kernel_rfl) hf hs0 rfl rfl rfl (Y_load_rd rfl rfl (fun w hs => hs.rdRow (i := 2) rfl ⟨hi2890q, hv2893⟩) (at1 (ints_at hi2895q)) ag2) ?_; clear hf; intro a hf
            refine mYp (i := 16) rfl (by kernel_rfl) (by kernel_rfl) hf rfl rfl rfl (fun _ => Y_move rfl rfl) ?_; clear hf; intro a hf
            refine mYp (i := 17) rfl (by kernel_rfl) (by kernel_rfl) hf rfl rfl rfl (fun _ => Y_move rfl rfl) ?_; clear hf; intro a hf
            refine mYp (i := 18) rfl (by kernel_rfl) (by kernel_rfl) hf rfl rfl rfl (fun _ => Y_fieldAddr rfl rfl fo112_3) ?_; clear hf; intro a hf
            refine mY (i := 19) [[]] rfl (by kernel_rfl) (by kernel_rfl) hf hs0 rfl rfl rfl (Y_load_blk rfl rfl (i := 3) rfl rfl ag2) ?_; clear hf; intro a hf
            refine mYp (i := 20) rfl (by kernel_rfl) (by kernel_rfl) hf rfl rfl rfl (fun _ => Y_add rfl rfl rfl) ?_; clear hf; intro a hf
            refine mYp (i := 21) rfl (by kernel_rfl) (by kernel_rfl) hf rfl rfl rfl (fun _ => Y_sub rfl rfl rfl) ?_; clear hf; intro a hf
            obtain ⟨q2896, hi2897, hm2868⟩ := bind_some hm2868
            obtain ⟨hi2897a, hi2897b, hi2897q⟩ := idx_some hi2897
            obtain ⟨A2898, c2899, hv2900⟩ := hs.matRow (i := 2) rfl hi2897q
            refine mYp (i := 22) rfl (by kernel_rfl) (by kernel_rfl) hf rfl rfl rfl (fun _ => Y_index rfl rfl rfl el59 ti23 (Rd.isAt (hs.rdV (i := 2) rfl) hv2900) hi2897a (ltn hn2821 hi2897b)) ?_; clear hf; intro a hf
            refine mY (i := 23) [[]] rfl (by kernel_rfl) (by kernel_rfl) hf hs0 rfl rfl rfl (Y_load_rd rfl rfl (fun w hs => hs.rdV (i := 2) rfl) (at1 hv2900) ag23) ?_; clear hf; intro a hf
            refine mYp (i := 24) rfl (by kernel_rfl) (by kernel_rfl) hf rfl rfl rfl (fun _ => Y_fieldAddr rfl rfl fo112_1) ?_; clear hf; intro a hf
            refine mY (i := 25) [[]] rfl (by kernel_rfl) (by kernel_rfl) hf hs0 rfl rfl rfl (Y_load_blk rfl rfl (i := 3) rfl rfl ag2) ?_; clear hf; intro a hf
            obtain ⟨q2901, hi2902, hm2868⟩ := bind_some hm2868
            obtain ⟨hi2902a, hi2902b, hi2902q⟩ := idx_some hi2902
            refine mYp (i := 26) rfl (by kernel_rfl) (by kernel_rfl) hf rfl rfl rfl (fun _ => Y_index rfl rfl rfl el23 ti2 (Rd.isAt (hs.rdRow (i := 2) rfl ⟨hi2897q, hv2900⟩) (at1 (ints_at hi2902q))) hi2902a hi2902b) ?_; clear hf; intro a hf
            refine mY (i := 27) [[]] rfl (by kernel_rfl) (by kernel_rfl) hf hs0 rfl rfl rfl (Y_load_rd rfl rfl (fun w hs => hs.rdRow (i := 2) rfl ⟨hi2897q, hv2900⟩) (at1 (ints_at hi2902q)) ag2) ?_; clear hf; intro a hf
            refine mYp (i := 28) rfl (by kernel_rfl) (by kernel_rfl) hf rfl rfl rfl (fun _ => Y_fieldAddr rfl rfl fo112_2) ?_; clear hf; intro a hf
            refine mY (i := 29) [[]] rfl (by kernel_rfl) (by kernel_rfl) hf hs0 rfl rfl rfl (Y_load_blk rfl rfl (i := 3) rfl rfl ag2) ?_; clear hf; intro a hf
            refine mYp (i := 30) rfl (by kernel_rfl) (by kernel_rfl) hf rfl rfl rfl (fun _ => Y_sub rfl rfl rfl) ?_; clear hf; intro a hf
            refine mYp (i := 31) rfl (by kernel_rfl) (by kernel_rfl) hf rfl rfl rfl (fun _ => Y_min rfl rfl rfl) ?_; clear hf; intro a hf
            obtain ⟨q2903, hi2904, hm2868⟩ := bind_some hm2868
            obtain ⟨hi2904a, hi2904b, hi2904q⟩ := idx_some hi2904
            refine mYp (i := 32) rfl (by kernel_rfl) (by kernel_rfl) hf rfl rfl rfl (fun _ => Y_index rfl rfl rfl el23 ti2 (Rd.isAt (hs.rdRow (i := 2) rfl ⟨hi2885q, hv2888⟩) (at1 (ints_at hi2904q))) hi2904a hi2904b) ?_; clear hf; intro a hf
            refine mRun (i := 33) rfl (by kernel_rfl) ?_
            obtain ⟨xs2905, hu2907, hm2868⟩ := bind_some hm2868
            obtain ⟨ms2906, hu2908, hm2868⟩ := bind_some hm2868
            refine sStoreM (i := 2) (k := (IntKind.i64.wrap (x1462 - 1))) hf hs rfl rfl rfl rfl rfl rfl hi2885q hv2888 rfl hu2907 hu2908 ti2 ?_; clear hs; intro w hs
            obtain ⟨hq2909, hv2910⟩ := rowUpd hu2907 hu2908 hv2888
            have hs : St [] W w [.blk b1 52 [.int .i64 p0.Events, .slice ai p0.Places.length aj], .row A4 n5 c6 2 1 (ints r2), .mat A10 n11 c12 23 2 vs14 ms2906, .blk b2873 112 [.int .i64 q2871.From, .int .i64 q2871.To, .int .i64 q2871.Delay, .int .i64 q2871.Tokens]] := hs
            refine wpO_nil ⟨Or.inl (by decide), ?_⟩
            refine mDone (by kernel_rfl) ?_
            clear hs0
            refine wpL_nil (Qb_normal ?_)
            refine wpL_region ?_
            refine sY hf hs rfl rfl rfl (Y_move rfl rfl) ?_; clear hf; intro a hf
            refine sY hf hs rfl rfl rfl (Y_add rfl rfl rfl) ?_; clear hf; intro a hf
            refine sY hf hs rfl rfl rfl (Y_assign rfl rfl) ?_; clear hf; intro a hf
            refine wpO_nil ?_
            refine wpL_nil (Ql_normal ?_)
            exact ⟨ms2906, (IntKind.i64.wrap (x2822 + 1)), hm2868, ((hn2821).trans (upd_len hu2908).symm), (FrD.pick (FrD.pick (FrD.pick (FrD.pick (FrD.pick (FrD.pick (FrD.pick hf.none hf rfl) hf rfl) hf rfl) hf rfl) hf rfl) hf rfl) hf rfl), hs.sel [0, 1, 2] (by decide)⟩
           ·have hm2868 := bif_f hm2868 hb2883
            refine wpL_skip ?_
            refine wpL_nil (Qb_normal ?_)
            refine wpL_region ?_
            refine sY hf hs rfl rfl rfl (Y_move rfl rfl) ?_; clear hf; intro a hf
            refine sY hf hs rfl rfl rfl (Y_add rfl rfl rfl) ?_; clear hf; intro a hf
            refine sY hf hs rfl rfl rfl (Y_assign rfl rfl) ?_; clear hf; intro a hf
            refine wpO_nil ?_
            refine wpL_nil (Ql_normal ?_)
            exact ⟨ms2820, (IntKind.i64.wrap (x2822 + 1)), hm2868, hn2821, (FrD.pick (FrD.pick (FrD.pick (FrD.pick (FrD.pick (FrD.pick (FrD.pick hf.none hf rfl) hf rfl) hf rfl) hf rfl) hf rfl) hf rfl) hf rfl), hs.sel [0, 1, 2] (by decide)⟩
         ·have hm2868 := bif_f hm2868 hb2870
          refine wpL_exit (Ql_exit (Qb_exit ?_))
          exact ⟨ms2820, Option.some.inj hm2868, hn2821, (FrD.pick (FrD.pick (FrD.pick (FrD.pick (FrD.pick (FrD.pick hf.none hf rfl) hf rfl) hf rfl) hf rfl) hf rfl) hf rfl), hs⟩
       ·rintro a w ⟨ms2864, hr_, hn2865, hf, hs⟩
        subst hr_
        try dsimp only at hm2732
        refine wpL_nil (Qb_normal ?_)
        refine wpL_region ?_
        refine sY hf hs rfl rfl rfl (Y_move rfl rfl) ?_; clear hf; intro a hf
        refine sY hf hs rfl rfl rfl (Y_sub rfl rfl rfl) ?_; clear hf; intro a hf
        refine sY hf hs rfl rfl rfl (Y_assign rfl rfl) ?_; clear hf; intro a hf
        refine wpO_nil ?_
        refine wpL_nil (Ql_normal ?_)
        exact ⟨ms2864, (IntKind.i64.wrap (x2550 - 1)), hm2732, hn2865, (FrD.pick (FrD.pick (FrD.pick (FrD.pick (FrD.pick (FrD.pick hf.none hf rfl) hf rfl) hf rfl) hf rfl) hf rfl) hf rfl), hs⟩
      ·have hm2732 := bif_f hm2732 hb2734
       refine wpL_exit (Ql_exit (Qb_exit ?_))
       exact ⟨ms2548, Option.some.inj hm2732, hn2549, (FrD.pick (FrD.pick (FrD.pick (FrD.pick (FrD.pick hf.none hf rfl) hf rfl) hf rfl) hf rfl) hf rfl), hs⟩
    ·rintro a w ⟨ms2728, hr_, hn2729, hf, hs⟩
     subst hr_
     try dsimp only at hm2188
     refine wpL_nil (Qb_normal ?_)
     refine wpL_region ?_
     refine sY hf hs rfl rfl rfl (Y_move rfl rfl) ?_; clear hf; intro a hf
     refine sY hf hs rfl rfl rfl (Y_sub rfl rfl rfl) ?_; clear hf; intro a hf
     refine sY hf hs rfl rfl rfl (Y_assign rfl rfl) ?_; clear hf; intro a hf
     refine wpO_nil ?_
     refine wpL_nil (Ql_normal ?_)
     exact ⟨ms2728, (IntKind.i64.wrap (x1462 - 1)), hm2188, hn2729, (FrD.pick (FrD.pick (FrD.pick (FrD.pick (FrD.pick hf.none hf rfl) hf rfl) hf rfl) hf rfl) hf rfl), hs⟩
   ·have hm2188 := bif_f hm2188 hb2190
    refine wpL_exit (Ql_exit (Qb_exit ?_))
    exact ⟨ms1460, Option.some.inj hm2188, hn1461, (FrD.pick hf.none hf rfl), hs.sel [2] (by decide)⟩
 ·rintro a w ⟨ms2184, hr_, hn2185, hf, hs⟩
  subst hr_
  try dsimp only at hm
  refine wpL_seq <| wpL_region ?_
  refine sY hf hs rfl rfl rfl (Y_move rfl rfl) ?_; clear hf; intro a hf
  refine sY hf hs rfl rfl rfl (Y_assign rfl rfl) ?_; clear hf; intro a hf
  refine wpO_nil ?_
  obtain rfl := Option.some.inj hm
  refine wpL_ret (ret_tmp rfl hf rfl ?_)
  exact ⟨_, rfl, A10, n11, c12, vs14, rfl, hn2185, hs⟩

set_option maxRecDepth 100000 in
theorem spec_l22Floats_ok (F : Nat) (ae : GEventGraph) (ad : Option Addr) (ao af : Nat) (au : ao = ae.Places.length) (al : List (List Int)) (ak : Option Addr) (ax am : Nat) (aE : ax = al.length) (r : List (List Int)) (W : World) (hm : spec_l22Floats F ae al = some r) (ap : Rd W ad ((recs GPlace.cells) ae.Places)) (aB : RdM W ak al) :
  Calls Try.prog 152 [.agg #[.int .i64 ae.Events, .slice ad ao af], .slice ak ax am].toArray W fun e w' => ∃ v, e = .returned v ∧ ∃ A621, ∃ n622, ∃ c623, ∃ vs625, v = .slice A621 n622 c623 ∧ n622 = r.length ∧ St [] W w' [.mat A621 n622 c623 23 2 vs625 r] := by
 subst au
 subst aE
 unfold spec_l22Floats at hm
 refine Calls.enter (N := 56) Try.func152 rfl rfl rfl (fun a hf => ?_)
 have hs := St.start W
 obtain ⟨w, hw_⟩ : ∃ w, w = W := ⟨W, rfl⟩
 clear hw_ w
 refine wpL_seq <| wpL_region ?_
 refine sBox hf hs rfl rfl rfl rfl rfl (cs := [.int .i64 ae.Events, .slice ad ae.Places.length af]) rfl ?_; clear hf hs; intro a w b1 hs hf
 have hs : St [] W w [.blk b1 52 [.int .i64 ae.Events, .slice ad ae.Places.length af]] := hs
 refine sY hf hs rfl rfl rfl (Y_assign rfl rfl) ?_; clear hf; intro a hf
 refine wpO_nil <| wpL_seq <| wpL_region ?_
 refine sY hf hs rfl rfl rfl (Y_load_blkS rfl rfl (i := 0) rfl ag52 ti52 rfl) ?_; clear hf; intro a hf
 refine sY hf hs rfl rfl rfl (Y_move rfl rfl) ?_; clear hf; intro a hf
 obtain ⟨r2, hc3, hm⟩ := bind_some hm
 refine sCall hf rfl rfl rfl rfl (cap := []) rfl rfl en193 (spec_l22Latest_ok F ae ad ae.Places.length af rfl al ak al.length am rfl _ _ hc3 (ap.at hs) (aB.at hs)) ?_; clear hf
 rintro _ w ⟨A4, n5, c6, vs8, rfl, hn7, hs1⟩ a hf
 have hs : St [] W w [.blk b1 52 [.int .i64 ae.Events, .slice ad ae.Places.length af], .mat A4 n5 c6 23 2 vs8 r2] := hs.join hs1
 clear hs1
 refine sY hf hs rfl rfl rfl (Y_assign rfl rfl) ?_; clear hf; intro a hf
 refine wpO_nil <| wpL_seq ?_
 refine wpL_drawM [.blk b1 52 [.int .i64 ae.Events, .slice ad ae.Places.length af], .mat A4 n5 c6 23 2 vs8 r2] [6] (by kernel_rfl) hs ?_; clear hs; intro w hs
 have hs0 : St [] W w [.blk b1 52 [.int .i64 ae.Events, .slice ad ae.Places.length af], .mat A4 n5 c6 23 2 vs8 r2] := hs
 refine mY (i := 0) [[]] rfl (by kernel_rfl) (by kernel_rfl) hf hs0 rfl rfl rfl (Y_load_blkS rfl rfl (i := 0) rfl ag52 ti52 rfl) ?_; clear hf; intro a hf
 refine mYp (i := 1) rfl (by kernel_rfl) (by kernel_rfl) hf rfl rfl rfl (fun _ => Y_move rfl rfl) ?_; clear hf; intro a hf
 refine mYp (i := 2) rfl (by kernel_rfl) (by kernel_rfl) hf rfl rfl rfl (fun _ => Y_lenH rfl rfl el59 rfl) ?_; clear hf; intro a hf
 refine mYp (i := 3) rfl (by kernel_rfl) (by kernel_rfl) hf rfl rfl rfl (fun _ => Y_fieldAddr rfl rfl fo52_0) ?_; clear hf; intro a hf
 refine mY (i := 4) [[5]] rfl (by kernel_rfl) (by kernel_rfl) hf hs0 rfl rfl rfl (Y_load_blk rfl rfl (i := 0) rfl rfl ag2) ?_; clear hf; intro a hf
 refine mRun (i := 5) rfl (by kernel_rfl) ?_
 obtain ⟨xs21, hk20, hm⟩ := bind_some hm
 refine sMakeL (enc := ints) hf hs rfl rfl rfl rfl rfl hk20 el23 ti2 rfl ints_made ?_; clear hf hs; intro a w A19 hs hf
 have hs : St [] W w [.blk b1 52 [.int .i64 ae.Events, .slice ad ae.Places.length af], .mat A4 n5 c6 23 2 vs8 r2, .row A19 xs21.length xs21.length 2 1 (ints xs21)] := hs
 have hs0 : St [] W w [.blk b1 52 [.int .i64 ae.Events, .slice ad ae.Places.length af], .mat A4 n5 c6 23 2 vs8 r2] := hs.sel [0, 1] (by decide)
 refine wpO_nil ⟨Or.inr (fun _ => hs0), ?_⟩
 refine mRun (i := 6) rfl (by kernel_rfl) ?_
 obtain ⟨r22, hc23, hm⟩ := bind_some hm
 refine sCall hf rfl rfl rfl rfl (cap := []) rfl rfl en106 (spec_l13Times_ok F ae ad ae.Places.length af rfl (al.length : Int) xs21 A19 xs21.length xs21.length rfl _ _ hc23 (ap.at hs) (hs.rd (i := 2) rfl)) ?_; clear hf
 rintro _ w ⟨A24, n25, c26, vs28, rfl, hn27, hs1⟩ a hf
 have hs : St [] W w [.blk b1 52 [.int .i64 ae.Events, .slice ad ae.Places.length af], .mat A4 n5 c6 23 2 vs8 r2, .row A19 xs21.length xs21.length 2 1 (ints xs21), .mat A24 n25 c26 23 2 vs28 r22] := hs.join hs1
 clear hs1
 refine wpO_nil ⟨Or.inl (by decide), ?_⟩
 refine mYp (i := 7) rfl (by kernel_rfl) (by kernel_rfl) hf rfl rfl rfl (fun _ => Y_assign rfl rfl) ?_; clear hf; intro a hf
 refine mDone (by kernel_rfl) ?_
 clear hs0
 refine wpL_seq <| wpL_seq <| wpL_region ?_
 refine sY hf hs rfl rfl rfl (Y_assign rfl rfl) ?_; clear hf; intro a hf
 refine wpO_nil ?_
 obtain ⟨r472, hl473, hm⟩ := bind_some hm
 refine wpL_block (fun a w => ∃ ms470 : List (List Int), ms470 = r472 ∧ n5 = ms470.length ∧ Fr a 56 [(5, .slice A4 n5 c6)] ∧ St [] W w [.mat A4 n5 c6 23 2 vs8 ms470]) ?_ ?_
 ·refine wpL_loop (fun n a w => ∃ ms322 : List (List Int), ∃ x324 : Int, spec_l22Floats_L4 F r22 n ms322 x324 = some r472 ∧ n5 = ms322.length ∧ Fr a 56 [(5, .slice A4 n5 c6), (6, .slice A24 n25 c26), (7, .int .i64 x324)] ∧ St [] W w [.mat A4 n5 c6 23 2 vs8 ms322, .mat A24 n25 c26 23 2 vs28 r22]) F ?_ ?_ ?_
  ·exact ⟨r2, 0, hl473, hn7, (FrD.pick (FrD.pick (FrD.pick hf.none hf rfl) hf rfl) hf rfl), hs.sel [1, 3] (by decide)⟩
  ·rintro a w ⟨ms322, x324, h0_, -, -, -⟩; simp [spec_l22Floats_L4] at h0_
  ·rintro n475 a w ⟨ms322, x324, hm474, hn323, hf, hs⟩
   rw [spec_l22Floats_L4] at hm474
   refine wpL_seq <| wpL_seq <| wpL_region ?_
   refine sY hf hs rfl rfl rfl (Y_move rfl rfl) ?_; clear hf; intro a hf
   refine sY hf hs rfl rfl rfl (Y_move rfl rfl) ?_; clear hf; intro a hf
   refine sY hf hs rfl rfl rfl (Y_lenH rfl rfl el59 hn323) ?_; clear hf; intro a hf
   refine sY hf hs rfl rfl rfl (Y_lss rfl rfl rfl) ?_; clear hf; intro a hf
   refine wpO_nil ?_
   refine wpL_cond hf rfl (fun hb476 => ?_) (fun hb476 => ?_)
   ·have hm474 := bif_t hm474 hb476
    refine wpL_skip <| wpL_seq <| wpL_block0 <| wpL_seq <| wpL_region ?_
    refine sY hf hs rfl rfl rfl (Y_assign rfl rfl) ?_; clear hf; intro a hf
    refine wpO_nil ?_
    obtain ⟨r584, hl585, hm474⟩ := bind_some hm474
    refine wpL_block (fun a w => ∃ ms582 : List (List Int), ms582 = r584 ∧ n5 = ms582.length ∧ Fr a 56 [(5, .slice A4 n5 c6), (6, .slice A24 n25 c26), (7, .int .i64 x324)] ∧ St [] W w [.mat A4 n5 c6 23 2 vs8 ms582, .mat A24 n25 c26 23 2 vs28 r22]) ?_ ?_
    ·refine wpL_loop (fun n a w => ∃ ms546 : List (List Int), ∃ x548 : Int, spec_l22Floats_L5 F r22 x324 n ms546 x548 = some r584 ∧ n5 = ms546.length ∧ Fr a 56 [(5, .slice A4 n5 c6), (6, .slice A24 n25 c26), (7, .int .i64 x324), (8, .int .i64 x548)] ∧ St [] W w [.mat A4 n5 c6 23 2 vs8 ms546, .mat A24 n25 c26 23 2 vs28 r22]) F ?_ ?_ ?_
     ·exact ⟨ms322, 0, hl585, hn323, (FrD.pick (FrD.pick (FrD.pick (FrD.pick hf.none hf rfl) hf rfl) hf rfl) hf rfl), hs⟩
     ·rintro a w ⟨ms546, x548, h0_, -, -, -⟩; simp [spec_l22Floats_L5] at h0_
     ·rintro n587 a w ⟨ms546, x548, hm586, hn547, hf, hs⟩
      rw [spec_l22Floats_L5] at hm586
      refine wpL_seq <| wpL_seq <| wpL_region ?_
      refine sY hf hs rfl rfl rfl (Y_move rfl rfl) ?_; clear hf; intro a hf
      refine sY hf hs rfl rfl rfl (Y_move rfl rfl) ?_; clear hf; intro a hf
      refine sY hf hs rfl rfl rfl (Y_move rfl rfl) ?_; clear hf; intro a hf
      obtain ⟨q588, hi589, hm586⟩ := bind_some hm586
      obtain ⟨hi589a, hi589b, hi589q⟩ := idx_some hi589
      obtain ⟨A590, c591, hv592⟩ := hs.matRow (i := 0) rfl hi589q
      refine sY hf hs rfl rfl rfl (Y_index rfl rfl rfl el59 ti23 (Rd.isAt (hs.rdV (i := 0) rfl) hv592) hi589a (ltn hn547 hi589b)) ?_; clear hf; intro a hf
      refine sY hf hs rfl rfl rfl (Y_load_rd rfl rfl (fun w hs => hs.rdV (i := 0) rfl) (at1 hv592) ag23) ?_; clear hf; intro a hf
      refine sY hf hs rfl rfl rfl (Y_lenH rfl rfl el23 rfl) ?_; clear hf; intro a hf
      refine sY hf hs rfl rfl rfl (Y_lss rfl rfl rfl) ?_; clear hf; intro a hf
      refine wpO_nil ?_
      refine wpL_cond hf rfl (fun hb593 => ?_) (fun hb593 => ?_)
      ·have hm586 := bif_t hm586 hb593
       refine wpL_skip <| wpL_seq <| wpL_block0 ?_
       refine wpL_drawM [.mat A4 n5 c6 23 2 vs8 ms546, .mat A24 n25 c26 23 2 vs28 r22] [21] (by kernel_rfl) hs ?_; clear hs; intro w hs
       have hs0 : St [] W w [.mat A4 n5 c6 23 2 vs8 ms546, .mat A24 n25 c26 23 2 vs28 r22] := hs
       refine mYp (i := 0) rfl (by kernel_rfl) (by kernel_rfl) hf rfl rfl rfl (fun _ => Y_move rfl rfl) ?_; clear hf; intro a hf
       refine mYp (i := 1) rfl (by kernel_rfl) (by kernel_rfl) hf rfl rfl rfl (fun _ => Y_move rfl rfl) ?_; clear hf; intro a hf
       obtain ⟨q594, hi595, hm586⟩ := bind_some hm586
       obtain ⟨hi595a, hi595b, hi595q⟩ := idx_some hi595
       obtain ⟨A596, c597, hv598⟩ := hs.matRow (i := 0) rfl hi595q
       refine mYp (i := 2) rfl (by kernel_rfl) (by kernel_rfl) hf rfl rfl rfl (fun _ => Y_index rfl rfl rfl el59 ti23 (Rd.isAt (hs.rdV (i := 0) rfl) hv598) hi595a (ltn hn547 hi595b)) ?_; clear hf; intro a hf
       refine mY (i := 3) [[]] rfl (by kernel_rfl) (by kernel_rfl) hf hs0 rfl rfl rfl (Y_load_rd rfl rfl (fun w hs => hs.rdV (i := 0) rfl) (at1 hv598) ag23) ?_; clear hf; intro a hf
       refine mYp (i := 4) rfl (by kernel_rfl) (by kernel_rfl) hf rfl rfl rfl (fun _ => Y_move rfl rfl) ?_; clear hf; intro a hf
       refine mYp (i := 5) rfl (by kernel_rfl) (by kernel_rfl) hf rfl rfl rfl (fun _ => Y_move rfl rfl) ?_; clear hf; intro a hf
       refine mYp (i := 6) rfl (by kernel_rfl) (by kernel_rfl) hf rfl rfl rfl (fun _ => Y_move rfl rfl) ?_; clear hf; intro a hf
       obtain ⟨q599, hi600, hm586⟩ := bind_some hm586
       obtain ⟨hi600a, hi600b, hi600q⟩ := idx_some hi600
       obtain ⟨A601, c602, hv603⟩ := hs.matRow (i := 0) rfl hi600q
       refine mYp (i := 7) rfl (by kernel_rfl) (by kernel_rfl) hf rfl rfl rfl (fun _ => Y_index rfl rfl rfl el59 ti23 (Rd.isAt (hs.rdV (i := 0) rfl) hv603) hi600a (ltn hn547 hi600b)) ?_; clear hf; intro a hf
       refine mY (i := 8) [[]] rfl (by kernel_rfl) (by kernel_rfl) hf hs0 rfl rfl rfl (Y_load_rd rfl rfl (fun w hs => hs.rdV (i := 0) rfl) (at1 hv603) ag23) ?_; clear hf; intro a hf
       refine mYp (i := 9) rfl (by kernel_rfl) (by kernel_rfl) hf rfl rfl rfl (fun _ => Y_move rfl rfl) ?_; clear hf; intro a hf
       obtain ⟨q604, hi605, hm586⟩ := bind_some hm586
       obtain ⟨hi605a, hi605b, hi605q⟩ := idx_some hi605
       refine mYp (i := 10) rfl (by kernel_rfl) (by kernel_rfl) hf rfl rfl rfl (fun _ => Y_index rfl rfl rfl el23 ti2 (Rd.isAt (hs.rdRow (i := 0) rfl ⟨hi600q, hv603⟩) (at1 (ints_at hi605q))) hi605a hi605b) ?_; clear hf; intro a hf
       refine mY (i := 11) [[]] rfl (by kernel_rfl) (by kernel_rfl) hf hs0 rfl rfl rfl (Y_load_rd rfl rfl (fun w hs => hs.rdRow (i := 0) rfl ⟨hi600q, hv603⟩) (at1 (ints_at hi605q)) ag2) ?_; clear hf; intro a hf
       refine mYp (i := 12) rfl (by kernel_rfl) (by kernel_rfl) hf rfl rfl rfl (fun _ => Y_move rfl rfl) ?_; clear hf; intro a hf
       refine mYp (i := 13) rfl (by kernel_rfl) (by kernel_rfl) hf rfl rfl rfl (fun _ => Y_move rfl rfl) ?_; clear hf; intro a hf
       obtain ⟨q606, hi607, hm586⟩ := bind_some hm586
       obtain ⟨hi607a, hi607b, hi607q⟩ := idx_some hi607
       obtain ⟨A608, c609, hv610⟩ := hs.matRow (i := 1) rfl hi607q
       refine mYp (i := 14) rfl (by kernel_rfl) (by kernel_rfl) hf rfl rfl rfl (fun _ => Y_index rfl rfl rfl el59 ti23 (Rd.isAt (hs.rdV (i := 1) rfl) hv610) hi607a (ltn hn27 hi607b)) ?_; clear hf; intro a hf
       refine mY (i := 15) [[]] rfl (by kernel_rfl) (by kernel_rfl) hf hs0 rfl rfl rfl (Y_load_rd rfl rfl (fun w hs => hs.rdV (i := 1) rfl) (at1 hv610) ag23) ?_; clear hf; intro a hf
       refine mYp (i := 16) rfl (by kernel_rfl) (by kernel_rfl) hf rfl rfl rfl (fun _ => Y_move rfl rfl) ?_; clear hf; intro a hf
       obtain ⟨q611, hi612, hm586⟩ := bind_some hm586
       obtain ⟨hi612a, hi612b, hi612q⟩ := idx_some hi612
       refine mYp (i := 17) rfl (by kernel_rfl) (by kernel_rfl) hf rfl rfl rfl (fun _ => Y_index rfl rfl rfl el23 ti2 (Rd.isAt (hs.rdRow (i := 1) rfl ⟨hi607q, hv610⟩) (at1 (ints_at hi612q))) hi612a hi612b) ?_; clear hf; intro a hf
       refine mY (i := 18) [[]] rfl (by kernel_rfl) (by kernel_rfl) hf hs0 rfl rfl rfl (Y_load_rd rfl rfl (fun w hs => hs.rdRow (i := 1) rfl ⟨hi607q, hv610⟩) (at1 (ints_at hi612q)) ag2) ?_; clear hf; intro a hf
       refine mYp (i := 19) rfl (by kernel_rfl) (by kernel_rfl) hf rfl rfl rfl (fun _ => Y_sub rfl rfl rfl) ?_; clear hf; intro a hf
       obtain ⟨q613, hi614, hm586⟩ := bind_some hm586
       obtain ⟨hi614a, hi614b, hi614q⟩ := idx_some hi614
       refine mYp (i := 20) rfl (by kernel_rfl) (by kernel_rfl) hf rfl rfl rfl (fun _ => Y_index rfl rfl rfl el23 ti2 (Rd.isAt (hs.rdRow (i := 0) rfl ⟨hi595q, hv598⟩) (at1 (ints_at hi614q))) hi614a hi614b) ?_; clear hf; intro a hf
       refine mRun (i := 21) rfl (by kernel_rfl) ?_
       obtain ⟨xs615, hu617, hm586⟩ := bind_some hm586
       obtain ⟨ms616, hu618, hm586⟩ := bind_some hm586
       refine sStoreM (i := 0) (k := x324) hf hs rfl rfl rfl rfl rfl rfl hi595q hv598 rfl hu617 hu618 ti2 ?_; clear hs; intro w hs
       obtain ⟨hq619, hv620⟩ := rowUpd hu617 hu618 hv598
       have hs : St [] W w [.mat A4 n5 c6 23 2 vs8 ms616, .mat A24 n25 c26 23 2 vs28 r22] := hs
       refine wpO_nil ⟨Or.inl (by decide), ?_⟩
       refine mDone (by kernel_rfl) ?_
       clear hs0
       refine wpL_nil (Qb_normal ?_)
       refine wpL_region ?_
       refine sY hf hs rfl rfl rfl (Y_move rfl rfl) ?_; clear hf; intro a hf
       refine sY hf hs rfl rfl rfl (Y_add rfl rfl rfl) ?_; clear hf; intro a hf
       refine sY hf hs rfl rfl rfl (Y_assign rfl rfl) ?_; clear hf; intro a hf
       refine wpO_nil ?_
       refine wpL_nil (Ql_normal ?_)
       exact ⟨ms616, (IntKind.i64.wrap (x548 + 1)), hm586, ((hn547).trans (upd_len hu618).symm), (FrD.pick (FrD.pick (FrD.pick (FrD.pick hf.none hf rfl) hf rfl) hf rfl) hf rfl), hs⟩
      ·have hm586 := bif_f hm586 hb593
       refine wpL_exit (Ql_exit (Qb_exit ?_))
       exact ⟨ms546, Option.some.inj hm586, hn547, (FrD.pick (FrD.pick (FrD.pick hf.none hf rfl) hf rfl) hf rfl), hs⟩
    ·rintro a w ⟨ms582, hr_, hn583, hf, hs⟩
     subst hr_
     try dsimp only at hm474
     refine wpL_nil (Qb_normal ?_)
     refine wpL_region ?_
     refine sY hf hs rfl rfl rfl (Y_move rfl rfl) ?_; clear hf; intro a hf
     refine sY hf hs rfl rfl rfl (Y_add rfl rfl rfl) ?_; clear hf; intro a hf
     refine sY hf hs rfl rfl rfl (Y_assign rfl rfl) ?_; clear hf; intro a hf
     refine wpO_nil ?_
     refine wpL_nil (Ql_normal ?_)
     exact ⟨ms582, (IntKind.i64.wrap (x324 + 1)), hm474, hn583, (FrD.pick (FrD.pick (FrD.pick hf.none hf rfl) hf rfl) hf rfl), hs⟩
   ·have hm474 := bif_f hm474 hb476
    refine wpL_exit (Ql_exit (Qb_exit ?_))
    exact ⟨ms322, Option.some.inj hm474, hn323, (FrD.pick hf.none hf rfl), hs.sel [0] (by decide)⟩
 ·rintro a w ⟨ms470, hr_, hn471, hf, hs⟩
  subst hr_
  try dsimp only at hm
  refine wpL_seq <| wpL_region ?_
  refine sY hf hs rfl rfl rfl (Y_move rfl rfl) ?_; clear hf; intro a hf
  refine sY hf hs rfl rfl rfl (Y_assign rfl rfl) ?_; clear hf; intro a hf
  refine wpO_nil ?_
  obtain rfl := Option.some.inj hm
  refine wpL_ret (ret_tmp rfl hf rfl ?_)
  exact ⟨_, rfl, A4, n5, c6, vs8, rfl, hn471, hs⟩

set_option maxRecDepth 100000 in
theorem spec_FloatsOf_ok (F : Nat) (ae : GEventGraph) (ad : Option Addr) (ao af : Nat) (au : ao = ae.Places.length) (al : List (List Int)) (ak : Option Addr) (ax am : Nat) (aE : ax = al.length) (r : List (List Int) × Int) (W : World) (hm : spec_FloatsOf F ae al = some r) (ap : Rd W ad ((recs GPlace.cells) ae.Places)) (aB : RdM W ak al) :
  Calls Try.prog 100 [.agg #[.int .i64 ae.Events, .slice ad ao af], .slice ak ax am].toArray W fun e w' => ∃ v, e = .returned v ∧ ∃ A15, ∃ n16, ∃ c17, ∃ vs19, v = .tuple #[.slice A15 n16 c17, .int .i64 r.2] ∧ n16 = r.1.length ∧ St [] W w' [.mat A15 n16 c17 23 2 vs19 r.1] := by
 subst au
 subst aE
 unfold spec_FloatsOf at hm
 refine Calls.enter (N := 18) Try.func100 rfl rfl rfl (fun a hf => ?_)
 have hs := St.start W
 obtain ⟨w, hw_⟩ : ∃ w, w = W := ⟨W, rfl⟩
 clear hw_ w
 refine wpL_seq <| wpL_region ?_
 refine sBox hf hs rfl rfl rfl rfl rfl (cs := [.int .i64 ae.Events, .slice ad ae.Places.length af]) rfl ?_; clear hf hs; intro a w b1 hs hf
 have hs : St [] W w [.blk b1 52 [.int .i64 ae.Events, .slice ad ae.Places.length af]] := hs
 refine sY hf hs rfl rfl rfl (Y_assign rfl rfl) ?_; clear hf; intro a hf
 refine sY hf hs rfl rfl rfl (Y_assign rfl rfl) ?_; clear hf; intro a hf
 refine wpO_nil <| wpL_seq ?_
 refine wpL_draw (by kernel_rfl) (by kernel_rfl) hs ?_
 refine qY hf rfl rfl rfl (Y_load_blkS rfl rfl (i := 0) rfl ag52 ti52 rfl) ?_; clear hf; intro a hf
 refine qY hf rfl rfl rfl (Y_load_blkS rfl rfl (i := 0) rfl ag52 ti52 rfl) ?_; clear hf; intro a hf
 refine qY hf rfl rfl rfl (Y_move rfl rfl) ?_; clear hf; intro a hf
 obtain ⟨r2, hc3, hm⟩ := bind_some hm
 refine qCall hf rfl rfl rfl rfl (cap := []) rfl rfl en105 (v := .bool r2) (fun w hs => Calls.scal (spec_l22Due_ok F ae ad ae.Places.length af rfl al ak al.length am rfl _ _ hc3 (ap.at hs) (aB.at hs))) ?_; clear hf; intro a hf
 obtain ⟨r4, hc5, hm⟩ := bind_some hm
 refine qCall hf rfl rfl rfl rfl (cap := []) rfl rfl en104 (v := .int .i64 r4) (fun w hs => Calls.scal (spec_l13Code_ok F ae ad ae.Places.length af rfl r2 _ _ hc5 (ap.at hs))) ?_; clear hf; intro a hf
 refine qY hf rfl rfl rfl (Y_assign rfl rfl) ?_; clear hf; intro a hf
 refine qNil ?_; clear hs; intro w hs
 refine wpL_seq <| wpL_seq <| wpL_region ?_
 refine sY hf hs rfl rfl rfl (Y_move rfl rfl) ?_; clear hf; intro a hf
 refine sY hf hs rfl rfl rfl (Y_neq rfl rfl rfl) ?_; clear hf; intro a hf
 refine wpO_nil ?_
 refine wpL_cond hf rfl (fun hb6 => ?_) (fun hb6 => ?_)
 ·have hm := bif_t hm hb6
  refine wpL_seq <| wpL_region ?_
  refine sY hf hs rfl rfl rfl (Y_move rfl rfl) ?_; clear hf; intro a hf
  refine sY hf hs rfl rfl rfl (Y_assign rfl rfl) ?_; clear hf; intro a hf
  refine sY hf hs rfl rfl rfl (Y_assign rfl rfl) ?_; clear hf; intro a hf
  refine wpO_nil ?_
  have hs : St [] W _ [.blk b1 52 [.int .i64 ae.Events, .slice ad ae.Places.length af], .mat none 0 0 23 2 [] ([] : List (List Int))] := hs.addNilM 23 2
  obtain rfl := Option.some.inj hm
  refine wpL_ret (ret_tmp2 rfl hf rfl rfl ?_)
  exact ⟨_, rfl, none, 0, 0, [], rfl, rfl, hs.sel [1] (by decide)⟩
 ·have hm := bif_f hm hb6
  refine wpL_skip <| wpL_seq <| wpL_region ?_
  refine sY hf hs rfl rfl rfl (Y_load_blkS rfl rfl (i := 0) rfl ag52 ti52 rfl) ?_; clear hf; intro a hf
  refine sY hf hs rfl rfl rfl (Y_move rfl rfl) ?_; clear hf; intro a hf
  obtain ⟨r8, hc9, hm⟩ := bind_some hm
  refine sCall hf rfl rfl rfl rfl (cap := []) rfl rfl en152 (spec_l22Floats_ok F ae ad ae.Places.length af rfl al ak al.length am rfl _ _ hc9 (ap.at hs) (aB.at hs)) ?_; clear hf
  rintro _ w ⟨A10, n11, c12, vs14, rfl, hn13, hs1⟩ a hf
  have hs : St [] W w [.blk b1 52 [.int .i64 ae.Events, .slice ad ae.Places.length af], .mat A10 n11 c12 23 2 vs14 r8] := hs.join hs1
  clear hs1
  refine sY hf hs rfl rfl rfl (Y_assign rfl rfl) ?_; clear hf; intro a hf
  refine sY hf hs rfl rfl rfl (Y_assign rfl rfl) ?_; clear hf; intro a hf
  refine wpO_nil ?_
  obtain rfl := Option.some.inj hm
  refine wpL_ret (ret_tmp2 rfl hf rfl rfl ?_)
  exact ⟨_, rfl, A10, n11, c12, vs14, rfl, hn13, hs.sel [1] (by decide)⟩

set_option maxRecDepth 100000 in
theorem spec_CanMeet_ok (F : Nat) (ae : GEventGraph) (ad : Option Addr) (ao af : Nat) (au : ao = ae.Places.length) (al : List (List Int)) (ak : Option Addr) (ax am : Nat) (aE : ax = al.length) (r : Bool × Int) (W : World) (hm : spec_CanMeet F ae al = some r) (ap : Rd W ad ((recs GPlace.cells) ae.Places)) (aB : RdM W ak al) :
  Calls Try.prog 49 [.agg #[.int .i64 ae.Events, .slice ad ao af], .slice ak ax am].toArray W fun e w' => ∃ v, e = .returned v ∧ v = .tuple #[.bool r.1, .int .i64 r.2] ∧ St [] W w' [] := by
 subst au
 subst aE
 unfold spec_CanMeet at hm
 refine Calls.enter (N := 42) Try.func49 rfl rfl rfl (fun a hf => ?_)
 have hs := St.start W
 obtain ⟨w, hw_⟩ : ∃ w, w = W := ⟨W, rfl⟩
 clear hw_ w
 refine wpL_seq <| wpL_region ?_
 refine sBox hf hs rfl rfl rfl rfl rfl (cs := [.int .i64 ae.Events, .slice ad ae.Places.length af]) rfl ?_; clear hf hs; intro a w b1 hs hf
 have hs : St [] W w [.blk b1 52 [.int .i64 ae.Events, .slice ad ae.Places.length af]] := hs
 refine sY hf hs rfl rfl rfl (Y_assign rfl rfl) ?_; clear hf; intro a hf
 refine sY hf hs rfl rfl rfl (Y_assign rfl rfl) ?_; clear hf; intro a hf
 refine wpO_nil <| wpL_seq <| wpL_region ?_
 refine sY hf hs rfl rfl rfl (Y_load_blkS rfl rfl (i := 0) rfl ag52 ti52 rfl) ?_; clear hf; intro a hf
 refine sY hf hs rfl rfl rfl (Y_move rfl rfl) ?_; clear hf; intro a hf
 obtain ⟨r2, hc3, hm⟩ := bind_some hm
 refine sCall hf rfl rfl rfl rfl (cap := []) rfl rfl en100 (spec_FloatsOf_ok F ae ad ae.Places.length af rfl al ak al.length am rfl _ _ hc3 (ap.at hs) (aB.at hs)) ?_; clear hf
 rintro _ w ⟨A4, n5, c6, vs8, rfl, hn7, hs1⟩ a hf
 have hs : St [] W w [.blk b1 52 [.int .i64 ae.Events, .slice ad ae.Places.length af], .mat A4 n5 c6 23 2 vs8 r2.1] := hs.join hs1
 clear hs1
 refine sY hf hs rfl rfl rfl (Y_move rfl rfl) ?_; clear hf; intro a hf
 refine sY hf hs rfl rfl rfl (Y_extract rfl rfl rfl) ?_; clear hf; intro a hf
 refine sY hf hs rfl rfl rfl (Y_extract rfl rfl rfl) ?_; clear hf; intro a hf
 refine sY hf hs rfl rfl rfl (Y_assign rfl rfl) ?_; clear hf; intro a hf
 refine sY hf hs rfl rfl rfl (Y_assign rfl rfl) ?_; clear hf; intro a hf
 refine wpO_nil <| wpL_seq <| wpL_seq <| wpL_region ?_
 refine sY hf hs rfl rfl rfl (Y_move rfl rfl) ?_; clear hf; intro a hf
 refine sY hf hs rfl rfl rfl (Y_neq rfl rfl rfl) ?_; clear hf; intro a hf
 refine wpO_nil ?_
 refine wpL_cond hf rfl (fun hb9 => ?_) (fun hb9 => ?_)
 ·have hm := bif_t hm hb9
  refine wpL_seq <| wpL_region ?_
  refine sY hf hs rfl rfl rfl (Y_move rfl rfl) ?_; clear hf; intro a hf
  refine sY hf hs rfl rfl rfl (Y_assign rfl rfl) ?_; clear hf; intro a hf
  refine sY hf hs rfl rfl rfl (Y_assign rfl rfl) ?_; clear hf; intro a hf
  refine wpO_nil ?_
  obtain rfl := Option.some.inj hm
  refine wpL_ret (ret_tmp2 rfl hf rfl rfl ?_)
  exact ⟨_, rfl, rfl, hs.sel [] (by decide)⟩
 ·have hm := bif_f hm hb9
  refine wpL_skip <| wpL_seq <| wpL_seq <| wpL_region ?_
  refine sY hf hs rfl rfl rfl (Y_assign rfl rfl) ?_; clear hf; intro a hf
  refine wpO_nil ?_
  obtain ⟨r201, hl202, hm⟩ := bind_some hm
  refine wpL_block (fun a w => Sum.inr () = r201 ∧ Fr a 42 [] ∧ St [] W w []) ?_ ?_
  ·refine wpL_loop (fun n a w => ∃ x137 : Int, spec_CanMeet_L4 F r2 n x137 = some r201 ∧ Fr a 42 [(6, .slice A4 n5 c6), (8, .int .i64 x137)] ∧ St [] W w [.mat A4 n5 c6 23 2 vs8 r2.1]) F ?_ ?_ ?_
   ·exact ⟨0, hl202, (FrD.pick (FrD.pick hf.none hf rfl) hf rfl), hs.sel [1] (by decide)⟩
   ·rintro a w ⟨x137, h0_, -, -⟩; simp [spec_CanMeet_L4] at h0_
   ·rintro n204 a w ⟨x137, hm203, hf, hs⟩
    rw [spec_CanMeet_L4] at hm203
    refine wpL_seq <| wpL_seq <| wpL_region ?_
    refine sY hf hs rfl rfl rfl (Y_move rfl rfl) ?_; clear hf; intro a hf
    refine sY hf hs rfl rfl rfl (Y_move rfl rfl) ?_; clear hf; intro a hf
    refine sY hf hs rfl rfl rfl (Y_lenH rfl rfl el59 hn7) ?_; clear hf; intro a hf
    refine sY hf hs rfl rfl rfl (Y_lss rfl rfl rfl) ?_; clear hf; intro a hf
    refine wpO_nil ?_
    refine wpL_cond hf rfl (fun hb205 => ?_) (fun hb205 => ?_)
    ·have hm203 := bif_t hm203 hb205
     refine wpL_skip <| wpL_seq <| wpL_block0 <| wpL_seq <| wpL_region ?_
     refine sY hf hs rfl rfl rfl (Y_assign rfl rfl) ?_; clear hf; intro a hf
     refine wpO_nil ?_
     obtain ⟨r250, hl251, hm203⟩ := bind_some hm203
     refine wpL_block (fun a w => Sum.inr () = r250 ∧ Fr a 42 [(6, .slice A4 n5 c6), (8, .int .i64 x137)] ∧ St [] W w [.mat A4 n5 c6 23 2 vs8 r2.1]) ?_ ?_
     ·refine wpL_loop (fun n a w => ∃ x235 : Int, spec_CanMeet_L5 F r2 x137 n x235 = some r250 ∧ Fr a 42 [(6, .slice A4 n5 c6), (8, .int .i64 x137), (9, .int .i64 x235)] ∧ St [] W w [.mat A4 n5 c6 23 2 vs8 r2.1]) F ?_ ?_ ?_
      ·exact ⟨0, hl251, (FrD.pick (FrD.pick (FrD.pick hf.none hf rfl) hf rfl) hf rfl), hs⟩
      ·rintro a w ⟨x235, h0_, -, -⟩; simp [spec_CanMeet_L5] at h0_
      ·rintro n253 a w ⟨x235, hm252, hf, hs⟩
       rw [spec_CanMeet_L5] at hm252
       refine wpL_seq <| wpL_seq <| wpL_region ?_
       refine sY hf hs rfl rfl rfl (Y_move rfl rfl) ?_; clear hf; intro a hf
       refine sY hf hs rfl rfl rfl (Y_move rfl rfl) ?_; clear hf; intro a hf
       refine sY hf hs rfl rfl rfl (Y_move rfl rfl) ?_; clear hf; intro a hf
       obtain ⟨q254, hi255, hm252⟩ := bind_some hm252
       obtain ⟨hi255a, hi255b, hi255q⟩ := idx_some hi255
       obtain ⟨A256, c257, hv258⟩ := hs.matRow (i := 0) rfl hi255q
       refine sY hf hs rfl rfl rfl (Y_index rfl rfl rfl el59 ti23 (Rd.isAt (hs.rdV (i := 0) rfl) hv258) hi255a (ltn hn7 hi255b)) ?_; clear hf; intro a hf
       refine sY hf hs rfl rfl rfl (Y_load_rd rfl rfl (fun w hs => hs.rdV (i := 0) rfl) (at1 hv258) ag23) ?_; clear hf; intro a hf
       refine sY hf hs rfl rfl rfl (Y_lenH rfl rfl el23 rfl) ?_; clear hf; intro a hf
       refine sY hf hs rfl rfl rfl (Y_lss rfl rfl rfl) ?_; clear hf; intro a hf
       refine wpO_nil ?_
       refine wpL_cond hf rfl (fun hb259 => ?_) (fun hb259 => ?_)
       ·have hm252 := bif_t hm252 hb259
        refine wpL_skip <| wpL_seq <| wpL_block0 <| wpL_seq <| wpL_region ?_
        refine sY hf hs rfl rfl rfl (Y_move rfl rfl) ?_; clear hf; intro a hf
        refine sY hf hs rfl rfl rfl (Y_move rfl rfl) ?_; clear hf; intro a hf
        obtain ⟨q260, hi261, hm252⟩ := bind_some hm252
        obtain ⟨hi261a, hi261b, hi261q⟩ := idx_some hi261
        obtain ⟨A262, c263, hv264⟩ := hs.matRow (i := 0) rfl hi261q
        refine sY hf hs rfl rfl rfl (Y_index rfl rfl rfl el59 ti23 (Rd.isAt (hs.rdV (i := 0) rfl) hv264) hi261a (ltn hn7 hi261b)) ?_; clear hf; intro a hf
        refine sY hf hs rfl rfl rfl (Y_load_rd rfl rfl (fun w hs => hs.rdV (i := 0) rfl) (at1 hv264) ag23) ?_; clear hf; intro a hf
        refine sY hf hs rfl rfl rfl (Y_move rfl rfl) ?_; clear hf; intro a hf
        obtain ⟨q265, hi266, hm252⟩ := bind_some hm252
        obtain ⟨hi266a, hi266b, hi266q⟩ := idx_some hi266
        refine sY hf hs rfl rfl rfl (Y_index rfl rfl rfl el23 ti2 (Rd.isAt (hs.rdRow (i := 0) rfl ⟨hi261q, hv264⟩) (at1 (ints_at hi266q))) hi266a hi266b) ?_; clear hf; intro a hf
        refine sY hf hs rfl rfl rfl (Y_load_rd rfl rfl (fun w hs => hs.rdRow (i := 0) rfl ⟨hi261q, hv264⟩) (at1 (ints_at hi266q)) ag2) ?_; clear hf; intro a hf
        refine sY hf hs rfl rfl rfl (Y_lss rfl rfl rfl) ?_; clear hf; intro a hf
        refine wpO_nil ?_
        refine wpL_cond hf rfl (fun hb267 => ?_) (fun hb267 => ?_)
        ·have hm252 := bif_t hm252 hb267
         refine wpL_seq <| wpL_region ?_
         refine sY hf hs rfl rfl rfl (Y_assign rfl rfl) ?_; clear hf; intro a hf
         refine sY hf hs rfl rfl rfl (Y_assign rfl rfl) ?_; clear hf; intro a hf
         refine wpO_nil ?_
         obtain rfl := Option.some.inj hm252
         try dsimp only at hm203
         obtain rfl := Option.some.inj hm203
         try dsimp only at hm
         obtain rfl := Option.some.inj hm
         refine wpL_ret (Qb_ret (Ql_ret (Qb_ret (Qb_ret (Ql_ret (Qb_ret (ret_tmp2 rfl hf rfl rfl ?_)))))))
         exact ⟨_, rfl, rfl, hs.sel [] (by decide)⟩
        ·have hm252 := bif_f hm252 hb267
         refine wpL_skip ?_
         refine wpL_nil (Qb_normal ?_)
         refine wpL_region ?_
         refine sY hf hs rfl rfl rfl (Y_move rfl rfl) ?_; clear hf; intro a hf
         refine sY hf hs rfl rfl rfl (Y_add rfl rfl rfl) ?_; clear hf; intro a hf
         refine sY hf hs rfl rfl rfl (Y_assign rfl rfl) ?_; clear hf; intro a hf
         refine wpO_nil ?_
         refine wpL_nil (Ql_normal ?_)
         exact ⟨(IntKind.i64.wrap (x235 + 1)), hm252, (FrD.pick (FrD.pick (FrD.pick hf.none hf rfl) hf rfl) hf rfl), hs⟩
       ·have hm252 := bif_f hm252 hb259
        refine wpL_exit (Ql_exit (Qb_exit ?_))
        exact ⟨Option.some.inj hm252, (FrD.pick (FrD.pick hf.none hf rfl) hf rfl), hs⟩
     ·rintro a w ⟨hr_, hf, hs⟩
      subst hr_
      try dsimp only at hm203
      refine wpL_nil (Qb_normal ?_)
      refine wpL_region ?_
      refine sY hf hs rfl rfl rfl (Y_move rfl rfl) ?_; clear hf; intro a hf
      refine sY hf hs rfl rfl rfl (Y_add rfl rfl rfl) ?_; clear hf; intro a hf
      refine sY hf hs rfl rfl rfl (Y_assign rfl rfl) ?_; clear hf; intro a hf
      refine wpO_nil ?_
      refine wpL_nil (Ql_normal ?_)
      exact ⟨(IntKind.i64.wrap (x137 + 1)), hm203, (FrD.pick (FrD.pick hf.none hf rfl) hf rfl), hs⟩
    ·have hm203 := bif_f hm203 hb205
     refine wpL_exit (Ql_exit (Qb_exit ?_))
     exact ⟨Option.some.inj hm203, hf.none, hs.sel [] (by decide)⟩
  ·rintro a w ⟨hr_, hf, hs⟩
   subst hr_
   try dsimp only at hm
   refine wpL_seq <| wpL_region ?_
   refine sY hf hs rfl rfl rfl (Y_assign rfl rfl) ?_; clear hf; intro a hf
   refine sY hf hs rfl rfl rfl (Y_assign rfl rfl) ?_; clear hf; intro a hf
   refine wpO_nil ?_
   obtain rfl := Option.some.inj hm
   refine wpL_ret (ret_tmp2 rfl hf rfl rfl ?_)
   exact ⟨_, rfl, rfl, hs⟩

set_option maxRecDepth 100000 in
theorem impl_LateFirings_c1_ok (F : Nat) (cM : Int) (bx : Int) (b_z0 : Nat) (z0 : List (List Int)) (A_z0_1 : Option Addr) (n_z0_1 c_z0_1 : Nat) (hn_z0_1 : n_z0_1 = z0.length) (b_z1 : Nat) (z1 : List (List Int)) (A_z1_1 : Option Addr) (n_z1_1 c_z1_1 : Nat) (hn_z1_1 : n_z1_1 = z1.length) (r : Bool) (W : World) (hm : impl_LateFirings_c1 F cM bx z0 z1 = some r) (h_z0_1 : RdM W A_z0_1 z0) (h_z0 : PB W b_z0 59 [.slice A_z0_1 n_z0_1 c_z0_1]) (h_z1_1 : RdM W A_z1_1 z1) (h_z1 : PB W b_z1 59 [.slice A_z1_1 n_z1_1 c_z1_1]) :
  Calls Try.prog 103 [.int .i64 cM, .int .i64 bx, .pointer (some ⟨b_z0, 0, none⟩), .pointer (some ⟨b_z1, 0, none⟩)].toArray W fun e w' => ∃ v, e = .returned v ∧ v = .bool r ∧ St [] W w' [] := by
 subst hn_z0_1
 subst hn_z1_1
 unfold impl_LateFirings_c1 at hm
 refine Calls.enter (N := 22) Try.func103 rfl rfl rfl (fun a hf => ?_)
 have hs := St.start W
 obtain ⟨w, hw_⟩ : ∃ w, w = W := ⟨W, rfl⟩
 clear hw_ w
 refine wpL_seq <| wpL_region ?_
 refine sY hf hs rfl rfl rfl (Y_assign rfl rfl) ?_; clear hf; intro a hf
 refine wpO_nil <| wpL_seq ?_
 refine wpL_draw (by kernel_rfl) (by kernel_rfl) hs ?_
 refine qY hf rfl rfl rfl (Y_load_pb rfl rfl h_z0 rfl ag59) ?_; clear hf; intro a hf
 refine qY hf rfl rfl rfl (Y_move rfl rfl) ?_; clear hf; intro a hf
 obtain ⟨q1, hi2, hm⟩ := bind_some hm
 obtain ⟨hi2a, hi2b, hi2q⟩ := idx_some hi2
 obtain ⟨vs3, hv4, hr5⟩ := id h_z0_1
 obtain ⟨A6, c7, hv8, hR9⟩ := hr5 _ _ hi2q
 refine qY hf rfl rfl rfl (Y_index rfl rfl rfl el59 ti23 (Rd.isAt hv4 hv8) hi2a hi2b) ?_; clear hf; intro a hf
 refine qY hf rfl rfl rfl (Y_load_rd rfl rfl (fun w hs => hv4.at hs) (at1 hv8) ag23) ?_; clear hf; intro a hf
 refine qY hf rfl rfl rfl (Y_move rfl rfl) ?_; clear hf; intro a hf
 obtain ⟨q10, hi11, hm⟩ := bind_some hm
 obtain ⟨hi11a, hi11b, hi11q⟩ := idx_some hi11
 refine qY hf rfl rfl rfl (Y_index rfl rfl rfl el23 ti2 (Rd.isAt (hR9.at hs) (at1 (ints_at hi11q))) hi11a hi11b) ?_; clear hf; intro a hf
 refine qY hf rfl rfl rfl (Y_load_rd rfl rfl (fun w hs => hR9.at hs) (at1 (ints_at hi11q)) ag2) ?_; clear hf; intro a hf
 refine qY hf rfl rfl rfl (Y_load_pb rfl rfl h_z1 rfl ag59) ?_; clear hf; intro a hf
 refine qY hf rfl rfl rfl (Y_move rfl rfl) ?_; clear hf; intro a hf
 obtain ⟨q12, hi13, hm⟩ := bind_some hm
 obtain ⟨hi13a, hi13b, hi13q⟩ := idx_some hi13
 obtain ⟨vs14, hv15, hr16⟩ := id h_z1_1
 obtain ⟨A17, c18, hv19, hR20⟩ := hr16 _ _ hi13q
 refine qY hf rfl rfl rfl (Y_index rfl rfl rfl el59 ti23 (Rd.isAt hv15 hv19) hi13a hi13b) ?_; clear hf; intro a hf
 refine qY hf rfl rfl rfl (Y_load_rd rfl rfl (fun w hs => hv15.at hs) (at1 hv19) ag23) ?_; clear hf; intro a hf
 refine qY hf rfl rfl rfl (Y_move rfl rfl) ?_; clear hf; intro a hf
 obtain ⟨q21, hi22, hm⟩ := bind_some hm
 obtain ⟨hi22a, hi22b, hi22q⟩ := idx_some hi22
 refine qY hf rfl rfl rfl (Y_index rfl rfl rfl el23 ti2 (Rd.isAt (hR20.at hs) (at1 (ints_at hi22q))) hi22a hi22b) ?_; clear hf; intro a hf
 refine qY hf rfl rfl rfl (Y_load_rd rfl rfl (fun w hs => hR20.at hs) (at1 (ints_at hi22q)) ag2) ?_; clear hf; intro a hf
 refine qY hf rfl rfl rfl (Y_gtr rfl rfl rfl) ?_; clear hf; intro a hf
 refine qY hf rfl rfl rfl (Y_assign rfl rfl) ?_; clear hf; intro a hf
 refine qNil ?_; clear hs; intro w hs
 obtain rfl := Option.some.inj hm
 refine wpL_ret (ret_tmp rfl hf rfl ?_)
 exact ⟨_, rfl, rfl, hs⟩

set_option maxRecDepth 100000 in
theorem impl_firingsWith_ok (F : Nat) (bv : List (List Int)) (bA : Option Addr) (co bE : Nat) (cE : co = bv.length) (ce : Int → Int → Option Bool) (bI : FuncId) (bJ : List Value) (r : List (List Int)) (W : World) (hm : impl_firingsWith F bv ce = some r) (cN : RdM W bA bv) (cV : ∀ (x0 : Int) (x1 : Int) (r : Bool) (w : World), ce x0 x1 = some r → Below W.heap.size W w → Calls Try.prog bI (([.int .i64 x0, .int .i64 x1] : List Value) ++ bJ).toArray w fun e w' => ∃ v, e = .returned v ∧ v = .bool r ∧ St [] w w' []) (cW : En Try.prog bI) :
  Calls Try.prog 102 [.slice bA co bE, .func (.func bI) #[] bJ.toArray].toArray W fun e w' => ∃ v, e = .returned v ∧ ∃ A392, ∃ n393, ∃ c394, ∃ vs396, v = .slice A392 n393 c394 ∧ n393 = r.length ∧ St [] W w' [.mat A392 n393 c394 23 2 vs396 r] := by
 subst cE
 unfold impl_firingsWith at hm
 refine Calls.enter (N := 35) Try.func102 rfl rfl rfl (fun a hf => ?_)
 have hs := St.start W
 obtain ⟨w, hw_⟩ : ∃ w, w = W := ⟨W, rfl⟩
 clear hw_ w
 refine wpL_seq <| wpL_region ?_
 refine sY hf hs rfl rfl rfl (Y_assign rfl rfl) ?_; clear hf; intro a hf
 refine wpO_nil <| wpL_seq <| wpL_region ?_
 refine sY hf hs rfl rfl rfl (Y_assign rfl rfl) ?_; clear hf; intro a hf
 refine wpO_nil <| wpL_seq <| wpL_seq <| wpL_region ?_
 refine sY hf hs rfl rfl rfl (Y_move rfl rfl) ?_; clear hf; intro a hf
 refine sY hf hs rfl rfl rfl (Y_lenH rfl rfl el59 rfl) ?_; clear hf; intro a hf
 refine sY hf hs rfl rfl rfl (Y_move rfl rfl) ?_; clear hf; intro a hf
 refine wpO_nil ?_
 obtain ⟨r297, hl298, hm⟩ := bind_some hm
 have hs : St [] W _ [.mat none 0 0 23 2 [] ([] : List (List Int))] := hs.addNilM 23 2
 refine wpL_block (fun a w => ∃ ms291 : List (List Int), ∃ A292, ∃ n293, ∃ c294, ∃ vs296, ms291 = r297 ∧ n293 = ms291.length ∧ Fr a 35 [(5, .slice A292 n293 c294)] ∧ St [] W w [.mat A292 n293 c294 23 2 vs296 ms291]) ?_ ?_
 ·refine wpL_loop (fun n a w => ∃ ms194 : List (List Int), ∃ x200 : Int, ∃ A195, ∃ n196, ∃ c197, ∃ vs199, impl_firingsWith_L4 F bv ce n ms194 x200 = some r297 ∧ n196 = ms194.length ∧ Fr a 35 [(1, .func (.func bI) #[] bJ.toArray), (5, .slice A195 n196 c197), (9, .slice bA bv.length bE), (10, .int .i64 (bv.length : Int)), (11, .int .i64 x200)] ∧ St [] W w [.mat A195 n196 c197 23 2 vs199 ms194]) F ?_ ?_ ?_
  ·exact ⟨([] : List (List Int)), 0, none, 0, 0, [], hl298, rfl, (FrD.pick (FrD.pick (FrD.pick (FrD.pick (FrD.pick hf.none hf rfl) hf rfl) hf rfl) hf rfl) hf rfl), hs⟩
  ·rintro a w ⟨ms194, x200, A195, n196, c197, vs199, h0_, -, -, -⟩; simp [impl_firingsWith_L4] at h0_
  ·rintro n300 a w ⟨ms194, x200, A195, n196, c197, vs199, hm299, hn198, hf, hs⟩
   rw [impl_firingsWith_L4] at hm299
   refine wpL_seq <| wpL_region ?_
   refine sY hf hs rfl rfl rfl (Y_lss rfl rfl rfl) ?_; clear hf; intro a hf
   refine wpO_nil <| wpL_seq ?_
   refine wpL_cond hf rfl (fun hb301 => ?_) (fun hb301 => ?_)
   ·have hm299 := bif_t hm299 hb301
    refine wpL_skip <| wpL_seq <| wpL_block0 <| wpL_seq <| wpL_region ?_
    refine sY hf hs rfl rfl rfl (Y_move rfl rfl) ?_; clear hf; intro a hf
    obtain ⟨q302, hi303, hm299⟩ := bind_some hm299
    obtain ⟨hi303a, hi303b, hi303q⟩ := idx_some hi303
    obtain ⟨vs304, hv305, hr306⟩ := id cN
    obtain ⟨A307, c308, hv309, hR310⟩ := hr306 _ _ hi303q
    refine sY hf hs rfl rfl rfl (Y_index rfl rfl rfl el59 ti23 (Rd.isAt hv305 hv309) hi303a hi303b) ?_; clear hf; intro a hf
    refine sY hf hs rfl rfl rfl (Y_load_rd rfl rfl (fun w hs => hv305.at hs) (at1 hv309) ag23) ?_; clear hf; intro a hf
    refine sY hf hs rfl rfl rfl (Y_assign rfl rfl) ?_; clear hf; intro a hf
    refine sY hf hs rfl rfl rfl (Y_assign rfl rfl) ?_; clear hf; intro a hf
    refine wpO_nil <| wpL_seq <| wpL_region ?_
    refine sY hf hs rfl rfl rfl (Y_move rfl rfl) ?_; clear hf; intro a hf
    refine sY hf hs rfl rfl rfl (Y_lenH rfl rfl el23 rfl) ?_; clear hf; intro a hf
    refine sY hf hs rfl rfl rfl (Y_move rfl rfl) ?_; clear hf; intro a hf
    refine wpO_nil ?_
    obtain ⟨r373, hl374, hm299⟩ := bind_some hm299
    refine wpL_block (fun a w => ∃ ms367 : List (List Int), ∃ A368, ∃ n369, ∃ c370, ∃ vs372, ms367 = r373 ∧ n369 = ms367.length ∧ Fr a 35 [(1, .func (.func bI) #[] bJ.toArray), (5, .slice A368 n369 c370), (9, .slice bA bv.length bE), (10, .int .i64 (bv.length : Int)), (11, .int .i64 x200)] ∧ St [] W w [.mat A368 n369 c370 23 2 vs372 ms367]) ?_ ?_
    ·refine wpL_loop (fun n a w => ∃ ms346 : List (List Int), ∃ x352 : Int, ∃ A347, ∃ n348, ∃ c349, ∃ vs351, impl_firingsWith_L5 F ce x200 q302 n ms346 x352 = some r373 ∧ n348 = ms346.length ∧ Fr a 35 [(1, .func (.func bI) #[] bJ.toArray), (5, .slice A347 n348 c349), (6, .int .i64 x200), (9, .slice bA bv.length bE), (10, .int .i64 (bv.length : Int)), (11, .int .i64 x200), (17, .int .i64 (q302.length : Int)), (18, .int .i64 x352)] ∧ St [] W w [.mat A347 n348 c349 23 2 vs351 ms346]) F ?_ ?_ ?_
     ·exact ⟨ms194, 0, A195, n196, c197, vs199, hl374, hn198, (FrD.pick (FrD.pick (FrD.pick (FrD.pick (FrD.pick (FrD.pick (FrD.pick (FrD.pick hf.none hf rfl) hf rfl) hf rfl) hf rfl) hf rfl) hf rfl) hf rfl) hf rfl), hs⟩
     ·rintro a w ⟨ms346, x352, A347, n348, c349, vs351, h0_, -, -, -⟩; simp [impl_firingsWith_L5] at h0_
     ·rintro n376 a w ⟨ms346, x352, A347, n348, c349, vs351, hm375, hn350, hf, hs⟩
      rw [impl_firingsWith_L5] at hm375
      refine wpL_seq <| wpL_region ?_
      refine sY hf hs rfl rfl rfl (Y_lss rfl rfl rfl) ?_; clear hf; intro a hf
      refine wpO_nil <| wpL_seq ?_
      refine wpL_cond hf rfl (fun hb377 => ?_) (fun hb377 => ?_)
      ·have hm375 := bif_t hm375 hb377
       refine wpL_skip <| wpL_seq <| wpL_block0 <| wpL_seq <| wpL_region ?_
       refine sY hf hs rfl rfl rfl (Y_move rfl rfl) ?_; clear hf; intro a hf
       refine sY hf hs rfl rfl rfl (Y_assign rfl rfl) ?_; clear hf; intro a hf
       refine wpO_nil <| wpL_seq <| wpL_region ?_
       refine sY hf hs rfl rfl rfl (Y_move rfl rfl) ?_; clear hf; intro a hf
       refine sY hf hs rfl rfl rfl (Y_move rfl rfl) ?_; clear hf; intro a hf
       refine sY hf hs rfl rfl rfl (Y_move rfl rfl) ?_; clear hf; intro a hf
       obtain ⟨r378, hc379, hm375⟩ := bind_some hm375
       refine sCall hf rfl rfl rfl rfl (cap := bJ) rfl rfl cW (cV x200 x352 _ _ hc379 hs.below) ?_; clear hf; rintro _ w ⟨rfl, hs1⟩ a hf; have hs := hs.ext hs1.below; clear hs1
       refine wpO_nil ?_
       refine wpL_cond hf rfl (fun hb380 => ?_) (fun hb380 => ?_)
       ·have hm375 := bif_t hm375 hb380
        refine wpL_region ?_
        refine sY hf hs rfl rfl rfl (Y_move rfl rfl) ?_; clear hf; intro a hf
        refine sY hf hs rfl rfl rfl (Y_move rfl rfl) ?_; clear hf; intro a hf
        refine sY hf hs rfl rfl rfl (Y_add rfl rfl rfl) ?_; clear hf; intro a hf
        refine sY hf hs rfl rfl rfl (Y_move rfl rfl) ?_; clear hf; intro a hf
        refine sBuildSlice (parts := [(0, .tmp 27), (1, .tmp 28)]) (vs := [.int .i64 (IntKind.i64.wrap (x200 + 1)), .int .i64 x352]) (cells := [.int .i64 (IntKind.i64.wrap (x200 + 1)), .int .i64 x352]) hf hs rfl rfl rfl rfl rfl el23 ti2 rfl rfl rfl rfl ?_; clear hf hs; intro a w A381 hs hA382 hf
        have hs : St [] W w [.mat A347 n348 c349 23 2 vs351 ms346, .row A381 2 2 2 1 (ints ([(IntKind.i64.wrap (x200 + 1)), x352]))] := hs
        refine sOneM (j := 1) hf hs rfl rfl rfl rfl rfl rfl rfl el59 ti23 ?_; clear hf hs; intro a w A383 hs hf
        have hs : St [] W w [.mat A347 n348 c349 23 2 vs351 ms346, .mat A383 1 1 23 2 ([Value.slice A381 ([(IntKind.i64.wrap (x200 + 1)), x352]).length 2]) ([[(IntKind.i64.wrap (x200 + 1)), x352]])] := hs
        obtain ⟨ms387, ha388, hm375⟩ := bind_some hm375
        refine sAppendM (i := 0) (j := 1) hf hs rfl rfl rfl rfl rfl rfl hn350 rfl (by decide) rfl rfl (by decide) ha388 el59 ti23 rfl ?_; clear hf hs; intro a w A385 c386 hs hf
        have hs : St [] W w [.mat A385 ms387.length c386 23 2 (vs351 ++ ([Value.slice A381 ([(IntKind.i64.wrap (x200 + 1)), x352]).length 2])) ms387] := hs
        obtain ⟨hq389, hv390⟩ := hs.appended (i := 0) rfl ha388
        refine sY hf hs rfl rfl rfl (Y_assign rfl rfl) ?_; clear hf; intro a hf
        refine wpO_nil ?_
        refine wpL_nil (Qb_normal ?_)
        refine wpL_region ?_
        refine sY hf hs rfl rfl rfl (Y_add rfl rfl rfl) ?_; clear hf; intro a hf
        refine sY hf hs rfl rfl rfl (Y_move rfl rfl) ?_; clear hf; intro a hf
        refine wpO_nil ?_
        refine wpL_nil (Ql_normal ?_)
        exact ⟨ms387, (IntKind.i64.wrap (x352 + 1)), A385, ms387.length, c386, (vs351 ++ ([Value.slice A381 ([(IntKind.i64.wrap (x200 + 1)), x352]).length 2])), hm375, rfl, (FrD.pick (FrD.pick (FrD.pick (FrD.pick (FrD.pick (FrD.pick (FrD.pick (FrD.pick hf.none hf rfl) hf rfl) hf rfl) hf rfl) hf rfl) hf rfl) hf rfl) hf rfl), hs⟩
       ·have hm375 := bif_f hm375 hb380
        refine wpL_skip ?_
        refine wpL_nil (Qb_normal ?_)
        refine wpL_region ?_
        refine sY hf hs rfl rfl rfl (Y_add rfl rfl rfl) ?_; clear hf; intro a hf
        refine sY hf hs rfl rfl rfl (Y_move rfl rfl) ?_; clear hf; intro a hf
        refine wpO_nil ?_
        refine wpL_nil (Ql_normal ?_)
        exact ⟨ms346, (IntKind.i64.wrap (x352 + 1)), A347, n348, c349, vs351, hm375, hn350, (FrD.pick (FrD.pick (FrD.pick (FrD.pick (FrD.pick (FrD.pick (FrD.pick (FrD.pick hf.none hf rfl) hf rfl) hf rfl) hf rfl) hf rfl) hf rfl) hf rfl) hf rfl), hs⟩
      ·have hm375 := bif_f hm375 hb377
       refine wpL_exit (Ql_exit (Qb_exit ?_))
       exact ⟨ms346, A347, n348, c349, vs351, Option.some.inj hm375, hn350, (FrD.pick (FrD.pick (FrD.pick (FrD.pick (FrD.pick hf.none hf rfl) hf rfl) hf rfl) hf rfl) hf rfl), hs⟩
    ·rintro a w ⟨ms367, A368, n369, c370, vs372, hr_, hn371, hf, hs⟩
     subst hr_
     try dsimp only at hm299
     refine wpL_nil (Qb_normal ?_)
     refine wpL_region ?_
     refine sY hf hs rfl rfl rfl (Y_add rfl rfl rfl) ?_; clear hf; intro a hf
     refine sY hf hs rfl rfl rfl (Y_move rfl rfl) ?_; clear hf; intro a hf
     refine wpO_nil ?_
     refine wpL_nil (Ql_normal ?_)
     exact ⟨ms367, (IntKind.i64.wrap (x200 + 1)), A368, n369, c370, vs372, hm299, hn371, (FrD.pick (FrD.pick (FrD.pick (FrD.pick (FrD.pick hf.none hf rfl) hf rfl) hf rfl) hf rfl) hf rfl), hs⟩
   ·have hm299 := bif_f hm299 hb301
    refine wpL_exit (Ql_exit (Qb_exit ?_))
    exact ⟨ms194, A195, n196, c197, vs199, Option.some.inj hm299, hn198, (FrD.pick hf.none hf rfl), hs⟩
 ·rintro a w ⟨ms291, A292, n293, c294, vs296, hr_, hn295, hf, hs⟩
  subst hr_
  try dsimp only at hm
  refine wpL_seq <| wpL_region ?_
  refine sY hf hs rfl rfl rfl (Y_move rfl rfl) ?_; clear hf; intro a hf
  refine sY hf hs rfl rfl rfl (Y_assign rfl rfl) ?_; clear hf; intro a hf
  refine wpO_nil ?_
  obtain rfl := Option.some.inj hm
  refine wpL_ret (ret_tmp rfl hf rfl ?_)
  exact ⟨_, rfl, A292, n293, c294, vs296, rfl, hn295, hs⟩

set_option maxRecDepth 100000 in
theorem impl_LateFirings_ok (F : Nat) (ae : GEventGraph) (ad : Option Addr) (ao af : Nat) (au : ao = ae.Places.length) (al : List (List Int)) (ak : Option Addr) (ax am : Nat) (aE : ax = al.length) (r : List (List Int) × Int) (W : World) (hm : impl_LateFirings F ae al = some r) (ap : Rd W ad ((recs GPlace.cells) ae.Places)) (aB : RdM W ak al) :
  Calls Try.prog 50 [.agg #[.int .i64 ae.Events, .slice ad ao af], .slice ak ax am].toArray W fun e w' => ∃ v, e = .returned v ∧ ∃ A105, ∃ n106, ∃ c107, ∃ vs109, v = .tuple #[.slice A105 n106 c107, .int .i64 r.2] ∧ n106 = r.1.length ∧ St [] W w' [.mat A105 n106 c107 23 2 vs109 r.1] := by
 subst au
 subst aE
 unfold impl_LateFirings at hm
 refine Calls.enter (N := 24) Try.func50 rfl rfl rfl (fun a hf => ?_)
 have hs := St.start W
 obtain ⟨w, hw_⟩ : ∃ w, w = W := ⟨W, rfl⟩
 clear hw_ w
 refine wpL_seq <| wpL_region ?_
 refine sBox hf hs rfl rfl rfl rfl rfl (cs := [.int .i64 ae.Events, .slice ad ae.Places.length af]) rfl ?_; clear hf hs; intro a w b1 hs hf
 have hs : St [] W w [.blk b1 52 [.int .i64 ae.Events, .slice ad ae.Places.length af]] := hs
 refine sBox hf hs rfl rfl rfl rfl rfl (cs := [.slice ak al.length am]) rfl ?_; clear hf hs; intro a w b2 hs hf
 have hs : St [] W w [.blk b1 52 [.int .i64 ae.Events, .slice ad ae.Places.length af], .blk b2 59 [.slice ak al.length am]] := hs
 refine sY hf hs rfl rfl rfl (Y_assign rfl rfl) ?_; clear hf; intro a hf
 refine sY hf hs rfl rfl rfl (Y_assign rfl rfl) ?_; clear hf; intro a hf
 refine wpO_nil <| wpL_seq <| wpL_seq <| wpL_region ?_
 refine sY hf hs rfl rfl rfl (Y_load_blkS rfl rfl (i := 0) rfl ag52 ti52 rfl) ?_; clear hf; intro a hf
 refine sY hf hs rfl rfl rfl (Y_load_blk rfl rfl (i := 1) rfl rfl ag59) ?_; clear hf; intro a hf
 obtain ⟨r3, hc4, hm⟩ := bind_some hm
 refine sCall hf rfl rfl rfl rfl (cap := []) rfl rfl en97 (impl_checkDue_ok F ae ad ae.Places.length af rfl al ak al.length am rfl _ _ hc4 (ap.at hs) (aB.at hs)) ?_; clear hf
 rintro _ w ⟨rfl, hs1⟩ a hf
 have hs : St [] W w [.blk b1 52 [.int .i64 ae.Events, .slice ad ae.Places.length af], .blk b2 59 [.slice ak al.length am]] := hs.ext hs1.below
 clear hs1
 refine sY hf hs rfl rfl rfl (Y_assign rfl rfl) ?_; clear hf; intro a hf
 refine wpO_nil <| wpL_seq <| wpL_region ?_
 refine sY hf hs rfl rfl rfl (Y_move rfl rfl) ?_; clear hf; intro a hf
 refine sY hf hs rfl rfl rfl (Y_neq rfl rfl rfl) ?_; clear hf; intro a hf
 refine wpO_nil ?_
 refine wpL_cond hf rfl (fun hb5 => ?_) (fun hb5 => ?_)
 ·have hm := bif_t hm hb5
  refine wpL_seq <| wpL_region ?_
  refine sY hf hs rfl rfl rfl (Y_move rfl rfl) ?_; clear hf; intro a hf
  refine sY hf hs rfl rfl rfl (Y_assign rfl rfl) ?_; clear hf; intro a hf
  refine sY hf hs rfl rfl rfl (Y_assign rfl rfl) ?_; clear hf; intro a hf
  refine wpO_nil ?_
  have hs : St [] W _ [.blk b1 52 [.int .i64 ae.Events, .slice ad ae.Places.length af], .blk b2 59 [.slice ak al.length am], .mat none 0 0 23 2 [] ([] : List (List Int))] := hs.addNilM 23 2
  obtain rfl := Option.some.inj hm
  refine wpL_ret (ret_tmp2 rfl hf rfl rfl ?_)
  exact ⟨_, rfl, none, 0, 0, [], rfl, rfl, hs.sel [2] (by decide)⟩
 ·have hm := bif_f hm hb5
  refine wpL_skip <| wpL_seq ?_
  obtain ⟨r55, hj56, hm⟩ := bind_some hm
  refine wpL_cut (fun a w => ∃ ms49 : List (List Int), ∃ b48, ∃ A50, ∃ n51, ∃ c52, ∃ vs54, ms49 = r55 ∧ n51 = ms49.length ∧ Fr a 24 [(3, .pointer (some ⟨b2, 0, none⟩)), (7, .pointer (some ⟨b48, 0, none⟩))] ∧ St [] W w [.blk b2 59 [.slice ak al.length am], .blk b48 59 [.slice A50 n51 c52], .mat A50 n51 c52 23 2 vs54 ms49]) ?_ ?_
  ·refine wpL_drawM [.blk b1 52 [.int .i64 ae.Events, .slice ad ae.Places.length af], .blk b2 59 [.slice ak al.length am]] [6, 8] (by kernel_rfl) hs ?_; clear hs; intro w hs
   have hs0 : St [] W w [.blk b1 52 [.int .i64 ae.Events, .slice ad ae.Places.length af], .blk b2 59 [.slice ak al.length am]] := hs
   refine mY (i := 0) [[], []] rfl (by kernel_rfl) (by kernel_rfl) hf hs0 rfl rfl rfl (Y_load_blkS rfl rfl (i := 0) rfl ag52 ti52 rfl) ?_; clear hf; intro a hf
   refine mY (i := 1) [[2], []] rfl (by kernel_rfl) (by kernel_rfl) hf hs0 rfl rfl rfl (Y_load_blk rfl rfl (i := 1) rfl rfl ag59) ?_; clear hf; intro a hf
   refine mYp (i := 2) rfl (by kernel_rfl) (by kernel_rfl) hf rfl rfl rfl (fun _ => Y_lenH rfl rfl el59 rfl) ?_; clear hf; intro a hf
   refine mYp (i := 3) rfl (by kernel_rfl) (by kernel_rfl) hf rfl rfl rfl (fun _ => Y_fieldAddr rfl rfl fo52_0) ?_; clear hf; intro a hf
   refine mY (i := 4) [[5], []] rfl (by kernel_rfl) (by kernel_rfl) hf hs0 rfl rfl rfl (Y_load_blk rfl rfl (i := 0) rfl rfl ag2) ?_; clear hf; intro a hf
   refine mRun2 (i := 5) (j := 7) rfl rfl (by kernel_rfl) ?_ ?_
   ·obtain ⟨xs70, hk69, hj56⟩ := bind_some hj56
    refine sMakeL (enc := ints) hf hs rfl rfl rfl rfl rfl hk69 el23 ti2 rfl ints_made ?_; clear hf hs; intro a w A68 hs hf
    have hs : St [] W w [.blk b1 52 [.int .i64 ae.Events, .slice ad ae.Places.length af], .blk b2 59 [.slice ak al.length am], .row A68 xs70.length xs70.length 2 1 (ints xs70)] := hs
    have hs0 : St [] W w [.blk b1 52 [.int .i64 ae.Events, .slice ad ae.Places.length af], .blk b2 59 [.slice ak al.length am]] := hs.sel [0, 1] (by decide)
    refine wpO_nil ⟨Or.inr (fun _ => hs0), ?_⟩
    refine mRun2 (i := 6) (j := 7) rfl rfl (by kernel_rfl) ?_ ?_
    ·obtain ⟨r71, hc72, hj56⟩ := bind_some hj56
     refine sCall hf rfl rfl rfl rfl (cap := []) rfl rfl en101 (impl_firingTimes_ok F ae ad ae.Places.length af rfl (al.length : Int) xs70 A68 xs70.length xs70.length rfl _ _ hc72 (ap.at hs) (hs.rd (i := 2) rfl)) ?_; clear hf
     rintro _ w ⟨A73, n74, c75, vs77, rfl, hn76, hs1⟩ a hf
     have hs : St [] W w [.blk b1 52 [.int .i64 ae.Events, .slice ad ae.Places.length af], .blk b2 59 [.slice ak al.length am], .row A68 xs70.length xs70.length 2 1 (ints xs70), .mat A73 n74 c75 23 2 vs77 r71] := hs.join hs1
     clear hs1
     refine wpO_nil ⟨Or.inl (by decide), ?_⟩
     refine mRun (i := 7) rfl (by kernel_rfl) ?_
     refine sAlloc hf hs rfl rfl rfl rfl ti59 ?_; clear hf hs; intro a w b78 hs hf
     have hs : St [] W w [.blk b1 52 [.int .i64 ae.Events, .slice ad ae.Places.length af], .blk b2 59 [.slice ak al.length am], .row A68 xs70.length xs70.length 2 1 (ints xs70), .mat A73 n74 c75 23 2 vs77 r71, .blk b78 59 [.slice none 0 0]] := hs
     have hs0 : St [] W w [.blk b1 52 [.int .i64 ae.Events, .slice ad ae.Places.length af], .blk b2 59 [.slice ak al.length am]] := hs.sel [0, 1] (by decide)
     refine wpO_nil ⟨Or.inr (fun _ => hs0), ?_⟩
     refine mRun (i := 8) rfl (by kernel_rfl) ?_
     refine sStore (i := 4) (us := [.slice A73 n74 c75]) hf hs rfl rfl rfl rfl rfl rfl ti59 rfl rfl rfl (Nat.le_of_ble_eq_true rfl) rfl ?_; clear hs; intro w hs
     have hs : St [] W w [.blk b1 52 [.int .i64 ae.Events, .slice ad ae.Places.length af], .blk b2 59 [.slice ak al.length am], .row A68 xs70.length xs70.length 2 1 (ints xs70), .mat A73 n74 c75 23 2 vs77 r71, .blk b78 59 [.slice A73 n74 c75]] := hs
     refine wpO_nil ⟨Or.inl (by decide), ?_⟩
     refine mDone (by kernel_rfl) ?_
     clear hs0
     refine wpL_nil (then_normal ?_)
     exact ⟨r71, b78, A73, n74, c75, vs77, Option.some.inj hj56, hn76, (FrD.pick (FrD.pick hf.none hf rfl) hf rfl), hs.sel [1, 4, 3] (by decide)⟩
    ·refine sAlloc hf hs rfl rfl rfl rfl ti59 ?_; clear hf hs; intro a w b79 hs hf
     have hs : St [] W w [.blk b1 52 [.int .i64 ae.Events, .slice ad ae.Places.length af], .blk b2 59 [.slice ak al.length am], .row A68 xs70.length xs70.length 2 1 (ints xs70), .blk b79 59 [.slice none 0 0]] := hs
     have hs0 : St [] W w [.blk b1 52 [.int .i64 ae.Events, .slice ad ae.Places.length af], .blk b2 59 [.slice ak al.length am]] := hs.sel [0, 1] (by decide)
     refine wpO_nil ⟨Or.inr (fun _ => hs0), ?_⟩
     refine mRun (i := 6) rfl (by kernel_rfl) ?_
     obtain ⟨r80, hc81, hj56⟩ := bind_some hj56
     refine sCall hf rfl rfl rfl rfl (cap := []) rfl rfl en101 (impl_firingTimes_ok F ae ad ae.Places.length af rfl (al.length : Int) xs70 A68 xs70.length xs70.length rfl _ _ hc81 (ap.at hs) (hs.rd (i := 2) rfl)) ?_; clear hf
     rintro _ w ⟨A82, n83, c84, vs86, rfl, hn85, hs1⟩ a hf
     have hs : St [] W w [.blk b1 52 [.int .i64 ae.Events, .slice ad ae.Places.length af], .blk b2 59 [.slice ak al.length am], .row A68 xs70.length xs70.length 2 1 (ints xs70), .blk b79 59 [.slice none 0 0], .mat A82 n83 c84 23 2 vs86 r80] := hs.join hs1
     clear hs1
     refine wpO_nil ⟨Or.inl (by decide), ?_⟩
     refine mRun (i := 8) rfl (by kernel_rfl) ?_
     refine sStore (i := 3) (us := [.slice A82 n83 c84]) hf hs rfl rfl rfl rfl rfl rfl ti59 rfl rfl rfl (Nat.le_of_ble_eq_true rfl) rfl ?_; clear hs; intro w hs
     have hs : St [] W w [.blk b1 52 [.int .i64 ae.Events, .slice ad ae.Places.length af], .blk b2 59 [.slice ak al.length am], .row A68 xs70.length xs70.length 2 1 (ints xs70), .blk b79 59 [.slice A82 n83 c84], .mat A82 n83 c84 23 2 vs86 r80] := hs
     refine wpO_nil ⟨Or.inl (by decide), ?_⟩
     refine mDone (by kernel_rfl) ?_
     clear hs0
     refine wpL_nil (then_normal ?_)
     exact ⟨r80, b79, A82, n83, c84, vs86, Option.some.inj hj56, hn85, (FrD.pick (FrD.pick hf.none hf rfl) hf rfl), hs.sel [1, 3, 4] (by decide)⟩
   ·refine sAlloc hf hs rfl rfl rfl rfl ti59 ?_; clear hf hs; intro a w b87 hs hf
    have hs : St [] W w [.blk b1 52 [.int .i64 ae.Events, .slice ad ae.Places.length af], .blk b2 59 [.slice ak al.length am], .blk b87 59 [.slice none 0 0]] := hs
    have hs0 : St [] W w [.blk b1 52 [.int .i64 ae.Events, .slice ad ae.Places.length af], .blk b2 59 [.slice ak al.length am]] := hs.sel [0, 1] (by decide)
    refine wpO_nil ⟨Or.inr (fun _ => hs0), ?_⟩
    refine mRun (i := 5) rfl (by kernel_rfl) ?_
    obtain ⟨xs90, hk89, hj56⟩ := bind_some hj56
    refine sMakeL (enc := ints) hf hs rfl rfl rfl rfl rfl hk89 el23 ti2 rfl ints_made ?_; clear hf hs; intro a w A88 hs hf
    have hs : St [] W w [.blk b1 52 [.int .i64 ae.Events, .slice ad ae.Places.length af], .blk b2 59 [.slice ak al.length am], .blk b87 59 [.slice none 0 0], .row A88 xs90.length xs90.length 2 1 (ints xs90)] := hs
    have hs0 : St [] W w [.blk b1 52 [.int .i64 ae.Events, .slice ad ae.Places.length af], .blk b2 59 [.slice ak al.length am]] := hs.sel [0, 1] (by decide)
    refine wpO_nil ⟨Or.inr (fun _ => hs0), ?_⟩
    refine mRun (i := 6) rfl (by kernel_rfl) ?_
    obtain ⟨r91, hc92, hj56⟩ := bind_some hj56
    refine sCall hf rfl rfl rfl rfl (cap := []) rfl rfl en101 (impl_firingTimes_ok F ae ad ae.Places.length af rfl (al.length : Int) xs90 A88 xs90.length xs90.length rfl _ _ hc92 (ap.at hs) (hs.rd (i := 3) rfl)) ?_; clear hf
    rintro _ w ⟨A93, n94, c95, vs97, rfl, hn96, hs1⟩ a hf
    have hs : St [] W w [.blk b1 52 [.int .i64 ae.Events, .slice ad ae.Places.length af], .blk b2 59 [.slice ak al.length am], .blk b87 59 [.slice none 0 0], .row A88 xs90.length xs90.length 2 1 (ints xs90), .mat A93 n94 c95 23 2 vs97 r91] := hs.join hs1
    clear hs1
    refine wpO_nil ⟨Or.inl (by decide), ?_⟩
    refine mRun (i := 8) rfl (by kernel_rfl) ?_
    refine sStore (i := 2) (us := [.slice A93 n94 c95]) hf hs rfl rfl rfl rfl rfl rfl ti59 rfl rfl rfl (Nat.le_of_ble_eq_true rfl) rfl ?_; clear hs; intro w hs
    have hs : St [] W w [.blk b1 52 [.int .i64 ae.Events, .slice ad ae.Places.length af], .blk b2 59 [.slice ak al.length am], .blk b87 59 [.slice A93 n94 c95], .row A88 xs90.length xs90.length 2 1 (ints xs90), .mat A93 n94 c95 23 2 vs97 r91] := hs
    refine wpO_nil ⟨Or.inl (by decide), ?_⟩
    refine mDone (by kernel_rfl) ?_
    clear hs0
    refine wpL_nil (then_normal ?_)
    exact ⟨r91, b87, A93, n94, c95, vs97, Option.some.inj hj56, hn96, (FrD.pick (FrD.pick hf.none hf rfl) hf rfl), hs.sel [1, 2, 4] (by decide)⟩
  ·rintro a w ⟨ms49, b48, A50, n51, c52, vs54, hr_, hn53, hf, hs⟩
   subst hr_
   try dsimp only at hm
   refine wpL_seq <| wpL_region ?_
   refine sY hf hs rfl rfl rfl (Y_load_blk rfl rfl (i := 1) rfl rfl ag59) ?_; clear hf; intro a hf
   refine sY hf hs rfl rfl rfl (Y_makeFunc (us := []) (vs := [.pointer (some ⟨b48, 0, none⟩), .pointer (some ⟨b2, 0, none⟩)]) rfl rfl rfl) ?_; clear hf; intro a hf
   obtain ⟨r98, hc99, hm⟩ := bind_some hm
   refine sCall hf rfl rfl rfl rfl (cap := []) rfl rfl en102 (impl_firingsWith_ok F ms49 A50 n51 c52 hn53 (fun x0 x1 => impl_LateFirings_c1 F x0 x1 ms49 al) 103 ([.pointer (some ⟨b48, 0, none⟩), .pointer (some ⟨b2, 0, none⟩)]) _ _ hc99 (hs.rdM (i := 2) rfl) (fun x0 x1 r w' hm_ hb => impl_LateFirings_c1_ok F x0 x1 b48 ms49 A50 n51 c52 hn53 b2 al ak al.length am rfl r w' hm_ ((hs.rdM (i := 2) rfl).below hb (Nat.le_refl _)) ((hs.pb (i := 1) rfl).below hb (Nat.le_refl _)) ((aB.at hs).below hb (Nat.le_refl _)) ((hs.pb (i := 0) rfl).below hb (Nat.le_refl _))) en103) ?_; clear hf
   rintro _ w ⟨A100, n101, c102, vs104, rfl, hn103, hs1⟩ a hf
   have hs : St [] W w [.blk b2 59 [.slice ak al.length am], .blk b48 59 [.slice A50 n51 c52], .mat A50 n51 c52 23 2 vs54 ms49, .mat A100 n101 c102 23 2 vs104 r98] := hs.join hs1
   clear hs1
   refine sY hf hs rfl rfl rfl (Y_assign rfl rfl) ?_; clear hf; intro a hf
   refine sY hf hs rfl rfl rfl (Y_assign rfl rfl) ?_; clear hf; intro a hf
   refine wpO_nil ?_
   obtain rfl := Option.some.inj hm
   refine wpL_ret (ret_tmp2 rfl hf rfl rfl ?_)
   exact ⟨_, rfl, A100, n101, c102, vs104, rfl, hn103, hs.sel [3] (by decide)⟩

set_option maxRecDepth 100000 in
theorem spec_LateFirings_ok (F : Nat) (p0 : GEventGraph) (ai : Option Addr) (aL aj : Nat) (bo : aL = p0.Places.length) (p1 : List (List Int)) (aF : Option Addr) (aT aI : Nat) (bG : aT = p1.length) (r : List (List Int) × Int) (W : World) (hm : spec_LateFirings F p0 p1 = some r) (aJ : Rd W ai ((recs GPlace.cells) p0.Places)) (br : RdM W aF p1) :
  Calls Try.prog 51 [.agg #[.int .i64 p0.Events, .slice ai aL aj], .slice aF aT aI].toArray W fun e w' => ∃ v, e = .returned v ∧ ∃ A715, ∃ n716, ∃ c717, ∃ vs719, v = .tuple #[.slice A715 n716 c717, .int .i64 r.2] ∧ n716 = r.1.length ∧ St [] W w' [.mat A715 n716 c717 23 2 vs719 r.1] := by
 subst bo
 subst bG
 unfold spec_LateFirings at hm
 refine Calls.enter (N := 65) Try.func51 rfl rfl rfl (fun a hf => ?_)
 have hs := St.start W
 obtain ⟨w, hw_⟩ : ∃ w, w = W := ⟨W, rfl⟩
 clear hw_ w
 refine wpL_seq <| wpL_region ?_
 refine sBox hf hs rfl rfl rfl rfl rfl (cs := [.int .i64 p0.Events, .slice ai p0.Places.length aj]) rfl ?_; clear hf hs; intro a w b1 hs hf
 have hs : St [] W w [.blk b1 52 [.int .i64 p0.Events, .slice ai p0.Places.length aj]] := hs
 refine sY hf hs rfl rfl rfl (Y_assign rfl rfl) ?_; clear hf; intro a hf
 refine sY hf hs rfl rfl rfl (Y_assign rfl rfl) ?_; clear hf; intro a hf
 refine wpO_nil <| wpL_seq ?_
 refine wpL_draw (by kernel_rfl) (by kernel_rfl) hs ?_
 refine qY hf rfl rfl rfl (Y_load_blkS rfl rfl (i := 0) rfl ag52 ti52 rfl) ?_; clear hf; intro a hf
 refine qY hf rfl rfl rfl (Y_load_blkS rfl rfl (i := 0) rfl ag52 ti52 rfl) ?_; clear hf; intro a hf
 refine qY hf rfl rfl rfl (Y_move rfl rfl) ?_; clear hf; intro a hf
 obtain ⟨r2, hc3, hm⟩ := bind_some hm
 refine qCall hf rfl rfl rfl rfl (cap := []) rfl rfl en105 (v := .bool r2) (fun w hs => Calls.scal (spec_l22Due_ok F p0 ai p0.Places.length aj rfl p1 aF p1.length aI rfl _ _ hc3 (aJ.at hs) (br.at hs))) ?_; clear hf; intro a hf
 obtain ⟨r4, hc5, hm⟩ := bind_some hm
 refine qCall hf rfl rfl rfl rfl (cap := []) rfl rfl en104 (v := .int .i64 r4) (fun w hs => Calls.scal (spec_l13Code_ok F p0 ai p0.Places.length aj rfl r2 _ _ hc5 (aJ.at hs))) ?_; clear hf; intro a hf
 refine qY hf rfl rfl rfl (Y_assign rfl rfl) ?_; clear hf; intro a hf
 refine qNil ?_; clear hs; intro w hs
 refine wpL_seq <| wpL_seq <| wpL_region ?_
 refine sY hf hs rfl rfl rfl (Y_move rfl rfl) ?_; clear hf; intro a hf
 refine sY hf hs rfl rfl rfl (Y_neq rfl rfl rfl) ?_; clear hf; intro a hf
 refine wpO_nil ?_
 refine wpL_cond hf rfl (fun hb6 => ?_) (fun hb6 => ?_)
 ·have hm := bif_t hm hb6
  refine wpL_seq <| wpL_region ?_
  refine sY hf hs rfl rfl rfl (Y_move rfl rfl) ?_; clear hf; intro a hf
  refine sY hf hs rfl rfl rfl (Y_assign rfl rfl) ?_; clear hf; intro a hf
  refine sY hf hs rfl rfl rfl (Y_assign rfl rfl) ?_; clear hf; intro a hf
  refine wpO_nil ?_
  have hs : St [] W _ [.blk b1 52 [.int .i64 p0.Events, .slice ai p0.Places.length aj], .mat none 0 0 23 2 [] ([] : List (List Int))] := hs.addNilM 23 2
  obtain rfl := Option.some.inj hm
  refine wpL_ret (ret_tmp2 rfl hf rfl rfl ?_)
  exact ⟨_, rfl, none, 0, 0, [], rfl, rfl, hs.sel [1] (by decide)⟩
 ·have hm := bif_f hm hb6
  refine wpL_skip <| wpL_seq ?_
  refine wpL_drawM [.blk b1 52 [.int .i64 p0.Events, .slice ai p0.Places.length aj]] [6] (by kernel_rfl) hs ?_; clear hs; intro w hs
  have hs0 : St [] W w [.blk b1 52 [.int .i64 p0.Events, .slice ai p0.Places.length aj]] := hs
  refine mY (i := 0) [[]] rfl (by kernel_rfl) (by kernel_rfl) hf hs0 rfl rfl rfl (Y_load_blkS rfl rfl (i := 0) rfl ag52 ti52 rfl) ?_; clear hf; intro a hf
  refine mYp (i := 1) rfl (by kernel_rfl) (by kernel_rfl) hf rfl rfl rfl (fun _ => Y_move rfl rfl) ?_; clear hf; intro a hf
  refine mYp (i := 2) rfl (by kernel_rfl) (by kernel_rfl) hf rfl rfl rfl (fun _ => Y_lenH rfl rfl el59 rfl) ?_; clear hf; intro a hf
  refine mYp (i := 3) rfl (by kernel_rfl) (by kernel_rfl) hf rfl rfl rfl (fun _ => Y_fieldAddr rfl rfl fo52_0) ?_; clear hf; intro a hf
  refine mY (i := 4) [[5]] rfl (by kernel_rfl) (by kernel_rfl) hf hs0 rfl rfl rfl (Y_load_blk rfl rfl (i := 0) rfl rfl ag2) ?_; clear hf; intro a hf
  refine mRun (i := 5) rfl (by kernel_rfl) ?_
  obtain ⟨xs20, hk19, hm⟩ := bind_some hm
  refine sMakeL (enc := ints) hf hs rfl rfl rfl rfl rfl hk19 el23 ti2 rfl ints_made ?_; clear hf hs; intro a w A18 hs hf
  have hs : St [] W w [.blk b1 52 [.int .i64 p0.Events, .slice ai p0.Places.length aj], .row A18 xs20.length xs20.length 2 1 (ints xs20)] := hs
  have hs0 : St [] W w [.blk b1 52 [.int .i64 p0.Events, .slice ai p0.Places.length aj]] := hs.sel [0] (by decide)
  refine wpO_nil ⟨Or.inr (fun _ => hs0), ?_⟩
  refine mRun (i := 6) rfl (by kernel_rfl) ?_
  obtain ⟨r21, hc22, hm⟩ := bind_some hm
  refine sCall hf rfl rfl rfl rfl (cap := []) rfl rfl en106 (spec_l13Times_ok F p0 ai p0.Places.length aj rfl (p1.length : Int) xs20 A18 xs20.length xs20.length rfl _ _ hc22 (aJ.at hs) (hs.rd (i := 1) rfl)) ?_; clear hf
  rintro _ w ⟨A23, n24, c25, vs27, rfl, hn26, hs1⟩ a hf
  have hs : St [] W w [.blk b1 52 [.int .i64 p0.Events, .slice ai p0.Places.length aj], .row A18 xs20.length xs20.length 2 1 (ints xs20), .mat A23 n24 c25 23 2 vs27 r21] := hs.join hs1
  clear hs1
  refine wpO_nil ⟨Or.inl (by decide), ?_⟩
  refine mYp (i := 7) rfl (by kernel_rfl) (by kernel_rfl) hf rfl rfl rfl (fun _ => Y_assign rfl rfl) ?_; clear hf; intro a hf
  refine mDone (by kernel_rfl) ?_
  clear hs0
  refine wpL_seq <| wpL_region ?_
  refine sEmptyM 2 hf hs rfl rfl rfl rfl el59 ti23 rfl ?_; clear hf hs; intro a w A28 hs hf
  have hs : St [] W w [.blk b1 52 [.int .i64 p0.Events, .slice ai p0.Places.length aj], .row A18 xs20.length xs20.length 2 1 (ints xs20), .mat A23 n24 c25 23 2 vs27 r21, .mat A28 0 0 23 2 [] []] := hs
  refine sY hf hs rfl rfl rfl (Y_assign rfl rfl) ?_; clear hf; intro a hf
  refine wpO_nil <| wpL_seq <| wpL_seq <| wpL_region ?_
  refine sY hf hs rfl rfl rfl (Y_assign rfl rfl) ?_; clear hf; intro a hf
  refine wpO_nil ?_
  obtain ⟨r546, hl547, hm⟩ := bind_some hm
  refine wpL_block (fun a w => ∃ ms540 : List (List Int), ∃ A541, ∃ n542, ∃ c543, ∃ vs545, ms540 = r546 ∧ n542 = ms540.length ∧ Fr a 65 [(8, .slice A541 n542 c543)] ∧ St [] W w [.mat A541 n542 c543 23 2 vs545 ms540]) ?_ ?_
  ·refine wpL_loop (fun n a w => ∃ ms368 : List (List Int), ∃ x374 : Int, ∃ A369, ∃ n370, ∃ c371, ∃ vs373, spec_LateFirings_L4 F p1 r21 n ms368 x374 = some r546 ∧ n370 = ms368.length ∧ Fr a 65 [(1, .slice aF p1.length aI), (7, .slice A23 n24 c25), (8, .slice A369 n370 c371), (9, .int .i64 x374)] ∧ St [] W w [.mat A23 n24 c25 23 2 vs27 r21, .mat A369 n370 c371 23 2 vs373 ms368]) F ?_ ?_ ?_
   ·exact ⟨[], 0, A28, 0, 0, [], hl547, rfl, (FrD.pick (FrD.pick (FrD.pick (FrD.pick hf.none hf rfl) hf rfl) hf rfl) hf rfl), hs.sel [2, 3] (by decide)⟩
   ·rintro a w ⟨ms368, x374, A369, n370, c371, vs373, h0_, -, -, -⟩; simp [spec_LateFirings_L4] at h0_
   ·rintro n549 a w ⟨ms368, x374, A369, n370, c371, vs373, hm548, hn372, hf, hs⟩
    rw [spec_LateFirings_L4] at hm548
    refine wpL_seq <| wpL_seq <| wpL_region ?_
    refine sY hf hs rfl rfl rfl (Y_move rfl rfl) ?_; clear hf; intro a hf
    refine sY hf hs rfl rfl rfl (Y_move rfl rfl) ?_; clear hf; intro a hf
    refine sY hf hs rfl rfl rfl (Y_lenH rfl rfl el59 hn26) ?_; clear hf; intro a hf
    refine sY hf hs rfl rfl rfl (Y_lss rfl rfl rfl) ?_; clear hf; intro a hf
    refine wpO_nil ?_
    refine wpL_cond hf rfl (fun hb550 => ?_) (fun hb550 => ?_)
    ·have hm548 := bif_t hm548 hb550
     refine wpL_skip <| wpL_seq <| wpL_block0 <| wpL_seq <| wpL_region ?_
     refine sY hf hs rfl rfl rfl (Y_assign rfl rfl) ?_; clear hf; intro a hf
     refine wpO_nil ?_
     obtain ⟨r676, hl677, hm548⟩ := bind_some hm548
     refine wpL_block (fun a w => ∃ ms670 : List (List Int), ∃ A671, ∃ n672, ∃ c673, ∃ vs675, ms670 = r676 ∧ n672 = ms670.length ∧ Fr a 65 [(1, .slice aF p1.length aI), (7, .slice A23 n24 c25), (8, .slice A671 n672 c673), (9, .int .i64 x374)] ∧ St [] W w [.mat A23 n24 c25 23 2 vs27 r21, .mat A671 n672 c673 23 2 vs675 ms670]) ?_ ?_
     ·refine wpL_loop (fun n a w => ∃ ms628 : List (List Int), ∃ x634 : Int, ∃ A629, ∃ n630, ∃ c631, ∃ vs633, spec_LateFirings_L5 F p1 r21 x374 n ms628 x634 = some r676 ∧ n630 = ms628.length ∧ Fr a 65 [(1, .slice aF p1.length aI), (7, .slice A23 n24 c25), (8, .slice A629 n630 c631), (9, .int .i64 x374), (10, .int .i64 x634)] ∧ St [] W w [.mat A23 n24 c25 23 2 vs27 r21, .mat A629 n630 c631 23 2 vs633 ms628]) F ?_ ?_ ?_
      ·exact ⟨ms368, 0, A369, n370, c371, vs373, hl677, hn372, (FrD.pick (FrD.pick (FrD.pick (FrD.pick (FrD.pick hf.none hf rfl) hf rfl) hf rfl) hf rfl) hf rfl), hs⟩
      ·rintro a w ⟨ms628, x634, A629, n630, c631, vs633, h0_, -, -, -⟩; simp [spec_LateFirings_L5] at h0_
      ·rintro n679 a w ⟨ms628, x634, A629, n630, c631, vs633, hm678, hn632, hf, hs⟩
       rw [spec_LateFirings_L5] at hm678
       refine wpL_seq <| wpL_seq <| wpL_region ?_
       refine sY hf hs rfl rfl rfl (Y_move rfl rfl) ?_; clear hf; intro a hf
       refine sY hf hs rfl rfl rfl (Y_move rfl rfl) ?_; clear hf; intro a hf
       refine sY hf hs rfl rfl rfl (Y_move rfl rfl) ?_; clear hf; intro a hf
       obtain ⟨q680, hi681, hm678⟩ := bind_some hm678
       obtain ⟨hi681a, hi681b, hi681q⟩ := idx_some hi681
       obtain ⟨A682, c683, hv684⟩ := hs.matRow (i := 0) rfl hi681q
       refine sY hf hs rfl rfl rfl (Y_index rfl rfl rfl el59 ti23 (Rd.isAt (hs.rdV (i := 0) rfl) hv684) hi681a (ltn hn26 hi681b)) ?_; clear hf; intro a hf
       refine sY hf hs rfl rfl rfl (Y_load_rd rfl rfl (fun w hs => hs.rdV (i := 0) rfl) (at1 hv684) ag23) ?_; clear hf; intro a hf
       refine sY hf hs rfl rfl rfl (Y_lenH rfl rfl el23 rfl) ?_; clear hf; intro a hf
       refine sY hf hs rfl rfl rfl (Y_lss rfl rfl rfl) ?_; clear hf; intro a hf
       refine wpO_nil ?_
       refine wpL_cond hf rfl (fun hb685 => ?_) (fun hb685 => ?_)
       ·have hm678 := bif_t hm678 hb685
        refine wpL_skip <| wpL_seq <| wpL_block0 <| wpL_seq ?_
        refine wpL_draw (by kernel_rfl) (by kernel_rfl) hs ?_
        refine qY hf rfl rfl rfl (Y_move rfl rfl) ?_; clear hf; intro a hf
        refine qY hf rfl rfl rfl (Y_move rfl rfl) ?_; clear hf; intro a hf
        obtain ⟨q686, hi687, hm678⟩ := bind_some hm678
        obtain ⟨hi687a, hi687b, hi687q⟩ := idx_some hi687
        obtain ⟨A688, c689, hv690⟩ := hs.matRow (i := 0) rfl hi687q
        refine qY hf rfl rfl rfl (Y_index rfl rfl rfl el59 ti23 (Rd.isAt (hs.rdV (i := 0) rfl) hv690) hi687a (ltn hn26 hi687b)) ?_; clear hf; intro a hf
        refine qY hf rfl rfl rfl (Y_load_rd rfl rfl (fun w hs => hs.rdV (i := 0) rfl) (at1 hv690) ag23) ?_; clear hf; intro a hf
        refine qY hf rfl rfl rfl (Y_move rfl rfl) ?_; clear hf; intro a hf
        obtain ⟨q691, hi692, hm678⟩ := bind_some hm678
        obtain ⟨hi692a, hi692b, hi692q⟩ := idx_some hi692
        refine qY hf rfl rfl rfl (Y_index rfl rfl rfl el23 ti2 (Rd.isAt (hs.rdRow (i := 0) rfl ⟨hi687q, hv690⟩) (at1 (ints_at hi692q))) hi692a hi692b) ?_; clear hf; intro a hf
        refine qY hf rfl rfl rfl (Y_load_rd rfl rfl (fun w hs => hs.rdRow (i := 0) rfl ⟨hi687q, hv690⟩) (at1 (ints_at hi692q)) ag2) ?_; clear hf; intro a hf
        refine qY hf rfl rfl rfl (Y_move rfl rfl) ?_; clear hf; intro a hf
        refine qY hf rfl rfl rfl (Y_move rfl rfl) ?_; clear hf; intro a hf
        obtain ⟨q693, hi694, hm678⟩ := bind_some hm678
        obtain ⟨hi694a, hi694b, hi694q⟩ := idx_some hi694
        obtain ⟨vs695, hv696, hr697⟩ := id br
        obtain ⟨A698, c699, hv700, hR701⟩ := hr697 _ _ hi694q
        refine qY hf rfl rfl rfl (Y_index rfl rfl rfl el59 ti23 (Rd.isAt hv696 hv700) hi694a hi694b) ?_; clear hf; intro a hf
        refine qY hf rfl rfl rfl (Y_load_rd rfl rfl (fun w hs => hv696.at hs) (at1 hv700) ag23) ?_; clear hf; intro a hf
        refine qY hf rfl rfl rfl (Y_move rfl rfl) ?_; clear hf; intro a hf
        obtain ⟨q702, hi703, hm678⟩ := bind_some hm678
        obtain ⟨hi703a, hi703b, hi703q⟩ := idx_some hi703
        refine qY hf rfl rfl rfl (Y_index rfl rfl rfl el23 ti2 (Rd.isAt (hR701.at hs) (at1 (ints_at hi703q))) hi703a hi703b) ?_; clear hf; intro a hf
        refine qY hf rfl rfl rfl (Y_load_rd rfl rfl (fun w hs => hR701.at hs) (at1 (ints_at hi703q)) ag2) ?_; clear hf; intro a hf
        refine qY hf rfl rfl rfl (Y_gtr rfl rfl rfl) ?_; clear hf; intro a hf
        refine qNil ?_; clear hs; intro w hs
        refine wpL_cond hf rfl (fun hb704 => ?_) (fun hb704 => ?_)
        ·have hm678 := bif_t hm678 hb704
         refine wpL_region ?_
         refine sY hf hs rfl rfl rfl (Y_move rfl rfl) ?_; clear hf; intro a hf
         refine sY hf hs rfl rfl rfl (Y_move rfl rfl) ?_; clear hf; intro a hf
         refine sY hf hs rfl rfl rfl (Y_add rfl rfl rfl) ?_; clear hf; intro a hf
         refine sY hf hs rfl rfl rfl (Y_move rfl rfl) ?_; clear hf; intro a hf
         refine sBuildSlice (parts := [(0, .tmp 59), (1, .tmp 60)]) (vs := [.int .i64 (IntKind.i64.wrap (x374 + 1)), .int .i64 x634]) (cells := [.int .i64 (IntKind.i64.wrap (x374 + 1)), .int .i64 x634]) hf hs rfl rfl rfl rfl rfl el23 ti2 rfl rfl rfl rfl ?_; clear hf hs; intro a w A705 hs hA706 hf
         have hs : St [] W w [.mat A23 n24 c25 23 2 vs27 r21, .mat A629 n630 c631 23 2 vs633 ms628, .row A705 2 2 2 1 (ints ([(IntKind.i64.wrap (x374 + 1)), x634]))] := hs
         refine sOneM (j := 2) hf hs rfl rfl rfl rfl rfl rfl rfl el59 ti23 ?_; clear hf hs; intro a w A707 hs hf
         have hs : St [] W w [.mat A23 n24 c25 23 2 vs27 r21, .mat A629 n630 c631 23 2 vs633 ms628, .mat A707 1 1 23 2 ([Value.slice A705 ([(IntKind.i64.wrap (x374 + 1)), x634]).length 2]) ([[(IntKind.i64.wrap (x374 + 1)), x634]])] := hs
         obtain ⟨ms711, ha712, hm678⟩ := bind_some hm678
         refine sAppendM (i := 1) (j := 2) hf hs rfl rfl rfl rfl rfl rfl hn632 rfl (by decide) rfl rfl (by decide) ha712 el59 ti23 rfl ?_; clear hf hs; intro a w A709 c710 hs hf
         have hs : St [] W w [.mat A23 n24 c25 23 2 vs27 r21, .mat A709 ms711.length c710 23 2 (vs633 ++ ([Value.slice A705 ([(IntKind.i64.wrap (x374 + 1)), x634]).length 2])) ms711] := hs
         obtain ⟨hq713, hv714⟩ := hs.appended (i := 1) rfl ha712
         refine sY hf hs rfl rfl rfl (Y_assign rfl rfl) ?_; clear hf; intro a hf
         refine wpO_nil ?_
         refine wpL_nil (Qb_normal ?_)
         refine wpL_region ?_
         refine sY hf hs rfl rfl rfl (Y_move rfl rfl) ?_; clear hf; intro a hf
         refine sY hf hs rfl rfl rfl (Y_add rfl rfl rfl) ?_; clear hf; intro a hf
         refine sY hf hs rfl rfl rfl (Y_assign rfl rfl) ?_; clear hf; intro a hf
         refine wpO_nil ?_
         refine wpL_nil (Ql_normal ?_)
         exact ⟨ms711, (IntKind.i64.wrap (x634 + 1)), A709, ms711.length, c710, (vs633 ++ ([Value.slice A705 ([(IntKind.i64.wrap (x374 + 1)), x634]).length 2])), hm678, rfl, (FrD.pick (FrD.pick (FrD.pick (FrD.pick (FrD.pick hf.none hf rfl) hf rfl) hf rfl) hf rfl) hf rfl), hs⟩
        ·have hm678 := bif_f hm678 hb704
         refine wpL_skip ?_
         refine wpL_nil (Qb_normal ?_)
         refine wpL_region ?_
         refine sY hf hs rfl rfl rfl (Y_move rfl rfl) ?_; clear hf; intro a hf
         refine sY hf hs rfl rfl rfl (Y_add rfl rfl rfl) ?_; clear hf; intro a hf
         refine sY hf hs rfl rfl rfl (Y_assign rfl rfl) ?_; clear hf; intro a hf
         refine wpO_nil ?_
         refine wpL_nil (Ql_normal ?_)
         exact ⟨ms628, (IntKind.i64.wrap (x634 + 1)), A629, n630, c631, vs633, hm678, hn632, (FrD.pick (FrD.pick (FrD.pick (FrD.pick (FrD.pick hf.none hf rfl) hf rfl) hf rfl) hf rfl) hf rfl), hs⟩
       ·have hm678 := bif_f hm678 hb685
        refine wpL_exit (Ql_exit (Qb_exit ?_))
        exact ⟨ms628, A629, n630, c631, vs633, Option.some.inj hm678, hn632, (FrD.pick (FrD.pick (FrD.pick (FrD.pick hf.none hf rfl) hf rfl) hf rfl) hf rfl), hs⟩
     ·rintro a w ⟨ms670, A671, n672, c673, vs675, hr_, hn674, hf, hs⟩
      subst hr_
      try dsimp only at hm548
      refine wpL_nil (Qb_normal ?_)
      refine wpL_region ?_
      refine sY hf hs rfl rfl rfl (Y_move rfl rfl) ?_; clear hf; intro a hf
      refine sY hf hs rfl rfl rfl (Y_add rfl rfl rfl) ?_; clear hf; intro a hf
      refine sY hf hs rfl rfl rfl (Y_assign rfl rfl) ?_; clear hf; intro a hf
      refine wpO_nil ?_
      refine wpL_nil (Ql_normal ?_)
      exact ⟨ms670, (IntKind.i64.wrap (x374 + 1)), A671, n672, c673, vs675, hm548, hn674, (FrD.pick (FrD.pick (FrD.pick (FrD.pick hf.none hf rfl) hf rfl) hf rfl) hf rfl), hs⟩
    ·have hm548 := bif_f hm548 hb550
     refine wpL_exit (Ql_exit (Qb_exit ?_))
     exact ⟨ms368, A369, n370, c371, vs373, Option.some.inj hm548, hn372, (FrD.pick hf.none hf rfl), hs.sel [1] (by decide)⟩
  ·rintro a w ⟨ms540, A541, n542, c543, vs545, hr_, hn544, hf, hs⟩
   subst hr_
   try dsimp only at hm
   refine wpL_seq <| wpL_region ?_
   refine sY hf hs rfl rfl rfl (Y_move rfl rfl) ?_; clear hf; intro a hf
   refine sY hf hs rfl rfl rfl (Y_assign rfl rfl) ?_; clear hf; intro a hf
   refine sY hf hs rfl rfl rfl (Y_assign rfl rfl) ?_; clear hf; intro a hf
   refine wpO_nil ?_
   obtain rfl := Option.some.inj hm
   refine wpL_ret (ret_tmp2 rfl hf rfl rfl ?_)
   exact ⟨_, rfl, A541, n542, c543, vs545, rfl, hn544, hs⟩

set_option maxRecDepth 100000 in
theorem impl_CriticalFirings_c1_ok (F : Nat) (cM : Int) (bx : Int) (b_z0 : Nat) (z0 : List (List Int)) (A_z0_1 : Option Addr) (n_z0_1 c_z0_1 : Nat) (hn_z0_1 : n_z0_1 = z0.length) (r : Bool) (W : World) (hm : impl_CriticalFirings_c1 F cM bx z0 = some r) (h_z0_1 : RdM W A_z0_1 z0) (h_z0 : PB W b_z0 59 [.slice A_z0_1 n_z0_1 c_z0_1]) :
  Calls Try.prog 107 [.int .i64 cM, .int .i64 bx, .pointer (some ⟨b_z0, 0, none⟩)].toArray W fun e w' => ∃ v, e = .returned v ∧ v = .bool r ∧ St [] W w' [] := by
 subst hn_z0_1
 unfold impl_CriticalFirings_c1 at hm
 refine Calls.enter (N := 14) Try.func107 rfl rfl rfl (fun a hf => ?_)
 have hs := St.start W
 obtain ⟨w, hw_⟩ : ∃ w, w = W := ⟨W, rfl⟩
 clear hw_ w
 refine wpL_seq <| wpL_region ?_
 refine sY hf hs rfl rfl rfl (Y_assign rfl rfl) ?_; clear hf; intro a hf
 refine wpO_nil <| wpL_seq <| wpL_region ?_
 refine sY hf hs rfl rfl rfl (Y_load_pb rfl rfl h_z0 rfl ag59) ?_; clear hf; intro a hf
 refine sY hf hs rfl rfl rfl (Y_move rfl rfl) ?_; clear hf; intro a hf
 obtain ⟨q1, hi2, hm⟩ := bind_some hm
 obtain ⟨hi2a, hi2b, hi2q⟩ := idx_some hi2
 obtain ⟨vs3, hv4, hr5⟩ := id h_z0_1
 obtain ⟨A6, c7, hv8, hR9⟩ := hr5 _ _ hi2q
 refine sY hf hs rfl rfl rfl (Y_index rfl rfl rfl el59 ti23 (Rd.isAt hv4 hv8) hi2a hi2b) ?_; clear hf; intro a hf
 refine sY hf hs rfl rfl rfl (Y_load_rd rfl rfl (fun w hs => hv4.at hs) (at1 hv8) ag23) ?_; clear hf; intro a hf
 refine sY hf hs rfl rfl rfl (Y_move rfl rfl) ?_; clear hf; intro a hf
 obtain ⟨q10, hi11, hm⟩ := bind_some hm
 obtain ⟨hi11a, hi11b, hi11q⟩ := idx_some hi11
 refine sY hf hs rfl rfl rfl (Y_index rfl rfl rfl el23 ti2 (Rd.isAt (hR9.at hs) (at1 (ints_at hi11q))) hi11a hi11b) ?_; clear hf; intro a hf
 refine sY hf hs rfl rfl rfl (Y_load_rd rfl rfl (fun w hs => hR9.at hs) (at1 (ints_at hi11q)) ag2) ?_; clear hf; intro a hf
 refine sY hf hs rfl rfl rfl (Y_eql rfl rfl rfl) ?_; clear hf; intro a hf
 refine sY hf hs rfl rfl rfl (Y_assign rfl rfl) ?_; clear hf; intro a hf
 refine wpO_nil ?_
 obtain rfl := Option.some.inj hm
 refine wpL_ret (ret_tmp rfl hf rfl ?_)
 exact ⟨_, rfl, rfl, hs⟩

set_option maxRecDepth 100000 in
theorem impl_CriticalFirings_ok (F : Nat) (ae : GEventGraph) (ad : Option Addr) (ao af : Nat) (au : ao = ae.Places.length) (al : List (List Int)) (ak : Option Addr) (ax am : Nat) (aE : ax = al.length) (r : List (List Int) × Int) (W : World) (hm : impl_CriticalFirings F ae al = some r) (ap : Rd W ad ((recs GPlace.cells) ae.Places)) (aB : RdM W ak al) :
  Calls Try.prog 52 [.agg #[.int .i64 ae.Events, .slice ad ao af], .slice ak ax am].toArray W fun e w' => ∃ v, e = .returned v ∧ ∃ A21, ∃ n22, ∃ c23, ∃ vs25, v = .tuple #[.slice A21 n22 c23, .int .i64 r.2] ∧ n22 = r.1.length ∧ St [] W w' [.mat A21 n22 c23 23 2 vs25 r.1] := by
 subst au
 subst aE
 unfold impl_CriticalFirings at hm
 refine Calls.enter (N := 20) Try.func52 rfl rfl rfl (fun a hf => ?_)
 have hs := St.start W
 obtain ⟨w, hw_⟩ : ∃ w, w = W := ⟨W, rfl⟩
 clear hw_ w
 refine wpL_seq <| wpL_region ?_
 refine sBox hf hs rfl rfl rfl rfl rfl (cs := [.int .i64 ae.Events, .slice ad ae.Places.length af]) rfl ?_; clear hf hs; intro a w b1 hs hf
 have hs : St [] W w [.blk b1 52 [.int .i64 ae.Events, .slice ad ae.Places.length af]] := hs
 refine sY hf hs rfl rfl rfl (Y_assign rfl rfl) ?_; clear hf; intro a hf
 refine sY hf hs rfl rfl rfl (Y_assign rfl rfl) ?_; clear hf; intro a hf
 refine wpO_nil <| wpL_seq <| wpL_seq <| wpL_region ?_
 refine sY hf hs rfl rfl rfl (Y_load_blkS rfl rfl (i := 0) rfl ag52 ti52 rfl) ?_; clear hf; intro a hf
 refine sY hf hs rfl rfl rfl (Y_move rfl rfl) ?_; clear hf; intro a hf
 obtain ⟨r2, hc3, hm⟩ := bind_some hm
 refine sCall hf rfl rfl rfl rfl (cap := []) rfl rfl en97 (impl_checkDue_ok F ae ad ae.Places.length af rfl al ak al.length am rfl _ _ hc3 (ap.at hs) (aB.at hs)) ?_; clear hf
 rintro _ w ⟨rfl, hs1⟩ a hf
 have hs : St [] W w [.blk b1 52 [.int .i64 ae.Events, .slice ad ae.Places.length af]] := hs.ext hs1.below
 clear hs1
 refine sY hf hs rfl rfl rfl (Y_assign rfl rfl) ?_; clear hf; intro a hf
 refine wpO_nil <| wpL_seq <| wpL_region ?_
 refine sY hf hs rfl rfl rfl (Y_move rfl rfl) ?_; clear hf; intro a hf
 refine sY hf hs rfl rfl rfl (Y_neq rfl rfl rfl) ?_; clear hf; intro a hf
 refine wpO_nil ?_
 refine wpL_cond hf rfl (fun hb4 => ?_) (fun hb4 => ?_)
 ·have hm := bif_t hm hb4
  refine wpL_seq <| wpL_region ?_
  refine sY hf hs rfl rfl rfl (Y_move rfl rfl) ?_; clear hf; intro a hf
  refine sY hf hs rfl rfl rfl (Y_assign rfl rfl) ?_; clear hf; intro a hf
  refine sY hf hs rfl rfl rfl (Y_assign rfl rfl) ?_; clear hf; intro a hf
  refine wpO_nil ?_
  have hs : St [] W _ [.blk b1 52 [.int .i64 ae.Events, .slice ad ae.Places.length af], .mat none 0 0 23 2 [] ([] : List (List Int))] := hs.addNilM 23 2
  obtain rfl := Option.some.inj hm
  refine wpL_ret (ret_tmp2 rfl hf rfl rfl ?_)
  exact ⟨_, rfl, none, 0, 0, [], rfl, rfl, hs.sel [1] (by decide)⟩
 ·have hm := bif_f hm hb4
  refine wpL_skip <| wpL_seq <| wpL_region ?_
  refine sY hf hs rfl rfl rfl (Y_load_blkS rfl rfl (i := 0) rfl ag52 ti52 rfl) ?_; clear hf; intro a hf
  refine sY hf hs rfl rfl rfl (Y_move rfl rfl) ?_; clear hf; intro a hf
  obtain ⟨r6, hc7, hm⟩ := bind_some hm
  refine sCall hf rfl rfl rfl rfl (cap := []) rfl rfl en98 (impl_floatsOf_ok F ae ad ae.Places.length af rfl al ak al.length am rfl _ _ hc7 (ap.at hs) (aB.at hs)) ?_; clear hf
  rintro _ w ⟨A8, n9, c10, vs12, rfl, hn11, hs1⟩ a hf
  have hs : St [] W w [.blk b1 52 [.int .i64 ae.Events, .slice ad ae.Places.length af], .mat A8 n9 c10 23 2 vs12 r6] := hs.join hs1
  clear hs1
  refine sAlloc hf hs rfl rfl rfl rfl ti59 ?_; clear hf hs; intro a w b13 hs hf
  have hs : St [] W w [.blk b1 52 [.int .i64 ae.Events, .slice ad ae.Places.length af], .mat A8 n9 c10 23 2 vs12 r6, .blk b13 59 [.slice none 0 0]] := hs
  refine sStore (i := 2) (us := [.slice A8 n9 c10]) hf hs rfl rfl rfl rfl rfl rfl ti59 rfl rfl rfl (Nat.le_of_ble_eq_true rfl) rfl ?_; clear hs; intro w hs
  have hs : St [] W w [.blk b1 52 [.int .i64 ae.Events, .slice ad ae.Places.length af], .mat A8 n9 c10 23 2 vs12 r6, .blk b13 59 [.slice A8 n9 c10]] := hs
  refine wpO_nil <| wpL_seq <| wpL_region ?_
  refine sY hf hs rfl rfl rfl (Y_load_blk rfl rfl (i := 2) rfl rfl ag59) ?_; clear hf; intro a hf
  refine sY hf hs rfl rfl rfl (Y_makeFunc (us := []) (vs := [.pointer (some ⟨b13, 0, none⟩)]) rfl rfl rfl) ?_; clear hf; intro a hf
  obtain ⟨r14, hc15, hm⟩ := bind_some hm
  refine sCall hf rfl rfl rfl rfl (cap := []) rfl rfl en102 (impl_firingsWith_ok F r6 A8 n9 c10 hn11 (fun x0 x1 => impl_CriticalFirings_c1 F x0 x1 r6) 107 ([.pointer (some ⟨b13, 0, none⟩)]) _ _ hc15 (hs.rdM (i := 1) rfl) (fun x0 x1 r w' hm_ hb => impl_CriticalFirings_c1_ok F x0 x1 b13 r6 A8 n9 c10 hn11 r w' hm_ ((hs.rdM (i := 1) rfl).below hb (Nat.le_refl _)) ((hs.pb (i := 2) rfl).below hb (Nat.le_refl _))) en107) ?_; clear hf
  rintro _ w ⟨A16, n17, c18, vs20, rfl, hn19, hs1⟩ a hf
  have hs : St [] W w [.blk b1 52 [.int .i64 ae.Events, .slice ad ae.Places.length af], .mat A8 n9 c10 23 2 vs12 r6, .blk b13 59 [.slice A8 n9 c10], .mat A16 n17 c18 23 2 vs20 r14] := hs.join hs1
  clear hs1
  refine sY hf hs rfl rfl rfl (Y_assign rfl rfl) ?_; clear hf; intro a hf
  refine sY hf hs rfl rfl rfl (Y_assign rfl rfl) ?_; clear hf; intro a hf
  refine wpO_nil ?_
  obtain rfl := Option.some.inj hm
  refine wpL_ret (ret_tmp2 rfl hf rfl rfl ?_)
  exact ⟨_, rfl, A16, n17, c18, vs20, rfl, hn19, hs.sel [3] (by decide)⟩

set_option maxRecDepth 100000 in
theorem spec_CriticalFirings_ok (F : Nat) (ae : GEventGraph) (ad : Option Addr) (ao af : Nat) (au : ao = ae.Places.length) (al : List (List Int)) (ak : Option Addr) (ax am : Nat) (aE : ax = al.length) (r : List (List Int) × Int) (W : World) (hm : spec_CriticalFirings F ae al = some r) (ap : Rd W ad ((recs GPlace.cells) ae.Places)) (aB : RdM W ak al) :
  Calls Try.prog 53 [.agg #[.int .i64 ae.Events, .slice ad ao af], .slice ak ax am].toArray W fun e w' => ∃ v, e = .returned v ∧ ∃ A522, ∃ n523, ∃ c524, ∃ vs526, v = .tuple #[.slice A522 n523 c524, .int .i64 r.2] ∧ n523 = r.1.length ∧ St [] W w' [.mat A522 n523 c524 23 2 vs526 r.1] := by
 subst au
 subst aE
 unfold spec_CriticalFirings at hm
 refine Calls.enter (N := 52) Try.func53 rfl rfl rfl (fun a hf => ?_)
 have hs := St.start W
 obtain ⟨w, hw_⟩ : ∃ w, w = W := ⟨W, rfl⟩
 clear hw_ w
 refine wpL_seq <| wpL_region ?_
 refine sBox hf hs rfl rfl rfl rfl rfl (cs := [.int .i64 ae.Events, .slice ad ae.Places.length af]) rfl ?_; clear hf hs; intro a w b1 hs hf
 have hs : St [] W w [.blk b1 52 [.int .i64 ae.Events, .slice ad ae.Places.length af]] := hs
 refine sY hf hs rfl rfl rfl (Y_assign rfl rfl) ?_; clear hf; intro a hf
 refine sY hf hs rfl rfl rfl (Y_assign rfl rfl) ?_; clear hf; intro a hf
 refine wpO_nil <| wpL_seq <| wpL_region ?_
 refine sY hf hs rfl rfl rfl (Y_load_blkS rfl rfl (i := 0) rfl ag52 ti52 rfl) ?_; clear hf; intro a hf
 refine sY hf hs rfl rfl rfl (Y_move rfl rfl) ?_; clear hf; intro a hf
 obtain ⟨r2, hc3, hm⟩ := bind_some hm
 refine sCall hf rfl rfl rfl rfl (cap := []) rfl rfl en100 (spec_FloatsOf_ok F ae ad ae.Places.length af rfl al ak al.length am rfl _ _ hc3 (ap.at hs) (aB.at hs)) ?_; clear hf
 rintro _ w ⟨A4, n5, c6, vs8, rfl, hn7, hs1⟩ a hf
 have hs : St [] W w [.blk b1 52 [.int .i64 ae.Events, .slice ad ae.Places.length af], .mat A4 n5 c6 23 2 vs8 r2.1] := hs.join hs1
 clear hs1
 refine sY hf hs rfl rfl rfl (Y_move rfl rfl) ?_; clear hf; intro a hf
 refine sY hf hs rfl rfl rfl (Y_extract rfl rfl rfl) ?_; clear hf; intro a hf
 refine sY hf hs rfl rfl rfl (Y_extract rfl rfl rfl) ?_; clear hf; intro a hf
 refine sY hf hs rfl rfl rfl (Y_assign rfl rfl) ?_; clear hf; intro a hf
 refine sY hf hs rfl rfl rfl (Y_assign rfl rfl) ?_; clear hf; intro a hf
 refine wpO_nil <| wpL_seq <| wpL_seq <| wpL_region ?_
 refine sY hf hs rfl rfl rfl (Y_move rfl rfl) ?_; clear hf; intro a hf
 refine sY hf hs rfl rfl rfl (Y_neq rfl rfl rfl) ?_; clear hf; intro a hf
 refine wpO_nil ?_
 refine wpL_cond hf rfl (fun hb9 => ?_) (fun hb9 => ?_)
 ·have hm := bif_t hm hb9
  refine wpL_seq <| wpL_region ?_
  refine sY hf hs rfl rfl rfl (Y_move rfl rfl) ?_; clear hf; intro a hf
  refine sY hf hs rfl rfl rfl (Y_assign rfl rfl) ?_; clear hf; intro a hf
  refine sY hf hs rfl rfl rfl (Y_assign rfl rfl) ?_; clear hf; intro a hf
  refine wpO_nil ?_
  have hs : St [] W _ [.blk b1 52 [.int .i64 ae.Events, .slice ad ae.Places.length af], .mat A4 n5 c6 23 2 vs8 r2.1, .mat none 0 0 23 2 [] ([] : List (List Int))] := hs.addNilM 23 2
  obtain rfl := Option.some.inj hm
  refine wpL_ret (ret_tmp2 rfl hf rfl rfl ?_)
  exact ⟨_, rfl, none, 0, 0, [], rfl, rfl, hs.sel [2] (by decide)⟩
 ·have hm := bif_f hm hb9
  refine wpL_skip <| wpL_seq <| wpL_region ?_
  refine sEmptyM 2 hf hs rfl rfl rfl rfl el59 ti23 rfl ?_; clear hf hs; intro a w A11 hs hf
  have hs : St [] W w [.blk b1 52 [.int .i64 ae.Events, .slice ad ae.Places.length af], .mat A4 n5 c6 23 2 vs8 r2.1, .mat A11 0 0 23 2 [] []] := hs
  refine sY hf hs rfl rfl rfl (Y_assign rfl rfl) ?_; clear hf; intro a hf
  refine wpO_nil <| wpL_seq <| wpL_seq <| wpL_region ?_
  refine sY hf hs rfl rfl rfl (Y_assign rfl rfl) ?_; clear hf; intro a hf
  refine wpO_nil ?_
  obtain ⟨r397, hl398, hm⟩ := bind_some hm
  refine wpL_block (fun a w => ∃ ms391 : List (List Int), ∃ A392, ∃ n393, ∃ c394, ∃ vs396, ms391 = r397 ∧ n393 = ms391.length ∧ Fr a 52 [(8, .slice A392 n393 c394)] ∧ St [] W w [.mat A392 n393 c394 23 2 vs396 ms391]) ?_ ?_
  ·refine wpL_loop (fun n a w => ∃ ms263 : List (List Int), ∃ x269 : Int, ∃ A264, ∃ n265, ∃ c266, ∃ vs268, spec_CriticalFirings_L4 F r2 n ms263 x269 = some r397 ∧ n265 = ms263.length ∧ Fr a 52 [(6, .slice A4 n5 c6), (8, .slice A264 n265 c266), (9, .int .i64 x269)] ∧ St [] W w [.mat A4 n5 c6 23 2 vs8 r2.1, .mat A264 n265 c266 23 2 vs268 ms263]) F ?_ ?_ ?_
   ·exact ⟨[], 0, A11, 0, 0, [], hl398, rfl, (FrD.pick (FrD.pick (FrD.pick hf.none hf rfl) hf rfl) hf rfl), hs.sel [1, 2] (by decide)⟩
   ·rintro a w ⟨ms263, x269, A264, n265, c266, vs268, h0_, -, -, -⟩; simp [spec_CriticalFirings_L4] at h0_
   ·rintro n400 a w ⟨ms263, x269, A264, n265, c266, vs268, hm399, hn267, hf, hs⟩
    rw [spec_CriticalFirings_L4] at hm399
    refine wpL_seq <| wpL_seq <| wpL_region ?_
    refine sY hf hs rfl rfl rfl (Y_move rfl rfl) ?_; clear hf; intro a hf
    refine sY hf hs rfl rfl rfl (Y_move rfl rfl) ?_; clear hf; intro a hf
    refine sY hf hs rfl rfl rfl (Y_lenH rfl rfl el59 hn7) ?_; clear hf; intro a hf
    refine sY hf hs rfl rfl rfl (Y_lss rfl rfl rfl) ?_; clear hf; intro a hf
    refine wpO_nil ?_
    refine wpL_cond hf rfl (fun hb401 => ?_) (fun hb401 => ?_)
    ·have hm399 := bif_t hm399 hb401
     refine wpL_skip <| wpL_seq <| wpL_block0 <| wpL_seq <| wpL_region ?_
     refine sY hf hs rfl rfl rfl (Y_assign rfl rfl) ?_; clear hf; intro a hf
     refine wpO_nil ?_
     obtain ⟨r494, hl495, hm399⟩ := bind_some hm399
     refine wpL_block (fun a w => ∃ ms488 : List (List Int), ∃ A489, ∃ n490, ∃ c491, ∃ vs493, ms488 = r494 ∧ n490 = ms488.length ∧ Fr a 52 [(6, .slice A4 n5 c6), (8, .slice A489 n490 c491), (9, .int .i64 x269)] ∧ St [] W w [.mat A4 n5 c6 23 2 vs8 r2.1, .mat A489 n490 c491 23 2 vs493 ms488]) ?_ ?_
     ·refine wpL_loop (fun n a w => ∃ ms457 : List (List Int), ∃ x463 : Int, ∃ A458, ∃ n459, ∃ c460, ∃ vs462, spec_CriticalFirings_L5 F r2 x269 n ms457 x463 = some r494 ∧ n459 = ms457.length ∧ Fr a 52 [(6, .slice A4 n5 c6), (8, .slice A458 n459 c460), (9, .int .i64 x269), (10, .int .i64 x463)] ∧ St [] W w [.mat A4 n5 c6 23 2 vs8 r2.1, .mat A458 n459 c460 23 2 vs462 ms457]) F ?_ ?_ ?_
      ·exact ⟨ms263, 0, A264, n265, c266, vs268, hl495, hn267, (FrD.pick (FrD.pick (FrD.pick (FrD.pick hf.none hf rfl) hf rfl) hf rfl) hf rfl), hs⟩
      ·rintro a w ⟨ms457, x463, A458, n459, c460, vs462, h0_, -, -, -⟩; simp [spec_CriticalFirings_L5] at h0_
      ·rintro n497 a w ⟨ms457, x463, A458, n459, c460, vs462, hm496, hn461, hf, hs⟩
       rw [spec_CriticalFirings_L5] at hm496
       refine wpL_seq <| wpL_seq <| wpL_region ?_
       refine sY hf hs rfl rfl rfl (Y_move rfl rfl) ?_; clear hf; intro a hf
       refine sY hf hs rfl rfl rfl (Y_move rfl rfl) ?_; clear hf; intro a hf
       refine sY hf hs rfl rfl rfl (Y_move rfl rfl) ?_; clear hf; intro a hf
       obtain ⟨q498, hi499, hm496⟩ := bind_some hm496
       obtain ⟨hi499a, hi499b, hi499q⟩ := idx_some hi499
       obtain ⟨A500, c501, hv502⟩ := hs.matRow (i := 0) rfl hi499q
       refine sY hf hs rfl rfl rfl (Y_index rfl rfl rfl el59 ti23 (Rd.isAt (hs.rdV (i := 0) rfl) hv502) hi499a (ltn hn7 hi499b)) ?_; clear hf; intro a hf
       refine sY hf hs rfl rfl rfl (Y_load_rd rfl rfl (fun w hs => hs.rdV (i := 0) rfl) (at1 hv502) ag23) ?_; clear hf; intro a hf
       refine sY hf hs rfl rfl rfl (Y_lenH rfl rfl el23 rfl) ?_; clear hf; intro a hf
       refine sY hf hs rfl rfl rfl (Y_lss rfl rfl rfl) ?_; clear hf; intro a hf
       refine wpO_nil ?_
       refine wpL_cond hf rfl (fun hb503 => ?_) (fun hb503 => ?_)
       ·have hm496 := bif_t hm496 hb503
        refine wpL_skip <| wpL_seq <| wpL_block0 <| wpL_seq <| wpL_region ?_
        refine sY hf hs rfl rfl rfl (Y_move rfl rfl) ?_; clear hf; intro a hf
        refine sY hf hs rfl rfl rfl (Y_move rfl rfl) ?_; clear hf; intro a hf
        obtain ⟨q504, hi505, hm496⟩ := bind_some hm496
        obtain ⟨hi505a, hi505b, hi505q⟩ := idx_some hi505
        obtain ⟨A506, c507, hv508⟩ := hs.matRow (i := 0) rfl hi505q
        refine sY hf hs rfl rfl rfl (Y_index rfl rfl rfl el59 ti23 (Rd.isAt (hs.rdV (i := 0) rfl) hv508) hi505a (ltn hn7 hi505b)) ?_; clear hf; intro a hf
        refine sY hf hs rfl rfl rfl (Y_load_rd rfl rfl (fun w hs => hs.rdV (i := 0) rfl) (at1 hv508) ag23) ?_; clear hf; intro a hf
        refine sY hf hs rfl rfl rfl (Y_move rfl rfl) ?_; clear hf; intro a hf
        obtain ⟨q509, hi510, hm496⟩ := bind_some hm496
        obtain ⟨hi510a, hi510b, hi510q⟩ := idx_some hi510
        refine sY hf hs rfl rfl rfl (Y_index rfl rfl rfl el23 ti2 (Rd.isAt (hs.rdRow (i := 0) rfl ⟨hi505q, hv508⟩) (at1 (ints_at hi510q))) hi510a hi510b) ?_; clear hf; intro a hf
        refine sY hf hs rfl rfl rfl (Y_load_rd rfl rfl (fun w hs => hs.rdRow (i := 0) rfl ⟨hi505q, hv508⟩) (at1 (ints_at hi510q)) ag2) ?_; clear hf; intro a hf
        refine sY hf hs rfl rfl rfl (Y_eql rfl rfl rfl) ?_; clear hf; intro a hf
        refine wpO_nil ?_
        refine wpL_cond hf rfl (fun hb511 => ?_) (fun hb511 => ?_)
        ·have hm496 := bif_t hm496 hb511
         refine wpL_region ?_
         refine sY hf hs rfl rfl rfl (Y_move rfl rfl) ?_; clear hf; intro a hf
         refine sY hf hs rfl rfl rfl (Y_move rfl rfl) ?_; clear hf; intro a hf
         refine sY hf hs rfl rfl rfl (Y_add rfl rfl rfl) ?_; clear hf; intro a hf
         refine sY hf hs rfl rfl rfl (Y_move rfl rfl) ?_; clear hf; intro a hf
         refine sBuildSlice (parts := [(0, .tmp 46), (1, .tmp 47)]) (vs := [.int .i64 (IntKind.i64.wrap (x269 + 1)), .int .i64 x463]) (cells := [.int .i64 (IntKind.i64.wrap (x269 + 1)), .int .i64 x463]) hf hs rfl rfl rfl rfl rfl el23 ti2 rfl rfl rfl rfl ?_; clear hf hs; intro a w A512 hs hA513 hf
         have hs : St [] W w [.mat A4 n5 c6 23 2 vs8 r2.1, .mat A458 n459 c460 23 2 vs462 ms457, .row A512 2 2 2 1 (ints ([(IntKind.i64.wrap (x269 + 1)), x463]))] := hs
         refine sOneM (j := 2) hf hs rfl rfl rfl rfl rfl rfl rfl el59 ti23 ?_; clear hf hs; intro a w A514 hs hf
         have hs : St [] W w [.mat A4 n5 c6 23 2 vs8 r2.1, .mat A458 n459 c460 23 2 vs462 ms457, .mat A514 1 1 23 2 ([Value.slice A512 ([(IntKind.i64.wrap (x269 + 1)), x463]).length 2]) ([[(IntKind.i64.wrap (x269 + 1)), x463]])] := hs
         obtain ⟨ms518, ha519, hm496⟩ := bind_some hm496
         refine sAppendM (i := 1) (j := 2) hf hs rfl rfl rfl rfl rfl rfl hn461 rfl (by decide) rfl rfl (by decide) ha519 el59 ti23 rfl ?_; clear hf hs; intro a w A516 c517 hs hf
         have hs : St [] W w [.mat A4 n5 c6 23 2 vs8 r2.1, .mat A516 ms518.length c517 23 2 (vs462 ++ ([Value.slice A512 ([(IntKind.i64.wrap (x269 + 1)), x463]).length 2])) ms518] := hs
         obtain ⟨hq520, hv521⟩ := hs.appended (i := 1) rfl ha519
         refine sY hf hs rfl rfl rfl (Y_assign rfl rfl) ?_; clear hf; intro a hf
         refine wpO_nil ?_
         refine wpL_nil (Qb_normal ?_)
         refine wpL_region ?_
         refine sY hf hs rfl rfl rfl (Y_move rfl rfl) ?_; clear hf; intro a hf
         refine sY hf hs rfl rfl rfl (Y_add rfl rfl rfl) ?_; clear hf; intro a hf
         refine sY hf hs rfl rfl rfl (Y_assign rfl rfl) ?_; clear hf; intro a hf
         refine wpO_nil ?_
         refine wpL_nil (Ql_normal ?_)
         exact ⟨ms518, (IntKind.i64.wrap (x463 + 1)), A516, ms518.length, c517, (vs462 ++ ([Value.slice A512 ([(IntKind.i64.wrap (x269 + 1)), x463]).length 2])), hm496, rfl, (FrD.pick (FrD.pick (FrD.pick (FrD.pick hf.none hf rfl) hf rfl) hf rfl) hf rfl), hs⟩
        ·have hm496 := bif_f hm496 hb511
         refine wpL_skip ?_
         refine wpL_nil (Qb_normal ?_)
         refine wpL_region ?_
         refine sY hf hs rfl rfl rfl (Y_move rfl rfl) ?_; clear hf; intro a hf
         refine sY hf hs rfl rfl rfl (Y_add rfl rfl rfl) ?_; clear hf; intro a hf
         refine sY hf hs rfl rfl rfl (Y_assign rfl rfl) ?_; clear hf; intro a hf
         refine wpO_nil ?_
         refine wpL_nil (Ql_normal ?_)
         exact ⟨ms457, (IntKind.i64.wrap (x463 + 1)), A458, n459, c460, vs462, hm496, hn461, (FrD.pick (FrD.pick (FrD.pick (FrD.pick hf.none hf rfl) hf rfl) hf rfl) hf rfl), hs⟩
       ·have hm496 := bif_f hm496 hb503
        refine wpL_exit (Ql_exit (Qb_exit ?_))
        exact ⟨ms457, A458, n459, c460, vs462, Option.some.inj hm496, hn461, (FrD.pick (FrD.pick (FrD.pick hf.none hf rfl) hf rfl) hf rfl), hs⟩
     ·rintro a w ⟨ms488, A489, n490, c491, vs493, hr_, hn492, hf, hs⟩
      subst hr_
      try dsimp only at hm399
      refine wpL_nil (Qb_normal ?_)
      refine wpL_region ?_
      refine sY hf hs rfl rfl rfl (Y_move rfl rfl) ?_; clear hf; intro a hf
      refine sY hf hs rfl rfl rfl (Y_add rfl rfl rfl) ?_; clear hf; intro a hf
      refine sY hf hs rfl rfl rfl (Y_assign rfl rfl) ?_; clear hf; intro a hf
      refine wpO_nil ?_
      refine wpL_nil (Ql_normal ?_)
      exact ⟨ms488, (IntKind.i64.wrap (x269 + 1)), A489, n490, c491, vs493, hm399, hn492, (FrD.pick (FrD.pick (FrD.pick hf.none hf rfl) hf rfl) hf rfl), hs⟩
    ·have hm399 := bif_f hm399 hb401
     refine wpL_exit (Ql_exit (Qb_exit ?_))
     exact ⟨ms263, A264, n265, c266, vs268, Option.some.inj hm399, hn267, (FrD.pick hf.none hf rfl), hs.sel [1] (by decide)⟩
  ·rintro a w ⟨ms391, A392, n393, c394, vs396, hr_, hn395, hf, hs⟩
   subst hr_
   try dsimp only at hm
   refine wpL_seq <| wpL_region ?_
   refine sY hf hs rfl rfl rfl (Y_move rfl rfl) ?_; clear hf; intro a hf
   refine sY hf hs rfl rfl rfl (Y_assign rfl rfl) ?_; clear hf; intro a hf
   refine sY hf hs rfl rfl rfl (Y_assign rfl rfl) ?_; clear hf; intro a hf
   refine wpO_nil ?_
   obtain rfl := Option.some.inj hm
   refine wpL_ret (ret_tmp2 rfl hf rfl rfl ?_)
   exact ⟨_, rfl, A392, n393, c394, vs396, rfl, hn395, hs⟩

set_option maxRecDepth 100000 in
theorem laws_likeInts_ok (F : Nat) (aY : List Int) (aP : Option Addr) (bg aZ : Nat) (bt : bg = aY.length) (bQ : List Int) (bC : Option Addr) (bR bS : Nat) (cp : bR = bQ.length) (r : Bool) (W : World) (hm : laws_likeInts F aY bQ = some r) (bu : Rd W aP (ints aY)) (cf : Rd W bC (ints bQ)) :
  Calls Try.prog 45 [.slice aP bg aZ, .slice bC bR bS].toArray W fun e w' => ∃ v, e = .returned v ∧ v = .bool r ∧ St [] W w' [] := by
 subst bt
 subst cp
 unfold laws_likeInts at hm
 refine Calls.enter (N := 26) Try.func45 rfl rfl rfl (fun a hf => ?_)
 have hs := St.start W
 obtain ⟨w, hw_⟩ : ∃ w, w = W := ⟨W, rfl⟩
 clear hw_ w
 refine wpL_seq <| wpL_region ?_
 refine sY hf hs rfl rfl rfl (Y_assign rfl rfl) ?_; clear hf; intro a hf
 refine wpO_nil <| wpL_seq <| wpL_seq <| wpL_region ?_
 refine sY hf hs rfl rfl rfl (Y_move rfl rfl) ?_; clear hf; intro a hf
 refine sY hf hs rfl rfl rfl (Y_lenH rfl rfl el23 rfl) ?_; clear hf; intro a hf
 refine sY hf hs rfl rfl rfl (Y_move rfl rfl) ?_; clear hf; intro a hf
 refine sY hf hs rfl rfl rfl (Y_lenH rfl rfl el23 rfl) ?_; clear hf; intro a hf
 refine sY hf hs rfl rfl rfl (Y_neq rfl rfl rfl) ?_; clear hf; intro a hf
 refine wpO_nil ?_
 refine wpL_cond hf rfl (fun hb1 => ?_) (fun hb1 => ?_)
 ·have hm := bif_t hm hb1
  refine wpL_seq <| wpL_region ?_
  refine sY hf hs rfl rfl rfl (Y_assign rfl rfl) ?_; clear hf; intro a hf
  refine wpO_nil ?_
  obtain rfl := Option.some.inj hm
  refine wpL_ret (ret_tmp rfl hf rfl ?_)
  exact ⟨_, rfl, rfl, hs⟩
 ·have hm := bif_f hm hb1
  refine wpL_skip <| wpL_seq <| wpL_seq <| wpL_region ?_
  refine sY hf hs rfl rfl rfl (Y_assign rfl rfl) ?_; clear hf; intro a hf
  refine wpO_nil ?_
  obtain ⟨r22, hl23, hm⟩ := bind_some hm
  refine wpL_block (fun a w => Sum.inr () = r22 ∧ Fr a 26 [] ∧ St [] W w []) ?_ ?_
  ·refine wpL_loop (fun n a w => ∃ x15 : Int, laws_likeInts_L1 F aY bQ n x15 = some r22 ∧ Fr a 26 [(0, .slice aP aY.length aZ), (1, .slice bC bQ.length bS), (5, .int .i64 x15)] ∧ St [] W w []) F ?_ ?_ ?_
   ·exact ⟨0, hl23, (FrD.pick (FrD.pick (FrD.pick hf.none hf rfl) hf rfl) hf rfl), hs⟩
   ·rintro a w ⟨x15, h0_, -, -⟩; simp [laws_likeInts_L1] at h0_
   ·rintro n25 a w ⟨x15, hm24, hf, hs⟩
    rw [laws_likeInts_L1] at hm24
    refine wpL_seq <| wpL_seq <| wpL_region ?_
    refine sY hf hs rfl rfl rfl (Y_move rfl rfl) ?_; clear hf; intro a hf
    refine sY hf hs rfl rfl rfl (Y_move rfl rfl) ?_; clear hf; intro a hf
    refine sY hf hs rfl rfl rfl (Y_lenH rfl rfl el23 rfl) ?_; clear hf; intro a hf
    refine sY hf hs rfl rfl rfl (Y_lss rfl rfl rfl) ?_; clear hf; intro a hf
    refine wpO_nil ?_
    refine wpL_cond hf rfl (fun hb26 => ?_) (fun hb26 => ?_)
    ·have hm24 := bif_t hm24 hb26
     refine wpL_skip <| wpL_seq <| wpL_block0 <| wpL_seq ?_
     refine wpL_draw (by kernel_rfl) (by kernel_rfl) hs ?_
     refine qY hf rfl rfl rfl (Y_move rfl rfl) ?_; clear hf; intro a hf
     refine qY hf rfl rfl rfl (Y_move rfl rfl) ?_; clear hf; intro a hf
     obtain ⟨q27, hi28, hm24⟩ := bind_some hm24
     obtain ⟨hi28a, hi28b, hi28q⟩ := idx_some hi28
     refine qY hf rfl rfl rfl (Y_index rfl rfl rfl el23 ti2 (Rd.isAt (bu.at hs) (at1 (ints_at hi28q))) hi28a hi28b) ?_; clear hf; intro a hf
     refine qY hf rfl rfl rfl (Y_load_rd rfl rfl (fun w hs => bu.at hs) (at1 (ints_at hi28q)) ag2) ?_; clear hf; intro a hf
     refine qY hf rfl rfl rfl (Y_move rfl rfl) ?_; clear hf; intro a hf
     refine qY hf rfl rfl rfl (Y_move rfl rfl) ?_; clear hf; intro a hf
     obtain ⟨q29, hi30, hm24⟩ := bind_some hm24
     obtain ⟨hi30a, hi30b, hi30q⟩ := idx_some hi30
     refine qY hf rfl rfl rfl (Y_index rfl rfl rfl el23 ti2 (Rd.isAt (cf.at hs) (at1 (ints_at hi30q))) hi30a hi30b) ?_; clear hf; intro a hf
     refine qY hf rfl rfl rfl (Y_load_rd rfl rfl (fun w hs => cf.at hs) (at1 (ints_at hi30q)) ag2) ?_; clear hf; intro a hf
     refine qY hf rfl rfl rfl (Y_neq rfl rfl rfl) ?_; clear hf; intro a hf
     refine qNil ?_; clear hs; intro w hs
     refine wpL_cond hf rfl (fun hb31 => ?_) (fun hb31 => ?_)
     ·have hm24 := bif_t hm24 hb31
      refine wpL_seq <| wpL_region ?_
      refine sY hf hs rfl rfl rfl (Y_assign rfl rfl) ?_; clear hf; intro a hf
      refine wpO_nil ?_
      obtain rfl := Option.some.inj hm24
      try dsimp only at hm
      obtain rfl := Option.some.inj hm
      refine wpL_ret (Qb_ret (Ql_ret (Qb_ret (ret_tmp rfl hf rfl ?_))))
      exact ⟨_, rfl, rfl, hs⟩
     ·have hm24 := bif_f hm24 hb31
      refine wpL_skip ?_
      refine wpL_nil (Qb_normal ?_)
      refine wpL_region ?_
      refine sY hf hs rfl rfl rfl (Y_move rfl rfl) ?_; clear hf; intro a hf
      refine sY hf hs rfl rfl rfl (Y_add rfl rfl rfl) ?_; clear hf; intro a hf
      refine sY hf hs rfl rfl rfl (Y_assign rfl rfl) ?_; clear hf; intro a hf
      refine wpO_nil ?_
      refine wpL_nil (Ql_normal ?_)
      exact ⟨(IntKind.i64.wrap (x15 + 1)), hm24, (FrD.pick (FrD.pick (FrD.pick hf.none hf rfl) hf rfl) hf rfl), hs⟩
    ·have hm24 := bif_f hm24 hb26
     refine wpL_exit (Ql_exit (Qb_exit ?_))
     exact ⟨Option.some.inj hm24, hf.none, hs⟩
  ·rintro a w ⟨hr_, hf, hs⟩
   subst hr_
   try dsimp only at hm
   refine wpL_seq <| wpL_region ?_
   refine sY hf hs rfl rfl rfl (Y_assign rfl rfl) ?_; clear hf; intro a hf
   refine wpO_nil ?_
   obtain rfl := Option.some.inj hm
   refine wpL_ret (ret_tmp rfl hf rfl ?_)
   exact ⟨_, rfl, rfl, hs⟩

set_option maxRecDepth 100000 in
theorem laws_likeTables9_ok (F : Nat) (aY : List (List Int)) (aP : Option Addr) (bg aZ : Nat) (bt : bg = aY.length) (bQ : List (List Int)) (bC : Option Addr) (bR bS : Nat) (cp : bR = bQ.length) (r : Bool) (W : World) (hm : laws_likeTables9 F aY bQ = some r) (bu : RdM W aP aY) (cf : RdM W bC bQ) :
  Calls Try.prog 54 [.slice aP bg aZ, .slice bC bR bS].toArray W fun e w' => ∃ v, e = .returned v ∧ v = .bool r ∧ St [] W w' [] := by
 subst bt
 subst cp
 unfold laws_likeTables9 at hm
 refine Calls.enter (N := 27) Try.func54 rfl rfl rfl (fun a hf => ?_)
 have hs := St.start W
 obtain ⟨w, hw_⟩ : ∃ w, w = W := ⟨W, rfl⟩
 clear hw_ w
 refine wpL_seq <| wpL_region ?_
 refine sY hf hs rfl rfl rfl (Y_assign rfl rfl) ?_; clear hf; intro a hf
 refine wpO_nil <| wpL_seq <| wpL_seq <| wpL_region ?_
 refine sY hf hs rfl rfl rfl (Y_move rfl rfl) ?_; clear hf; intro a hf
 refine sY hf hs rfl rfl rfl (Y_lenH rfl rfl el59 rfl) ?_; clear hf; intro a hf
 refine sY hf hs rfl rfl rfl (Y_move rfl rfl) ?_; clear hf; intro a hf
 refine sY hf hs rfl rfl rfl (Y_lenH rfl rfl el59 rfl) ?_; clear hf; intro a hf
 refine sY hf hs rfl rfl rfl (Y_neq rfl rfl rfl) ?_; clear hf; intro a hf
 refine wpO_nil ?_
 refine wpL_cond hf rfl (fun hb1 => ?_) (fun hb1 => ?_)
 ·have hm := bif_t hm hb1
  refine wpL_seq <| wpL_region ?_
  refine sY hf hs rfl rfl rfl (Y_assign rfl rfl) ?_; clear hf; intro a hf
  refine wpO_nil ?_
  obtain rfl := Option.some.inj hm
  refine wpL_ret (ret_tmp rfl hf rfl ?_)
  exact ⟨_, rfl, rfl, hs⟩
 ·have hm := bif_f hm hb1
  refine wpL_skip <| wpL_seq <| wpL_seq <| wpL_region ?_
  refine sY hf hs rfl rfl rfl (Y_assign rfl rfl) ?_; clear hf; intro a hf
  refine wpO_nil ?_
  obtain ⟨r70, hl71, hm⟩ := bind_some hm
  refine wpL_block (fun a w => Sum.inr () = r70 ∧ Fr a 27 [] ∧ St [] W w []) ?_ ?_
  ·refine wpL_loop (fun n a w => ∃ x47 : Int, laws_likeTables9_L1 F aY bQ n x47 = some r70 ∧ Fr a 27 [(0, .slice aP aY.length aZ), (1, .slice bC bQ.length bS), (5, .int .i64 x47)] ∧ St [] W w []) F ?_ ?_ ?_
   ·exact ⟨0, hl71, (FrD.pick (FrD.pick (FrD.pick hf.none hf rfl) hf rfl) hf rfl), hs⟩
   ·rintro a w ⟨x47, h0_, -, -⟩; simp [laws_likeTables9_L1] at h0_
   ·rintro n73 a w ⟨x47, hm72, hf, hs⟩
    rw [laws_likeTables9_L1] at hm72
    refine wpL_seq <| wpL_seq <| wpL_region ?_
    refine sY hf hs rfl rfl rfl (Y_move rfl rfl) ?_; clear hf; intro a hf
    refine sY hf hs rfl rfl rfl (Y_move rfl rfl) ?_; clear hf; intro a hf
    refine sY hf hs rfl rfl rfl (Y_lenH rfl rfl el59 rfl) ?_; clear hf; intro a hf
    refine sY hf hs rfl rfl rfl (Y_lss rfl rfl rfl) ?_; clear hf; intro a hf
    refine wpO_nil ?_
    refine wpL_cond hf rfl (fun hb74 => ?_) (fun hb74 => ?_)
    ·have hm72 := bif_t hm72 hb74
     refine wpL_skip <| wpL_seq <| wpL_block0 <| wpL_seq ?_
     refine wpL_draw (by kernel_rfl) (by kernel_rfl) hs ?_
     refine qY hf rfl rfl rfl (Y_move rfl rfl) ?_; clear hf; intro a hf
     refine qY hf rfl rfl rfl (Y_move rfl rfl) ?_; clear hf; intro a hf
     obtain ⟨q75, hi76, hm72⟩ := bind_some hm72
     obtain ⟨hi76a, hi76b, hi76q⟩ := idx_some hi76
     obtain ⟨vs77, hv78, hr79⟩ := id bu
     obtain ⟨A80, c81, hv82, hR83⟩ := hr79 _ _ hi76q
     refine qY hf rfl rfl rfl (Y_index rfl rfl rfl el59 ti23 (Rd.isAt hv78 hv82) hi76a hi76b) ?_; clear hf; intro a hf
     refine qY hf rfl rfl rfl (Y_load_rd rfl rfl (fun w hs => hv78.at hs) (at1 hv82) ag23) ?_; clear hf; intro a hf
     refine qY hf rfl rfl rfl (Y_move rfl rfl) ?_; clear hf; intro a hf
     refine qY hf rfl rfl rfl (Y_move rfl rfl) ?_; clear hf; intro a hf
     obtain ⟨q84, hi85, hm72⟩ := bind_some hm72
     obtain ⟨hi85a, hi85b, hi85q⟩ := idx_some hi85
     obtain ⟨vs86, hv87, hr88⟩ := id cf
     obtain ⟨A89, c90, hv91, hR92⟩ := hr88 _ _ hi85q
     refine qY hf rfl rfl rfl (Y_index rfl rfl rfl el59 ti23 (Rd.isAt hv87 hv91) hi85a hi85b) ?_; clear hf; intro a hf
     refine qY hf rfl rfl rfl (Y_load_rd rfl rfl (fun w hs => hv87.at hs) (at1 hv91) ag23) ?_; clear hf; intro a hf
     obtain ⟨r93, hc94, hm72⟩ := bind_some hm72
     refine qCall hf rfl rfl rfl rfl (cap := []) rfl rfl en45 (v := .bool r93) (fun w hs => Calls.scal (laws_likeInts_ok F q75 A80 q75.length c81 rfl q84 A89 q84.length c90 rfl _ _ hc94 (hR83.at hs) (hR92.at hs))) ?_; clear hf; intro a hf
     refine qY hf rfl rfl rfl (Y_not rfl rfl) ?_; clear hf; intro a hf
     refine qNil ?_; clear hs; intro w hs
     refine wpL_cond hf rfl (fun hb95 => ?_) (fun hb95 => ?_)
     ·have hm72 := bif_t hm72 hb95
      refine wpL_seq <| wpL_region ?_
      refine sY hf hs rfl rfl rfl (Y_assign rfl rfl) ?_; clear hf; intro a hf
      refine wpO_nil ?_
      obtain rfl := Option.some.inj hm72
      try dsimp only at hm
      obtain rfl := Option.some.inj hm
      refine wpL_ret (Qb_ret (Ql_ret (Qb_ret (ret_tmp rfl hf rfl ?_))))
      exact ⟨_, rfl, rfl, hs⟩
     ·have hm72 := bif_f hm72 hb95
      refine wpL_skip ?_
      refine wpL_nil (Qb_normal ?_)
      refine wpL_region ?_
      refine sY hf hs rfl rfl rfl (Y_move rfl rfl) ?_; clear hf; intro a hf
      refine sY hf hs rfl rfl rfl (Y_add rfl rfl rfl) ?_; clear hf; intro a hf
      refine sY hf hs rfl rfl rfl (Y_assign rfl rfl) ?_; clear hf; intro a hf
      refine wpO_nil ?_
      refine wpL_nil (Ql_normal ?_)
      exact ⟨(IntKind.i64.wrap (x47 + 1)), hm72, (FrD.pick (FrD.pick (FrD.pick hf.none hf rfl) hf rfl) hf rfl), hs⟩
    ·have hm72 := bif_f hm72 hb74
     refine wpL_exit (Ql_exit (Qb_exit ?_))
     exact ⟨Option.some.inj hm72, hf.none, hs⟩
  ·rintro a w ⟨hr_, hf, hs⟩
   subst hr_
   try dsimp only at hm
   refine wpL_seq <| wpL_region ?_
   refine sY hf hs rfl rfl rfl (Y_assign rfl rfl) ?_; clear hf; intro a hf
   refine wpO_nil ?_
   obtain rfl := Option.some.inj hm
   refine wpL_ret (ret_tmp rfl hf rfl ?_)
   exact ⟨_, rfl, rfl, hs⟩

set_option maxRecDepth 100000 in
theorem impl_FloatsOf_ok (F : Nat) (ae : GEventGraph) (ad : Option Addr) (ao af : Nat) (au : ao = ae.Places.length) (al : List (List Int)) (ak : Option Addr) (ax am : Nat) (aE : ax = al.length) (r : List (List Int) × Int) (W : World) (hm : impl_FloatsOf F ae al = some r) (ap : Rd W ad ((recs GPlace.cells) ae.Places)) (aB : RdM W ak al) :
  Calls Try.prog 55 [.agg #[.int .i64 ae.Events, .slice ad ao af], .slice ak ax am].toArray W fun e w' => ∃ v, e = .returned v ∧ ∃ A13, ∃ n14, ∃ c15, ∃ vs17, v = .tuple #[.slice A13 n14 c15, .int .i64 r.2] ∧ n14 = r.1.length ∧ St [] W w' [.mat A13 n14 c15 23 2 vs17 r.1] := by
 subst au
 subst aE
 unfold impl_FloatsOf at hm
 refine Calls.enter (N := 16) Try.func55 rfl rfl rfl (fun a hf => ?_)
 have hs := St.start W
 obtain ⟨w, hw_⟩ : ∃ w, w = W := ⟨W, rfl⟩
 clear hw_ w
 refine wpL_seq <| wpL_region ?_
 refine sBox hf hs rfl rfl rfl rfl rfl (cs := [.int .i64 ae.Events, .slice ad ae.Places.length af]) rfl ?_; clear hf hs; intro a w b1 hs hf
 have hs : St [] W w [.blk b1 52 [.int .i64 ae.Events, .slice ad ae.Places.length af]] := hs
 refine sY hf hs rfl rfl rfl (Y_assign rfl rfl) ?_; clear hf; intro a hf
 refine sY hf hs rfl rfl rfl (Y_assign rfl rfl) ?_; clear hf; intro a hf
 refine wpO_nil <| wpL_seq <| wpL_seq <| wpL_region ?_
 refine sY hf hs rfl rfl rfl (Y_load_blkS rfl rfl (i := 0) rfl ag52 ti52 rfl) ?_; clear hf; intro a hf
 refine sY hf hs rfl rfl rfl (Y_move rfl rfl) ?_; clear hf; intro a hf
 obtain ⟨r2, hc3, hm⟩ := bind_some hm
 refine sCall hf rfl rfl rfl rfl (cap := []) rfl rfl en97 (impl_checkDue_ok F ae ad ae.Places.length af rfl al ak al.length am rfl _ _ hc3 (ap.at hs) (aB.at hs)) ?_; clear hf
 rintro _ w ⟨rfl, hs1⟩ a hf
 have hs : St [] W w [.blk b1 52 [.int .i64 ae.Events, .slice ad ae.Places.length af]] := hs.ext hs1.below
 clear hs1
 refine sY hf hs rfl rfl rfl (Y_assign rfl rfl) ?_; clear hf; intro a hf
 refine wpO_nil <| wpL_seq <| wpL_region ?_
 refine sY hf hs rfl rfl rfl (Y_move rfl rfl) ?_; clear hf; intro a hf
 refine sY hf hs rfl rfl rfl (Y_neq rfl rfl rfl) ?_; clear hf; intro a hf
 refine wpO_nil ?_
 refine wpL_cond hf rfl (fun hb4 => ?_) (fun hb4 => ?_)
 ·have hm := bif_t hm hb4
  refine wpL_seq <| wpL_region ?_
  refine sY hf hs rfl rfl rfl (Y_move rfl rfl) ?_; clear hf; intro a hf
  refine sY hf hs rfl rfl rfl (Y_assign rfl rfl) ?_; clear hf; intro a hf
  refine sY hf hs rfl rfl rfl (Y_assign rfl rfl) ?_; clear hf; intro a hf
  refine wpO_nil ?_
  have hs : St [] W _ [.blk b1 52 [.int .i64 ae.Events, .slice ad ae.Places.length af], .mat none 0 0 23 2 [] ([] : List (List Int))] := hs.addNilM 23 2
  obtain rfl := Option.some.inj hm
  refine wpL_ret (ret_tmp2 rfl hf rfl rfl ?_)
  exact ⟨_, rfl, none, 0, 0, [], rfl, rfl, hs.sel [1] (by decide)⟩
 ·have hm := bif_f hm hb4
  refine wpL_skip <| wpL_seq <| wpL_region ?_
  refine sY hf hs rfl rfl rfl (Y_load_blkS rfl rfl (i := 0) rfl ag52 ti52 rfl) ?_; clear hf; intro a hf
  refine sY hf hs rfl rfl rfl (Y_move rfl rfl) ?_; clear hf; intro a hf
  obtain ⟨r6, hc7, hm⟩ := bind_some hm
  refine sCall hf rfl rfl rfl rfl (cap := []) rfl rfl en98 (impl_floatsOf_ok F ae ad ae.Places.length af rfl al ak al.length am rfl _ _ hc7 (ap.at hs) (aB.at hs)) ?_; clear hf
  rintro _ w ⟨A8, n9, c10, vs12, rfl, hn11, hs1⟩ a hf
  have hs : St [] W w [.blk b1 52 [.int .i64 ae.Events, .slice ad ae.Places.length af], .mat A8 n9 c10 23 2 vs12 r6] := hs.join hs1
  clear hs1
  refine sY hf hs rfl rfl rfl (Y_assign rfl rfl) ?_; clear hf; intro a hf
  refine sY hf hs rfl rfl rfl (Y_assign rfl rfl) ?_; clear hf; intro a hf
  refine wpO_nil ?_
  obtain rfl := Option.some.inj hm
  refine wpL_ret (ret_tmp2 rfl hf rfl rfl ?_)
  exact ⟨_, rfl, A8, n9, c10, vs12, rfl, hn11, hs.sel [1] (by decide)⟩

end Go.Proofs.Ytebmlphobgaboaa
